import PyProof.Rows.All
import Wide.All
import OpenK.AllK
import Wide.FinOn
import HandS.ForMost
import HandS.WideBits
import HandS.Wide
import HandS.Deep
import HandS.IsInst
import HandS.Flow
import HandS.Iter
import HandS.ExcOwn
import HandS.CallSlots
import HandS.Style
import HandS.WideMore
import HandS.Walk
import HandS.Zip
import HandS.Rev
import HandS.More
import HandS.Star
import HandS.SortInts
import HandS.Text
import HandS.RaiseMore
import HandS.SetFor
import HandS.Strs
import HandS.Conv
import HandS.EndBits
import HandS.HeadHook1
import KE.IntBitsLaws
import PyProof.ReprLen
import HandS.Head0
import HandS.Head1
import HandS.Head2
import PySem.Challenge.RW_marketdays_k04_days_of_lots
set_option Elab.async false
set_option linter.all false
set_option maxRecDepth 100000
set_option maxHeartbeats 0
namespace DL
open PySem PySem.Spec PyProof.Rows L2

/-! data: what a value stands for -/
inductive D where
  | non | bl (b : Bool) | int (i : Int) | str (s : Str)
  | tup (xs : List D) | lst (xs : List D) | dic (ks : List Key) (xs : List D) | obj (c : Nat) (ns : List Str) (xs : List D)
  | scr (ns : List Int)
  deriving Inhabited
/-- data some of whose changeable parts are owned (nobody else holds them) -/
inductive T where
  | fz (d : D) | lst (xs : List T) | tup (xs : List T) | dic (ks : List Key) (xs : List T) | obj (c : Nat) (ns : List Str) (xs : List T)
  deriving Inhabited

mutual
def T.d : T → D
  | .fz d => d
  | .lst xs => .lst (T.ds xs)
  | .tup xs => .tup (T.ds xs)
  | .dic ks xs => .dic ks (T.ds xs)
  | .obj c ns xs => .obj c ns (T.ds xs)
def T.ds : List T → List D
  | [] => []
  | t :: ts => t.d :: T.ds ts
end
theorem T.ds_map : ∀ ts : List T, T.ds ts = ts.map T.d
  | [] => rfl
  | t :: ts => by rw [T.ds, List.map_cons, T.ds_map ts]

structure Gx where
  K : PySem.W.Frag
  cls : Nat → Addr

mutual
def Rep (g : Gx) (H : Hp) : D → V → Prop
  | .non, v => v = .non
  | .bl b, v => v = .bl b
  | .int i, v => v = .int i
  | .str s, v => v = .str s
  | .tup ds, v => ∃ a vs, v = .ref a ∧ SqT g.K H a vs ∧ Reps g H ds vs
  | .lst ds, v => ∃ a vs, v = .ref a ∧ Rd H a (.lst vs) ∧ Reps g H ds vs
  | .scr ns, v => ∃ a, v = .ref a ∧ SqL g.K H a (ns.map V.int)
  | .dic ks ds, v => ∃ a vs, v = .ref a ∧ H a = some (.dK (ks.zip vs)) ∧ ks.length = vs.length ∧ Reps g H ds vs
  | .obj c ns ds, v => ∃ a dx vs, v = .ref a ∧ H a = some (.ins (g.cls c) dx (ns.zip vs)) ∧ H dx = some (.own a) ∧ ns.length = vs.length ∧ Reps g H ds vs
def Reps (g : Gx) (H : Hp) : List D → List V → Prop
  | [], vs => vs = []
  | d :: ds, vs => ∃ v vs', vs = v :: vs' ∧ Rep g H d v ∧ Reps g H ds vs'
end
mutual
def RepT (g : Gx) (Hs H : Hp) : T → V → List Addr → Prop
  | .fz d, v, fp => Rep g Hs d v ∧ fp = []
  | .tup ts, v, fp => ∃ a vs, v = .ref a ∧ Hs a = some (.tup vs) ∧ RepTs g Hs H ts vs fp
  | .lst ts, v, fp => ∃ a vs fp', v = .ref a ∧ H a = some (.lst vs) ∧ fp = a :: fp' ∧ RepTs g Hs H ts vs fp'
  | .dic ks ts, v, fp => ∃ a vs fp', v = .ref a ∧ H a = some (.dK (ks.zip vs)) ∧ ks.length = vs.length ∧ fp = a :: fp' ∧ RepTs g Hs H ts vs fp'
  | .obj c ns ts, v, fp => ∃ a dx vs fp', v = .ref a ∧ H a = some (.ins (g.cls c) dx (ns.zip vs)) ∧ H dx = some (.own a) ∧ ns.length = vs.length ∧ fp = a :: dx :: fp' ∧ RepTs g Hs H ts vs fp'
def RepTs (g : Gx) (Hs H : Hp) : List T → List V → List Addr → Prop
  | [], vs, fp => vs = [] ∧ fp = []
  | t :: ts, vs, fp => ∃ v vs' f f', vs = v :: vs' ∧ fp = f ++ f' ∧ RepT g Hs H t v f ∧ RepTs g Hs H ts vs' f'
end

section
variable {g : Gx} {H H' Hs Hs' : Hp}
theorem Same.sqL {K : PySem.W.Frag} {a : Addr} {xs : List V} (e : Same H H') (h : SqL K H a xs) : SqL K H' a xs := e.seq h
theorem Same.rd {a : Addr} {u : HO} (e : Same H H') (h : Rd H a u) : Rd H' a u := h.imp (e _ _) fun ⟨o, q⟩ => ⟨o, e _ _ q⟩
theorem Same.sqT {K : PySem.W.Frag} {a : Addr} {xs : List V} (e : Same H H') (h : SqT K H a xs) : SqT K H' a xs := by
  rcases h with (h | ⟨o, h⟩) | h
  · exact .inl (.inl (e _ _ h))
  · exact .inl (.inr ⟨o, e _ _ h⟩)
  · exact .inr h
mutual
theorem Rep.mono (s : Same H H') : ∀ {d : D} {v : V}, Rep g H d v → Rep g H' d v
  | .non, _, h => h
  | .bl _, _, h => h
  | .int _, _, h => h
  | .str _, _, h => h
  | .tup ds, _, h => by
    simp only [Rep] at h ⊢
    obtain ⟨a, vs, e, q, r⟩ := h
    exact ⟨a, vs, e, Same.sqT s q, Reps.mono s r⟩
  | .lst ds, _, h => by
    simp only [Rep] at h ⊢
    obtain ⟨a, vs, e, q, r⟩ := h
    exact ⟨a, vs, e, Same.rd s q, Reps.mono s r⟩
  | .scr ns, _, h => by
    simp only [Rep] at h ⊢
    obtain ⟨a, e, q⟩ := h
    exact ⟨a, e, Same.sqL s q⟩
  | .dic ks ds, _, h => by
    simp only [Rep] at h ⊢
    obtain ⟨a, vs, e, q, l, r⟩ := h
    exact ⟨a, vs, e, s _ _ q, l, Reps.mono s r⟩
  | .obj c ns ds, _, h => by
    simp only [Rep] at h ⊢
    obtain ⟨a, dx, vs, e, q, q', l, r⟩ := h
    exact ⟨a, dx, vs, e, s _ _ q, s _ _ q', l, Reps.mono s r⟩
theorem Reps.mono (s : Same H H') : ∀ {ds : List D} {vs : List V}, Reps g H ds vs → Reps g H' ds vs
  | [], _, h => by
    simp only [Reps] at h ⊢
    exact h
  | d :: ds, _, h => by
    simp only [Reps] at h ⊢
    obtain ⟨v, vs', e, q, r⟩ := h
    exact ⟨v, vs', e, Rep.mono s q, Reps.mono s r⟩
end
mutual
theorem RepT.keep (s : Same Hs Hs') : ∀ {t : T} {v : V} {fp : List Addr}, (∀ a ∈ fp, H' a = H a) → RepT g Hs H t v fp → RepT g Hs' H' t v fp
  | .fz d, _, _, _, h => by
    simp only [RepT] at h ⊢
    exact ⟨h.1.mono s, h.2⟩
  | .tup ts, _, _, k, h => by
    simp only [RepT] at h ⊢
    obtain ⟨a, vs, e, q, r⟩ := h
    exact ⟨a, vs, e, s _ _ q, RepTs.keep s k r⟩
  | .lst ts, _, _, k, h => by
    simp only [RepT] at h ⊢
    obtain ⟨a, vs, fp', e, q, ef, r⟩ := h
    subst ef
    exact ⟨a, vs, fp', e, (k a (by simp)).trans q, rfl, RepTs.keep s (fun b hb => k b (by simp [hb])) r⟩
  | .dic ks ts, _, _, k, h => by
    simp only [RepT] at h ⊢
    obtain ⟨a, vs, fp', e, q, l, ef, r⟩ := h
    subst ef
    exact ⟨a, vs, fp', e, (k a (by simp)).trans q, l, rfl, RepTs.keep s (fun b hb => k b (by simp [hb])) r⟩
  | .obj c ns ts, _, _, k, h => by
    simp only [RepT] at h ⊢
    obtain ⟨a, dx, vs, fp', e, q, q', l, ef, r⟩ := h
    subst ef
    exact ⟨a, dx, vs, fp', e, (k a (by simp)).trans q, (k dx (by simp)).trans q', l, rfl, RepTs.keep s (fun b hb => k b (by simp [hb])) r⟩
theorem RepTs.keep (s : Same Hs Hs') : ∀ {ts : List T} {vs : List V} {fp : List Addr}, (∀ a ∈ fp, H' a = H a) → RepTs g Hs H ts vs fp → RepTs g Hs' H' ts vs fp
  | [], _, _, _, h => by
    simp only [RepTs] at h ⊢
    exact h
  | t :: ts, _, _, k, h => by
    simp only [RepTs] at h ⊢
    obtain ⟨v, vs', f, f', e, ef, q, r⟩ := h
    subst ef
    exact ⟨v, vs', f, f', e, rfl, RepT.keep s (fun b hb => k b (by simp [hb])) q, RepTs.keep s (fun b hb => k b (by simp [hb])) r⟩
end
/-- what is owned is frozen: the frozen heap takes it in -/
def frzH (Hs H : Hp) (fp : List Addr) : Hp := fun a => if a ∈ fp then H a else Hs a
mutual
/-- a tree as data, over any heap that has its frozen part and its own nodes -/
theorem RepT.toD (s : Same Hs Hs') : ∀ {t : T} {v : V} {fp : List Addr}, (∀ a ∈ fp, Hs' a = H a) → RepT g Hs H t v fp → Rep g Hs' t.d v
  | .fz d, _, _, _, h => by
    simp only [RepT] at h
    simp only [T.d]
    exact h.1.mono s
  | .tup ts, _, _, k, h => by
    simp only [RepT] at h
    simp only [T.d, Rep]
    obtain ⟨a, vs, e, q, r⟩ := h
    exact ⟨a, vs, e, SqT.of (s _ _ q), RepTs.toD s k r⟩
  | .lst ts, _, _, k, h => by
    simp only [RepT] at h
    simp only [T.d, Rep]
    obtain ⟨a, vs, fp', e, q, ef, r⟩ := h
    subst ef
    exact ⟨a, vs, e, .inl ((k a (by simp)).trans q), RepTs.toD s (fun b hb => k b (by simp [hb])) r⟩
  | .dic ks ts, _, _, k, h => by
    simp only [RepT] at h
    simp only [T.d, Rep]
    obtain ⟨a, vs, fp', e, q, l, ef, r⟩ := h
    subst ef
    exact ⟨a, vs, e, (k a (by simp)).trans q, l, RepTs.toD s (fun b hb => k b (by simp [hb])) r⟩
  | .obj c ns ts, _, _, k, h => by
    simp only [RepT] at h
    simp only [T.d, Rep]
    obtain ⟨a, dx, vs, fp', e, q, q', l, ef, r⟩ := h
    subst ef
    exact ⟨a, dx, vs, e, (k a (by simp)).trans q, (k dx (by simp)).trans q', l, RepTs.toD s (fun b hb => k b (by simp [hb])) r⟩
theorem RepTs.toD (s : Same Hs Hs') : ∀ {ts : List T} {vs : List V} {fp : List Addr}, (∀ a ∈ fp, Hs' a = H a) → RepTs g Hs H ts vs fp → Reps g Hs' (T.ds ts) vs
  | [], _, _, _, h => by
    simp only [RepTs] at h
    simp only [T.ds, Reps]
    exact h.1
  | t :: ts, _, _, k, h => by
    simp only [RepTs] at h
    simp only [T.ds, Reps]
    obtain ⟨v, vs', f, f', e, ef, q, r⟩ := h
    subst ef
    exact ⟨v, vs', e, RepT.toD s (fun b hb => k b (by simp [hb])) q, RepTs.toD s (fun b hb => k b (by simp [hb])) r⟩
end
theorem RepT.now (s : Same Hs H) {t : T} {v : V} {fp : List Addr} (h : RepT g Hs H t v fp) : Rep g H t.d v := h.toD s fun _ _ => rfl
theorem Reps.length : ∀ {ds : List D} {vs : List V}, Reps g H ds vs → vs.length = ds.length
  | [], _, h => by
    simp only [Reps] at h
    simp [h]
  | d :: ds, _, h => by
    simp only [Reps] at h
    obtain ⟨v, vs', e, _, r⟩ := h
    subst e
    simp [Reps.length r]
theorem RepTs.length : ∀ {ts : List T} {vs : List V} {fp : List Addr}, RepTs g Hs H ts vs fp → vs.length = ts.length
  | [], _, _, h => by
    simp only [RepTs] at h
    simp [h]
  | t :: ts, _, _, h => by
    simp only [RepTs] at h
    obtain ⟨v, vs', f, f', e, _, _, r⟩ := h
    subst e
    simp [RepTs.length r]
end
end DL
namespace DL
open PySem PySem.Spec L2

abbrev Sl := List (Option T)
def RepE (g : Gx) (Hs H : Hp) : Sl → St → List Addr → Prop
  | [], σ, fp => σ = [] ∧ fp = []
  | none :: ρ, σ, fp => ∃ o σ', σ = o :: σ' ∧ RepE g Hs H ρ σ' fp
  | some t :: ρ, σ, fp => ∃ v σ' f f', σ = some v :: σ' ∧ fp = f ++ f' ∧ RepT g Hs H t v f ∧ RepE g Hs H ρ σ' f'
/-- what is at hand: groups of values -/
abbrev Tm := List (List V × List T)
def RepX (g : Gx) (Hs H : Hp) : Tm → List Addr → Prop
  | [], fp => fp = []
  | p :: τ, fp => ∃ f f', fp = f ++ f' ∧ RepTs g Hs H p.2 p.1 f ∧ RepX g Hs H τ f'
/-- a call's entry: the heap, what of it is frozen, what is owned by the arguments, slots that stay -/
structure Fr0 where
  H : Hp
  S : Hp
  F : List Addr
  P : List (Nat × V)

structure Ok (g : Gx) (e : Fr0) (ρ : Sl) (τ : Tm) (σ : St) (H Hs : Hp) : Prop where
  sub : Same Hs H
  sub0 : Same e.S Hs
  new : ∀ a, Hs a ≠ none → e.S a ≠ none ∨ e.H a = none ∨ a ∈ e.F
  frame : ∀ a, a ∉ e.F → e.H a ≠ none → H a = e.H a
  there : ∀ a, e.H a ≠ none → H a ≠ none
  fix : ∀ p ∈ e.P, σ[p.1]? = some (some p.2)
  own : ∃ fs ft, RepE g Hs H ρ σ fs ∧ RepX g Hs H τ ft ∧ (∀ a, fs.count a + ft.count a ≤ 1) ∧ (∀ a, a ∈ fs ∨ a ∈ ft → Hs a = none ∧ H a ≠ none ∧ (e.H a = none ∨ a ∈ e.F))

section
variable {g : Gx} {H H' Hs Hs' : Hp} {e : Fr0} {ρ ρ' : Sl} {τ τ' : Tm} {σ σ' : St}
theorem RepE.keep (s : Same Hs Hs') : ∀ {ρ : Sl} {σ : St} {fp : List Addr}, (∀ a ∈ fp, H' a = H a) → RepE g Hs H ρ σ fp → RepE g Hs' H' ρ σ fp
  | [], _, _, _, h => h
  | none :: ρ, _, _, k, h => by
    obtain ⟨o, σ', e, r⟩ := h
    exact ⟨o, σ', e, RepE.keep s k r⟩
  | some t :: ρ, _, _, k, h => by
    obtain ⟨v, σ', f, f', e, ef, q, r⟩ := h
    subst ef
    exact ⟨v, σ', f, f', e, rfl, q.keep s fun b hb => k b (by simp [hb]), RepE.keep s (fun b hb => k b (by simp [hb])) r⟩
theorem RepTs.one {v : V} {t : T} {f : List Addr} : RepTs g Hs H [t] [v] f ↔ RepT g Hs H t v f := by
  simp only [RepTs]
  constructor
  · rintro ⟨w, vs', f1, f2, e, ef, q, rfl, rfl⟩
    obtain ⟨rfl, _⟩ := List.cons.inj e
    rw [ef, List.append_nil]
    exact q
  · intro q
    exact ⟨v, [], f, [], rfl, (List.append_nil f).symm, q, rfl, rfl⟩
theorem RepX.keep (s : Same Hs Hs') : ∀ {τ : Tm} {fp : List Addr}, (∀ a ∈ fp, H' a = H a) → RepX g Hs H τ fp → RepX g Hs' H' τ fp
  | [], _, _, h => h
  | p :: τ, _, k, h => by
    obtain ⟨f, f', ef, q, r⟩ := h
    subst ef
    exact ⟨f, f', rfl, RepTs.keep s (fun b hb => k b (by simp [hb])) q, RepX.keep s (fun b hb => k b (by simp [hb])) r⟩
theorem RepE.get : ∀ {ρ : Sl} {σ : St} {fp : List Addr} {i : Nat} {t : T}, RepE g Hs H ρ σ fp → ρ[i]? = some (some t) → ∃ v f, σ[i]? = some (some v) ∧ RepT g Hs H t v f ∧ (∀ a, f.count a ≤ fp.count a)
  | [], _, _, _, _, _, h => by simp at h
  | none :: ρ, _, _, 0, _, _, h => by simp at h
  | none :: ρ, _, _, i + 1, _, r, h => by
    obtain ⟨o, σ', e, r⟩ := r
    subst e
    simpa using RepE.get r (by simpa using h)
  | some t :: ρ, _, _, 0, _, r, h => by
    obtain ⟨v, σ', f, f', e, ef, q, r⟩ := r
    subst e
    simp at h
    subst h
    exact ⟨v, f, by simp, q, fun a => by rw [ef, List.count_append]; omega⟩
  | some t :: ρ, _, _, i + 1, _, r, h => by
    obtain ⟨v, σ', f, f', e, ef, q, r⟩ := r
    subst e
    obtain ⟨w, fw, h1, h2, h3⟩ := RepE.get (i := i) r (by simpa using h)
    exact ⟨w, fw, by simpa using h1, h2, fun a => by rw [ef, List.count_append]; have := h3 a; omega⟩
/-- a slot is set: what was in it is let go -/
theorem RepE.set {t : T} {v : V} {f : List Addr} (q : RepT g Hs H t v f) : ∀ {ρ : Sl} {σ : St} {fp : List Addr} {i : Nat}, RepE g Hs H ρ σ fp → i < ρ.length →
    ∃ fp', RepE g Hs H (ρ.set i (some t)) (σ.set i (some v)) fp' ∧ ∀ a, fp'.count a ≤ fp.count a + f.count a
  | [], _, _, _, _, h => by simp at h
  | none :: ρ, _, fp, 0, r, _ => by
    obtain ⟨o, σ', e, r⟩ := r
    subst e
    exact ⟨f ++ fp, ⟨v, σ', f, fp, rfl, rfl, q, r⟩, fun a => by rw [List.count_append]; omega⟩
  | none :: ρ, _, _, i + 1, r, h => by
    obtain ⟨o, σ', e, r⟩ := r
    subst e
    obtain ⟨fp', r', c⟩ := RepE.set (i := i) q r (by simpa using h)
    exact ⟨fp', ⟨o, _, rfl, r'⟩, c⟩
  | some t' :: ρ, _, _, 0, r, _ => by
    obtain ⟨v', σ', f0, f', e, ef, q0, r⟩ := r
    subst e
    exact ⟨f ++ f', ⟨v, σ', f, f', rfl, rfl, q, r⟩, fun a => by rw [ef, List.count_append, List.count_append]; omega⟩
  | some t' :: ρ, _, _, i + 1, r, h => by
    obtain ⟨v', σ', f0, f', e, ef, q0, r⟩ := r
    subst e
    obtain ⟨fp', r', c⟩ := RepE.set (i := i) q r (by simpa using h)
    exact ⟨f0 ++ fp', ⟨v', _, f0, fp', rfl, rfl, q0, r'⟩, fun a => by rw [ef, List.count_append, List.count_append]; have := c a; omega⟩
/-- a slot's tree is taken out -/
theorem RepE.take : ∀ {ρ : Sl} {σ : St} {fp : List Addr} {i : Nat} {t : T}, RepE g Hs H ρ σ fp → ρ[i]? = some (some t) →
    ∃ v f fp', σ[i]? = some (some v) ∧ RepT g Hs H t v f ∧ RepE g Hs H (ρ.set i none) σ fp' ∧ ∀ a, fp.count a = f.count a + fp'.count a
  | [], _, _, _, _, _, h => by simp at h
  | none :: ρ, _, _, 0, _, _, h => by simp at h
  | none :: ρ, _, _, i + 1, _, r, h => by
    obtain ⟨o, σ', e, r⟩ := r
    subst e
    obtain ⟨v, f, fp', h1, h2, h3, h4⟩ := RepE.take (i := i) r (by simpa using h)
    exact ⟨v, f, fp', by simpa using h1, h2, ⟨o, _, rfl, h3⟩, h4⟩
  | some t :: ρ, _, _, 0, _, r, h => by
    obtain ⟨v, σ', f, f', e, ef, q, r⟩ := r
    subst e
    simp at h
    subst h
    exact ⟨v, f, f', by simp, q, ⟨_, _, rfl, r⟩, fun a => by rw [ef, List.count_append]⟩
  | some t :: ρ, _, _, i + 1, _, r, h => by
    obtain ⟨v, σ', f, f', e, ef, q, r⟩ := r
    subst e
    obtain ⟨w, fw, fp', h1, h2, h3, h4⟩ := RepE.take (i := i) r (by simpa using h)
    exact ⟨w, fw, f ++ fp', by simpa using h1, h2, ⟨v, _, f, fp', rfl, rfl, q, h3⟩, fun a => by rw [ef, List.count_append, List.count_append, h4 a]; omega⟩
theorem RepE.lengths : ∀ {ρ : Sl} {σ : St} {fp : List Addr}, RepE g Hs H ρ σ fp → ρ.length = σ.length
  | [], _, _, h => by rw [h.1]; rfl
  | none :: ρ, _, _, h => by
    obtain ⟨o, σ', e, r⟩ := h
    subst e
    simp [RepE.lengths r]
  | some t :: ρ, _, _, h => by
    obtain ⟨v, σ', f, f', e, _, _, r⟩ := h
    subst e
    simp [RepE.lengths r]

theorem Ok.get (o : Ok g e ρ τ σ H Hs) {i : Nat} {t : T} (h : ρ[i]? = some (some t)) : ∃ v f, σ[i]? = some (some v) ∧ RepT g Hs H t v f := by
  obtain ⟨fs, ft, r, _⟩ := o.own
  obtain ⟨v, f, h1, h2, _⟩ := r.get h
  exact ⟨v, f, h1, h2⟩
theorem Ok.top {v : V} {t : T} (o : Ok g e ρ (([v], [t]) :: τ) σ H Hs) : ∃ f, RepT g Hs H t v f := by
  obtain ⟨fs, ft, _, r, _⟩ := o.own
  obtain ⟨f, f', _, q, _⟩ := r
  exact ⟨f, RepTs.one.mp q⟩
theorem Ok.drop {p : List V × List T} (o : Ok g e ρ (p :: τ) σ H Hs) : Ok g e ρ τ σ H Hs := by
  obtain ⟨fs, ft, r1, r2, c, n⟩ := o.own
  obtain ⟨f, f', ef, q, r⟩ := r2
  subst ef
  refine ⟨o.sub, o.sub0, o.new, o.frame, o.there, o.fix, fs, f', r1, r, fun a => ?_, fun a ha => n a (ha.elim .inl fun z => .inr (by simp [z]))⟩
  have := c a
  rw [List.count_append] at this
  omega
/-- a frozen thing more among what is at hand -/
theorem Ok.push {v : V} {d : D} (o : Ok g e ρ τ σ H Hs) (r : Rep g Hs d v) : Ok g e ρ (([v], [.fz d]) :: τ) σ H Hs := by
  obtain ⟨fs, ft, r1, r2, c, n⟩ := o.own
  exact ⟨o.sub, o.sub0, o.new, o.frame, o.there, o.fix, fs, ft, r1, ⟨[], ft, rfl, RepTs.one.mpr (by simp only [RepT]; exact ⟨r, trivial⟩), r2⟩, c, n⟩
theorem upd_keep {H : Hp} {p : Addr} {u : HO} (h : H p = none) : ∀ a, H a ≠ none → upd H p u a = H a := fun a ha => upd_ne (fun z => by subst z; exact ha h)
theorem Same_upd {H : Hp} {p : Addr} {u : HO} (h : H p = none) : Same H (upd H p u) := fun a o q => by rw [upd_ne (ne_of_none q h)]; exact q
theorem Ok.freeS (o : Ok g e ρ τ σ H Hs) {p : Addr} (h : H p = none) : Hs p = none := by
  cases q : Hs p with
  | none => rfl
  | some x =>
    have := o.sub p x q
    rw [h] at this
    cases this
theorem Ok.fresh (o : Ok g e ρ τ σ H Hs) {p : Addr} (h : H p = none) : e.H p = none := by
  cases q : e.H p with
  | none => rfl
  | some x => exact absurd h (o.there p (by rw [q]; simp))
/-- new objects come; some of them are frozen -/
theorem Ok.step (o : Ok g e ρ τ σ H Hs) (k : ∀ a, H a ≠ none → H' a = H a) (s : Same Hs Hs') (s' : Same Hs' H') (n' : ∀ a, Hs' a ≠ none → Hs a ≠ none ∨ H a = none) : Ok g e ρ τ σ H' Hs' := by
  obtain ⟨fs, ft, r1, r2, c, n⟩ := o.own
  have nn : ∀ a, a ∈ fs ∨ a ∈ ft → H' a = H a := fun a ha => k a (n a ha).2.1
  refine ⟨s', fun a u q => s a u (o.sub0 a u q), fun a h => ?_, fun a h1 h2 => by rw [k a (o.there a h2)]; exact o.frame a h1 h2, fun a h => by rw [k a (o.there a h)]; exact o.there a h, o.fix, fs, ft,
    r1.keep s fun a ha => nn a (.inl ha), r2.keep s fun a ha => nn a (.inr ha), c, fun a ha => ?_⟩
  · rcases n' a h with h | h
    · exact o.new a h
    · exact .inr (.inl (o.fresh h))
  · obtain ⟨h1, h2, h3⟩ := n a ha
    refine ⟨?_, by rw [nn a ha]; exact h2, h3⟩
    cases q : Hs' a with
    | none => rfl
    | some x =>
      rcases n' a (by rw [q]; simp) with z | z
      · exact absurd h1 z
      · exact absurd z h2
theorem Ok.grow (o : Ok g e ρ τ σ H Hs) (k : ∀ a, H a ≠ none → H' a = H a) : Ok g e ρ τ σ H' Hs :=
  o.step k (Same.refl _) (fun a u q => by rw [k a (by rw [o.sub a u q]; simp)]; exact o.sub a u q) fun _ h => .inl h
theorem Ok.growS {p : Addr} {u : HO} (o : Ok g e ρ τ σ H Hs) (h : H p = none) : Ok g e ρ τ σ (upd H p u) (upd Hs p u) :=
  o.step (upd_keep h) (Same_upd (o.freeS h)) (fun a x q => by
    by_cases z : a = p
    · subst z; rw [upd_same] at q ⊢; exact q
    · rw [upd_ne z] at q ⊢; exact o.sub a x q) fun a q => by
    by_cases z : a = p
    · subst z; exact .inr h
    · rw [upd_ne z] at q; exact .inl q
/-- the topmost thing at hand is frozen -/
theorem Ok.freeze {v : V} {t : T} (o : Ok g e ρ (([v], [t]) :: τ) σ H Hs) : ∃ Hs', Same Hs Hs' ∧ Ok g e ρ (([v], [.fz t.d]) :: τ) σ H Hs' := by
  obtain ⟨fs, ft, r1, r2, c, n⟩ := o.own
  obtain ⟨f, f', ef, q, r⟩ := r2
  subst ef
  have hf : ∀ a, a ∈ f → Hs a = none ∧ H a ≠ none ∧ (e.H a = none ∨ a ∈ e.F) := fun a ha => n a (.inr (by simp [ha]))
  have s : Same Hs (frzH Hs H f) := fun a u z => by
    unfold frzH
    by_cases h : a ∈ f
    · rw [(hf a h).1] at z; cases z
    · rw [if_neg h]; exact z
  have nin : ∀ a, a ∈ fs ∨ a ∈ f' → a ∉ f := fun a ha hb => by
    have h1 := c a
    rw [List.count_append] at h1
    have h2 := List.count_pos_iff.mpr hb
    rcases ha with ha | ha
    · have := List.count_pos_iff.mpr ha; omega
    · have := List.count_pos_iff.mpr ha; omega
  refine ⟨frzH Hs H f, s, fun a u z => ?_, fun a u z => s a u (o.sub0 a u z), fun a h => ?_, o.frame, o.there, o.fix, fs, f', r1.keep s fun _ _ => rfl, ⟨[], f', rfl, ?_, r.keep s fun _ _ => rfl⟩, fun a => ?_, fun a ha => ?_⟩
  · unfold frzH at z
    by_cases h : a ∈ f
    · rw [if_pos h] at z; exact z
    · rw [if_neg h] at z; exact o.sub a u z
  · unfold frzH at h
    by_cases h' : a ∈ f
    · exact .inr (hf a h').2.2
    · rw [if_neg h'] at h; exact o.new a h
  · refine RepTs.one.mpr ?_
    simp only [RepT]
    exact ⟨(RepTs.one.mp q).toD s fun a ha => by unfold frzH; rw [if_pos ha], trivial⟩
  · have := c a
    rw [List.count_append] at this
    omega
  · obtain ⟨h1, h2, h3⟩ := n a (ha.elim .inl fun z => .inr (by simp [z]))
    exact ⟨by unfold frzH; rw [if_neg (nin a ha)]; exact h1, h2, h3⟩
/-- the topmost thing at hand goes into a slot -/
theorem Ok.store {v : V} {t : T} {i : Nat} (o : Ok g e ρ (([v], [t]) :: τ) σ H Hs) (hi : i < ρ.length) (hp : ∀ p ∈ e.P, p.1 ≠ i) : Ok g e (ρ.set i (some t)) τ (σ.set i (some v)) H Hs := by
  obtain ⟨fs, ft, r1, r2, c, n⟩ := o.own
  obtain ⟨f, f', ef, q, r⟩ := r2
  subst ef
  obtain ⟨fs', r1', c'⟩ := r1.set (i := i) (RepTs.one.mp q) hi
  have cc : ∀ a, fs'.count a + f'.count a ≤ 1 := fun a => by
    have h1 := c a
    have h2 := c' a
    rw [List.count_append] at h1
    omega
  refine ⟨o.sub, o.sub0, o.new, o.frame, o.there, fun p hp' => by rw [List.getElem?_set_ne (Ne.symm (hp p hp'))]; exact o.fix p hp', fs', f', r1', r, cc, fun a ha => n a ?_⟩
  rcases ha with ha | ha
  · have h1 := List.count_pos_iff.mpr ha
    have h2 := c' a
    by_cases h3 : 0 < fs.count a
    · exact .inl (List.count_pos_iff.mp h3)
    · exact .inr (by simp [List.count_pos_iff.mp (show 0 < f.count a by omega)])
  · exact .inr (by simp [ha])
/-- a slot's tree comes to hand -/
theorem Ok.take {i : Nat} {t : T} (o : Ok g e ρ τ σ H Hs) (h : ρ[i]? = some (some t)) : ∃ v, σ[i]? = some (some v) ∧ Ok g e (ρ.set i none) (([v], [t]) :: τ) σ H Hs := by
  obtain ⟨fs, ft, r1, r2, c, n⟩ := o.own
  obtain ⟨v, f, fs', h1, h2, h3, h4⟩ := r1.take h
  refine ⟨v, h1, o.sub, o.sub0, o.new, o.frame, o.there, o.fix, fs', f ++ ft, h3, ⟨f, ft, rfl, RepTs.one.mpr h2, r2⟩, fun a => ?_, fun a ha => n a ?_⟩
  · have := c a
    have := h4 a
    rw [List.count_append]
    omega
  · rcases ha with ha | ha
    · have := List.count_pos_iff.mpr ha
      have := h4 a
      exact .inl (List.count_pos_iff.mp (by omega))
    · rcases List.mem_append.mp ha with ha | ha
      · have := List.count_pos_iff.mpr ha
        have := h4 a
        exact .inl (List.count_pos_iff.mp (by omega))
      · exact .inr ha
/-- .. and back again -/
theorem Ok.back {i : Nat} {v : V} {t : T} (o : Ok g e ρ (([v], [t]) :: τ) σ H Hs) (hi : σ[i]? = some (some v)) : Ok g e (ρ.set i (some t)) τ σ H Hs := by
  obtain ⟨fs, ft, r1, r2, c, n⟩ := o.own
  obtain ⟨f, f', ef, q, r⟩ := r2
  subst ef
  have hl : i < ρ.length := by
    rw [r1.lengths]
    exact (List.getElem?_eq_some_iff.mp hi).1
  obtain ⟨fs', r1', c'⟩ := r1.set (i := i) (RepTs.one.mp q) hl
  have es : σ.set i (some v) = σ := by
    obtain ⟨h1, h2⟩ := List.getElem?_eq_some_iff.mp hi
    rw [← h2]
    exact List.set_getElem_self h1
  rw [es] at r1'
  have cc : ∀ a, fs'.count a + f'.count a ≤ 1 := fun a => by
    have h1 := c a
    have h2 := c' a
    rw [List.count_append] at h1
    omega
  refine ⟨o.sub, o.sub0, o.new, o.frame, o.there, o.fix, fs', f', r1', r, cc, fun a ha => n a ?_⟩
  rcases ha with ha | ha
  · have h1 := List.count_pos_iff.mpr ha
    have h2 := c' a
    by_cases h3 : 0 < fs.count a
    · exact .inl (List.count_pos_iff.mp h3)
    · exact .inr (by simp [List.count_pos_iff.mp (show 0 < f.count a by omega)])
  · exact .inr (by simp [ha])
/-- two things at hand exchanged -/
theorem Ok.swap {p q : List V × List T} (o : Ok g e ρ (p :: q :: τ) σ H Hs) : Ok g e ρ (q :: p :: τ) σ H Hs := by
  obtain ⟨fs, ft, r1, r2, c, n⟩ := o.own
  obtain ⟨f, f', ef, z, f2, f3, ef', z', r⟩ := r2
  subst ef
  subst ef'
  refine ⟨o.sub, o.sub0, o.new, o.frame, o.there, o.fix, fs, f2 ++ (f ++ f3), r1, ⟨f2, _, rfl, z', f, f3, rfl, z, r⟩, fun a => ?_, fun a ha => n a ?_⟩
  · have := c a
    simp only [List.count_append] at this ⊢
    omega
  · simp only [List.mem_append] at ha ⊢
    rcases ha with ha | ha | ha | ha
    · exact .inl ha
    · exact .inr (.inr (.inl ha))
    · exact .inr (.inl ha)
    · exact .inr (.inr (.inr ha))
theorem RepTs.append : ∀ {ts : List T} {vs : List V} {f : List Addr} {us : List T} {ws : List V} {f' : List Addr}, RepTs g Hs H ts vs f → RepTs g Hs H us ws f' → RepTs g Hs H (ts ++ us) (vs ++ ws) (f ++ f')
  | [], _, _, _, _, _, h, q => by
    simp only [RepTs] at h
    obtain ⟨rfl, rfl⟩ := h
    exact q
  | t :: ts, _, _, _, _, _, h, q => by
    simp only [RepTs] at h
    obtain ⟨v, vs', f, f', e, ef, z, r⟩ := h
    subst e
    subst ef
    simp only [List.cons_append, RepTs]
    exact ⟨v, _, f, _, rfl, by rw [List.append_assoc], z, RepTs.append r q⟩
/-- two groups joined: the later one behind the earlier one -/
theorem Ok.merge {vs ws : List V} {ts us : List T} (o : Ok g e ρ ((ws, us) :: (vs, ts) :: τ) σ H Hs) : Ok g e ρ ((vs ++ ws, ts ++ us) :: τ) σ H Hs := by
  obtain ⟨fs, ft, r1, r2, c, n⟩ := o.own
  obtain ⟨f, f', ef, z, f2, f3, ef', z', r⟩ := r2
  subst ef
  subst ef'
  refine ⟨o.sub, o.sub0, o.new, o.frame, o.there, o.fix, fs, (f2 ++ f) ++ f3, r1, ⟨f2 ++ f, _, rfl, RepTs.append z' z, r⟩, fun a => ?_, fun a ha => n a ?_⟩
  · have := c a
    simp only [List.count_append] at this ⊢
    omega
  · simp only [List.mem_append] at ha ⊢
    rcases ha with ha | (ha | ha) | ha
    · exact .inl ha
    · exact .inr (.inr (.inl ha))
    · exact .inr (.inl ha)
    · exact .inr (.inr (.inr ha))
theorem Ok.nilG (o : Ok g e ρ τ σ H Hs) : Ok g e ρ (([], []) :: τ) σ H Hs := by
  obtain ⟨fs, ft, r1, r2, c, n⟩ := o.own
  exact ⟨o.sub, o.sub0, o.new, o.frame, o.there, o.fix, fs, ft, r1, ⟨[], ft, rfl, by simp only [RepTs]; trivial, r2⟩, c, n⟩
/-- a group becomes one new owned thing at p (and its companions ps) -/
theorem Ok.pack {vs : List V} {ts : List T} {v : V} {t : T} {ps : List Addr} (o : Ok g e ρ ((vs, ts) :: τ) σ H Hs) (k : ∀ a, H a ≠ none → H' a = H a) (hn : ∀ a ∈ ps, H a = none) (hp : ∀ a ∈ ps, H' a ≠ none) (nd : ps.Nodup)
    (s : Same Hs Hs') (s' : Same Hs' H') (n' : ∀ a, Hs' a ≠ none → Hs a ≠ none ∨ H a = none) (hps : ∀ a ∈ ps, Hs' a = none)
    (mk : ∀ f, RepTs g Hs' H' ts vs f → RepT g Hs' H' t v (ps ++ f)) : Ok g e ρ (([v], [t]) :: τ) σ H' Hs' := by
  have o' := o.step k s s' n'
  obtain ⟨fs0, ft0, r10, r20, c0, n0⟩ := o.own
  obtain ⟨f0, f0', ef0, q0, rr0⟩ := r20
  subst ef0
  have nn : ∀ a, a ∈ fs0 ∨ a ∈ f0 ++ f0' → H' a = H a := fun a ha => k a (n0 a ha).2.1
  have q1 : RepTs g Hs' H' ts vs f0 := RepTs.keep s (fun a ha => nn a (.inr (by simp [ha]))) q0
  refine ⟨o'.sub, o'.sub0, o'.new, o'.frame, o'.there, o'.fix, fs0, (ps ++ f0) ++ f0', r10.keep s fun a ha => nn a (.inl ha), ⟨ps ++ f0, f0', rfl, RepTs.one.mpr (mk f0 q1), rr0.keep s fun a ha => nn a (.inr (by simp [ha]))⟩, fun a => ?_, fun a ha => ?_⟩
  · have h1 := c0 a
    simp only [List.count_append] at h1 ⊢
    by_cases hm : a ∈ ps
    · have z : fs0.count a = 0 := List.count_eq_zero.mpr fun y => (n0 a (.inl y)).2.1 (hn a hm)
      have z1 : f0.count a = 0 := List.count_eq_zero.mpr fun y => (n0 a (.inr (by simp [y]))).2.1 (hn a hm)
      have z2 : f0'.count a = 0 := List.count_eq_zero.mpr fun y => (n0 a (.inr (by simp [y]))).2.1 (hn a hm)
      have := List.nodup_iff_count.mp nd a
      omega
    · have : ps.count a = 0 := List.count_eq_zero.mpr hm
      omega
  · by_cases hm : a ∈ ps
    · exact ⟨hps a hm, hp a hm, .inl (o.fresh (hn a hm))⟩
    · have ha' : a ∈ fs0 ∨ a ∈ f0 ++ f0' := by
        simp only [List.mem_append] at ha ⊢
        rcases ha with ha | (ha | ha) | ha
        · exact .inl ha
        · exact absurd ha hm
        · exact .inr (.inl ha)
        · exact .inr (.inr ha)
      obtain ⟨h1, h2, h3⟩ := n0 a ha'
      refine ⟨?_, by rw [nn a ha']; exact h2, h3⟩
      cases q : Hs' a with
      | none => rfl
      | some x =>
        rcases n' a (by rw [q]; simp) with z | z
        · exact absurd h1 z
        · exact absurd z h2
end
end DL
namespace DL
open PySem PySem.Spec L2

/-! ### operators on data -/
mutual
def D.py : D → PyData
  | .non => .none | .bl b => .bool b | .int i => .int i | .str s => .str s
  | .tup xs => .tuple (D.pys xs) | .lst xs => .list (D.pys xs)
  | .dic _ _ => .dict [] | .obj _ _ _ => .dict [] | .scr _ => .dict []
def D.pys : List D → List PyData
  | [] => []
  | d :: ds => d.py :: D.pys ds
end
theorem D.pys_map : ∀ ds : List D, D.pys ds = ds.map D.py
  | [] => rfl
  | d :: ds => by rw [D.pys, List.map_cons, D.pys_map ds]
/-- data that can be compared -/
def D.cmp (d : D) : Bool := SeqAt.shaped d.py
theorem strOk_of {x : PyData} (h : SeqAt.shaped x = true) : True := trivial
mutual
theorem Rep.dp {g : Gx} {H : Hp} : ∀ {d : D} {v : V}, Rep g H d v → d.py.canLay0 = true → Dp g.K H v d.py
  | .non, _, h, _ => by simp only [Rep] at h; subst h; exact .non
  | .bl b, _, h, _ => by simp only [Rep] at h; subst h; exact .bl b
  | .int b, _, h, _ => by simp only [Rep] at h; subst h; exact .int b
  | .str b, _, h, _ => by simp only [Rep] at h; subst h; exact .str b
  | .tup ds, _, h, c => by
    simp only [Rep] at h
    obtain ⟨a, vs, rfl, q, r⟩ := h
    simp only [D.py, PyData.canLay0] at c ⊢
    exact .tup q (Reps.dp r c)
  | .lst ds, _, h, c => by
    simp only [Rep] at h
    obtain ⟨a, vs, rfl, q, r⟩ := h
    simp only [D.py, PyData.canLay0] at c ⊢
    exact .lst (.inl q) (Reps.dp r c)
  | .dic _ _, _, _, c => by simp only [D.py, PyData.canLay0] at c; cases c
  | .obj _ _ _, _, _, c => by simp only [D.py, PyData.canLay0] at c; cases c
  | .scr _, _, _, c => by simp only [D.py, PyData.canLay0] at c; cases c
theorem Reps.dp {g : Gx} {H : Hp} : ∀ {ds : List D} {vs : List V}, Reps g H ds vs → PyData.canLayAll0 (D.pys ds) = true → DpAll g.K H vs (D.pys ds)
  | [], _, h, _ => by simp only [Reps] at h; subst h; exact .nil
  | d :: ds, _, h, c => by
    simp only [Reps] at h
    obtain ⟨v, vs', rfl, q, r⟩ := h
    simp only [D.pys, PyData.canLayAll0, Bool.and_eq_true] at c ⊢
    exact .cons (Rep.dp q c.1) (Reps.dp r c.2)
end
/-- an atom's value -/
def D.at : D → V
  | .bl b => .bl b | .int i => .int i | .str s => .str s | _ => .non
def D.atom : D → Bool
  | .non => true | .bl _ => true | .int _ => true | .str _ => true | _ => false
theorem Rep.at {g : Gx} {H : Hp} {d : D} (h : d.atom = true) : Rep g H d d.at := by
  cases d <;> first | (simp only [Rep]; rfl) | simp [D.atom] at h

inductive O2 where
  | add | sub | mul | fdiv | mod | pow | shl | shr | band | bor | bxor
  | lt | le | gt | ge | eq | ne | isN | isnN | isin | notin
  deriving DecidableEq
def O2.bin : O2 → Option Operator
  | .add => some .Add | .sub => some .Sub | .mul => some .Mult | .fdiv => some .FloorDiv | .mod => some .Mod | .pow => some .Pow
  | .shl => some .LShift | .shr => some .RShift | .band => some .BitAnd | .bor => some .BitOr | .bxor => some .BitXor | _ => none
def O2.cmp : O2 → Option CmpOp
  | .lt => some .Lt | .le => some .LtE | .gt => some .Gt | .ge => some .GtE | .eq => some .Eq | .ne => some .NotEq
  | .isN => some .Is | .isnN => some .IsNot | .isin => some .In | .notin => some .NotIn | _ => none
def O2.f (o : O2) : Value → Value → Sem Value :=
  match o.bin with
  | some p => binaryOp p
  | none => compareOp (o.cmp.getD .Eq)
def D.isNon : D → Bool
  | .non => true
  | _ => false
def mulB (i j : Int) : Bool := decide ((Builtin.Int.intBits i : Int) + (Builtin.Int.intBits j : Int) ≤ 134217728)
def divB (j : Int) : Bool := decide (0 < j) && decide (j.natAbs.log2 < 9000)
def powB (i j : Int) : Bool := decide (0 ≤ j) && decide ((Builtin.Int.intBits i : Int) * j ≤ 134217728)
def shlB (i j : Int) : Bool := decide (0 ≤ j) && decide ((Builtin.Int.intBits i : Int) + j ≤ 134217728)
def sgn (x : Str) : Option Nat := match x.cps.toList with
  | [c] => some c
  | _ => none
theorem sgn_eq {x : Str} {c : Nat} (h : sgn x = some c) : x = ⟨#[c]⟩ := by
  obtain ⟨a⟩ := x
  unfold sgn at h
  split at h
  · rename_i c' e
    cases h
    have : a = #[c] := by
      apply Array.toList_inj.mp
      simpa using e
    rw [this]
  · cases h
def isIn (a : D) : D → Option Bool
  | .str z => match a with
    | .str x => (sgn x).map fun c => decide (c ∈ z.cps.toList)
    | _ => none
  | .lst ds => if a.cmp = true ∧ (D.lst ds).cmp = true then some (ds.any fun z => PyData.eqv z.py a.py) else none
  | .tup ds => if a.cmp = true ∧ (D.tup ds).cmp = true then some (ds.any fun z => PyData.eqv z.py a.py) else none
  | _ => none
def rMemT (K : PySem.W.Frag) (neg : Bool) : R2 := fun x y H Q => ∃ d ds, Dp K H x d ∧ Dp K H y (.tuple ds) ∧ SeqAt.shaped d = true ∧ SeqAt.shaped (.tuple ds) = true ∧ Q (.bl (neg != ds.any fun z => PyData.eqv z d)) H
theorem op_memT {X : Cx} (hu : X.A.units + 65 < cLine) : OpR X (compareOp .In) (rMemT X.K false) := fun pins s σ H x y v u Q I rx ry h => by
  obtain ⟨d, ds, hd, he, sd, se, q⟩ := h
  obtain ⟨_, r1⟩ := Dp.reads I d x v hd rx
  obtain ⟨_, r2⟩ := Dp.reads I (.tuple ds) y u he ry
  rw [Bool.false_bne] at q
  exact SeqAt.in_tuple_reads r2 r1 (SeqAt.canLay_of_shaped se) (SeqAt.canLay_of_shaped sd) (PyProof.Rows.room_in_shaped sd hu) ⟨.bl _, H, I, rfl, q⟩
theorem op_nmemT {X : Cx} (hu : X.A.units + 65 < cLine) : OpR X (compareOp .NotIn) (rMemT X.K true) := fun pins s σ H x y v u Q I rx ry h => by
  obtain ⟨d, ds, hd, he, sd, se, q⟩ := h
  obtain ⟨_, r1⟩ := Dp.reads I d x v hd rx
  obtain ⟨_, r2⟩ := Dp.reads I (.tuple ds) y u he ry
  rw [Bool.true_bne] at q
  exact SeqAt.notIn_tuple_reads r2 r1 (SeqAt.canLay_of_shaped se) (SeqAt.canLay_of_shaped sd) (PyProof.Rows.room_in_shaped sd hu) ⟨.bl _, H, I, rfl, q⟩
def o2 : O2 → D → D → Option D
  | .add, .int i, .int j => some (.int (i + j))
  | .add, .str a, .str b => if a.length + b.length ≤ sizeLine then some (.str (a ++ b)) else none
  | .sub, .int i, .int j => some (.int (i - j))
  | .mul, .int i, .int j => if mulB i j = true then some (.int (i * j)) else none
  | .fdiv, .int i, .int j => if divB j = true then some (.int (i / j)) else none
  | .mod, .int i, .int j => if 0 < j then some (.int (i % j)) else none
  | .pow, .int i, .int j => if powB i j = true then some (.int (i ^ j.toNat)) else none
  | .shl, .int i, .int j => if shlB i j = true then some (.int (i * 2 ^ j.toNat)) else none
  | .shr, .int i, .int j => if 0 ≤ j then some (.int (i / 2 ^ j.toNat)) else none
  | .band, .int i, .int j => some (.int (Builtin.bitAnd i j))
  | .bor, .int i, .int j => some (.int (Builtin.bitOr i j))
  | .bxor, .int i, .int j => some (.int (Builtin.bitXor i j))
  | .lt, .int i, .int j => some (.bl (decide (i < j)))
  | .le, .int i, .int j => some (.bl (decide (i ≤ j)))
  | .gt, .int i, .int j => some (.bl (decide (j < i)))
  | .ge, .int i, .int j => some (.bl (decide (j ≤ i)))
  | .eq, a, b => if a.cmp = true ∧ b.cmp = true then some (.bl (PyData.eqv a.py b.py)) else none
  | .ne, a, b => if a.cmp = true ∧ b.cmp = true then some (.bl (!PyData.eqv a.py b.py)) else none
  | .isN, a, .non => some (.bl a.isNon)
  | .isnN, a, .non => some (.bl (!a.isNon))
  | .isin, a, b => (isIn a b).map D.bl
  | .notin, a, b => (isIn a b).map fun k => D.bl (!k)
  | _, _, _ => none

theorem D.cmpE {d : D} (h : d.cmp = true) : d.py.canLay0 = true := SeqAt.canLay_of_shaped h
theorem isNon_eq {g : Gx} {H : Hp} {d : D} {v : V} (h : Rep g H d v) : decide (v = .non) = d.isNon := by
  cases d <;> simp only [Rep, D.isNon] at h ⊢
  · simp [h]
  · simp [h]
  · simp [h]
  · simp [h]
  · obtain ⟨a, vs, rfl, _⟩ := h; simp
  · obtain ⟨a, vs, rfl, _⟩ := h; simp
  · obtain ⟨a, vs, rfl, _⟩ := h; simp
  · obtain ⟨a, dx, vs, rfl, _⟩ := h; simp
  · obtain ⟨a, rfl, _⟩ := h; simp
theorem op_powB {X : Cx} : OpR X (binaryOp .Pow) (rI (fun i j => 0 ≤ j ∧ (Builtin.Int.intBits i : Int) * j ≤ 2 ^ 27) fun i j => .int (i ^ j.toNat)) := opI fun _ _ _ _ _ _ _ hc q => PyProof.Rows.pow_int hc.1 hc.2 q
theorem any_pys {ds : List D} {p : PyData} : ((D.pys ds).any fun z => PyData.eqv z p) = ds.any fun z => PyData.eqv z.py p := by
  rw [D.pys_map, List.any_map]
  rfl

/-- what a rule of two values is good for -/
def OpD (X : Cx) (g : Gx) (o : O2) : Prop := ∃ r : R2, OpR X o.f r ∧ ∀ H a b va vb d, Rep g H a va → Rep g H b vb → o2 o a b = some d → d.atom = true ∧ ∀ Q : VK, Q d.at H → r va vb H Q
theorem opD {X : Cx} {g : Gx} (hk : g.K = X.K) (hu : X.A.units + 65 < cLine) : ∀ o : O2, OpD X g o := by
  have hu' : X.A.units + 64 < cLine := by omega
  intro o
  cases o
  case add =>
    refine ⟨_, op_add.or op_add_str, fun H a b va vb d ra rb h => ?_⟩
    cases a <;> cases b <;> simp only [o2] at h <;> try cases h
    · simp only [Rep] at ra rb; subst ra; subst rb
      exact ⟨rfl, fun Q q => .inl ⟨_, _, rfl, rfl, q⟩⟩
    · split at h
      · rename_i hz
        cases h
        simp only [Rep] at ra rb; subst ra; subst rb
        exact ⟨rfl, fun Q q => .inr ⟨_, _, rfl, rfl, hz, q⟩⟩
      · cases h
  case sub =>
    refine ⟨_, op_sub, fun H a b va vb d ra rb h => ?_⟩
    cases a <;> cases b <;> simp only [o2] at h <;> try cases h
    simp only [Rep] at ra rb; subst ra; subst rb
    exact ⟨rfl, fun Q q => ⟨_, _, rfl, rfl, q⟩⟩
  case mul =>
    refine ⟨_, op_mulX, fun H a b va vb d ra rb h => ?_⟩
    cases a <;> cases b <;> simp only [o2] at h <;> try cases h
    split at h
    · rename_i hz
      cases h
      simp only [Rep] at ra rb; subst ra; subst rb
      exact ⟨rfl, fun Q q => ⟨_, _, rfl, rfl, (show CMulX _ _ from by unfold CMulX; exact of_decide_eq_true hz), q⟩⟩
    · cases h
  case fdiv =>
    refine ⟨_, op_fdivW, fun H a b va vb d ra rb h => ?_⟩
    cases a <;> cases b <;> simp only [o2] at h <;> try cases h
    split at h
    · rename_i hz
      cases h
      simp only [Rep] at ra rb; subst ra; subst rb
      simp only [divB, Bool.and_eq_true, decide_eq_true_eq] at hz
      exact ⟨rfl, fun Q q => ⟨_, _, rfl, rfl, hz, q⟩⟩
    · cases h
  case mod =>
    refine ⟨_, op_mod, fun H a b va vb d ra rb h => ?_⟩
    cases a <;> cases b <;> simp only [o2] at h <;> try cases h
    split at h
    · rename_i hz
      cases h
      simp only [Rep] at ra rb; subst ra; subst rb
      exact ⟨rfl, fun Q q => ⟨_, _, rfl, rfl, hz, q⟩⟩
    · cases h
  case pow =>
    refine ⟨_, op_powB, fun H a b va vb d ra rb h => ?_⟩
    cases a <;> cases b <;> simp only [o2] at h <;> try cases h
    split at h
    · rename_i hz
      cases h
      simp only [Rep] at ra rb; subst ra; subst rb
      simp only [powB, Bool.and_eq_true, decide_eq_true_eq] at hz
      exact ⟨rfl, fun Q q => ⟨_, _, rfl, rfl, hz, q⟩⟩
    · cases h
  case shl =>
    refine ⟨_, op_shlW, fun H a b va vb d ra rb h => ?_⟩
    cases a <;> cases b <;> simp only [o2] at h <;> try cases h
    split at h
    · rename_i hz
      cases h
      simp only [Rep] at ra rb; subst ra; subst rb
      simp only [shlB, Bool.and_eq_true, decide_eq_true_eq] at hz
      exact ⟨rfl, fun Q q => ⟨_, _, rfl, rfl, hz, q⟩⟩
    · cases h
  case shr =>
    refine ⟨_, op_shr, fun H a b va vb d ra rb h => ?_⟩
    cases a <;> cases b <;> simp only [o2] at h <;> try cases h
    split at h
    · rename_i hz
      cases h
      simp only [Rep] at ra rb; subst ra; subst rb
      exact ⟨rfl, fun Q q => ⟨_, _, rfl, rfl, hz, q⟩⟩
    · cases h
  case band =>
    refine ⟨_, op_and, fun H a b va vb d ra rb h => ?_⟩
    cases a <;> cases b <;> simp only [o2] at h <;> try cases h
    simp only [Rep] at ra rb; subst ra; subst rb
    exact ⟨rfl, fun Q q => ⟨_, _, rfl, rfl, q⟩⟩
  case bor =>
    refine ⟨_, op_or, fun H a b va vb d ra rb h => ?_⟩
    cases a <;> cases b <;> simp only [o2] at h <;> try cases h
    simp only [Rep] at ra rb; subst ra; subst rb
    exact ⟨rfl, fun Q q => ⟨_, _, rfl, rfl, q⟩⟩
  case bxor =>
    refine ⟨_, op_xor, fun H a b va vb d ra rb h => ?_⟩
    cases a <;> cases b <;> simp only [o2] at h <;> try cases h
    simp only [Rep] at ra rb; subst ra; subst rb
    exact ⟨rfl, fun Q q => ⟨_, _, rfl, rfl, q⟩⟩
  case lt =>
    refine ⟨_, op_lt, fun H a b va vb d ra rb h => ?_⟩
    cases a <;> cases b <;> simp only [o2] at h <;> try cases h
    simp only [Rep] at ra rb; subst ra; subst rb
    exact ⟨rfl, fun Q q => ⟨_, _, rfl, rfl, q⟩⟩
  case le =>
    refine ⟨_, op_le, fun H a b va vb d ra rb h => ?_⟩
    cases a <;> cases b <;> simp only [o2] at h <;> try cases h
    simp only [Rep] at ra rb; subst ra; subst rb
    exact ⟨rfl, fun Q q => ⟨_, _, rfl, rfl, q⟩⟩
  case gt =>
    refine ⟨_, op_gt, fun H a b va vb d ra rb h => ?_⟩
    cases a <;> cases b <;> simp only [o2] at h <;> try cases h
    simp only [Rep] at ra rb; subst ra; subst rb
    exact ⟨rfl, fun Q q => ⟨_, _, rfl, rfl, q⟩⟩
  case ge =>
    refine ⟨_, op_ge, fun H a b va vb d ra rb h => ?_⟩
    cases a <;> cases b <;> simp only [o2] at h <;> try cases h
    simp only [Rep] at ra rb; subst ra; subst rb
    exact ⟨rfl, fun Q q => ⟨_, _, rfl, rfl, q⟩⟩
  case eq =>
    refine ⟨_, op_eqD hu', fun H a b va vb d ra rb h => ?_⟩
    simp only [o2] at h
    split at h
    · rename_i hz
      cases h
      exact ⟨rfl, fun Q q => ⟨_, _, hk ▸ ra.dp (D.cmpE hz.1), hk ▸ rb.dp (D.cmpE hz.2), hz.1, hz.2, q⟩⟩
    · cases h
  case ne =>
    refine ⟨_, op_neD hu', fun H a b va vb d ra rb h => ?_⟩
    simp only [o2] at h
    split at h
    · rename_i hz
      cases h
      exact ⟨rfl, fun Q q => ⟨_, _, hk ▸ ra.dp (D.cmpE hz.1), hk ▸ rb.dp (D.cmpE hz.2), hz.1, hz.2, q⟩⟩
    · cases h
  case isN =>
    refine ⟨_, op_isN, fun H a b va vb d ra rb h => ?_⟩
    cases b <;> simp only [o2] at h <;> try cases h
    simp only [Rep] at rb; subst rb
    refine ⟨rfl, fun Q q => ⟨rfl, ?_⟩⟩
    rw [isNon_eq ra]
    exact q
  case isnN =>
    refine ⟨_, op_notN, fun H a b va vb d ra rb h => ?_⟩
    cases b <;> simp only [o2] at h <;> try cases h
    simp only [Rep] at rb; subst rb
    refine ⟨rfl, fun Q q => ⟨rfl, ?_⟩⟩
    rw [isNon_eq ra]
    exact q
  case isin =>
    refine ⟨_, op_in_sign.or ((op_inD hu).or (op_memT hu)), fun H a b va vb d ra rb h => ?_⟩
    simp only [o2, Option.map_eq_some_iff] at h
    obtain ⟨k, h, rfl⟩ := h
    refine ⟨rfl, fun Q q => ?_⟩
    cases b <;> simp only [isIn] at h <;> try cases h
    · cases a <;> simp only at h <;> try cases h
      simp only [Option.map_eq_some_iff] at h
      obtain ⟨c, hc, rfl⟩ := h
      simp only [Rep] at ra rb; subst ra; subst rb
      rw [sgn_eq hc]
      exact .inl ⟨_, _, rfl, rfl, q⟩
    · split at h
      · rename_i hz
        cases h
        have rb' := hk ▸ rb.dp (D.cmpE hz.2)
        rw [← any_pys] at q
        exact .inr (.inr ⟨_, _, hk ▸ ra.dp (D.cmpE hz.1), rb', hz.1, hz.2, by rw [Bool.false_bne]; exact q⟩)
      · cases h
    · split at h
      · rename_i hz
        cases h
        have rb' := hk ▸ rb.dp (D.cmpE hz.2)
        rw [← any_pys] at q
        exact .inr (.inl ⟨_, _, hk ▸ ra.dp (D.cmpE hz.1), rb', hz.1, hz.2, q⟩)
      · cases h
  case notin =>
    refine ⟨_, op_notIn_sign.or ((op_notInD hu).or (op_nmemT hu)), fun H a b va vb d ra rb h => ?_⟩
    simp only [o2, Option.map_eq_some_iff] at h
    obtain ⟨k, h, rfl⟩ := h
    refine ⟨rfl, fun Q q => ?_⟩
    cases b <;> simp only [isIn] at h <;> try cases h
    · cases a <;> simp only at h <;> try cases h
      simp only [Option.map_eq_some_iff] at h
      obtain ⟨c, hc, rfl⟩ := h
      simp only [Rep] at ra rb; subst ra; subst rb
      rw [sgn_eq hc]
      exact .inl ⟨_, _, rfl, rfl, q⟩
    · split at h
      · rename_i hz
        cases h
        have rb' := hk ▸ rb.dp (D.cmpE hz.2)
        rw [← any_pys] at q
        exact .inr (.inr ⟨_, _, hk ▸ ra.dp (D.cmpE hz.1), rb', hz.1, hz.2, by rw [Bool.true_bne]; exact q⟩)
      · cases h
    · split at h
      · rename_i hz
        cases h
        have rb' := hk ▸ rb.dp (D.cmpE hz.2)
        rw [← any_pys] at q
        exact .inr (.inl ⟨_, _, hk ▸ ra.dp (D.cmpE hz.1), rb', hz.1, hz.2, q⟩)
      · cases h
end DL
namespace DL
open PySem PySem.Spec L2

/-! ### expressions that make nothing: their result stands as it is -/
inductive B1 where
  | len | int | abs
  deriving DecidableEq
inductive B2 where
  | min | max
  deriving DecidableEq
inductive Ty where
  | int | bool | list | tuple | str | dict | cls (c : Nat)
  deriving DecidableEq
inductive P where
  | lit (d : D) | sl (i : Nat) | gl (x : Str) (d : D)
  | op (o : O2) (a b : P) | ch (o1 o2 : O2) (a b c : P) | neg (a : P) | not (a : P)
  | and (a b : P) | or (a b : P) | ife (c a b : P)
  | ix (a i : P) | b1 (b : B1) (a : P) | b2 (b : B2) (a c : P) | isi (a : P) (t : Ty)
  deriving Inhabited

def D.tru : D → Option Bool
  | .non => some false | .bl b => some b | .int i => some (i != 0)
  | .str s => if s.length ≤ sizeLine then some ((s.length : Int) != 0) else none
  | .tup xs => some (!xs.isEmpty) | .lst xs => some (!xs.isEmpty) | .dic ks _ => some (!ks.isEmpty)
  | .obj _ _ _ => none | .scr _ => none
def keyOf : D → Option Key
  | .int i => some (.inl i)
  | .str s => some (.inr s)
  | _ => none
def lookD {α : Type} : List Key → List α → Key → Option α
  | k :: ks, d :: ds, k' => if k = k' then some d else lookD ks ds k'
  | _, _, _ => none
/-- a thing's part: frozen of a frozen one -/
def ixT : T → D → Option T
  | .fz (.lst ds), .int i => (atI ds i).map T.fz
  | .fz (.tup ds), .int i => (atI ds i).map T.fz
  | .fz (.scr ns), .int i => (atI ns i).map fun n => T.fz (.int n)
  | .fz (.str z), .int i => if z.length ≤ sizeLine then (atI z.cps.toList i).map fun c => T.fz (.str ⟨#[c]⟩) else none
  | .fz (.dic ks ds), d => (keyOf d).bind fun k => (lookD ks ds k).map T.fz
  | .lst ts, .int i => atI ts i
  | .tup ts, .int i => atI ts i
  | .dic ks ts, d => (keyOf d).bind fun k => lookD ks ts k
  | _, _ => none
def b1D : B1 → D → Option D
  | .len, .str s => if s.length ≤ sizeLine then some (.int s.length) else none
  | .len, .lst xs => some (.int xs.length)
  | .len, .tup xs => some (.int xs.length)
  | .len, .dic ks _ => some (.int ks.length)
  | .len, .scr ns => some (.int ns.length)
  | .int, .int i => some (.int i)
  | .int, .bl b => some (.int (if b then 1 else 0))
  | .abs, .int i => some (.int (if i < 0 then -i else i))
  | _, _ => none
def b2D : B2 → D → D → Option D
  | .min, .int i, .int j => some (.int (if j < i then j else i))
  | .max, .int i, .int j => some (.int (if j > i then j else i))
  | _, _, _ => none
def Ty.nm : Ty → Str
  | .int => "int" | .bool => "bool" | .list => "list" | .tuple => "tuple" | .str => "str" | .dict => "dict" | .cls _ => ""
def isiD : Ty → D → Option Bool
  | .int, .int _ => some true | .int, .bl _ => some true
  | .bool, .bl _ => some true | .list, .lst _ => some true | .tuple, .tup _ => some true | .str, .str _ => some true | .dict, .dic _ _ => some true
  | .int, .non => some false | .int, .str _ => some false | .int, .lst _ => some false | .int, .tup _ => some false
  | .bool, .non => some false | .bool, .int _ => some false | .bool, .str _ => some false | .bool, .lst _ => some false | .bool, .tup _ => some false
  | .list, .non => some false | .list, .bl _ => some false | .list, .int _ => some false | .list, .str _ => some false | .list, .tup _ => some false
  | .tuple, .non => some false | .tuple, .bl _ => some false | .tuple, .int _ => some false | .tuple, .str _ => some false | .tuple, .lst _ => some false
  | .str, .non => some false | .str, .bl _ => some false | .str, .int _ => some false | .str, .lst _ => some false | .str, .tup _ => some false
  | .dict, .non => some false | .dict, .bl _ => some false | .dict, .int _ => some false | .dict, .str _ => some false | .dict, .lst _ => some false | .dict, .tup _ => some false
  | _, _ => none

def evP : P → Sl → Option T
  | .lit d, _ => some (.fz d)
  | .sl i, ρ => (ρ[i]?).bind id
  | .gl _ d, _ => some (.fz d)
  | .op o a b, ρ => (evP a ρ).bind fun x => (evP b ρ).bind fun y => (o2 o x.d y.d).map T.fz
  | .ch o1 o2' a b c, ρ => (evP a ρ).bind fun x => (evP b ρ).bind fun y => match o2 o1 x.d y.d with
    | some (.bl true) => (evP c ρ).bind fun z => (o2 o2' y.d z.d).map T.fz
    | some (.bl false) => some (.fz (.bl false))
    | _ => none
  | .neg a, ρ => match evP a ρ with
    | some (.fz (.int i)) => some (.fz (.int (-i)))
    | _ => none
  | .not a, ρ => (evP a ρ).bind fun x => x.d.tru.map fun k => .fz (.bl (!k))
  | .and a b, ρ => (evP a ρ).bind fun x => match x.d.tru with
    | some true => evP b ρ
    | some false => some x
    | none => none
  | .or a b, ρ => (evP a ρ).bind fun x => match x.d.tru with
    | some true => some x
    | some false => evP b ρ
    | none => none
  | .ife c a b, ρ => match evP c ρ with
    | none => none
    | some x => match x.d.tru with
      | some true => evP a ρ
      | some false => evP b ρ
      | none => none
  | .ix a i, ρ => (evP a ρ).bind fun x => (evP i ρ).bind fun y => ixT x y.d
  | .b1 b a, ρ => (evP a ρ).bind fun x => (b1D b x.d).map T.fz
  | .b2 b a c, ρ => (evP a ρ).bind fun x => (evP c ρ).bind fun y => (b2D b x.d y.d).map T.fz
  | .isi a t, ρ => (evP a ρ).bind fun x => (isiD t x.d).map fun k => .fz (.bl k)
/-- as a test -/
def evT : P → Sl → Option Bool
  | .not a, ρ => (evT a ρ).map fun k => !k
  | .and a b, ρ => match evT a ρ with
    | some true => evT b ρ
    | some false => some false
    | none => none
  | .or a b, ρ => match evT a ρ with
    | some true => some true
    | some false => evT b ρ
    | none => none
  | .ife c a b, ρ => match evT c ρ with
    | some true => evT a ρ
    | some false => evT b ρ
    | none => none
  | .op o a b, ρ => (evP (.op o a b) ρ).bind fun x => x.d.tru
  | .ch o1 o2 a b c, ρ => (evP (.ch o1 o2 a b c) ρ).bind fun x => x.d.tru
  | .lit d, ρ => (evP (.lit d) ρ).bind fun x => x.d.tru
  | .sl i, ρ => (evP (.sl i) ρ).bind fun x => x.d.tru
  | .gl x d, ρ => (evP (.gl x d) ρ).bind fun x => x.d.tru
  | .neg a, ρ => (evP (.neg a) ρ).bind fun x => x.d.tru
  | .ix a i, ρ => (evP (.ix a i) ρ).bind fun x => x.d.tru
  | .b1 b a, ρ => (evP (.b1 b a) ρ).bind fun x => x.d.tru
  | .b2 b a c, ρ => (evP (.b2 b a c) ρ).bind fun x => x.d.tru
  | .isi a t, ρ => (evP (.isi a t) ρ).bind fun x => x.d.tru
end DL
namespace DL
open PySem PySem.Spec L2

/-! ### values that the rules ask for -/
theorem ix_dict {X : Cx} (hu : X.A.units + 1 < cLine) : IxR X (fun x y H Q => ∃ a v, x = .ref a ∧ DGet H a y (some v) ∧ Q v H) := by
  intro value slice pins s σ H x y v u Q I rx ry h hs
  obtain ⟨a, w, rfl, g, q⟩ := h
  cases rx
  have hT := dict_typeIs I g
  unfold PyProof.Rows.subscriptTail
  refine wpAny_bind ?_
  rw [getitemInPython_of_ne hT.not_modules]
  refine wpAny_bind (wpAny_specialOf hT PySem.F.slot_dict_getitem.lookup ?_)
  have fin : wpAny (model X.prog X.w) X.A (subscripted slice false (.ref a) u) (fun r s₃ => wpAny (model X.prog X.w) X.A (letTemporaryGo value (.ref a) r >>= fun _ => pure r) (EP X pins σ Q) X.xe s₃) X.xe s := by
    rw [hs]
    exact wpAny_operating (d_getItem hu I g ry fun w' s3 I3 rw' => wpAny_bind (wpAny_letTemporaryGo (wpAny_pure ⟨w, H, I3, rw', q⟩)))
  first
    | exact wpAny_pure (wpAny_bind fin)
    | exact wpAny_bind (wpAny_pure (wpAny_bind fin))
    | exact wpAny_bind fin
theorem keyOf_kV {g : Gx} {H : Hp} {d : D} {v : V} {k : Key} (h : keyOf d = some k) (r : Rep g H d v) : v = kV k := by
  cases d <;> simp only [keyOf] at h <;> cases h <;> simp only [Rep] at r <;> exact r
theorem lookD_valV {α : Type} {k : Key} : ∀ {ks : List Key} {ds : List α} {vs : List V} {d : α} (R : α → V → Prop), lookD ks ds k = some d → (∀ (i : Nat) d, ds[i]? = some d → ∃ v, vs[i]? = some v ∧ R d v) → ks.length = vs.length → ∃ v, valV (ks.zip vs) k = some v ∧ R d v
  | [], _, _, _, _, h, _, _ => by simp [lookD] at h
  | _ :: _, [], _, _, _, h, _, _ => by simp [lookD] at h
  | k0 :: ks, d0 :: ds, [], _, _, _, _, l => by simp at l
  | k0 :: ks, d0 :: ds, v0 :: vs, d, R, h, r, l => by
    obtain ⟨v, e, q⟩ := r 0 d0 (by simp)
    simp at e
    subst e
    simp only [lookD] at h
    simp only [List.zip_cons_cons]
    by_cases z : k0 = k
    · rw [if_pos z] at h
      cases h
      exact ⟨v0, valV_pos z, q⟩
    · rw [if_neg z] at h
      rw [valV_neg z]
      exact lookD_valV R h (fun i d hd => by simpa using r (i + 1) d (by simpa using hd)) (by simpa using l)
theorem Reps.at_ {g : Gx} {H : Hp} : ∀ {ds : List D} {vs : List V}, Reps g H ds vs → ∀ (i : Nat) d, ds[i]? = some d → ∃ v, vs[i]? = some v ∧ Rep g H d v
  | [], _, _, i, _, h => by simp at h
  | d0 :: ds, _, r, i, d, h => by
    simp only [Reps] at r
    obtain ⟨v, vs', rfl, q, r⟩ := r
    cases i with
    | zero =>
      simp at h
      subst h
      exact ⟨v, by simp, q⟩
    | succ i =>
      obtain ⟨w, e, q⟩ := Reps.at_ r i d (by simpa using h)
      exact ⟨w, by simpa using e, q⟩
theorem RepTs.at_ {g : Gx} {Hs H : Hp} : ∀ {ds : List T} {vs : List V} {fp : List Addr}, RepTs g Hs H ds vs fp → ∀ (i : Nat) d, ds[i]? = some d → ∃ v, vs[i]? = some v ∧ ∃ f, RepT g Hs H d v f ∧ ∀ a ∈ f, a ∈ fp
  | [], _, _, _, i, _, h => by simp at h
  | d0 :: ds, _, _, r, i, d, h => by
    simp only [RepTs] at r
    obtain ⟨v, vs', f, f', rfl, ef, q, r⟩ := r
    cases i with
    | zero =>
      simp at h
      subst h
      exact ⟨v, by simp, f, q, fun a ha => by rw [ef]; simp [ha]⟩
    | succ i =>
      obtain ⟨w, e, f2, q, hs⟩ := RepTs.at_ r i d (by simpa using h)
      exact ⟨w, by simpa using e, f2, q, fun a ha => by rw [ef]; simp [hs a ha]⟩
theorem atI_rel {α : Type} {ds : List α} {vs : List V} {i : Int} {d : α} {R : α → V → Prop} (h : atI ds i = some d) (l : vs.length = ds.length) (r : ∀ (i : Nat) d, ds[i]? = some d → ∃ v, vs[i]? = some v ∧ R d v) : ∃ v, atI vs i = some v ∧ R d v := by
  unfold atI at h ⊢
  rw [l]
  cases e : ixN ds.length i with
  | none => rw [e] at h; cases h
  | some j =>
    rw [e] at h
    simp only [Option.bind_some] at h ⊢
    exact r j d h

theorem RepT_int {g : Gx} {Hs H : Hp} {n : Int} : RepT g Hs H (.fz (.int n)) (.int n) [] := by
  simp only [RepT, Rep]
  exact ⟨trivial, trivial⟩
/-- a subscript -/
theorem ixD {X : Cx} {g : Gx} (hk : g.K = X.K) (hu : X.A.units + 65 < cLine) : ∃ r : R2, IxR X r ∧ ∀ Hs H t d w va vb fp, Same Hs H → RepT g Hs H t va fp → Rep g H d vb → ixT t d = some w → ∀ Q : VK, (∀ v fp', RepT g Hs H w v fp' → (∀ a ∈ fp', a ∈ fp) → Q v H) → r va vb H Q := by
  refine ⟨_, ix_seq.or (ix_dict (by omega)), fun Hs H t d w va vb fp sm ra rb h Q q => ?_⟩
  unfold ixT at h
  split at h
  · rename_i ds i
    simp only [Rep] at rb
    subst rb
    simp only [Option.map_eq_some_iff] at h
    obtain ⟨d', h, rfl⟩ := h
    simp only [RepT, Rep] at ra
    obtain ⟨⟨a, vs, rfl, sq, rs⟩, rfl⟩ := ra
    obtain ⟨v, e, rv⟩ := atI_rel (R := fun d v => Rep g Hs d v) h rs.length rs.at_
    exact .inl (.inl ⟨a, vs, i, v, rfl, rfl, hk ▸ Same.sqL sm (.inl sq), e, q v [] (by simp only [RepT]; exact ⟨rv, trivial⟩) (fun _ z => nomatch z)⟩)
  · rename_i ds i
    simp only [Rep] at rb
    subst rb
    simp only [Option.map_eq_some_iff] at h
    obtain ⟨d', h, rfl⟩ := h
    simp only [RepT, Rep] at ra
    obtain ⟨⟨a, vs, rfl, sq, rs⟩, rfl⟩ := ra
    obtain ⟨v, e, rv⟩ := atI_rel (R := fun d v => Rep g Hs d v) h rs.length rs.at_
    exact .inl (.inr (.inl ⟨a, vs, i, v, rfl, rfl, hk ▸ Same.sqT sm sq, e, q v [] (by simp only [RepT]; exact ⟨rv, trivial⟩) (fun _ z => nomatch z)⟩))
  · rename_i ns i
    simp only [Rep] at rb
    subst rb
    simp only [Option.map_eq_some_iff] at h
    obtain ⟨d', h, rfl⟩ := h
    simp only [RepT, Rep] at ra
    obtain ⟨⟨a, rfl, sq⟩, rfl⟩ := ra
    have e : atI (ns.map V.int) i = some (.int d') := by
      unfold atI at h ⊢
      rw [List.length_map]
      simp only [Option.bind_eq_some_iff] at h ⊢
      obtain ⟨j, h1, h2⟩ := h
      exact ⟨j, h1, by rw [List.getElem?_map, h2]; rfl⟩
    exact .inl (.inl ⟨a, _, i, _, rfl, rfl, hk ▸ Same.sqL sm sq, e, q _ [] (RepT_int) (fun _ z => nomatch z)⟩)
  · rename_i z i
    simp only [Rep] at rb
    subst rb
    split at h
    · rename_i hz
      simp only [Option.map_eq_some_iff] at h
      obtain ⟨c, h, rfl⟩ := h
      simp only [RepT, Rep] at ra
      obtain ⟨rfl, rfl⟩ := ra
      exact .inl (.inr (.inr ⟨z, i, c, rfl, rfl, hz, h, q _ [] (by simp [RepT, Rep]) (fun _ z => nomatch z)⟩))
    · cases h
  · rename_i ks ds d
    simp only [Option.bind_eq_some_iff, Option.map_eq_some_iff] at h
    obtain ⟨k, hk', d', h, rfl⟩ := h
    simp only [RepT, Rep] at ra
    obtain ⟨⟨a, vs, rfl, sq, l, rs⟩, rfl⟩ := ra
    obtain ⟨v, e, rv⟩ := lookD_valV (fun d v => Rep g Hs d v) h rs.at_ l
    rw [keyOf_kV hk' rb]
    exact .inr ⟨a, v, rfl, .inl ⟨_, k, .inl (sm _ _ sq), rfl, e.symm⟩, q v [] (by simp only [RepT]; exact ⟨rv, trivial⟩) (fun _ z => nomatch z)⟩
  · rename_i ts i
    simp only [Rep] at rb
    subst rb
    simp only [RepT] at ra
    obtain ⟨a, vs, fp', rfl, sq, rfl, rs⟩ := ra
    obtain ⟨v, e, f, rv, hf⟩ := atI_rel (R := fun d v => ∃ f, RepT g Hs H d v f ∧ ∀ a ∈ f, a ∈ _) h rs.length rs.at_
    exact .inl (.inl ⟨a, vs, i, v, rfl, rfl, SqL.of sq, e, q v f rv fun b hb => by simp [hf b hb]⟩)
  · rename_i ts i
    simp only [Rep] at rb
    subst rb
    simp only [RepT] at ra
    obtain ⟨a, vs, rfl, sq, rs⟩ := ra
    obtain ⟨v, e, f, rv, hf⟩ := atI_rel (R := fun d v => ∃ f, RepT g Hs H d v f ∧ ∀ a ∈ f, a ∈ _) h rs.length rs.at_
    exact .inl (.inr (.inl ⟨a, vs, i, v, rfl, rfl, SqT.of (sm _ _ sq), e, q v f rv hf⟩))
  · rename_i ks ts d
    simp only [Option.bind_eq_some_iff] at h
    obtain ⟨k, hk', h⟩ := h
    simp only [RepT] at ra
    obtain ⟨a, vs, fp', rfl, sq, l, rfl, rs⟩ := ra
    obtain ⟨v, e, f, rv, hf⟩ := lookD_valV (fun d v => ∃ f, RepT g Hs H d v f ∧ ∀ a ∈ f, a ∈ _) h rs.at_ l
    rw [keyOf_kV hk' rb]
    exact .inr ⟨a, v, rfl, .inl ⟨_, k, .inl sq, rfl, e.symm⟩, q v f rv fun b hb => by simp [hf b hb]⟩
  · cases h
theorem isEmpty_len {α β : Type} {vs : List α} {xs : List β} (h : vs.length = xs.length) : vs.isEmpty = xs.isEmpty := by
  cases vs <;> cases xs <;> first | rfl | simp at h
theorem truD {X : Cx} {g : Gx} {H : Hp} {d : D} {v : V} {k : Bool} (hk : g.K = X.K) (r : Rep g H d v) (h : d.tru = some k) : TruV X.K v H k := by
  cases d <;> simp only [D.tru, Rep] at h r
  · cases h; subst r; rfl
  · cases h; subst r; rfl
  · cases h; subst r; rfl
  · split at h
    · rename_i hz
      cases h; subst r; exact ⟨hz, rfl⟩
    · cases h
  · cases h
    obtain ⟨a, vs, rfl, sq, rs⟩ := r
    have := rs.length
    exact .inr (.inl ⟨vs, hk ▸ sq, by rw [isEmpty_len rs.length]⟩)
  · cases h
    obtain ⟨a, vs, rfl, sq, rs⟩ := r
    have := rs.length
    exact .inl ⟨vs, .inl sq, by rw [isEmpty_len rs.length]⟩
  · cases h
    obtain ⟨a, vs, rfl, sq, l, rs⟩ := r
    rename_i ks ds
    refine .inr (.inr ⟨_, sq, ?_⟩)
    cases ks with
    | nil => rfl
    | cons k ks =>
      cases vs with
      | nil => simp at l
      | cons v vs => rfl
  · cases h
  · cases h
theorem b1R {X : Cx} {g : Gx} (hk : g.K = X.K) : ∀ b : B1, ∃ r : List V → Hp → VK → Prop, (match b with | .int => CallR X (.type "int") r | .len => CallR X (.builtin "len") r | .abs => CallR X (.builtin "abs") r) ∧
    ∀ H d v w, Rep g H d v → b1D b d = some w → w.atom = true ∧ ∀ Q : VK, Q w.at H → r [v] H Q := by
  intro b
  cases b
  · refine ⟨_, call_len.or call_lenD, fun H d v w r h => ?_⟩
    cases d <;> simp only [b1D, Rep] at h r <;> try cases h
    · split at h
      · rename_i hz
        cases h; subst r
        exact ⟨rfl, fun Q q => .inl ⟨_, _, rfl, ⟨hz, rfl⟩, q⟩⟩
      · cases h
    · obtain ⟨a, vs, rfl, sq, rs⟩ := r
      refine ⟨rfl, fun Q q => .inl ⟨_, _, rfl, .inr ⟨vs, hk ▸ sq, rfl⟩, ?_⟩⟩
      rw [rs.length]; exact q
    · obtain ⟨a, vs, rfl, sq, rs⟩ := r
      refine ⟨rfl, fun Q q => .inl ⟨_, _, rfl, .inl ⟨vs, .inl sq, rfl⟩, ?_⟩⟩
      rw [rs.length]; exact q
    · obtain ⟨a, vs, rfl, sq, l, rs⟩ := r
      refine ⟨rfl, fun Q q => .inr ⟨a, _, rfl, sq, ?_⟩⟩
      rw [List.length_zip, ← l, Nat.min_self]; exact q
    · obtain ⟨a, rfl, sq⟩ := r
      refine ⟨rfl, fun Q q => .inl ⟨_, _, rfl, .inl ⟨_, hk ▸ sq, rfl⟩, ?_⟩⟩
      rw [List.length_map]; exact q
  · refine ⟨_, call_int1, fun H d v w r h => ?_⟩
    cases d <;> simp only [b1D, Rep] at h r <;> try cases h
    · subst r; exact ⟨rfl, fun Q q => .inr ⟨_, rfl, q⟩⟩
    · subst r; exact ⟨rfl, fun Q q => .inl ⟨_, rfl, q⟩⟩
  · refine ⟨_, call_abs, fun H d v w r h => ?_⟩
    cases d <;> simp only [b1D, Rep] at h r <;> try cases h
    subst r; exact ⟨rfl, fun Q q => ⟨_, rfl, q⟩⟩
theorem b2R {X : Cx} {g : Gx} (hc : X.calm = true) : ∀ b : B2, ∃ r : List V → Hp → VK → Prop, CallR X (.builtin (match b with | .min => "min" | .max => "max")) r ∧
    ∀ H d d' v v' w, Rep g H d v → Rep g H d' v' → b2D b d d' = some w → w.atom = true ∧ ∀ Q : VK, Q w.at H → r [v, v'] H Q := by
  intro b
  cases b
  · refine ⟨_, call_min2 hc, fun H d d' v v' w r r' h => ?_⟩
    cases d <;> cases d' <;> simp only [b2D, Rep] at h r r' <;> try cases h
    subst r; subst r'; exact ⟨rfl, fun Q q => ⟨_, _, rfl, q⟩⟩
  · refine ⟨_, call_max2 hc, fun H d d' v v' w r r' h => ?_⟩
    cases d <;> cases d' <;> simp only [b2D, Rep] at h r r' <;> try cases h
    subst r; subst r'; exact ⟨rfl, fun Q q => ⟨_, _, rfl, q⟩⟩
end DL
namespace DL
open PySem PySem.Spec L2

/-! ### the text and the terms -/
structure Cxt where
  N : List Str
  look : List (Str × NameKind)
  con : List (Str × D)
  prot : List Nat
  blk : Option (List (Str × NameKind)) := none
def builtinNames : List Str := ["len", "int", "abs", "min", "max", "isinstance", "bool", "list", "tuple", "str", "dict", "range", "sorted", "set", "zip", "enumerate", "all", "any", "sum", "repr", "divmod", "ValueError", "reversed"]
/-- a def's body (or a block in it) runs, and the terms' context tells of it -/
def stoB (c : Cxt) (x : Str) : Bool := c.look.lookup x == some .local || (c.look.lookup x == some .cell && (match c.blk with
  | none => true
  | some ns => ns.lookup x == some .cell))
structure Cp (X : Cx) (g : Gx) (c : Cxt) : Prop where
  N : X.N = c.N
  nd : X.N.Nodup
  sc : ∀ x, X.env.scope.names.lookup x = c.look.lookup x
  calm : X.calm = true
  hk : g.K = X.K
  hu : X.A.units + 100 < cLine
  bn : ∀ x ∈ builtinNames, X.mg x = none
  kind : X.env.scope.kind = .function
  gd : X.A.guards = some []
  fn : ∀ x, stoB c x = true → X.fn x = true ∨ X.env.scope.names.lookup x = some .local
  con : ∀ p ∈ c.con, p.2.atom = true ∧ ∃ u, X.mg p.1 = some u ∧ RelV p.2.at u

def starB : Expr → Bool
  | .Starred _ _ => true
  | _ => false
theorem star_cons {e : Expr} {es : List Expr} {env : PySem.Env} (h : starB e = false) : starEach (e :: es) env = (false, eval e env) :: starEach es env := by
  cases e <;> first | rfl | simp [starB] at h
theorem star_none {es : List Expr} {env : PySem.Env} {pos : Pos} : (∀ e ∈ es, starB e = false) → (backTo pos (starEach es env)).any (·.1) = false := by
  induction es with
  | nil => intro _; rfl
  | cons e es ih =>
    intro h
    rw [star_cons (h e (by simp))]
    have := ih fun e' he => h e' (by simp [he])
    simp only [backTo, List.map_cons, List.any_cons, Bool.false_or]
    exact this
/-- an index that is no slice -/
def slB : Expr → Bool
  | .Slice _ _ _ _ => true
  | _ => false
theorem plainIx {b : Expr} (h : slB b = false) : PlainIx b := by
  intro o i
  cases b <;> first | rfl | simp [slB] at h
def setB : Expr → Bool
  | .Set _ _ _ => true
  | _ => false
theorem noMark {b : Expr} {op : CmpOp} (h : setB b = false) : behindInMarks op b = false := by
  cases b <;> first | rfl | simp [setB] at h
theorem noMark2 {b c : Expr} {op op' : CmpOp} (h : setB c = false) : lastMarks [op, op'] [b, c] = false := by
  simp only [lastMarks]
  exact noMark h

def glB (c : Cxt) (x : Str) : Bool := c.look.lookup x == some .globalImplicit
def visB (c : Cxt) (x : Str) : Bool := (match c.look.lookup x with
  | some .local => true | some .cell => true | some .free => true | _ => false) && x != "__debug__" && x != "__classdict__"
def sameD : D → D → Bool
  | .int i, .int j => i == j
  | .str i, .str j => i == j
  | .bl i, .bl j => i == j
  | .non, .non => true
  | _, _ => false
def litB : D → Const → Bool
  | .int i, .int j => i == j
  | .str i, .str j => i == j
  | .bl i, .bool j => i == j
  | .non, .none => true
  | _, _ => false
def B1.nm : B1 → Str
  | .len => "len" | .int => "int" | .abs => "abs"
def B2.nm : B2 → Str
  | .min => "min" | .max => "max"
def conB (c : Cxt) (x : Str) (d : D) : Bool := c.con.any fun p => p.1 == x && sameD p.2 d

def Ty.bi : Ty → Bool
  | .cls _ => false
  | _ => true
def mtP (c : Cxt) : P → Expr → Bool
  | .lit d, .Constant k _ _ => litB d k
  | .sl i, .Name x _ => c.N[i]? == some x && visB c x
  | .gl x d, .Name y _ => x == y && glB c x && x != "__debug__" && conB c x d
  | .op o a b, .BinOp e1 op e2 _ => o.bin == some op && mtP c a e1 && mtP c b e2
  | .op o a b, .Compare e1 [op] [e2] _ => o.bin == none && o.cmp == some op && !setB e2 && mtP c a e1 && mtP c b e2
  | .ch o1 o2 a b d, .Compare e1 [op, op'] [e2, e3] _ => o1.bin == none && o2.bin == none && o1.cmp == some op && o2.cmp == some op' && !setB e3 && mtP c a e1 && mtP c b e2 && mtP c d e3
  | .neg a, .UnaryOp .USub e _ => mtP c a e
  | .not a, .UnaryOp .Not e _ => mtP c a e
  | .and a b, .BoolOp .And [e1, e2] _ => mtP c a e1 && mtP c b e2
  | .and a b, .BoolOp .And (e1 :: e2 :: e3 :: es) pos => mtP c a e1 && mtP c b (.BoolOp .And (e2 :: e3 :: es) pos)
  | .or a b, .BoolOp .Or [e1, e2] _ => mtP c a e1 && mtP c b e2
  | .or a b, .BoolOp .Or (e1 :: e2 :: e3 :: es) pos => mtP c a e1 && mtP c b (.BoolOp .Or (e2 :: e3 :: es) pos)
  | .ife t a b, .IfExp e1 e2 e3 _ => mtP c t e1 && mtP c a e2 && mtP c b e3
  | .ix a i, .Subscript e1 e2 _ => !slB e2 && mtP c a e1 && mtP c i e2
  | .b1 b a, .Call (.Name f _) [e] [] _ => f == b.nm && glB c f && !starB e && mtP c a e
  | .b2 b a d, .Call (.Name f _) [e, e'] [] _ => f == b.nm && glB c f && !starB e && !starB e' && mtP c a e && mtP c d e'
  | .isi a t, .Call (.Name f _) [e, .Name y _] [] _ => f == ("isinstance" : Str) && glB c f && !starB e && y == t.nm && glB c y && t.bi && mtP c a e
  | _, _ => false

/-- the slots as they may be read -/
structure View (g : Gx) (Hs H : Hp) (O : Addr → Prop) (ρ : Sl) (σ : L2.St) : Prop where
  sub : Same Hs H
  at_ : ∀ (i : Nat) t, ρ[i]? = some (some t) → ∃ v fp, σ[i]? = some (some v) ∧ RepT g Hs H t v fp ∧ ∀ a ∈ fp, O a
theorem RepE.view {g : Gx} {ρ : Sl} {σ : L2.St} {H Hs : Hp} {fs : List Addr} (s : Same Hs H) (r : RepE g Hs H ρ σ fs) : View g Hs H (· ∈ fs) ρ σ :=
  ⟨s, fun i t h => by
    obtain ⟨v, f, h1, h2, h3⟩ := r.get h
    exact ⟨v, f, h1, h2, fun a ha => List.count_pos_iff.mp (Nat.lt_of_lt_of_le (List.count_pos_iff.mpr ha) (h3 a))⟩⟩
theorem Ok.view {g : Gx} {e : Fr0} {ρ : Sl} {τ : Tm} {σ : L2.St} {H Hs : Hp} (o : Ok g e ρ τ σ H Hs) : ∃ O, View g Hs H O ρ σ := by
  obtain ⟨fs, ft, r1, _⟩ := o.own
  exact ⟨_, r1.view o.sub⟩
structure RepB (g : Gx) (Hs H : Hp) (O : Addr → Prop) (t : T) (v : V) (fp : List Addr) : Prop where
  r : RepT g Hs H t v fp
  o : ∀ a ∈ fp, O a
def PJ (X : Cx) (g : Gx) (f : Sl → Option T) (ex : Expr) : Prop :=
  ∃ te, PE X ex te ∧ ∀ ρ σ H Hs O t, View g Hs H O ρ σ → f ρ = some t → ∀ Q : VK, (∀ v fp, RepB g Hs H O t v fp → Q v H) → te σ H Q
def TJ (X : Cx) (g : Gx) (f : Sl → Option Bool) (ex : Expr) : Prop :=
  ∃ tt, PT X ex tt ∧ ∀ ρ σ H Hs O b, View g Hs H O ρ σ → f ρ = some b → ∀ Q : Bool → Hp → Prop, Q b H → tt σ H Q
def WJ (X : Cx) (g : Gx) (f : Sl → Option Bool) (ex : Expr) : Prop :=
  ∃ tt, PW X ex tt ∧ ∀ ρ σ H Hs O b, View g Hs H O ρ σ → f ρ = some b → ∀ Q : Bool → Hp → Prop, Q b H → tt σ H Q
theorem WJ.t {X : Cx} {g : Gx} {f : Sl → Option Bool} {ex : Expr} (h : WJ X g f ex) : TJ X g f ex := let ⟨tt, w, r⟩ := h; ⟨tt, w.pt, r⟩
/-- a test by the truth of a value -/
theorem PJ.t {X : Cx} {g : Gx} {f : Sl → Option T} {ex : Expr} (hk : g.K = X.K) (h : PJ X g f ex) (he : ∀ whole, isTrue ex X.env whole = (do let v ← whole; standAt ex.pos; holding [v] (truthy v))) : TJ X g (fun ρ => (f ρ).bind fun x => x.d.tru) ex := by
  obtain ⟨te, p, r⟩ := h
  refine ⟨_, pt_truth p he, fun ρ σ H Hs O b vw hf Q q => ?_⟩
  simp only [Option.bind_eq_some_iff] at hf
  obtain ⟨t, h1, h2⟩ := hf
  exact r ρ σ H Hs O t vw h1 _ fun v fp rv => ⟨b, truD hk (rv.r.now vw.sub) h2, q⟩
theorem o2_cmp {o : O2} {a b d : D} (ho : o.bin = none) (h : o2 o a b = some d) : ∃ k, d = .bl k := by
  cases o <;> simp only [O2.bin, reduceCtorEq] at ho
  all_goals (cases a <;> cases b <;> simp only [o2, isIn] at h)
  all_goals first
    | (cases h; done)
    | (cases h; exact ⟨_, rfl⟩)
    | (split at h <;> first | (cases h; exact ⟨_, rfl⟩) | (cases h; done))
    | (simp only [Option.map_eq_some_iff] at h
       obtain ⟨k, _, rfl⟩ := h
       exact ⟨_, rfl⟩)
end DL
namespace DL
open PySem PySem.Spec L2

section
variable {X : Cx} {g : Gx} {c : Cxt}
theorem RepT.fz {Hs H : Hp} {d : D} {v : V} (r : Rep g Hs d v) : RepT g Hs H (.fz d) v [] := by
  simp only [RepT]
  exact ⟨r, trivial⟩
theorem RepB.fz {Hs H : Hp} {O : Addr → Prop} {d : D} {v : V} (r : Rep g Hs d v) : RepB g Hs H O (.fz d) v [] := ⟨RepT.fz r, fun _ z => nomatch z⟩
theorem Cp.vis (k : Cp X g c) {x : Str} (h : visB c x = true) : Vis X.env.scope x ∧ (x == ("__debug__" : Str)) = false ∧ (x == ("__classdict__" : Str)) = false := by
  unfold visB at h
  simp only [Bool.and_eq_true, bne, Bool.not_eq_true'] at h
  obtain ⟨⟨h1, h2⟩, h3⟩ := h
  refine ⟨?_, h2, h3⟩
  unfold Vis
  rw [k.sc]
  split at h1
  · rename_i e; exact .inl e
  · rename_i e; exact .inr (.inl e)
  · rename_i e; exact .inr (.inr e)
  · cases h1
theorem Cp.gl (k : Cp X g c) {x : Str} (h : glB c x = true) : Gl X x := by
  unfold glB at h
  unfold Gl PySem.Env.kindOf
  rw [k.sc]
  exact beq_iff_eq.mp h
theorem sameD_eq {a b : D} (h : sameD a b = true) : a = b := by
  cases a <;> cases b <;> simp only [sameD, beq_iff_eq] at h <;> first | (subst h; rfl) | rfl | (cases h; done)

theorem pj_lit {d : D} {k : Const} {j : Nat} {pos : Pos} (h : litB d k = true) : PJ X g (evP (.lit d)) (.Constant k j pos) := by
  cases d <;> cases k <;> simp only [litB, beq_iff_eq] at h <;> (try (cases h; done))
  · exact ⟨_, pe_non, fun ρ σ H Hs O t vw hf Q q => by cases hf; exact q _ [] (RepB.fz (by simp only [Rep]))⟩
  · subst h; exact ⟨_, pe_bl, fun ρ σ H Hs O t vw hf Q q => by cases hf; exact q _ [] (RepB.fz (by simp only [Rep]))⟩
  · subst h; exact ⟨_, pe_int, fun ρ σ H Hs O t vw hf Q q => by cases hf; exact q _ [] (RepB.fz (by simp only [Rep]))⟩
  · subst h; exact ⟨_, pe_str, fun ρ σ H Hs O t vw hf Q q => by cases hf; exact q _ [] (RepB.fz (by simp only [Rep]))⟩
theorem pj_sl (k : Cp X g c) {i : Nat} {x : Str} {pos : Pos} (h1 : c.N[i]? = some x) (h2 : visB c x = true) : PJ X g (evP (.sl i)) (.Name x pos) := by
  obtain ⟨v1, v2, v3⟩ := k.vis h2
  refine ⟨_, pe_var (i := i) (by rw [k.N]; exact h1) v1 v2 v3, fun ρ σ H Hs O t vw hf Q q => ?_⟩
  have hf' : ρ[i]? = some (some t) := by
    simp only [evP] at hf
    cases e : ρ[i]? with
    | none => rw [e] at hf; cases hf
    | some o => rw [e] at hf; exact congrArg some hf
  obtain ⟨v, fp, h1, h2, h3⟩ := vw.at_ i t hf'
  exact ⟨v, h1, q v fp ⟨h2, h3⟩⟩
theorem pj_gl (k : Cp X g c) {x : Str} {d : D} {pos : Pos} (h1 : glB c x = true) (h2 : (x == ("__debug__" : Str)) = false) (h3 : conB c x d = true) : PJ X g (evP (.gl x d)) (.Name x pos) := by
  unfold conB at h3
  rw [List.any_eq_true] at h3
  obtain ⟨p, hp, h3⟩ := h3
  rw [Bool.and_eq_true] at h3
  obtain ⟨e1, e2⟩ := h3
  have e1 := beq_iff_eq.mp e1
  have e2 := sameD_eq e2
  obtain ⟨ha, u, hm, hr⟩ := k.con p hp
  rw [e1] at hm
  rw [e2] at hr ha
  exact ⟨_, pe_glob (k.gl h1) hm hr h2, fun ρ σ H Hs O t vw hf Q q => by cases hf; exact q _ [] (RepB.fz (Rep.at ha))⟩
theorem pj_bin (k : Cp X g c) {o : O2} {op : Operator} {a b : Sl → Option T} {e1 e2 : Expr} {pos : Pos} (ho : o.bin = some op) (ha : PJ X g a e1) (hb : PJ X g b e2) :
    PJ X g (fun ρ => (a ρ).bind fun x => (b ρ).bind fun y => (o2 o x.d y.d).map T.fz) (.BinOp e1 op e2 pos) := by
  obtain ⟨ta, pa, ra⟩ := ha
  obtain ⟨tb, pb, rb⟩ := hb
  obtain ⟨r, hr, rr⟩ := opD (X := X) k.hk (by have := k.hu; omega) o
  have hf : o.f = binaryOp op := by unfold O2.f; rw [ho]
  rw [hf] at hr
  refine ⟨_, pe_op hr pa pb, fun ρ σ H Hs O t vw h Q q => ?_⟩
  simp only [Option.bind_eq_some_iff, Option.map_eq_some_iff] at h
  obtain ⟨x, hx, y, hy, d, hd, rfl⟩ := h
  refine ra ρ σ H Hs O x vw hx _ fun v fp r1 => rb ρ σ H Hs O y vw hy _ fun w fp' r2 => ?_
  obtain ⟨h1, h2⟩ := rr H _ _ v w d (r1.r.now vw.sub) (r2.r.now vw.sub) hd
  exact h2 Q (q _ [] (RepB.fz (Rep.at h1)))
theorem pj_cmp (k : Cp X g c) {o : O2} {op : CmpOp} {a b : Sl → Option T} {e1 e2 : Expr} {pos : Pos} (hn : o.bin = none) (ho : o.cmp = some op) (hs : setB e2 = false) (ha : PJ X g a e1) (hb : PJ X g b e2) :
    PJ X g (fun ρ => (a ρ).bind fun x => (b ρ).bind fun y => (o2 o x.d y.d).map T.fz) (.Compare e1 [op] [e2] pos) ∧
    TJ X g (fun ρ => ((a ρ).bind fun x => (b ρ).bind fun y => (o2 o x.d y.d).map T.fz).bind fun x => x.d.tru) (.Compare e1 [op] [e2] pos) := by
  obtain ⟨ta, pa, ra⟩ := ha
  obtain ⟨tb, pb, rb⟩ := hb
  obtain ⟨r, hr, rr⟩ := opD (X := X) k.hk (by have := k.hu; omega) o
  have hf : o.f = compareOp op := by unfold O2.f; rw [hn, ho]; rfl
  rw [hf] at hr
  constructor
  · refine ⟨_, pe_cmpR hr pa pb (noMark hs), fun ρ σ H Hs O t vw h Q q => ?_⟩
    simp only [Option.bind_eq_some_iff, Option.map_eq_some_iff] at h
    obtain ⟨x, hx, y, hy, d, hd, rfl⟩ := h
    refine ra ρ σ H Hs O x vw hx _ fun v fp r1 => rb ρ σ H Hs O y vw hy _ fun w fp' r2 => ?_
    obtain ⟨h1, h2⟩ := rr H _ _ v w d (r1.r.now vw.sub) (r2.r.now vw.sub) hd
    exact h2 Q (q _ [] (RepB.fz (Rep.at h1)))
  · refine ⟨_, pt_cmpR hr pa pb (noMark hs), fun ρ σ H Hs O t vw h Q q => ?_⟩
    simp only [Option.bind_eq_some_iff, Option.map_eq_some_iff] at h
    obtain ⟨z, ⟨x, hx, y, hy, d, hd, rfl⟩, ht⟩ := h
    refine ra ρ σ H Hs O x vw hx _ fun v fp r1 => rb ρ σ H Hs O y vw hy _ fun w fp' r2 => ?_
    obtain ⟨h1, h2⟩ := rr H _ _ v w d (r1.r.now vw.sub) (r2.r.now vw.sub) hd
    obtain ⟨kb, rfl⟩ := o2_cmp hn hd
    cases ht
    exact h2 _ ⟨_, rfl, q⟩
theorem pj_ch (k : Cp X g c) {o o' : O2} {op op' : CmpOp} {a b d : Sl → Option T} {e1 e2 e3 : Expr} {pos : Pos} (hn : o.bin = none) (hn' : o'.bin = none) (ho : o.cmp = some op) (ho' : o'.cmp = some op') (hs : setB e3 = false) (ha : PJ X g a e1) (hb : PJ X g b e2) (hd : PJ X g d e3) :
    PJ X g (fun ρ => (a ρ).bind fun x => (b ρ).bind fun y => match o2 o x.d y.d with
      | some (.bl true) => (d ρ).bind fun z => (o2 o' y.d z.d).map T.fz
      | some (.bl false) => some (.fz (.bl false))
      | _ => none) (.Compare e1 [op, op'] [e2, e3] pos) ∧
    TJ X g (fun ρ => ((a ρ).bind fun x => (b ρ).bind fun y => match o2 o x.d y.d with
      | some (.bl true) => (d ρ).bind fun z => (o2 o' y.d z.d).map T.fz
      | some (.bl false) => some (.fz (.bl false))
      | _ => none).bind fun x => x.d.tru) (.Compare e1 [op, op'] [e2, e3] pos) := by
  obtain ⟨ta, pa, ra⟩ := ha
  obtain ⟨tb, pb, rb⟩ := hb
  obtain ⟨td, pd, rd⟩ := hd
  obtain ⟨r, hr, rr⟩ := opD (X := X) k.hk (by have := k.hu; omega) o
  obtain ⟨r', hr', rr'⟩ := opD (X := X) k.hk (by have := k.hu; omega) o'
  have hf : o.f = compareOp op := by unfold O2.f; rw [hn, ho]; rfl
  have hf' : o'.f = compareOp op' := by unfold O2.f; rw [hn', ho']; rfl
  rw [hf] at hr
  rw [hf'] at hr'
  have key : ∀ (ρ : Sl) (σ : L2.St) (H Hs : Hp) (O : Addr → Prop) (t : T), View g Hs H O ρ σ → ((a ρ).bind fun x => (b ρ).bind fun y => match o2 o x.d y.d with
      | some (.bl true) => (d ρ).bind fun z => (o2 o' y.d z.d).map T.fz
      | some (.bl false) => some (.fz (.bl false))
      | _ => none) = some t → ∃ kb, t = .fz (.bl kb) ∧ ∀ Q : VK, Q (.bl kb) H → tChain r r' ta tb td σ H Q := by
    intro ρ σ H Hs O t vw h
    simp only [Option.bind_eq_some_iff] at h
    obtain ⟨x, hx, y, hy, h⟩ := h
    split at h
    · rename_i e
      simp only [Option.bind_eq_some_iff, Option.map_eq_some_iff] at h
      obtain ⟨z, hz, dd, hd, rfl⟩ := h
      obtain ⟨kb, rfl⟩ := o2_cmp hn' hd
      refine ⟨kb, rfl, fun Q q => ?_⟩
      refine ra ρ σ H Hs O x vw hx _ fun v fp r1 => rb ρ σ H Hs O y vw hy _ fun w fp' r2 => ?_
      obtain ⟨h1, h2⟩ := rr H _ _ v w _ (r1.r.now vw.sub) (r2.r.now vw.sub) e
      refine h2 _ ⟨true, rfl, iteT (rd ρ σ H Hs O z vw hz _ fun w' fp'' r3 => ?_)⟩
      obtain ⟨h3, h4⟩ := rr' H _ _ w w' _ (r2.r.now vw.sub) (r3.r.now vw.sub) hd
      exact h4 Q q
    · rename_i e
      cases h
      refine ⟨false, rfl, fun Q q => ?_⟩
      refine ra ρ σ H Hs O x vw hx _ fun v fp r1 => rb ρ σ H Hs O y vw hy _ fun w fp' r2 => ?_
      obtain ⟨h1, h2⟩ := rr H _ _ v w _ (r1.r.now vw.sub) (r2.r.now vw.sub) e
      exact h2 _ ⟨false, rfl, iteF q⟩
    · cases h
  constructor
  · refine ⟨_, pe_chain hr hr' pa pb pd (noMark2 hs), fun ρ σ H Hs O t vw h Q q => ?_⟩
    obtain ⟨kb, rfl, hq⟩ := key ρ σ H Hs O t vw h
    exact hq Q (q _ [] (RepB.fz (by simp only [Rep])))
  · refine ⟨_, pt_chain hr hr' pa pb pd (noMark2 hs), fun ρ σ H Hs O t vw h Q q => ?_⟩
    rw [Option.bind_eq_some_iff] at h
    obtain ⟨x, hx, ht⟩ := h
    obtain ⟨kb, rfl, hq⟩ := key ρ σ H Hs O x vw hx
    cases ht
    exact hq _ ⟨_, rfl, q⟩
theorem pj_not {a : Sl → Option T} {e : Expr} {pos : Pos} (k : Cp X g c) (ha : PJ X g a e) : PJ X g (fun ρ => (a ρ).bind fun x => x.d.tru.map fun k => .fz (.bl (!k))) (.UnaryOp .Not e pos) := by
  obtain ⟨ta, pa, ra⟩ := ha
  refine ⟨_, pe_notT pa, fun ρ σ H Hs O t vw h Q q => ?_⟩
  simp only [Option.bind_eq_some_iff, Option.map_eq_some_iff] at h
  obtain ⟨x, hx, kb, hb, rfl⟩ := h
  refine ra ρ σ H Hs O x vw hx _ fun v fp r1 => ?_
  exact ⟨kb, truD k.hk (r1.r.now vw.sub) hb, q _ [] (RepB.fz (by simp only [Rep]))⟩
theorem tj_not {a : Sl → Option Bool} {e : Expr} {pos : Pos} (ha : TJ X g a e) : TJ X g (fun ρ => (a ρ).map fun k => !k) (.UnaryOp .Not e pos) := by
  obtain ⟨ta, pa, ra⟩ := ha
  refine ⟨_, pt_not pa, fun ρ σ H Hs O t vw h Q q => ?_⟩
  simp only [Option.map_eq_some_iff] at h
  obtain ⟨x, hx, rfl⟩ := h
  exact ra ρ σ H Hs O x vw hx _ q
theorem pj_and {a b : Sl → Option T} {e1 e2 : Expr} {es : List Expr} {pos : Pos} (k : Cp X g c) (ha : PJ X g a e1) (hb : PJ X g b (.BoolOp .And (e2 :: es) pos)) :
    PJ X g (fun ρ => (a ρ).bind fun x => match x.d.tru with
      | some true => b ρ
      | some false => some x
      | none => none) (.BoolOp .And (e1 :: e2 :: es) pos) := by
  obtain ⟨ta, pa, ra⟩ := ha
  obtain ⟨tb, pb, rb⟩ := hb
  refine ⟨_, pe_andT pa pb, fun ρ σ H Hs O t vw h Q q => ?_⟩
  simp only [Option.bind_eq_some_iff] at h
  obtain ⟨x, hx, h⟩ := h
  refine ra ρ σ H Hs O x vw hx _ fun v fp r1 => ?_
  split at h
  · rename_i e
    exact ⟨true, truD k.hk (r1.r.now vw.sub) e, iteT (rb ρ σ H Hs O t vw h Q q)⟩
  · rename_i e
    cases h
    exact ⟨false, truD k.hk (r1.r.now vw.sub) e, iteF (q v fp r1)⟩
  · cases h
theorem pj_or {a b : Sl → Option T} {e1 e2 : Expr} {es : List Expr} {pos : Pos} (k : Cp X g c) (ha : PJ X g a e1) (hb : PJ X g b (.BoolOp .Or (e2 :: es) pos)) :
    PJ X g (fun ρ => (a ρ).bind fun x => match x.d.tru with
      | some true => some x
      | some false => b ρ
      | none => none) (.BoolOp .Or (e1 :: e2 :: es) pos) := by
  obtain ⟨ta, pa, ra⟩ := ha
  obtain ⟨tb, pb, rb⟩ := hb
  refine ⟨_, pe_orT pa pb, fun ρ σ H Hs O t vw h Q q => ?_⟩
  simp only [Option.bind_eq_some_iff] at h
  obtain ⟨x, hx, h⟩ := h
  refine ra ρ σ H Hs O x vw hx _ fun v fp r1 => ?_
  split at h
  · rename_i e
    cases h
    exact ⟨true, truD k.hk (r1.r.now vw.sub) e, iteT (q v fp r1)⟩
  · rename_i e
    exact ⟨false, truD k.hk (r1.r.now vw.sub) e, iteF (rb ρ σ H Hs O t vw h Q q)⟩
  · cases h
theorem wj_and1 {a : Sl → Option Bool} {e : Expr} {pos : Pos} (ha : TJ X g a e) : WJ X g a (.BoolOp .And [e] pos) := let ⟨ta, pa, ra⟩ := ha; ⟨ta, pw_and1 pa, ra⟩
theorem wj_or1 {a : Sl → Option Bool} {e : Expr} {pos : Pos} (ha : TJ X g a e) : WJ X g a (.BoolOp .Or [e] pos) := let ⟨ta, pa, ra⟩ := ha; ⟨ta, pw_or1 pa, ra⟩
theorem wj_and {a b : Sl → Option Bool} {e1 e2 : Expr} {es : List Expr} {pos : Pos} (ha : TJ X g a e1) (hb : WJ X g b (.BoolOp .And (e2 :: es) pos)) :
    WJ X g (fun ρ => match a ρ with
      | some true => b ρ
      | some false => some false
      | none => none) (.BoolOp .And (e1 :: e2 :: es) pos) := by
  obtain ⟨ta, pa, ra⟩ := ha
  obtain ⟨tb, pb, rb⟩ := hb
  refine ⟨_, pw_and pa pb, fun ρ σ H Hs O t vw h Q q => ?_⟩
  simp only at h
  split at h
  · rename_i e
    exact ra ρ σ H Hs O true vw e _ (iteT (rb ρ σ H Hs O t vw h Q q))
  · rename_i e
    cases h
    exact ra ρ σ H Hs O false vw e _ (iteF q)
  · cases h
theorem wj_or {a b : Sl → Option Bool} {e1 e2 : Expr} {es : List Expr} {pos : Pos} (ha : TJ X g a e1) (hb : WJ X g b (.BoolOp .Or (e2 :: es) pos)) :
    WJ X g (fun ρ => match a ρ with
      | some true => some true
      | some false => b ρ
      | none => none) (.BoolOp .Or (e1 :: e2 :: es) pos) := by
  obtain ⟨ta, pa, ra⟩ := ha
  obtain ⟨tb, pb, rb⟩ := hb
  refine ⟨_, pw_or pa pb, fun ρ σ H Hs O t vw h Q q => ?_⟩
  simp only at h
  split at h
  · rename_i e
    cases h
    exact ra ρ σ H Hs O true vw e _ (iteT q)
  · rename_i e
    exact ra ρ σ H Hs O false vw e _ (iteF (rb ρ σ H Hs O t vw h Q q))
  · cases h
theorem pj_ife {t a b : Sl → Option T} {tb' : Sl → Option Bool} {e1 e2 e3 : Expr} {pos : Pos} (ht : TJ X g tb' e1) (htb : ∀ ρ x k, t ρ = some x → x.d.tru = some k → tb' ρ = some k) (ha : PJ X g a e2) (hb : PJ X g b e3) :
    PJ X g (fun ρ => match t ρ with
      | none => none
      | some x => match x.d.tru with
        | some true => a ρ
        | some false => b ρ
        | none => none) (.IfExp e1 e2 e3 pos) := by
  obtain ⟨tt, pt, rt⟩ := ht
  obtain ⟨ta, pa, ra⟩ := ha
  obtain ⟨tb, pb, rb⟩ := hb
  refine ⟨_, pe_ifExp pt pa pb, fun ρ σ H Hs O z vw h Q q => ?_⟩
  simp only at h
  split at h
  · cases h
  · rename_i x hx
    split at h
    · rename_i e
      exact rt ρ σ H Hs O true vw (htb ρ x _ hx e) _ (iteT (ra ρ σ H Hs O z vw h Q q))
    · rename_i e
      exact rt ρ σ H Hs O false vw (htb ρ x _ hx e) _ (iteF (rb ρ σ H Hs O z vw h Q q))
    · cases h
theorem pj_ix (k : Cp X g c) {a i : Sl → Option T} {e1 e2 : Expr} {pos : Pos} (hs : slB e2 = false) (ha : PJ X g a e1) (hi : PJ X g i e2) :
    PJ X g (fun ρ => (a ρ).bind fun x => (i ρ).bind fun y => ixT x y.d) (.Subscript e1 e2 pos) := by
  obtain ⟨ta, pa, ra⟩ := ha
  obtain ⟨tb, pb, rb⟩ := hi
  obtain ⟨r, hr, rr⟩ := ixD (X := X) k.hk (by have := k.hu; omega)
  refine ⟨_, pe_ix hr pa pb (plainIx hs), fun ρ σ H Hs O t vw h Q q => ?_⟩
  simp only [Option.bind_eq_some_iff] at h
  obtain ⟨x, hx, y, hy, h⟩ := h
  exact ra ρ σ H Hs O x vw hx _ fun v fp r1 => rb ρ σ H Hs O y vw hy _ fun w fp' r2 => rr Hs H x y.d t v w fp vw.sub r1.r (r2.r.now vw.sub) h Q fun v' fp'' rv hv => q v' fp'' ⟨rv, fun a ha => r1.o a (hv a ha)⟩
theorem pj_neg {a : P} {e : Expr} {pos : Pos} (ha : PJ X g (evP a) e) : PJ X g (evP (.neg a)) (.UnaryOp .USub e pos) := by
  obtain ⟨ta, pa, ra⟩ := ha
  refine ⟨_, pe_un un_neg pa, fun ρ σ H Hs O t vw h Q q => ?_⟩
  simp only [evP] at h
  split at h
  · rename_i i e
    cases h
    refine ra ρ σ H Hs O _ vw e _ fun v fp r1 => ?_
    have r1 := r1.r
    simp only [RepT, Rep] at r1
    exact ⟨i, r1.1, q _ [] (RepB.fz (by simp only [Rep]))⟩
  · cases h
theorem pa_one {ta : TE} {e : Expr} (pa : PE X e ta) (hs : starB e = false) : PA X [e] (tCons ta tNil) := pa_cons pa pa_nil (star_cons hs)
theorem pj_b1 (k : Cp X g c) {b : B1} {a : Sl → Option T} {f : Str} {e : Expr} {p pos : Pos} (hf : f = b.nm) (hg : glB c f = true) (hs : starB e = false) (ha : PJ X g a e) :
    PJ X g (fun ρ => (a ρ).bind fun x => (b1D b x.d).map T.fz) (.Call (.Name f p) [e] [] pos) := by
  obtain ⟨ta, pa, ra⟩ := ha
  obtain ⟨r, hr, rr⟩ := b1R (X := X) k.hk b
  have main : ∀ ρ σ H Hs O t, View g Hs H O ρ σ → ((a ρ).bind fun x => (b1D b x.d).map T.fz) = some t → ∀ Q : VK, (∀ v fp, RepB g Hs H O t v fp → Q v H) → tCB r (tCons ta tNil) σ H Q := fun ρ σ H Hs O t vw h Q q => by
    simp only [Option.bind_eq_some_iff, Option.map_eq_some_iff] at h
    obtain ⟨x, hx, d, hd, rfl⟩ := h
    refine ra ρ σ H Hs O x vw hx _ fun v fp r1 => ?_
    obtain ⟨h1, h2⟩ := rr H x.d v d (r1.r.now vw.sub) hd
    exact h2 Q (q _ [] (RepB.fz (Rep.at h1)))
  subst hf
  cases b
  · exact ⟨_, pe_callB hr (k.gl hg) (k.bn _ (by decide)) PySem.boot_len (pa_one pa hs) (by decide) (by decide) (star_cons hs) (by rfl), main⟩
  · exact ⟨_, pe_callTy hr (k.gl hg) (k.bn _ (by decide)) (by decide +kernel) (pa_one pa hs) (by decide) (by decide) (star_cons hs) (by rfl), main⟩
  · exact ⟨_, pe_callB hr (k.gl hg) (k.bn _ (by decide)) (by decide +kernel) (pa_one pa hs) (by decide) (by decide) (star_cons hs) (by rfl), main⟩
theorem pa_two {ta tb : TE} {e e' : Expr} (pa : PE X e ta) (pb : PE X e' tb) (hs : starB e = false) (hs' : starB e' = false) : PA X [e, e'] (tCons ta (tCons tb tNil)) := pa_cons pa (pa_one pb hs') (star_cons hs)
theorem pj_b2 (k : Cp X g c) {b : B2} {a d : Sl → Option T} {f : Str} {e e' : Expr} {p pos : Pos} (hf : f = b.nm) (hg : glB c f = true) (hs : starB e = false) (hs' : starB e' = false) (ha : PJ X g a e) (hd : PJ X g d e') :
    PJ X g (fun ρ => (a ρ).bind fun x => (d ρ).bind fun y => (b2D b x.d y.d).map T.fz) (.Call (.Name f p) [e, e'] [] pos) := by
  obtain ⟨ta, pa, ra⟩ := ha
  obtain ⟨tb, pb, rb⟩ := hd
  obtain ⟨r, hr, rr⟩ := b2R (X := X) (g := g) k.calm b
  have main : ∀ ρ σ H Hs O t, View g Hs H O ρ σ → ((a ρ).bind fun x => (d ρ).bind fun y => (b2D b x.d y.d).map T.fz) = some t → ∀ Q : VK, (∀ v fp, RepB g Hs H O t v fp → Q v H) → tCB r (tCons ta (tCons tb tNil)) σ H Q := fun ρ σ H Hs O t vw h Q q => by
    simp only [Option.bind_eq_some_iff, Option.map_eq_some_iff] at h
    obtain ⟨x, hx, y, hy, d, hd, rfl⟩ := h
    refine ra ρ σ H Hs O x vw hx _ fun v fp r1 => rb ρ σ H Hs O y vw hy _ fun w fp' r2 => ?_
    obtain ⟨h1, h2⟩ := rr H x.d y.d v w d (r1.r.now vw.sub) (r2.r.now vw.sub) hd
    exact h2 Q (q _ [] (RepB.fz (Rep.at h1)))
  subst hf
  cases b
  · exact ⟨_, pe_callB hr (k.gl hg) (k.bn _ (by decide)) (by decide +kernel) (pa_two pa pb hs hs') (by decide) (by decide) (star_cons hs) (star_none fun x hx => by simp at hx; subst hx; exact hs'), main⟩
  · exact ⟨_, pe_callB hr (k.gl hg) (k.bn _ (by decide)) (by decide +kernel) (pa_two pa pb hs hs') (by decide) (by decide) (star_cons hs) (star_none fun x hx => by simp at hx; subst hx; exact hs'), main⟩
end
end DL
namespace DL
open PySem PySem.Spec L2

section
variable {X : Cx} {g : Gx} {c : Cxt}
theorem sql_ty {K : PySem.W.Frag} {H : Hp} {a : Addr} {xs : List V} (h : SqL K H a xs) : TyX K H (.ref a) (.type "list") := by
  rcases h with (h | ⟨o, h⟩) | ⟨o, its, n, hk, hc, _⟩
  · exact .base (.lst h)
  · exact .base (.frz h)
  · exact .kList hk hc
theorem sqt_ty {K : PySem.W.Frag} {H : Hp} {a : Addr} {xs : List V} (h : SqT K H a xs) : TyX K H (.ref a) (.type "tuple") := by
  rcases h with (h | ⟨o, h⟩) | ⟨o, its, n, hk, hc, _⟩
  · exact .base (.tup h)
  · exact .fTuple h
  · exact .kTuple hk hc
/-- a thing's type, by its data -/
def D.ty : D → String
  | .non => "NoneType" | .bl _ => "bool" | .int _ => "int" | .str _ => "str" | .tup _ => "tuple" | .lst _ => "list" | .dic _ _ => "dict" | .obj _ _ _ => "" | .scr _ => "list"
theorem Rep.ty {H : Hp} {d : D} {v : V} (r : Rep g H d v) (h : ∀ n ns xs, d ≠ .obj n ns xs) : TyX g.K H v (.type d.ty) := by
  cases d <;> simp only [Rep, D.ty] at r ⊢
  · subst r; exact .base .non
  · subst r; exact .base (.bl _)
  · subst r; exact .base (.int _)
  · subst r; exact .base (.str _)
  · obtain ⟨a, vs, rfl, sq, _⟩ := r; exact sqt_ty sq
  · obtain ⟨a, vs, rfl, sq, _⟩ := r; exact sql_ty (.inl sq)
  · obtain ⟨a, vs, rfl, sq, _⟩ := r; exact .base (.dK sq)
  · exact absurd rfl (h _ _ _)
  · obtain ⟨a, rfl, sq⟩ := r; exact sql_ty sq
def Ty.tn : Ty → String
  | .int => "int" | .bool => "bool" | .list => "list" | .tuple => "tuple" | .str => "str" | .dict => "dict" | .cls _ => ""
theorem isi_kit {K : PySem.W.Frag} {t : Ty} {d : D} {b : Bool} (h : isiD t d = some b) : PySem.W.kitOne K (.type d.ty) (.type t.tn) = some b ∧ ∀ n ns xs, d ≠ .obj n ns xs := by
  cases t <;> cases d <;> simp only [isiD, reduceCtorEq] at h <;> (try (cases h)) <;> exact ⟨by rfl, fun _ _ _ z => by cases z⟩
theorem pj_isi (k : Cp X g c) {a : Sl → Option T} {t : Ty} {f y : Str} {e : Expr} {p p' pos : Pos} (hf : f = ("isinstance" : Str)) (hg : glB c f = true) (hs : starB e = false) (hy : y = t.nm) (hgy : glB c y = true) (hc : t.bi = true) (ha : PJ X g a e) :
    PJ X g (fun ρ => (a ρ).bind fun x => (isiD t x.d).map fun k => .fz (.bl k)) (.Call (.Name f p) [e, .Name y p'] [] pos) := by
  obtain ⟨ta, pa, ra⟩ := ha
  have hv : bootBuiltins y = some (.type t.tn) := by
    subst hy
    cases t <;> first | (cases hc; done) | decide +kernel
  have hm : X.mg y = none := k.bn _ (by subst hy; cases t <;> first | (cases hc; done) | decide)
  have pb : PE X (.Name y p') (tC (.ty t.tn)) := pe_bltn (k.gl hgy) hm hv rfl (by subst hy; cases t <;> first | (cases hc; done) | decide) (by subst hy; cases t <;> first | (cases hc; done) | decide)
  subst hf
  refine ⟨_, pe_callB call_isi (k.gl hg) (k.bn _ (by decide)) (by decide +kernel) (pa_two pa pb hs rfl) (by decide) (by decide) (star_cons hs) (by rfl), fun ρ σ H Hs O z vw h Q q => ?_⟩
  simp only [Option.bind_eq_some_iff, Option.map_eq_some_iff] at h
  obtain ⟨x, hx, b, hb, rfl⟩ := h
  refine ra ρ σ H Hs O x vw hx _ fun v fp r1 => ?_
  obtain ⟨h1, h2⟩ := isi_kit (K := X.K) hb
  exact ⟨v, .ty t.tn, _, _, b, rfl, .ty _, k.hk ▸ (r1.r.now vw.sub).ty h2, h1, q _ [] (RepB.fz (by simp only [Rep]))⟩

theorem evT_evP : ∀ (p : P) (ρ : Sl) (x : T) (b : Bool), evP p ρ = some x → x.d.tru = some b → evT p ρ = some b := by
  intro p
  induction p with
  | not a ih =>
    intro ρ x b h1 h2
    simp only [evP, evT, Option.bind_eq_some_iff, Option.map_eq_some_iff] at h1 ⊢
    obtain ⟨y, hy, kb, hb, rfl⟩ := h1
    cases h2
    exact ⟨kb, ih ρ y kb hy hb, rfl⟩
  | and p q ih1 ih2 =>
    intro ρ x b h1 h2
    simp only [evP, evT, Option.bind_eq_some_iff] at h1 ⊢
    obtain ⟨y, hy, h1⟩ := h1
    split at h1
    · rename_i e
      rw [ih1 ρ _ true hy e]
      exact ih2 ρ x b h1 h2
    · rename_i e
      cases h1
      rw [ih1 ρ _ false hy e]
      rw [e] at h2
      cases h2
      rfl
    · cases h1
  | or p q ih1 ih2 =>
    intro ρ x b h1 h2
    simp only [evP, evT, Option.bind_eq_some_iff] at h1 ⊢
    obtain ⟨y, hy, h1⟩ := h1
    split at h1
    · rename_i e
      cases h1
      rw [ih1 ρ _ true hy e]
      rw [e] at h2
      cases h2
      rfl
    · rename_i e
      rw [ih1 ρ _ false hy e]
      exact ih2 ρ x b h1 h2
    · cases h1
  | ife t p q ih0 ih1 ih2 =>
    intro ρ x b h1 h2
    simp only [evP, evT] at h1 ⊢
    split at h1
    · cases h1
    · rename_i y hy
      split at h1
      · rename_i e
        rw [ih0 ρ y true hy e]
        exact ih1 ρ x b h1 h2
      · rename_i e
        rw [ih0 ρ y false hy e]
        exact ih2 ρ x b h1 h2
      · cases h1
  | _ =>
    intro ρ x b h1 h2
    simp only [evT]
    rw [h1]
    exact h2
/-- a if t else b, as a test -/
theorem tj_ife {t a b : Sl → Option Bool} {e1 e2 e3 : Expr} {pos : Pos} (ht : TJ X g t e1) (ha : TJ X g a e2) (hb : TJ X g b e3) :
    TJ X g (fun ρ => match t ρ with
      | some true => a ρ
      | some false => b ρ
      | none => none) (.IfExp e1 e2 e3 pos) := by
  obtain ⟨tt, pt, rt⟩ := ht
  obtain ⟨ta, pa, ra⟩ := ha
  obtain ⟨tb, pb, rb⟩ := hb
  refine ⟨fun σ H Q => tt σ H fun c H1 => if c = true then ta σ H1 Q else tb σ H1 Q, ⟨fun pins s σ H Q I h => ?_⟩, fun ρ σ H Hs O z vw h Q q => ?_⟩
  · refine PyProof.Rows.isTrue_IfExp (thn (pt.run pins s σ H _ I h) fun d s1 ⟨H1, I1, q1⟩ => ?_)
    cases d with
    | true => exact pa.run pins s1 σ H1 Q I1 q1
    | false => exact pb.run pins s1 σ H1 Q I1 q1
  · simp only at h
    split at h
    · rename_i e
      exact rt ρ σ H Hs O true vw e _ (iteT (ra ρ σ H Hs O z vw h Q q))
    · rename_i e
      exact rt ρ σ H Hs O false vw e _ (iteF (rb ρ σ H Hs O z vw h Q q))
    · cases h

def SndP (X : Cx) (g : Gx) (p : P) (e : Expr) : Prop := PJ X g (evP p) e ∧ TJ X g (evT p) e ∧ (∀ op es pos, e = .BoolOp op es pos → WJ X g (evT p) e)
theorem SndP.mk1 (k : Cp X g c) {p : P} {e : Expr} (h : PJ X g (evP p) e) (he : ∀ whole, isTrue e X.env whole = (do let v ← whole; standAt e.pos; holding [v] (truthy v))) (ht : evT p = fun ρ => (evP p ρ).bind fun x => x.d.tru) (hb : ∀ op es pos, e ≠ .BoolOp op es pos) : SndP X g p e :=
  ⟨h, by rw [ht]; exact h.t k.hk he, fun op es pos z => absurd z (hb op es pos)⟩
theorem soundP (k : Cp X g c) : ∀ (p : P) (e : Expr), mtP c p e = true → SndP X g p e := by
  intro p
  induction p with
  | lit d =>
    intro e h
    unfold mtP at h
    split at h <;> rename_i z <;> (try (cases z; done)) <;> (try (cases h; done))
    cases z
    exact SndP.mk1 k (pj_lit h) (fun _ => rfl) rfl (fun _ _ _ z => by cases z)
  | sl i =>
    intro e h
    unfold mtP at h
    split at h <;> rename_i z <;> (try (cases z; done)) <;> (try (cases h; done))
    cases z
    rw [Bool.and_eq_true] at h
    exact SndP.mk1 k (pj_sl k (beq_iff_eq.mp h.1) h.2) (fun _ => rfl) rfl (fun _ _ _ z => by cases z)
  | gl x d =>
    intro e h
    unfold mtP at h
    split at h <;> rename_i z <;> (try (cases z; done)) <;> (try (cases h; done))
    cases z
    simp only [Bool.and_eq_true, bne, Bool.not_eq_true'] at h
    obtain ⟨⟨⟨h1, h2⟩, h3⟩, h4⟩ := h
    have h1 := beq_iff_eq.mp h1
    subst h1
    exact SndP.mk1 k (pj_gl k h2 h3 h4) (fun _ => rfl) rfl (fun _ _ _ z => by cases z)
  | op o a b ia ib =>
    intro e h
    unfold mtP at h
    split at h <;> rename_i z <;> (try (cases z; done)) <;> (try (cases h; done))
    · cases z
      simp only [Bool.and_eq_true] at h
      obtain ⟨⟨h1, h2⟩, h3⟩ := h
      exact SndP.mk1 k (pj_bin k (beq_iff_eq.mp h1) (ia _ h2).1 (ib _ h3).1) (fun _ => rfl) rfl (fun _ _ _ z => by cases z)
    · cases z
      simp only [Bool.and_eq_true, Bool.not_eq_true'] at h
      obtain ⟨⟨⟨⟨h1, h2⟩, h3⟩, h4⟩, h5⟩ := h
      obtain ⟨r1, r2⟩ := pj_cmp k (beq_iff_eq.mp h1) (beq_iff_eq.mp h2) h3 (ia _ h4).1 (ib _ h5).1
      exact ⟨r1, r2, fun _ _ _ z => by cases z⟩
  | ch o1 o2 a b d ia ib id =>
    intro e h
    unfold mtP at h
    split at h <;> rename_i z <;> (try (cases z; done)) <;> (try (cases h; done))
    cases z
    simp only [Bool.and_eq_true, Bool.not_eq_true'] at h
    obtain ⟨⟨⟨⟨⟨⟨⟨h1, h2⟩, h3⟩, h4⟩, h5⟩, h6⟩, h7⟩, h8⟩ := h
    obtain ⟨r1, r2⟩ := pj_ch k (beq_iff_eq.mp h1) (beq_iff_eq.mp h2) (beq_iff_eq.mp h3) (beq_iff_eq.mp h4) h5 (ia _ h6).1 (ib _ h7).1 (id _ h8).1
    exact ⟨r1, r2, fun _ _ _ z => by cases z⟩
  | neg a ia =>
    intro e h
    unfold mtP at h
    split at h <;> rename_i z <;> (try (cases z; done)) <;> (try (cases h; done))
    cases z
    exact SndP.mk1 k (pj_neg (ia _ h).1) (fun _ => rfl) rfl (fun _ _ _ z => by cases z)
  | not a ia =>
    intro e h
    unfold mtP at h
    split at h <;> rename_i z <;> (try (cases z; done)) <;> (try (cases h; done))
    cases z
    exact ⟨pj_not k (ia _ h).1, tj_not (ia _ h).2.1, fun _ _ _ z => by cases z⟩
  | and a b ia ib =>
    intro e h
    unfold mtP at h
    split at h <;> rename_i z <;> (try (cases z; done)) <;> (try (cases h; done))
    · cases z
      rw [Bool.and_eq_true] at h
      have w := wj_and (pos := by assumption) (ia _ h.1).2.1 (wj_and1 (ib _ h.2).2.1)
      obtain ⟨te, pe, re⟩ := (ib _ h.2).1
      exact ⟨pj_and k (ia _ h.1).1 ⟨te, pe_one pe, re⟩, WJ.t w, fun op es pos z => by cases z; exact w⟩
    · cases z
      rw [Bool.and_eq_true] at h
      obtain ⟨r1, r2, r3⟩ := ib _ h.2
      have w := wj_and (ia _ h.1).2.1 (r3 _ _ _ rfl)
      exact ⟨pj_and k (ia _ h.1).1 r1, WJ.t w, fun op es pos z => by cases z; exact w⟩
  | or a b ia ib =>
    intro e h
    unfold mtP at h
    split at h <;> rename_i z <;> (try (cases z; done)) <;> (try (cases h; done))
    · cases z
      rw [Bool.and_eq_true] at h
      have w := wj_or (pos := by assumption) (ia _ h.1).2.1 (wj_or1 (ib _ h.2).2.1)
      obtain ⟨te, pe, re⟩ := (ib _ h.2).1
      exact ⟨pj_or k (ia _ h.1).1 ⟨te, pe_one pe, re⟩, WJ.t w, fun op es pos z => by cases z; exact w⟩
    · cases z
      rw [Bool.and_eq_true] at h
      obtain ⟨r1, r2, r3⟩ := ib _ h.2
      have w := wj_or (ia _ h.1).2.1 (r3 _ _ _ rfl)
      exact ⟨pj_or k (ia _ h.1).1 r1, WJ.t w, fun op es pos z => by cases z; exact w⟩
  | ife t a b it ia ib =>
    intro e h
    unfold mtP at h
    split at h <;> rename_i z <;> (try (cases z; done)) <;> (try (cases h; done))
    cases z
    simp only [Bool.and_eq_true] at h
    obtain ⟨⟨h1, h2⟩, h3⟩ := h
    exact ⟨pj_ife (it _ h1).2.1 (fun ρ x kb e1 e2 => evT_evP t ρ x kb e1 e2) (ia _ h2).1 (ib _ h3).1, tj_ife (it _ h1).2.1 (ia _ h2).2.1 (ib _ h3).2.1, fun _ _ _ z => by cases z⟩
  | ix a i ia ii =>
    intro e h
    unfold mtP at h
    split at h <;> rename_i z <;> (try (cases z; done)) <;> (try (cases h; done))
    cases z
    simp only [Bool.and_eq_true, Bool.not_eq_true'] at h
    obtain ⟨⟨h1, h2⟩, h3⟩ := h
    exact SndP.mk1 k (pj_ix k h1 (ia _ h2).1 (ii _ h3).1) (fun _ => rfl) rfl (fun _ _ _ z => by cases z)
  | b1 b a ia =>
    intro e h
    unfold mtP at h
    split at h <;> rename_i z <;> (try (cases z; done)) <;> (try (cases h; done))
    cases z
    simp only [Bool.and_eq_true, Bool.not_eq_true'] at h
    obtain ⟨⟨⟨h1, h2⟩, h3⟩, h4⟩ := h
    exact SndP.mk1 k (pj_b1 k (beq_iff_eq.mp h1) h2 h3 (ia _ h4).1) (fun _ => rfl) rfl (fun _ _ _ z => by cases z)
  | b2 b a d ia id =>
    intro e h
    unfold mtP at h
    split at h <;> rename_i z <;> (try (cases z; done)) <;> (try (cases h; done))
    cases z
    simp only [Bool.and_eq_true, Bool.not_eq_true'] at h
    obtain ⟨⟨⟨⟨⟨h1, h2⟩, h3⟩, h4⟩, h5⟩, h6⟩ := h
    exact SndP.mk1 k (pj_b2 k (beq_iff_eq.mp h1) h2 h3 h4 (ia _ h5).1 (id _ h6).1) (fun _ => rfl) rfl (fun _ _ _ z => by cases z)
  | isi a t ia =>
    intro e h
    unfold mtP at h
    split at h <;> rename_i z <;> (try (cases z; done)) <;> (try (cases h; done))
    cases z
    simp only [Bool.and_eq_true, Bool.not_eq_true'] at h
    obtain ⟨⟨⟨⟨⟨⟨h1, h2⟩, h3⟩, h4⟩, h5⟩, h6⟩, h7⟩ := h
    exact SndP.mk1 k (pj_isi k (beq_iff_eq.mp h1) h2 h3 (beq_iff_eq.mp h4) h5 h6 (ia _ h7).1) (fun _ => rfl) rfl (fun _ _ _ z => by cases z)
end
end DL
namespace DL
open PySem PySem.Spec L2

/-! ### a call, seen from the caller -/
mutual
/-- data that never changes -/
def D.imm : D → Bool
  | .tup xs => D.imms xs
  | .lst _ => false | .dic _ _ => false | .obj _ _ _ => false | .scr _ => false
  | _ => true
def D.imms : List D → Bool
  | [] => true
  | d :: ds => d.imm && D.imms ds
end
mutual
/-- it shares no changeable thing with anything -/
def T.sh : T → Bool
  | .fz d => d.imm
  | .lst xs => T.shs xs | .tup xs => T.shs xs | .dic _ xs => T.shs xs | .obj _ _ xs => T.shs xs
def T.shs : List T → Bool
  | [] => true
  | t :: ts => t.sh && T.shs ts
end
inductive Out where
  | ret (t : T) (fin : List (Option T))
  | exc (c : Nat) (t : T) (fin : List (Option T))
def valueN : Str := "value"
def EndOk (g : Gx) (e : Fr0) (vs : List V) (t : T) (fin : List (Option T)) (v : V) (H' S' : Hp) : Prop := Ok g e fin [([v], [t])] (vs.map some) H' S'
/-- what a def promises: it does F -/
def SpD (g : Gx) (F : List T → Option Out) : Sp := fun vs H Q E => ∃ (ts : List T) (S : Hp) (fp : List Addr) (out : Out), Same S H ∧ RepTs g S H ts vs fp ∧ (∀ a, fp.count a ≤ 1) ∧ (∀ a ∈ fp, S a = none ∧ H a ≠ none) ∧ F ts = some out ∧
  match out with
  | .ret t fin => ∀ v H' S', EndOk g ⟨H, S, fp, []⟩ vs t fin v H' S' → Q v H'
  | .exc c t fin => ∀ v dx H' S', EndOk g ⟨H, S, fp, []⟩ vs t fin v H' S' → H' dx = some (.xd [(valueN, v)]) → E (.ref (g.cls c)) (some dx) H'

section
variable {g : Gx} {H H' Hs Hs' : Hp} {e : Fr0} {ρ ρ' : Sl} {τ τ' : Tm} {σ σ' : L2.St}
/-- frozen tuples are kept -/
def KeepT (S S' : Hp) : Prop := ∀ a, (∀ xs, S a = some (.tup xs) → S' a = some (.tup xs)) ∧ ∀ o xs, S a = some (.frz o (.tup xs)) → S' a = some (.frz o (.tup xs))
theorem KeepT.sqT {K : PySem.W.Frag} {S S' : Hp} (k : KeepT S S') {a : Addr} {xs : List V} (h : SqT K S a xs) : SqT K S' a xs := by
  rcases h with (h | ⟨o, h⟩) | h
  · exact .inl (.inl ((k a).1 xs h))
  · exact .inl (.inr ⟨o, (k a).2 o xs h⟩)
  · exact .inr h
mutual
theorem Rep.immK {S S' : Hp} (k : KeepT S S') : ∀ {d : D} {v : V}, d.imm = true → Rep g S d v → Rep g S' d v
  | .non, _, _, h => h
  | .bl _, _, _, h => h
  | .int _, _, _, h => h
  | .str _, _, _, h => h
  | .tup ds, _, i, h => by
    simp only [Rep] at h ⊢
    obtain ⟨a, vs, e, q, r⟩ := h
    exact ⟨a, vs, e, k.sqT q, Reps.immK k (by simpa only [D.imm] using i) r⟩
  | .lst _, _, i, _ => by simp [D.imm] at i
  | .dic _ _, _, i, _ => by simp [D.imm] at i
  | .obj _ _ _, _, i, _ => by simp [D.imm] at i
  | .scr _, _, i, _ => by simp [D.imm] at i
theorem Reps.immK {S S' : Hp} (k : KeepT S S') : ∀ {ds : List D} {vs : List V}, D.imms ds = true → Reps g S ds vs → Reps g S' ds vs
  | [], _, _, h => h
  | d :: ds, _, i, h => by
    simp only [Reps] at h ⊢
    simp only [D.imms, Bool.and_eq_true] at i
    obtain ⟨v, vs', e, q, r⟩ := h
    exact ⟨v, vs', e, Rep.immK k i.1 q, Reps.immK k i.2 r⟩
end
mutual
theorem RepT.shK {S S' : Hp} (k : KeepT S S') : ∀ {t : T} {v : V} {fp : List Addr}, t.sh = true → RepT g S H t v fp → RepT g S' H t v fp
  | .fz d, _, _, i, h => by
    simp only [RepT] at h ⊢
    exact ⟨Rep.immK k (by simpa only [T.sh] using i) h.1, h.2⟩
  | .tup ts, _, _, i, h => by
    simp only [RepT] at h ⊢
    obtain ⟨a, vs, e, q, r⟩ := h
    exact ⟨a, vs, e, (k a).1 _ q, RepTs.shK k (by simpa only [T.sh] using i) r⟩
  | .lst ts, _, _, i, h => by
    simp only [RepT] at h ⊢
    obtain ⟨a, vs, fp', e, q, ef, r⟩ := h
    exact ⟨a, vs, fp', e, q, ef, RepTs.shK k (by simpa only [T.sh] using i) r⟩
  | .dic ks ts, _, _, i, h => by
    simp only [RepT] at h ⊢
    obtain ⟨a, vs, fp', e, q, l, ef, r⟩ := h
    exact ⟨a, vs, fp', e, q, l, ef, RepTs.shK k (by simpa only [T.sh] using i) r⟩
  | .obj c ns ts, _, _, i, h => by
    simp only [RepT] at h ⊢
    obtain ⟨a, dx, vs, fp', e, q, q', l, ef, r⟩ := h
    exact ⟨a, dx, vs, fp', e, q, q', l, ef, RepTs.shK k (by simpa only [T.sh] using i) r⟩
theorem RepTs.shK {S S' : Hp} (k : KeepT S S') : ∀ {ts : List T} {vs : List V} {fp : List Addr}, T.shs ts = true → RepTs g S H ts vs fp → RepTs g S' H ts vs fp
  | [], _, _, _, h => h
  | t :: ts, _, _, i, h => by
    simp only [RepTs] at h ⊢
    simp only [T.shs, Bool.and_eq_true] at i
    obtain ⟨v, vs', f, f', e, ef, q, r⟩ := h
    exact ⟨v, vs', f, f', e, ef, RepT.shK k i.1 q, RepTs.shK k i.2 r⟩
end
/-- the slots share nothing changeable -/
def shE : List (Option T) → Bool
  | [] => true
  | none :: r => shE r
  | some t :: r => t.sh && shE r
theorem RepE.shK {S S' : Hp} (k : KeepT S S') : ∀ {ρ : Sl} {σ : L2.St} {fp : List Addr}, shE ρ = true → RepE g S H ρ σ fp → RepE g S' H ρ σ fp
  | [], _, _, _, h => h
  | none :: ρ, _, _, i, h => by
    obtain ⟨o, σ', e, r⟩ := h
    exact ⟨o, σ', e, RepE.shK k (by simpa only [shE] using i) r⟩
  | some t :: ρ, _, _, i, h => by
    simp only [shE, Bool.and_eq_true] at i
    obtain ⟨v, σ', f, f', e, ef, q, r⟩ := h
    exact ⟨v, σ', f, f', e, ef, RepT.shK k i.1 q, RepE.shK k i.2 r⟩
/-- what is owned is no tuple -/
def NoTup (o : Option HO) : Prop := (∀ xs, o ≠ some (.tup xs)) ∧ ∀ ob xs, o ≠ some (.frz ob (.tup xs))
mutual
theorem RepT.noTup : ∀ {t : T} {v : V} {fp : List Addr}, RepT g Hs H t v fp → ∀ a ∈ fp, NoTup (H a)
  | .fz d, _, _, h, a, ha => by
    simp only [RepT] at h
    rw [h.2] at ha
    cases ha
  | .tup ts, _, _, h, a, ha => by
    simp only [RepT] at h
    obtain ⟨_, vs, e, q, r⟩ := h
    exact RepTs.noTup r a ha
  | .lst ts, _, _, h, a, ha => by
    simp only [RepT] at h
    obtain ⟨_, vs, fp', e, q, ef, r⟩ := h
    rw [ef] at ha
    rcases List.mem_cons.mp ha with rfl | ha
    · rw [q]; exact ⟨fun _ z => (by cases z), fun _ _ z => (by cases z)⟩
    · exact RepTs.noTup r a ha
  | .dic ks ts, _, _, h, a, ha => by
    simp only [RepT] at h
    obtain ⟨_, vs, fp', e, q, l, ef, r⟩ := h
    rw [ef] at ha
    rcases List.mem_cons.mp ha with rfl | ha
    · rw [q]; exact ⟨fun _ z => (by cases z), fun _ _ z => (by cases z)⟩
    · exact RepTs.noTup r a ha
  | .obj c ns ts, _, _, h, a, ha => by
    simp only [RepT] at h
    obtain ⟨_, dx, vs, fp', e, q, q', l, ef, r⟩ := h
    rw [ef] at ha
    rcases List.mem_cons.mp ha with rfl | ha
    · rw [q]; exact ⟨fun _ z => (by cases z), fun _ _ z => (by cases z)⟩
    · rcases List.mem_cons.mp ha with rfl | ha
      · rw [q']; exact ⟨fun _ z => (by cases z), fun _ _ z => (by cases z)⟩
      · exact RepTs.noTup r a ha
theorem RepTs.noTup : ∀ {ts : List T} {vs : List V} {fp : List Addr}, RepTs g Hs H ts vs fp → ∀ a ∈ fp, NoTup (H a)
  | [], _, _, h, a, ha => by
    simp only [RepTs] at h
    rw [h.2] at ha
    cases ha
  | t :: ts, _, _, h, a, ha => by
    simp only [RepTs] at h
    obtain ⟨v, vs', f, f', e, ef, q, r⟩ := h
    rw [ef] at ha
    rcases List.mem_append.mp ha with ha | ha
    · exact RepT.noTup q a ha
    · exact RepTs.noTup r a ha
end
theorem RepE.noTup : ∀ {ρ : Sl} {σ : L2.St} {fp : List Addr}, RepE g Hs H ρ σ fp → ∀ a ∈ fp, NoTup (H a)
  | [], _, _, h, a, ha => by rw [h.2] at ha; cases ha
  | none :: ρ, _, _, h, a, ha => by
    obtain ⟨o, σ', e, r⟩ := h
    exact RepE.noTup r a ha
  | some t :: ρ, _, _, h, a, ha => by
    obtain ⟨v, σ', f, f', e, ef, q, r⟩ := h
    rw [ef] at ha
    rcases List.mem_append.mp ha with ha | ha
    · exact RepT.noTup q a ha
    · exact RepE.noTup r a ha
theorem RepE.append : ∀ {ρ : Sl} {σ : L2.St} {fp : List Addr} {ρ' : Sl} {σ' : L2.St} {fp' : List Addr}, RepE g Hs H ρ σ fp → RepE g Hs H ρ' σ' fp' → RepE g Hs H (ρ ++ ρ') (σ ++ σ') (fp ++ fp')
  | [], _, _, _, _, _, h, q => by obtain ⟨rfl, rfl⟩ := h; exact q
  | none :: ρ, _, _, _, _, _, h, q => by
    obtain ⟨o, σ1, e, r⟩ := h
    subst e
    exact ⟨o, _, rfl, RepE.append r q⟩
  | some t :: ρ, _, _, _, _, _, h, q => by
    obtain ⟨v, σ1, f, f', e, ef, z, r⟩ := h
    subst e
    subst ef
    exact ⟨v, _, f, _, rfl, by rw [List.append_assoc], z, RepE.append r q⟩
theorem RepE.split : ∀ {ρ : Sl} {σ : L2.St} {ρ' : Sl} {σ' : L2.St} {fp : List Addr}, ρ.length = σ.length → RepE g Hs H (ρ ++ ρ') (σ ++ σ') fp → ∃ f, RepE g Hs H ρ σ f ∧ ∀ a, f.count a ≤ fp.count a
  | [], σ, _, _, _, l, h => by
    cases σ with
    | nil => exact ⟨[], ⟨rfl, rfl⟩, fun a => Nat.zero_le _⟩
    | cons o σ => simp at l
  | none :: ρ, σ, _, _, _, l, h => by
    cases σ with
    | nil => simp at l
    | cons o σ =>
      obtain ⟨o', σ1, e, r⟩ := h
      obtain ⟨rfl, rfl⟩ := List.cons.inj e
      obtain ⟨f, q, c⟩ := RepE.split (by simpa using l) r
      exact ⟨f, ⟨o, σ, rfl, q⟩, c⟩
  | some t :: ρ, σ, _, _, _, l, h => by
    cases σ with
    | nil => simp at l
    | cons o σ =>
      obtain ⟨v, σ1, f, f', e, ef, z, r⟩ := h
      obtain ⟨rfl, rfl⟩ := List.cons.inj e
      obtain ⟨f2, q, c⟩ := RepE.split (by simpa using l) r
      exact ⟨f ++ f2, ⟨v, σ, f, f2, rfl, rfl, z, q⟩, fun a => by rw [ef, List.count_append, List.count_append]; have := c a; omega⟩
/-- slots at the end let go -/
theorem Ok.cut {ρ2 : Sl} {σ2 : L2.St} (o : Ok g e (ρ ++ ρ2) τ (σ ++ σ2) H Hs) (l : ρ.length = σ.length) (fx : ∀ p ∈ e.P, p.1 < σ.length) : Ok g e ρ τ σ H Hs := by
  obtain ⟨fs, ft, r1, r2, c, n⟩ := o.own
  obtain ⟨f, q, c'⟩ := r1.split l
  refine ⟨o.sub, o.sub0, o.new, o.frame, o.there, fun p hp => ?_, f, ft, q, r2, fun a => ?_, fun a ha => n a ?_⟩
  · rw [← o.fix p hp, List.getElem?_append_left (fx p hp)]
  · have := c a; have := c' a; omega
  · rcases ha with ha | ha
    · have := List.count_pos_iff.mpr ha
      have := c' a
      exact .inl (List.count_pos_iff.mp (by omega))
    · exact .inr ha

/-- a call: its own arguments (vo, to) go in, nothing is lent (L = []) or all that the slots own is lent (to be read) -/
theorem Ok.call {vo : List V} {to : List T} (o : Ok g e ρ ((vo, to) :: τ) σ H Hs) (lend : Bool) : ∃ (S : Hp) (fa fl : List Addr), Same S H ∧ Same Hs S ∧ RepTs g S H to vo fa ∧ (∀ a, fa.count a ≤ 1) ∧ (∀ a ∈ fa, S a = none ∧ H a ≠ none) ∧
    (lend = true → ∃ fs, RepE g Hs H ρ σ fs ∧ ∀ a ∈ fs, S a = H a) ∧
    ∀ vs t fin v H' S', EndOk g ⟨H, S, fa, []⟩ vs t fin v H' S' → (lend = true → t.sh = true ∧ shE fin = true) → ∃ Hs', Ok g e (ρ ++ fin) (([v], [t]) :: τ) (σ ++ vs.map some) H' Hs' := by
  obtain ⟨fs, ft, r1, r2, c, n⟩ := o.own
  obtain ⟨fa, ft', ef, ra, rt⟩ := r2
  subst ef
  have nfs : ∀ a ∈ fs, a ∉ fa := fun a h1 h2 => by
    have := c a
    have := List.count_pos_iff.mpr h1
    have := List.count_pos_iff.mpr h2
    rw [List.count_append] at *
    omega
  have nft : ∀ a ∈ ft', a ∉ fa := fun a h1 h2 => by
    have := c a
    have := List.count_pos_iff.mpr h1
    have := List.count_pos_iff.mpr h2
    rw [List.count_append] at *
    omega
  have nfst : ∀ a ∈ ft', a ∉ fs := fun a h1 h2 => by
    have := c a
    have := List.count_pos_iff.mpr h1
    have := List.count_pos_iff.mpr h2
    rw [List.count_append] at *
    omega
  have hfa : ∀ a ∈ fa, Hs a = none ∧ H a ≠ none ∧ (e.H a = none ∨ a ∈ e.F) := fun a ha => n a (.inr (by simp [ha]))
  have hfs : ∀ a ∈ fs, Hs a = none ∧ H a ≠ none ∧ (e.H a = none ∨ a ∈ e.F) := fun a ha => n a (.inl ha)
  have hft : ∀ a ∈ ft', Hs a = none ∧ H a ≠ none ∧ (e.H a = none ∨ a ∈ e.F) := fun a ha => n a (.inr (by simp [ha]))
  -- the heap that is frozen while it runs
  let S : Hp := if lend = true then frzH Hs H fs else Hs
  have sS : Same Hs S := fun a u z => by
    show (if lend = true then frzH Hs H fs else Hs) a = some u
    split
    · unfold frzH
      by_cases h : a ∈ fs
      · rw [(hfs a h).1] at z; cases z
      · rw [if_neg h]; exact z
    · exact z
  have sH : Same S H := fun a u z => by
    have z' : (if lend = true then frzH Hs H fs else Hs) a = some u := z
    split at z'
    · unfold frzH at z'
      by_cases h : a ∈ fs
      · rw [if_pos h] at z'; exact z'
      · rw [if_neg h] at z'; exact o.sub a u z'
    · exact o.sub a u z'
  have Sout : ∀ a, a ∉ fs → S a = Hs a := fun a h => by
    show (if lend = true then frzH Hs H fs else Hs) a = Hs a
    split
    · unfold frzH; rw [if_neg h]
    · rfl
  refine ⟨S, fa, fs, sH, sS, RepTs.keep sS (fun _ _ => rfl) ra, fun a => ?_, fun a ha => ⟨?_, (hfa a ha).2.1⟩, fun hl => ⟨fs, r1, fun a ha => ?_⟩, fun vs t fin v H' S' en hsh => ?_⟩
  · have := c a; rw [List.count_append] at this; omega
  · rw [Sout a fun h => nfs a h ha]; exact (hfa a ha).1
  · show (if lend = true then frzH Hs H fs else Hs) a = H a
    rw [if_pos hl]; unfold frzH; rw [if_pos ha]
  · obtain ⟨gs, gt, q1, q2, c', n'⟩ := en.own
    obtain ⟨gv, g0, eg, qv, q0⟩ := q2
    have eg0 : g0 = [] := q0
    subst eg
    subst eg0
    -- what stays
    have kfs : ∀ a ∈ fs, H' a = H a := fun a ha => en.frame a (nfs a ha) (hfs a ha).2.1
    have kft : ∀ a ∈ ft', H' a = H a := fun a ha => en.frame a (nft a ha) (hft a ha).2.1
    have nS' : ∀ a ∈ ft', S' a = none := fun a ha => by
      cases q : S' a with
      | none => rfl
      | some x =>
        rcases en.new a (by rw [q]; simp) with z | z | z
        · exact absurd ((Sout a (nfst a ha)).trans (hft a ha).1) z
        · exact absurd z (hft a ha).2.1
        · exact absurd z (nft a ha)
    have ng : ∀ a, a ∈ gs ∨ a ∈ gv → a ∉ fs ∧ a ∉ ft' := fun a ha => by
      obtain ⟨h1, h2, h3⟩ := n' a (ha.imp id fun z => by simp [z])
      refine ⟨fun hb => ?_, fun hb => ?_⟩
      · rcases h3 with h3 | h3
        · exact (hfs a hb).2.1 h3
        · exact nfs a hb h3
      · rcases h3 with h3 | h3
        · exact (hft a hb).2.1 h3
        · exact nft a hb h3
    have cc : ∀ a, (fs ++ gs).count a + (gv ++ ft').count a ≤ 1 := fun a => by
      have h1 := c a
      have h2 := c' a
      simp only [List.count_append, List.append_nil] at h1 h2 ⊢
      by_cases m : a ∈ fs
      · have z1 : gs.count a = 0 := List.count_eq_zero.mpr fun y => (ng a (.inl y)).1 m
        have z2 : gv.count a = 0 := List.count_eq_zero.mpr fun y => (ng a (.inr y)).1 m
        omega
      · by_cases m' : a ∈ ft'
        · have z1 : gs.count a = 0 := List.count_eq_zero.mpr fun y => (ng a (.inl y)).2 m'
          have z2 : gv.count a = 0 := List.count_eq_zero.mpr fun y => (ng a (.inr y)).2 m'
          have z3 : fs.count a = 0 := List.count_eq_zero.mpr m
          omega
        · have z3 : fs.count a = 0 := List.count_eq_zero.mpr m
          have z4 : ft'.count a = 0 := List.count_eq_zero.mpr m'
          omega
    have old : ∀ a, e.H a ≠ none → H a ≠ none := o.there
    have fin1 : ∀ a, H' a ≠ none → a ∈ gs ∨ a ∈ gv → e.H a = none ∨ a ∈ e.F := fun a _ ha => by
      obtain ⟨h1, h2, h3⟩ := n' a (ha.imp id fun z => by simp [z])
      rcases h3 with h3 | h3
      · exact .inl (o.fresh h3)
      · exact (hfa a h3).2.2
    have frm : ∀ a, a ∉ e.F → e.H a ≠ none → H' a = e.H a := fun a h1 h2 => by
      rw [← o.frame a h1 h2]
      refine en.frame a (fun hb => ?_) (o.there a h2)
      rcases (hfa a hb).2.2 with z | z
      · exact h2 z
      · exact h1 z
    have thr : ∀ a, e.H a ≠ none → H' a ≠ none := fun a h => en.there a (o.there a h)
    have fxx : ∀ p ∈ e.P, (σ ++ vs.map some)[p.1]? = some (some p.2) := fun p hp => by
      have := o.fix p hp
      rw [List.getElem?_append_left (List.getElem?_eq_some_iff.mp this).1]
      exact this
    have newS : ∀ a, S' a ≠ none → a ∉ fs → e.S a ≠ none ∨ e.H a = none ∨ a ∈ e.F := fun a h hn => by
      rcases en.new a h with z | z | z
      · exact o.new a (by rw [← Sout a hn]; exact z)
      · exact .inr (.inl (o.fresh z))
      · exact .inr (hfa a z).2.2
    cases hl : lend with
    | false =>
      have eS : S = Hs := by show (if lend = true then frzH Hs H fs else Hs) = Hs; rw [hl]; rfl
      have sS' : Same Hs S' := fun a u z => en.sub0 a u (sS a u z)
      have fsS : ∀ a ∈ fs, S' a = none := fun a ha => by
        cases q : S' a with
        | none => rfl
        | some x =>
          rcases en.new a (by rw [q]; simp) with z | z | z
          · have z' : S a ≠ none := z
            rw [eS] at z'
            exact absurd (hfs a ha).1 z'
          · exact absurd z (hfs a ha).2.1
          · exact absurd z (nfs a ha)
      refine ⟨S', en.sub, fun a u z => sS' a u (o.sub0 a u z), fun a h => ?_, frm, thr, fxx, fs ++ gs, gv ++ ft', (r1.keep sS' kfs).append q1, ⟨gv, ft', rfl, qv, rt.keep sS' kft⟩, cc, fun a ha => ?_⟩
      · by_cases m : a ∈ fs
        · exact absurd (fsS a m) h
        · exact newS a h m
      · simp only [List.mem_append] at ha
        rcases ha with (ha | ha) | (ha | ha)
        · exact ⟨fsS a ha, by rw [kfs a ha]; exact (hfs a ha).2.1, (hfs a ha).2.2⟩
        · have z := n' a (.inl ha)
          exact ⟨z.1, z.2.1, fin1 a z.2.1 (.inl ha)⟩
        · have z := n' a (.inr (by simp [ha]))
          exact ⟨z.1, z.2.1, fin1 a z.2.1 (.inr ha)⟩
        · exact ⟨nS' a ha, by rw [kft a ha]; exact (hft a ha).2.1, (hft a ha).2.2⟩
    | true =>
      obtain ⟨sh1, sh2⟩ := hsh hl
      -- what was lent comes back
      let S2 : Hp := fun a => if a ∈ fs then none else S' a
      have kt : KeepT S' S2 := fun a => by
        by_cases m : a ∈ fs
        · have nt := r1.noTup a m
          have es : ∀ u, S' a = some u → H a = some u := fun u z => by rw [← kfs a m]; exact en.sub a u z
          exact ⟨fun xs z => absurd (es _ z) (nt.1 xs), fun ob xs z => absurd (es _ z) (nt.2 ob xs)⟩
        · exact ⟨fun xs z => by show (if a ∈ fs then none else S' a) = _; rw [if_neg m]; exact z, fun ob xs z => by show (if a ∈ fs then none else S' a) = _; rw [if_neg m]; exact z⟩
      have sS2 : Same Hs S2 := fun a u z => by
        show (if a ∈ fs then none else S' a) = some u
        by_cases m : a ∈ fs
        · rw [(hfs a m).1] at z; cases z
        · rw [if_neg m]; exact en.sub0 a u (sS a u z)
      have S2S : ∀ a, S2 a ≠ none → a ∉ fs ∧ S' a ≠ none := fun a h => by
        have h' : (if a ∈ fs then none else S' a) ≠ none := h
        by_cases m : a ∈ fs
        · rw [if_pos m] at h'; exact absurd rfl h'
        · rw [if_neg m] at h'; exact ⟨m, h'⟩
      refine ⟨S2, fun a u z => ?_, fun a u z => sS2 a u (o.sub0 a u z), fun a h => newS a (S2S a h).2 (S2S a h).1, frm, thr, fxx, fs ++ gs, gv ++ ft', (r1.keep sS2 kfs).append (q1.shK kt sh2), ⟨gv, ft', rfl, RepTs.shK kt (by simp [T.shs, sh1]) qv, rt.keep sS2 kft⟩, cc, fun a ha => ?_⟩
      · have z' : (if a ∈ fs then none else S' a) = some u := z
        by_cases m : a ∈ fs
        · rw [if_pos m] at z'; cases z'
        · rw [if_neg m] at z'; exact en.sub a u z'
      · have nn : ∀ a, S' a = none → S2 a = none := fun a h => by
          show (if a ∈ fs then none else S' a) = none
          split
          · rfl
          · exact h
        simp only [List.mem_append] at ha
        rcases ha with (ha | ha) | (ha | ha)
        · exact ⟨by show (if a ∈ fs then none else S' a) = none; rw [if_pos ha], by rw [kfs a ha]; exact (hfs a ha).2.1, (hfs a ha).2.2⟩
        · have z := n' a (.inl ha)
          exact ⟨nn a z.1, z.2.1, fin1 a z.2.1 (.inl ha)⟩
        · have z := n' a (.inr (by simp [ha]))
          exact ⟨nn a z.1, z.2.1, fin1 a z.2.1 (.inr ha)⟩
        · exact ⟨nn a (nS' a ha), by rw [kft a ha]; exact (hft a ha).2.1, (hft a ha).2.2⟩
end
end DL
namespace DL
open PySem PySem.Spec L2

/-! ### expressions that may do something: their judgement -/
inductive Rs (α : Type) where
  | ok (a : α) (ρ : Sl)
  | ex (c : Nat) (t : T) (ρ : Sl)
def bindR {α β : Type} (r : Option (Rs α)) (k : α → Sl → Option (Rs β)) : Option (Rs β) :=
  match r with
  | none => none
  | some (.ok a ρ) => k a ρ
  | some (.ex c t ρ) => some (.ex c t ρ)
def okR {α : Type} (r : Option α) (ρ : Sl) : Option (Rs α) := r.map fun a => .ok a ρ

/-- what is wanted of an exception -/
def XP (g : Gx) (W : WX) (e : Fr0) (τ : Tm) (σ : L2.St) (c : Nat) (t : T) (ρ : Sl) : Prop :=
  ∀ v dx H' Hs', Ok g e ρ (([v], [t]) :: τ) σ H' Hs' → H' dx = some (.xd [(valueN, v)]) → W (.ref (g.cls c)) (some dx) σ H'
def Post {α β : Type} (g : Gx) (W : WX) (e : Fr0) (τ : Tm) (σ : L2.St) (gr : α → β → List V × List T) (r : Option (Rs α)) (Q : β → Hp → Prop) : Prop :=
  match r with
  | none => False
  | some (.ok a ρ) => ∀ b H' Hs', Ok g e ρ (gr a b :: τ) σ H' Hs' → Q b H'
  | some (.ex c t ρ) => XP g W e τ σ c t ρ
abbrev one : T → V → List V × List T := fun t v => ([v], [t])
abbrev many : List T → List V → List V × List T := fun ts vs => (vs, ts)
def CJ (X : Cx) (g : Gx) (W : WX) (f : Sl → Option (Rs T)) (ex : Expr) : Prop :=
  ∃ te, PE X ex te ∧ ∀ e ρ τ σ H Hs (Q : VK), Ok g e ρ τ σ H Hs → Post g W e τ σ one (f ρ) Q → te σ H Q
def AJ (X : Cx) (g : Gx) (W : WX) (f : Sl → Option (Rs (List T))) (es : List Expr) : Prop :=
  ∃ ta, PA X es ta ∧ ∀ e ρ τ σ H Hs (Q : List V → Hp → Prop), Ok g e ρ τ σ H Hs → Post g W e τ σ many (f ρ) Q → ta σ H Q
/-- a test: nothing is left at hand -/
def PostB (g : Gx) (W : WX) (e : Fr0) (τ : Tm) (σ : L2.St) (r : Option (Rs Bool)) (Q : Bool → Hp → Prop) : Prop :=
  match r with
  | none => False
  | some (.ok b ρ) => ∀ H' Hs', Ok g e ρ τ σ H' Hs' → Q b H'
  | some (.ex c t ρ) => XP g W e τ σ c t ρ
def BJ (X : Cx) (g : Gx) (W : WX) (f : Sl → Option (Rs Bool)) (ex : Expr) : Prop :=
  ∃ tt, PT X ex tt ∧ ∀ e ρ τ σ H Hs (Q : Bool → Hp → Prop), Ok g e ρ τ σ H Hs → PostB g W e τ σ (f ρ) Q → tt σ H Q
def WBJ (X : Cx) (g : Gx) (W : WX) (f : Sl → Option (Rs Bool)) (ex : Expr) : Prop :=
  ∃ tt, PW X ex tt ∧ ∀ e ρ τ σ H Hs (Q : Bool → Hp → Prop), Ok g e ρ τ σ H Hs → PostB g W e τ σ (f ρ) Q → tt σ H Q

section
variable {X : Cx} {g : Gx} {c : Cxt} {W : WX} {e1 e2 e3 ex : Expr} {fa fb fd : Sl → Option (Rs T)} {pos : Pos}
theorem XP.drop {e : Fr0} {τ : Tm} {σ : L2.St} {c : Nat} {t : T} {ρ : Sl} {p : List V × List T} (h : XP g W e τ σ c t ρ) : XP g W e (p :: τ) σ c t ρ :=
  fun v dx H' Hs' o hd => h v dx H' Hs' o.swap.drop hd
theorem Post.bind {α β γ δ : Type} {e : Fr0} {τ : Tm} {σ : L2.St} {gr : α → β → List V × List T} {gr' : γ → δ → List V × List T} {r : Option (Rs γ)} {k : γ → Sl → Option (Rs α)} {Q : β → Hp → Prop} {Q1 : δ → Hp → Prop}
    (q : Post g W e τ σ gr (bindR r k) Q) (h : ∀ a ρ1, r = some (.ok a ρ1) → ∀ b H1 Hs1, Ok g e ρ1 (gr' a b :: τ) σ H1 Hs1 → Post g W e τ σ gr (k a ρ1) Q → Q1 b H1) : Post g W e τ σ gr' r Q1 := by
  cases r with
  | none => exact q
  | some r =>
    cases r with
    | ex c t ρ => exact q
    | ok a ρ1 => exact fun b H1 Hs1 o1 => h a ρ1 rfl b H1 Hs1 o1 q
theorem Post.bindD {α β γ δ : Type} {e : Fr0} {τ : Tm} {σ : L2.St} {p : List V × List T} {gr : α → β → List V × List T} {gr' : γ → δ → List V × List T} {r : Option (Rs γ)} {k : γ → Sl → Option (Rs α)} {Q : β → Hp → Prop} {Q1 : δ → Hp → Prop}
    (q : Post g W e τ σ gr (bindR r k) Q) (h : ∀ a ρ1, r = some (.ok a ρ1) → ∀ b H1 Hs1, Ok g e ρ1 (gr' a b :: p :: τ) σ H1 Hs1 → Post g W e τ σ gr (k a ρ1) Q → Q1 b H1) : Post g W e (p :: τ) σ gr' r Q1 := by
  cases r with
  | none => exact q
  | some r =>
    cases r with
    | ex c t ρ => exact XP.drop q
    | ok a ρ1 => exact fun b H1 Hs1 o1 => h a ρ1 rfl b H1 Hs1 o1 q
theorem Post.okR {α β : Type} {e : Fr0} {τ : Tm} {σ : L2.St} {gr : α → β → List V × List T} {r : Option α} {ρ : Sl} {Q : β → Hp → Prop} (q : Post g W e τ σ gr (DL.okR r ρ) Q) : ∃ a, r = some a ∧ ∀ b H' Hs', Ok g e ρ (gr a b :: τ) σ H' Hs' → Q b H' := by
  cases r with
  | none => exact q.elim
  | some a => exact ⟨a, rfl, q⟩
/-- one part, then what a rule makes of it -/
theorem cj_one {k : T → Option D} {R : V → Hp → VK → Prop} (mk : ∀ ta, PE X e1 ta → PE X ex (fun σ H Q => ta σ H fun v H1 => R v H1 Q))
    (rr : ∀ Hs H x va fx d, Same Hs H → RepT g Hs H x va fx → k x = some d → ∀ Q : VK, (∀ v, Rep g Hs d v → Q v H) → R va H Q) (ha : CJ X g W fa e1) :
    CJ X g W (fun ρ => bindR (fa ρ) fun x ρ1 => okR ((k x).map T.fz) ρ1) ex := by
  obtain ⟨ta, pa, ra⟩ := ha
  refine ⟨_, mk ta pa, fun e ρ τ σ H Hs Q o q => ?_⟩
  refine ra e ρ τ σ H Hs _ o (Post.bind q fun x ρ1 _ va H1 Hs1 o1 q1 => ?_)
  obtain ⟨t, ht, q1⟩ := q1.okR
  simp only [Option.map_eq_some_iff] at ht
  obtain ⟨d, hk, rfl⟩ := ht
  obtain ⟨fx, rx⟩ := o1.top
  exact rr Hs1 H1 x va fx d o1.sub rx hk Q fun v rv => q1 v H1 Hs1 (o1.drop.push rv)
/-- two parts, then what a rule makes of them -/
theorem cj_two {k : T → T → Option D} {R : V → V → Hp → VK → Prop} (mk : ∀ ta tb, PE X e1 ta → PE X e2 tb → PE X ex (fun σ H Q => ta σ H fun v H1 => tb σ H1 fun w H2 => R v w H2 Q))
    (rr : ∀ Hs H x y va vb fx fy d, Same Hs H → RepT g Hs H x va fx → RepT g Hs H y vb fy → k x y = some d → ∀ Q : VK, (∀ v, Rep g Hs d v → Q v H) → R va vb H Q) (ha : CJ X g W fa e1) (hb : CJ X g W fb e2) :
    CJ X g W (fun ρ => bindR (fa ρ) fun x ρ1 => bindR (fb ρ1) fun y ρ2 => okR ((k x y).map T.fz) ρ2) ex := by
  obtain ⟨ta, pa, ra⟩ := ha
  obtain ⟨tb, pb, rb⟩ := hb
  refine ⟨_, mk ta tb pa pb, fun e ρ τ σ H Hs Q o q => ?_⟩
  refine ra e ρ τ σ H Hs _ o (Post.bind q fun x ρ1 _ va H1 Hs1 o1 q1 => ?_)
  refine rb e ρ1 _ σ H1 Hs1 _ o1 (Post.bindD q1 fun y ρ2 _ vb H2 Hs2 o2 q2 => ?_)
  obtain ⟨t, ht, q2⟩ := q2.okR
  simp only [Option.map_eq_some_iff] at ht
  obtain ⟨d, hk, rfl⟩ := ht
  obtain ⟨fy, ry⟩ := o2.top
  obtain ⟨fx, rx⟩ := o2.swap.top
  exact rr Hs2 H2 x y va vb fx fy d o2.sub rx ry hk Q fun v rv => q2 v H2 Hs2 (o2.drop.drop.push rv)
/-- what is kept of a pure expression: a frozen thing -/
theorem cj_p {p : P} (h : PJ X g (evP p) ex) : CJ X g W (fun ρ => match evP p ρ with | some (.fz d) => some (.ok (.fz d) ρ) | _ => none) ex := by
  obtain ⟨te, pe, r⟩ := h
  refine ⟨te, pe, fun e ρ τ σ H Hs Q o q => ?_⟩
  dsimp only at q
  cases h : evP p ρ with
  | none => rw [h] at q; exact q.elim
  | some t =>
    rw [h] at q
    cases t with
    | fz d =>
      obtain ⟨O, vw⟩ := o.view
      refine r ρ σ H Hs O _ vw h Q fun v fp rv => q v H Hs (o.push ?_)
      have rv := rv.r
      simp only [RepT] at rv
      exact rv.1
    | _ => exact q.elim
theorem bj_p {p : P} (h : TJ X g (evT p) ex) : BJ X g W (fun ρ => okR (evT p ρ) ρ) ex := by
  obtain ⟨te, pe, r⟩ := h
  refine ⟨te, pe, fun e ρ τ σ H Hs Q o q => ?_⟩
  dsimp only at q
  cases h : evT p ρ with
  | none => rw [h] at q; exact q.elim
  | some b =>
    rw [h] at q
    obtain ⟨O, vw⟩ := o.view
    exact r ρ σ H Hs O b vw h Q (q H Hs o)
/-- the result is frozen -/
theorem cj_fz (ha : CJ X g W fa ex) : CJ X g W (fun ρ => bindR (fa ρ) fun x ρ1 => some (.ok (.fz x.d) ρ1)) ex := by
  obtain ⟨ta, pa, ra⟩ := ha
  refine ⟨ta, pa, fun e ρ τ σ H Hs Q o q => ?_⟩
  refine ra e ρ τ σ H Hs _ o (Post.bind q fun x ρ1 _ va H1 Hs1 o1 q1 => ?_)
  obtain ⟨Hs2, _, o2⟩ := o1.freeze
  exact q1 va H1 Hs2 o2
/-- a name that is read for good: what it owns is frozen -/
theorem cj_fzs (k : Cp X g c) {i : Nat} {x : Str} (h1 : c.N[i]? = some x) (h2 : visB c x = true) : CJ X g W (fun ρ => match ρ[i]? with | some (some t) => some (.ok (.fz t.d) (ρ.set i (some (.fz t.d)))) | _ => none) (.Name x pos) := by
  obtain ⟨v1, v2, v3⟩ := k.vis h2
  refine ⟨_, pe_var (i := i) (by rw [k.N]; exact h1) v1 v2 v3, fun e ρ τ σ H Hs Q o q => ?_⟩
  dsimp only at q
  cases h : ρ[i]? with
  | none => rw [h] at q; exact q.elim
  | some w =>
    rw [h] at q
    cases w with
    | none => exact q.elim
    | some t =>
      obtain ⟨v, hv, o1⟩ := o.take h
      obtain ⟨Hs2, _, o2⟩ := o1.freeze
      obtain ⟨fp, rt⟩ := o2.top
      simp only [RepT] at rt
      have o3 := (o2.push rt.1).swap.back (i := i) hv
      rw [List.set_set] at o3
      exact ⟨v, hv, q v H Hs2 o3⟩
/-- a name that is read for the last time: what it owns goes on -/
theorem cj_mv (k : Cp X g c) {i : Nat} {x : Str} (h1 : c.N[i]? = some x) (h2 : visB c x = true) : CJ X g W (fun ρ => match ρ[i]? with | some (some t) => some (.ok t (ρ.set i none)) | _ => none) (.Name x pos) := by
  obtain ⟨v1, v2, v3⟩ := k.vis h2
  refine ⟨_, pe_var (i := i) (by rw [k.N]; exact h1) v1 v2 v3, fun e ρ τ σ H Hs Q o q => ?_⟩
  dsimp only at q
  cases h : ρ[i]? with
  | none => rw [h] at q; exact q.elim
  | some w =>
    rw [h] at q
    cases w with
    | none => exact q.elim
    | some t =>
      obtain ⟨v, hv, o1⟩ := o.take h
      exact ⟨v, hv, q v H Hs o1⟩
theorem cj_bin (k : Cp X g c) {o : O2} {op : Operator} (ho : o.bin = some op) (ha : CJ X g W fa e1) (hb : CJ X g W fb e2) :
    CJ X g W (fun ρ => bindR (fa ρ) fun x ρ1 => bindR (fb ρ1) fun y ρ2 => okR ((o2 o x.d y.d).map T.fz) ρ2) (.BinOp e1 op e2 pos) := by
  obtain ⟨r, hr, rr⟩ := opD (X := X) k.hk (by have := k.hu; omega) o
  have hf : o.f = binaryOp op := by unfold O2.f; rw [ho]
  rw [hf] at hr
  refine cj_two (k := fun x y => o2 o x.d y.d) (R := r) (fun ta tb pa pb => pe_op hr pa pb) (fun Hs H x y va vb fx fy d s rx ry hk Q q => ?_) ha hb
  obtain ⟨h1, h2⟩ := rr H x.d y.d va vb d (rx.now s) (ry.now s) hk
  exact h2 Q (q _ (Rep.at h1))
theorem cj_cmp (k : Cp X g c) {o : O2} {op : CmpOp} (hn : o.bin = none) (ho : o.cmp = some op) (hs : setB e2 = false) (ha : CJ X g W fa e1) (hb : CJ X g W fb e2) :
    CJ X g W (fun ρ => bindR (fa ρ) fun x ρ1 => bindR (fb ρ1) fun y ρ2 => okR ((o2 o x.d y.d).map T.fz) ρ2) (.Compare e1 [op] [e2] pos) := by
  obtain ⟨r, hr, rr⟩ := opD (X := X) k.hk (by have := k.hu; omega) o
  have hf : o.f = compareOp op := by unfold O2.f; rw [hn, ho]; rfl
  rw [hf] at hr
  refine cj_two (k := fun x y => o2 o x.d y.d) (R := r) (fun ta tb pa pb => pe_cmpR hr pa pb (noMark hs)) (fun Hs H x y va vb fx fy d s rx ry hk Q q => ?_) ha hb
  obtain ⟨h1, h2⟩ := rr H x.d y.d va vb d (rx.now s) (ry.now s) hk
  exact h2 Q (q _ (Rep.at h1))
def negD : D → Option D
  | .int i => some (.int (-i))
  | _ => none
theorem cj_neg (ha : CJ X g W fa e1) : CJ X g W (fun ρ => bindR (fa ρ) fun x ρ1 => okR ((negD x.d).map T.fz) ρ1) (.UnaryOp .USub e1 pos) :=
  cj_one (k := fun x => negD x.d) (R := rU fun i => .int (-i)) (fun ta pa => pe_un un_neg pa) (fun Hs H x va fx d s rx hk Q q => by
    have r := rx.now s
    cases hd : x.d <;> rw [hd] at hk r <;> simp only [negD, reduceCtorEq] at hk
    cases hk
    simp only [Rep] at r
    exact ⟨_, r, q _ (by simp only [Rep])⟩) ha
theorem cj_not (k : Cp X g c) (ha : CJ X g W fa e1) : CJ X g W (fun ρ => bindR (fa ρ) fun x ρ1 => okR ((x.d.tru.map fun b => D.bl (!b)).map T.fz) ρ1) (.UnaryOp .Not e1 pos) :=
  cj_one (k := fun x => x.d.tru.map fun b => D.bl (!b)) (R := fun v H Q => ∃ k, TruV X.K v H k ∧ Q (.bl (!k)) H) (fun ta pa => pe_notT pa) (fun Hs H x va fx d s rx hk Q q => by
    simp only [Option.map_eq_some_iff] at hk
    obtain ⟨b, hb, rfl⟩ := hk
    exact ⟨b, truD k.hk (rx.now s) hb, q _ (by simp only [Rep])⟩) ha
def fzD : T → Option D
  | .fz d => some d
  | _ => none
theorem cj_ix (k : Cp X g c) (hs : slB e2 = false) (ha : CJ X g W fa e1) (hb : CJ X g W fb e2) :
    CJ X g W (fun ρ => bindR (fa ρ) fun x ρ1 => bindR (fb ρ1) fun y ρ2 => okR (((ixT x y.d).bind fzD).map T.fz) ρ2) (.Subscript e1 e2 pos) := by
  obtain ⟨r, hr, rr⟩ := ixD (X := X) k.hk (by have := k.hu; omega)
  refine cj_two (k := fun x y => (ixT x y.d).bind fzD) (R := r) (fun ta tb pa pb => pe_ix hr pa pb (plainIx hs)) (fun Hs H x y va vb fx fy d s rx ry hk Q q => ?_) ha hb
  simp only [Option.bind_eq_some_iff] at hk
  obtain ⟨w, hw, hd⟩ := hk
  cases w <;> simp only [fzD, reduceCtorEq] at hd
  cases hd
  refine rr Hs H x y.d _ va vb fx s rx (ry.now s) hw Q fun v fp rv _ => q v ?_
  simp only [RepT] at rv
  exact rv.1
theorem cj_b1 (k : Cp X g c) {b : B1} {f : Str} {p : Pos} (hf : f = b.nm) (hg : glB c f = true) (hs : starB e1 = false) (ha : CJ X g W fa e1) :
    CJ X g W (fun ρ => bindR (fa ρ) fun x ρ1 => okR ((b1D b x.d).map T.fz) ρ1) (.Call (.Name f p) [e1] [] pos) := by
  obtain ⟨r, hr, rr⟩ := b1R (X := X) k.hk b
  refine cj_one (k := fun x => b1D b x.d) (R := fun v H Q => r [v] H Q) (fun ta pa => ?_) (fun Hs H x va fx d s rx hk Q q => ?_) ha
  · subst hf
    cases b
    · exact pe_callB hr (k.gl hg) (k.bn _ (by decide)) PySem.boot_len (pa_one pa hs) (by decide) (by decide) (star_cons hs) (by rfl)
    · exact pe_callTy hr (k.gl hg) (k.bn _ (by decide)) (by decide +kernel) (pa_one pa hs) (by decide) (by decide) (star_cons hs) (by rfl)
    · exact pe_callB hr (k.gl hg) (k.bn _ (by decide)) (by decide +kernel) (pa_one pa hs) (by decide) (by decide) (star_cons hs) (by rfl)
  · obtain ⟨h1, h2⟩ := rr H x.d va d (rx.now s) hk
    exact h2 Q (q _ (Rep.at h1))
theorem cj_b2 (k : Cp X g c) {b : B2} {f : Str} {p : Pos} (hf : f = b.nm) (hg : glB c f = true) (hs : starB e1 = false) (hs' : starB e2 = false) (ha : CJ X g W fa e1) (hb : CJ X g W fb e2) :
    CJ X g W (fun ρ => bindR (fa ρ) fun x ρ1 => bindR (fb ρ1) fun y ρ2 => okR ((b2D b x.d y.d).map T.fz) ρ2) (.Call (.Name f p) [e1, e2] [] pos) := by
  obtain ⟨r, hr, rr⟩ := b2R (X := X) (g := g) k.calm b
  refine cj_two (k := fun x y => b2D b x.d y.d) (R := fun v w H Q => r [v, w] H Q) (fun ta tb pa pb => ?_) (fun Hs H x y va vb fx fy d s rx ry hk Q q => ?_) ha hb
  · subst hf
    cases b
    · exact pe_callB hr (k.gl hg) (k.bn _ (by decide)) (by decide +kernel) (pa_two pa pb hs hs') (by decide) (by decide) (star_cons hs) (star_none fun x hx => by simp at hx; subst hx; exact hs')
    · exact pe_callB hr (k.gl hg) (k.bn _ (by decide)) (by decide +kernel) (pa_two pa pb hs hs') (by decide) (by decide) (star_cons hs) (star_none fun x hx => by simp at hx; subst hx; exact hs')
  · obtain ⟨h1, h2⟩ := rr H x.d y.d va vb d (rx.now s) (ry.now s) hk
    exact h2 Q (q _ (Rep.at h1))
/-- argument lists -/
theorem aj_nil : AJ X g W (fun ρ => some (.ok [] ρ)) [] :=
  ⟨_, pa_nil, fun e ρ τ σ H Hs Q o q => q [] H Hs o.nilG⟩
theorem aj_cons {es : List Expr} {fr : Sl → Option (Rs (List T))} (hs : starB e1 = false) (ha : CJ X g W fa e1) (hr : AJ X g W fr es) :
    AJ X g W (fun ρ => bindR (fa ρ) fun x ρ1 => bindR (fr ρ1) fun xs ρ2 => some (.ok (x :: xs) ρ2)) (e1 :: es) := by
  obtain ⟨ta, pa, ra⟩ := ha
  obtain ⟨tb, pb, rb⟩ := hr
  refine ⟨_, pa_cons pa pb (star_cons hs), fun e ρ τ σ H Hs Q o q => ?_⟩
  refine ra e ρ τ σ H Hs _ o (Post.bind q fun x ρ1 _ va H1 Hs1 o1 q1 => ?_)
  exact rb e ρ1 _ σ H1 Hs1 _ o1 (Post.bindD q1 fun xs ρ2 _ vs H2 Hs2 o2 q2 => q2 (va :: vs) H2 Hs2 o2.merge)
end
end DL
namespace DL
open PySem PySem.Spec L2

section
variable {g : Gx} {H Hs : Hp}
mutual
theorem RepT.det : ∀ {t : T} {v : V} {f f' : List Addr}, RepT g Hs H t v f → RepT g Hs H t v f' → f = f'
  | .fz d, _, _, _, h, q => by
    simp only [RepT] at h q
    rw [h.2, q.2]
  | .tup ts, _, _, _, h, q => by
    simp only [RepT] at h q
    obtain ⟨a, vs, rfl, h1, r⟩ := h
    obtain ⟨a', vs', e, h2, r'⟩ := q
    cases e
    rw [h1] at h2
    cases h2
    exact RepTs.det r r'
  | .lst ts, _, _, _, h, q => by
    simp only [RepT] at h q
    obtain ⟨a, vs, f1, rfl, h1, rfl, r⟩ := h
    obtain ⟨a', vs', f2, e, h2, rfl, r'⟩ := q
    cases e
    rw [h1] at h2
    cases h2
    rw [RepTs.det r r']
  | .dic ks ts, _, _, _, h, q => by
    simp only [RepT] at h q
    obtain ⟨a, vs, f1, rfl, h1, l, rfl, r⟩ := h
    obtain ⟨a', vs', f2, e, h2, l', rfl, r'⟩ := q
    cases e
    rw [h1] at h2
    have h3 := Option.some.inj h2
    injection h3 with h3
    have e2 : vs = vs' := by
      have := congrArg (List.map Prod.snd) h3
      rwa [List.map_snd_zip (by omega), List.map_snd_zip (by omega)] at this
    subst e2
    rw [RepTs.det r r']
  | .obj c ns ts, _, _, _, h, q => by
    simp only [RepT] at h q
    obtain ⟨a, dx, vs, f1, rfl, h1, _, l, rfl, r⟩ := h
    obtain ⟨a', dx', vs', f2, e, h2, _, l', rfl, r'⟩ := q
    cases e
    rw [h1] at h2
    have h3 := Option.some.inj h2
    injection h3 with h4 h5 h3
    subst h5
    have e2 : vs = vs' := by
      have := congrArg (List.map Prod.snd) h3
      rwa [List.map_snd_zip (by omega), List.map_snd_zip (by omega)] at this
    subst e2
    rw [RepTs.det r r']
theorem RepTs.det : ∀ {ts : List T} {vs : List V} {f f' : List Addr}, RepTs g Hs H ts vs f → RepTs g Hs H ts vs f' → f = f'
  | [], _, _, _, h, q => by
    simp only [RepTs] at h q
    rw [h.2, q.2]
  | t :: ts, _, _, _, h, q => by
    simp only [RepTs] at h q
    obtain ⟨v, vs', f1, f2, rfl, rfl, z, r⟩ := h
    obtain ⟨v', vs'', f3, f4, e, rfl, z', r'⟩ := q
    obtain ⟨rfl, rfl⟩ := List.cons.inj e
    rw [RepT.det z z', RepTs.det r r']
end
theorem RepE.det : ∀ {ρ : Sl} {σ : L2.St} {f f' : List Addr}, RepE g Hs H ρ σ f → RepE g Hs H ρ σ f' → f = f'
  | [], _, _, _, h, q => by rw [h.2, q.2]
  | none :: ρ, _, _, _, h, q => by
    obtain ⟨o, σ1, rfl, r⟩ := h
    obtain ⟨o', σ2, e, r'⟩ := q
    obtain ⟨rfl, rfl⟩ := List.cons.inj e
    exact RepE.det r r'
  | some t :: ρ, _, _, _, h, q => by
    obtain ⟨v, σ1, f1, f2, rfl, rfl, z, r⟩ := h
    obtain ⟨v', σ2, f3, f4, e, rfl, z', r'⟩ := q
    obtain ⟨e1, rfl⟩ := List.cons.inj e
    cases e1
    rw [RepT.det z z', RepE.det r r']
end

/-! ### what a call is given: own things, things to be read, slots that are lent to be changed -/
inductive AV where
  | own (t : T) | bor (t : T) | io (i : Nat)
/-- vs: all; vo, to: the own ones -/
def ARel (g : Gx) (Hs H : Hp) (ρ : Sl) (σ : L2.St) : List AV → List V → List V → List T → Prop
  | [], vs, vo, to => vs = [] ∧ vo = [] ∧ to = []
  | .own t :: r, vs, vo, to => ∃ v vs' vo' to', vs = v :: vs' ∧ vo = v :: vo' ∧ to = t :: to' ∧ ARel g Hs H ρ σ r vs' vo' to'
  | .bor t :: r, vs, vo, to => ∃ v vs', vs = v :: vs' ∧ (∃ f, RepT g Hs H t v f ∧ (f = [] ∨ ∃ fs, RepE g Hs H ρ σ fs ∧ ∀ a ∈ f, a ∈ fs)) ∧ ARel g Hs H ρ σ r vs' vo to
  | .io i :: r, vs, vo, to => ∃ v vs', vs = v :: vs' ∧ σ[i]? = some (some v) ∧ ARel g Hs H ρ σ r vs' vo to
def isFz : T → Bool
  | .fz _ => true
  | _ => false
def lendA : List AV → Bool
  | [] => false
  | .bor t :: r => !isFz t || lendA r
  | _ :: r => lendA r
def takeA : List AV → Sl → Option (List T × Sl)
  | [], ρ => some ([], ρ)
  | .own t :: r, ρ => (takeA r ρ).map fun p => (t :: p.1, p.2)
  | .bor t :: r, ρ => (takeA r ρ).map fun p => (.fz t.d :: p.1, p.2)
  | .io i :: r, ρ => match ρ[i]? with
    | some (some t) => (takeA r (ρ.set i none)).map fun p => (t :: p.1, p.2)
    | _ => none
def putA : List AV → List (Option T) → Sl → Option Sl
  | [], _, ρ => some ρ
  | .io i :: r, some t :: fin, ρ => putA r fin (ρ.set i (some t))
  | .io _ :: _, _, _ => none
  | _ :: r, _ :: fin, ρ => putA r fin ρ
  | _ :: _, [], _ => none
def ioA : List AV → Bool
  | [] => false
  | .io _ :: _ => true
  | _ :: r => ioA r
theorem takeA_noIo : ∀ {avs : List AV} {ρ ρ' : Sl} {ts : List T}, ioA avs = false → takeA avs ρ = some (ts, ρ') → ρ' = ρ
  | [], _, _, _, _, h => by cases h; rfl
  | .own t :: r, _, _, _, i, h => by
    simp only [takeA, Option.map_eq_some_iff] at h
    obtain ⟨⟨ts1, ρ1⟩, h, e⟩ := h
    cases e
    exact takeA_noIo (avs := r) (by simpa only [ioA] using i) h
  | .bor t :: r, _, _, _, i, h => by
    simp only [takeA, Option.map_eq_some_iff] at h
    obtain ⟨⟨ts1, ρ1⟩, h, e⟩ := h
    cases e
    exact takeA_noIo (avs := r) (by simpa only [ioA] using i) h
  | .io _ :: r, _, _, _, i, _ => by cases i
/-- what is lent comes back whole -/
def retOk (avs : List AV) (t : T) (fin : List (Option T)) : Bool := !lendA avs || (!ioA avs && t.sh && shE fin)
def callD (F : List T → Option Out) (avs : List AV) (ρ : Sl) : Option (Rs T) :=
  (takeA avs ρ).bind fun p => (F p.1).bind fun out => match out with
    | .ret t fin => if retOk avs t fin = true then (putA avs fin p.2).map (.ok t ·) else none
    | .exc c t fin => if retOk avs t fin = true then (putA avs fin p.2).map (.ex c t ·) else none

section
variable {g : Gx} {H H' Hs Hs' : Hp} {e : Fr0} {ρ ρ' : Sl} {τ : Tm} {σ : L2.St}
/-- the lent slots are taken out: their trees as a group (vi, ti) -/
theorem takeA_ok : ∀ {avs : List AV} {vs vo : List V} {to ts : List T} {ρ ρ' : Sl} {τ : Tm}, ARel g Hs H ρ0 σ avs vs vo to → Ok g e ρ τ σ H Hs → takeA avs ρ = some (ts, ρ') →
    ∃ vi ti, Ok g e ρ' ((vi, ti) :: τ) σ H Hs ∧ ρ'.length = ρ.length ∧
      ∀ (S : Hp) (fo fi : List Addr), RepTs g S H to vo fo → RepTs g S H ti vi fi → (∀ t v f, RepT g Hs H t v f → (f = [] ∨ ∃ fs, RepE g Hs H ρ0 σ fs ∧ ∀ a ∈ f, a ∈ fs) → (lendA avs = false → isFz t = true) → Rep g S t.d v) → ∃ fp, RepTs g S H ts vs fp ∧ ∀ a, fp.count a = fo.count a + fi.count a
  | [], vs, vo, to, ts, ρ, ρ', τ, ar, o, h => by
    obtain ⟨rfl, rfl, rfl⟩ := ar
    cases h
    refine ⟨[], [], o.nilG, rfl, fun S fo fi r1 r2 _ => ?_⟩
    simp only [RepTs] at r1 r2
    obtain ⟨_, rfl⟩ := r1
    obtain ⟨_, rfl⟩ := r2
    exact ⟨[], by simp only [RepTs]; exact ⟨trivial, trivial⟩, fun a => rfl⟩
  | .own t :: r, vs, vo, to, ts, ρ, ρ', τ, ar, o, h => by
    obtain ⟨v, vs', vo', to', rfl, rfl, rfl, ar⟩ := ar
    simp only [takeA, Option.map_eq_some_iff] at h
    obtain ⟨⟨ts1, ρ1⟩, h, e⟩ := h
    cases e
    obtain ⟨vi, ti, o1, hl, k⟩ := takeA_ok ar o h
    refine ⟨vi, ti, o1, hl, fun S fo fi r1 r2 hb => ?_⟩
    simp only [RepTs] at r1
    obtain ⟨v1, vs1, f1, f2, e1, rfl, q1, r1⟩ := r1
    obtain ⟨rfl, rfl⟩ := List.cons.inj e1
    obtain ⟨fp, q, c⟩ := k S f2 fi r1 r2 hb
    exact ⟨f1 ++ fp, by simp only [RepTs]; exact ⟨_, _, f1, fp, rfl, rfl, q1, q⟩, fun a => by simp only [List.count_append, c a]; omega⟩
  | .bor t :: r, vs, vo, to, ts, ρ, ρ', τ, ar, o, h => by
    obtain ⟨v, vs', rfl, ⟨f, rf, hf⟩, ar⟩ := ar
    simp only [takeA, Option.map_eq_some_iff] at h
    obtain ⟨⟨ts1, ρ1⟩, h, e⟩ := h
    cases e
    obtain ⟨vi, ti, o1, hl, k⟩ := takeA_ok ar o h
    refine ⟨vi, ti, o1, hl, fun S fo fi r1 r2 hb => ?_⟩
    have hb' : lendA (.bor t :: r) = false → isFz t = true ∧ lendA r = false := fun z => by
      simp only [lendA, Bool.or_eq_false_iff, Bool.not_eq_false'] at z
      exact z
    have q1 : RepT g S H (.fz t.d) v [] := by
      simp only [RepT]
      exact ⟨hb t v f rf hf fun z => (hb' z).1, trivial⟩
    obtain ⟨fp, q, c⟩ := k S fo fi r1 r2 fun t' v' f' a1 a2 a3 => by
      by_cases z : lendA r = false
      · exact hb t' v' f' a1 a2 fun _ => a3 z
      · exact hb t' v' f' a1 a2 fun y => absurd (hb' y).2 z
    exact ⟨[] ++ fp, by simp only [RepTs]; exact ⟨_, _, [], fp, rfl, rfl, q1, q⟩, fun a => by simpa using c a⟩
  | .io i :: r, vs, vo, to, ts, ρ, ρ', τ, ar, o, h => by
    obtain ⟨v, vs', rfl, hv, ar⟩ := ar
    simp only [takeA] at h
    split at h
    · rename_i t ht
      simp only [Option.map_eq_some_iff] at h
      obtain ⟨⟨ts1, ρ1⟩, h, e⟩ := h
      cases e
      obtain ⟨v2, hv2, o1⟩ := o.take ht
      rw [hv] at hv2
      cases hv2
      obtain ⟨vi, ti, o2, hl, k⟩ := takeA_ok ar o1 h
      refine ⟨v :: vi, t :: ti, o2.merge, by simpa using hl, fun S fo fi r1 r2 hb => ?_⟩
      simp only [RepTs] at r2
      obtain ⟨v1, vs1, f1, f2, e1, rfl, q1, r2⟩ := r2
      obtain ⟨rfl, rfl⟩ := List.cons.inj e1
      obtain ⟨fp, q, c⟩ := k S fo f2 r1 r2 hb
      exact ⟨f1 ++ fp, by simp only [RepTs]; exact ⟨_, _, f1, fp, rfl, rfl, q1, q⟩, fun a => by simp only [List.count_append, c a]; omega⟩
    · cases h
theorem RepE.mid : ∀ {ρ : Sl} {σ : L2.St} {x : Option T} {y : Option V} {r : Sl} {s : L2.St} {fp : List Addr}, ρ.length = σ.length → RepE g Hs H (ρ ++ x :: r) (σ ++ y :: s) fp →
    ∃ f f', (∀ t, x = some t → ∃ v, y = some v ∧ RepT g Hs H t v f) ∧ RepE g Hs H (ρ ++ r) (σ ++ s) f' ∧ ∀ a, f.count a + f'.count a ≤ fp.count a
  | [], σ, x, y, r, s, fp, l, h => by
    cases σ with
    | cons o σ => simp at l
    | nil =>
      cases x with
      | none =>
        obtain ⟨o, σ1, e, q⟩ := h
        obtain ⟨rfl, rfl⟩ := List.cons.inj e
        exact ⟨[], fp, fun _ z => (by cases z), q, fun a => by simp⟩
      | some t =>
        obtain ⟨v, σ1, f, f', e, rfl, z, q⟩ := h
        obtain ⟨rfl, rfl⟩ := List.cons.inj e
        exact ⟨f, f', fun _ z' => (by cases z'; exact ⟨v, rfl, z⟩), q, fun a => by rw [List.count_append]; omega⟩
  | none :: ρ, σ, x, y, r, s, fp, l, h => by
    cases σ with
    | nil => simp at l
    | cons o σ =>
      obtain ⟨o', σ1, e, q⟩ := h
      obtain ⟨rfl, rfl⟩ := List.cons.inj e
      obtain ⟨f, f', h1, h2, h3⟩ := RepE.mid (by simpa using l) q
      exact ⟨f, f', h1, ⟨_, _, rfl, h2⟩, h3⟩
  | some t :: ρ, σ, x, y, r, s, fp, l, h => by
    cases σ with
    | nil => simp at l
    | cons o σ =>
      obtain ⟨v, σ1, f0, f1, e, rfl, z, q⟩ := h
      obtain ⟨rfl, rfl⟩ := List.cons.inj e
      obtain ⟨f, f', h1, h2, h3⟩ := RepE.mid (by simpa using l) q
      exact ⟨f, f0 ++ f', h1, ⟨v, _, f0, f', rfl, rfl, z, h2⟩, fun a => by rw [List.count_append, List.count_append]; have := h3 a; omega⟩
/-- the slot at the seam goes, or comes to hand -/
theorem Ok.mid {x : Option T} {y : Option V} {r : Sl} {s : L2.St} (o : Ok g e (ρ ++ x :: r) τ (σ ++ y :: s) H Hs) (l : ρ.length = σ.length) (fx : ∀ p ∈ e.P, p.1 < σ.length) :
    Ok g e (ρ ++ r) τ (σ ++ s) H Hs ∧ ∀ t, x = some t → ∃ v, y = some v ∧ Ok g e (ρ ++ r) (([v], [t]) :: τ) (σ ++ s) H Hs := by
  obtain ⟨fs, ft, r1, r2, c, n⟩ := o.own
  obtain ⟨f, f', h1, h2, h3⟩ := r1.mid l
  have fix' : ∀ p ∈ e.P, (σ ++ s)[p.1]? = some (some p.2) := fun p hp => by
    have := o.fix p hp
    rw [List.getElem?_append_left (fx p hp)] at this ⊢
    exact this
  have mem : ∀ a, a ∈ f ∨ a ∈ f' → a ∈ fs := fun a ha => by
    have := h3 a
    rcases ha with ha | ha
    · have := List.count_pos_iff.mpr ha
      exact List.count_pos_iff.mp (by omega)
    · have := List.count_pos_iff.mpr ha
      exact List.count_pos_iff.mp (by omega)
  refine ⟨⟨o.sub, o.sub0, o.new, o.frame, o.there, fix', f', ft, h2, r2, fun a => by have := c a; have := h3 a; omega, fun a ha => n a (ha.imp (fun z => mem a (.inr z)) id)⟩, fun t ht => ?_⟩
  obtain ⟨v, hv, rt⟩ := h1 t ht
  refine ⟨v, hv, o.sub, o.sub0, o.new, o.frame, o.there, fix', f', f ++ ft, h2, ⟨f, ft, rfl, RepTs.one.mpr rt, r2⟩, fun a => by have := c a; have := h3 a; rw [List.count_append]; omega, fun a ha => n a ?_⟩
  simp only [List.mem_append] at ha
  rcases ha with ha | ha | ha
  · exact .inl (mem a (.inr ha))
  · exact .inl (mem a (.inl ha))
  · exact .inr ha
theorem putA_ok : ∀ {avs : List AV} {fin : List (Option T)} {ρ ρ' : Sl} {vs vo : List V} {to : List T}, ARel g Hs0 H0 ρ0 σ avs vs vo to → (fx : ∀ p ∈ e.P, p.1 < σ.length) → ρ.length = σ.length → Ok g e (ρ ++ fin) τ (σ ++ vs.map some) H Hs → putA avs fin ρ = some ρ' → Ok g e ρ' τ σ H Hs
  | [], fin, ρ, ρ', vs, vo, to, ar, fx, l, o, h => by
    cases h
    exact o.cut l fx
  | .own t :: r, [], ρ, ρ', vs, vo, to, ar, fx, l, o, h => by cases h
  | .bor t :: r, [], ρ, ρ', vs, vo, to, ar, fx, l, o, h => by cases h
  | .io i :: r, [], ρ, ρ', vs, vo, to, ar, fx, l, o, h => by cases h
  | .own t :: r, x :: fin, ρ, ρ', vs, vo, to, ar, fx, l, o, h => by
    obtain ⟨v, vs', vo', to', rfl, rfl, rfl, ar⟩ := ar
    exact putA_ok ar fx l (o.mid l fx).1 (by simpa only [putA] using h)
  | .bor t :: r, x :: fin, ρ, ρ', vs, vo, to, ar, fx, l, o, h => by
    obtain ⟨v, vs', rfl, _, ar⟩ := ar
    exact putA_ok ar fx l (o.mid l fx).1 (by simpa only [putA] using h)
  | .io i :: r, none :: fin, ρ, ρ', vs, vo, to, ar, fx, l, o, h => by cases h
  | .io i :: r, some t :: fin, ρ, ρ', vs, vo, to, ar, fx, l, o, h => by
    obtain ⟨v, vs', rfl, hv, ar⟩ := ar
    obtain ⟨v2, hv2, o2⟩ := (o.mid l fx).2 t rfl
    cases hv2
    have hi : i < σ.length := (List.getElem?_eq_some_iff.mp hv).1
    have o3 := o2.back (i := i) (by rw [List.getElem?_append_left hi]; exact hv)
    rw [List.set_append_left _ _ (by omega)] at o3
    exact putA_ok ar fx (by simpa using l) o3 (by simpa only [putA] using h)
end
end DL
namespace DL
open PySem PySem.Spec L2

/-! ### what a call is given, as it is reckoned -/
def ArgsOk (g : Gx) (e : Fr0) (τ : Tm) (σ : L2.St) (avs : List AV) (ρ : Sl) (vs : List V) (H Hs : Hp) : Prop := ∃ vo to, Ok g e ρ ((vo, to) :: τ) σ H Hs ∧ ARel g Hs H ρ σ avs vs vo to
def PostV (g : Gx) (W : WX) (e : Fr0) (τ : Tm) (σ : L2.St) (r : Option (Rs (List AV))) (Q : List V → Hp → Prop) : Prop :=
  match r with
  | none => False
  | some (.ok avs ρ) => ∀ vs H' Hs', ArgsOk g e τ σ avs ρ vs H' Hs' → Q vs H'
  | some (.ex c t ρ) => XP g W e τ σ c t ρ
def VJ (X : Cx) (g : Gx) (W : WX) (f : Sl → Option (Rs (List AV))) (es : List Expr) : Prop :=
  ∃ ta, PA X es ta ∧ ∀ e ρ τ σ H Hs (Q : List V → Hp → Prop), Ok g e ρ τ σ H Hs → PostV g W e τ σ (f ρ) Q → ta σ H Q
/-- nothing happens while they are reckoned -/
def VqJ (X : Cx) (g : Gx) (f : Sl → Option (List AV)) (es : List Expr) : Prop :=
  ∃ ta, PA X es ta ∧ ∀ e ρ τ σ H Hs avs (Q : List V → Hp → Prop), Ok g e ρ τ σ H Hs → f ρ = some avs → (∀ vs, ARel g Hs H ρ σ avs vs [] [] → Q vs H) → ta σ H Q

section
variable {X : Cx} {g : Gx} {c : Cxt} {W : WX} {e1 e2 e3 ex : Expr} {es : List Expr} {fa fb fd : Sl → Option (Rs T)} {pos : Pos}
theorem vqj_nil : VqJ X g (fun _ => some []) [] :=
  ⟨_, pa_nil, fun e ρ τ σ H Hs avs Q o h q => by cases h; exact q [] ⟨rfl, rfl, rfl⟩⟩
theorem vqj_b {p : P} {fr : Sl → Option (List AV)} (hs : starB e1 = false) (hp : PJ X g (evP p) e1) (hr : VqJ X g fr es) : VqJ X g (fun ρ => (evP p ρ).bind fun t => (fr ρ).map fun avs => .bor t :: avs) (e1 :: es) := by
  obtain ⟨ta, pa, ra⟩ := hp
  obtain ⟨tb, pb, rb⟩ := hr
  refine ⟨_, pa_cons pa pb (star_cons hs), fun e ρ τ σ H Hs avs Q o h q => ?_⟩
  simp only [Option.bind_eq_some_iff, Option.map_eq_some_iff] at h
  obtain ⟨t, ht, avs', h, rfl⟩ := h
  obtain ⟨fs, ft, r1, _⟩ := o.own
  refine ra ρ σ H Hs _ t (r1.view o.sub) ht _ fun v fp rv => rb e ρ τ σ H Hs avs' _ o h fun vs ar => q (v :: vs) ⟨v, vs, rfl, ⟨fp, rv.r, .inr ⟨fs, r1, rv.o⟩⟩, ar⟩
theorem vqj_io (k : Cp X g c) {i : Nat} {x : Str} {fr : Sl → Option (List AV)} (h1 : c.N[i]? = some x) (h2 : visB c x = true) (hr : VqJ X g fr es) : VqJ X g (fun ρ => match ρ[i]? with | some (some _) => (fr ρ).map fun avs => .io i :: avs | _ => none) (.Name x pos :: es) := by
  obtain ⟨v1, v2, v3⟩ := k.vis h2
  obtain ⟨tb, pb, rb⟩ := hr
  refine ⟨_, pa_cons (pe_var (i := i) (by rw [k.N]; exact h1) v1 v2 v3) pb (star_cons rfl), fun e ρ τ σ H Hs avs Q o h q => ?_⟩
  dsimp only at h
  split at h
  · rename_i t ht
    simp only [Option.map_eq_some_iff] at h
    obtain ⟨avs', h, rfl⟩ := h
    obtain ⟨v, f, hv, _⟩ := o.get ht
    exact ⟨v, hv, rb e ρ τ σ H Hs avs' _ o h fun vs ar => q (v :: vs) ⟨v, vs, rfl, hv, ar⟩⟩
  · cases h
theorem vj_q {fq : Sl → Option (List AV)} (hq : VqJ X g fq es) : VJ X g W (fun ρ => okR (fq ρ) ρ) es := by
  obtain ⟨ta, pa, ra⟩ := hq
  refine ⟨ta, pa, fun e ρ τ σ H Hs Q o q => ?_⟩
  dsimp only at q
  cases h : fq ρ with
  | none => rw [h] at q; exact q.elim
  | some avs =>
    rw [h] at q
    exact ra e ρ τ σ H Hs avs Q o h fun vs ar => q vs H Hs ⟨[], [], o.nilG, ar⟩
theorem ARel.own_cons {Hs H : Hp} {ρ : Sl} {σ : L2.St} {avs : List AV} {vs vo : List V} {to : List T} {v : V} {t : T} (a : ARel g Hs H ρ σ avs vs vo to) : ARel g Hs H ρ σ (.own t :: avs) (v :: vs) (v :: vo) (t :: to) :=
  ⟨v, vs, vo, to, rfl, rfl, rfl, a⟩
theorem vj_c {fr : Sl → Option (Rs (List AV))} (hs : starB e1 = false) (ha : CJ X g W fa e1) (hr : VJ X g W fr es) :
    VJ X g W (fun ρ => bindR (fa ρ) fun t ρ1 => bindR (fr ρ1) fun avs ρ2 => some (.ok (.own t :: avs) ρ2)) (e1 :: es) := by
  obtain ⟨ta, pa, ra⟩ := ha
  obtain ⟨tb, pb, rb⟩ := hr
  refine ⟨_, pa_cons pa pb (star_cons hs), fun e ρ τ σ H Hs Q o q => ?_⟩
  dsimp only at q
  refine ra e ρ τ σ H Hs _ o ?_
  cases h : fa ρ with
  | none => rw [h] at q; exact q
  | some r =>
    rw [h] at q
    cases r with
    | ex c t ρ' => exact q
    | ok t ρ1 =>
      intro v H1 Hs1 o1
      simp only [bindR] at q
      refine rb e ρ1 _ σ H1 Hs1 _ o1 ?_
      cases h2 : fr ρ1 with
      | none => rw [h2] at q; exact q
      | some r2 =>
        rw [h2] at q
        cases r2 with
        | ex c t' ρ' => exact XP.drop q
        | ok avs ρ2 =>
          rintro vs H2 Hs2 ⟨vo, to, o2, ar⟩
          exact q (v :: vs) H2 Hs2 ⟨v :: vo, t :: to, o2.merge, ar.own_cons⟩
theorem vj_bf {p : P} {fr : Sl → Option (Rs (List AV))} (hs : starB e1 = false) (hp : PJ X g (evP p) e1) (hr : VJ X g W fr es) :
    VJ X g W (fun ρ => match evP p ρ with | some (.fz d) => bindR (fr ρ) fun avs ρ2 => some (.ok (.bor (.fz d) :: avs) ρ2) | _ => none) (e1 :: es) := by
  obtain ⟨ta, pa, ra⟩ := hp
  obtain ⟨tb, pb, rb⟩ := hr
  refine ⟨_, pa_cons pa pb (star_cons hs), fun e ρ τ σ H Hs Q o q => ?_⟩
  dsimp only at q
  split at q
  · rename_i d hd
    obtain ⟨O, vw⟩ := o.view
    refine ra ρ σ H Hs O _ vw hd _ fun v fp rv => ?_
    have rd := rv.r
    simp only [RepT] at rd
    refine rb e ρ _ σ H Hs _ (o.push rd.1) ?_
    cases h2 : fr ρ with
    | none => rw [h2] at q; exact q
    | some r2 =>
      rw [h2] at q
      cases r2 with
      | ex c t' ρ' => exact XP.drop q
      | ok avs ρ2 =>
        rintro vs H2 Hs2 ⟨vo, to, o2, ar⟩
        obtain ⟨f2, rt⟩ := o2.swap.top
        simp only [RepT] at rt
        exact q (v :: vs) H2 Hs2 ⟨vo, to, o2.swap.drop, v, vs, rfl, ⟨[], RepT.fz rt.1, .inl rfl⟩, ar⟩
  · exact q.elim
theorem vj_io (k : Cp X g c) {i : Nat} {x : Str} {fr : Sl → Option (Rs (List AV))} (h1 : c.N[i]? = some x) (h2 : visB c x = true) (hr : VJ X g W fr es) :
    VJ X g W (fun ρ => match ρ[i]? with | some (some _) => bindR (fr ρ) fun avs ρ2 => some (.ok (.io i :: avs) ρ2) | _ => none) (.Name x pos :: es) := by
  obtain ⟨v1, v2, v3⟩ := k.vis h2
  obtain ⟨tb, pb, rb⟩ := hr
  refine ⟨_, pa_cons (pe_var (i := i) (by rw [k.N]; exact h1) v1 v2 v3) pb (star_cons rfl), fun e ρ τ σ H Hs Q o q => ?_⟩
  dsimp only at q
  split at q
  · rename_i t ht
    obtain ⟨v, f, hv, _⟩ := o.get ht
    refine ⟨v, hv, rb e ρ τ σ H Hs _ o ?_⟩
    cases h2 : fr ρ with
    | none => rw [h2] at q; exact q
    | some r2 =>
      rw [h2] at q
      cases r2 with
      | ex c t' ρ' => exact q
      | ok avs ρ2 =>
        rintro vs H2 Hs2 ⟨vo, to, o2, ar⟩
        exact q (v :: vs) H2 Hs2 ⟨vo, to, o2, v, vs, rfl, hv, ar⟩
  · exact q.elim

/-- the defs that the text may call: how they stand -/
structure FnAt (X : Cx) (g : Gx) (nm : Str) (ps : List Str) (F : List T → Option Out) : Prop where
  ex : ∃ (f : Addr) (fd : FuncData) (j : Nat), X.mg nm = some (.ref f) ∧ PySem.W.keepIn X.K (.ref f) = true ∧ FnOk X.prog X.w X.K X.mg X.base (L2.CX X.prog X.w) j f fd ps (SpD g F) ∧ Room j X.A ∧ Binds X.K fd ps []
theorem Ok.permF {H0 S0 : Hp} {F F' : List Addr} {P : List (Nat × V)} {ρ : Sl} {τ : Tm} {σ : L2.St} {H Hs : Hp} (o : Ok g ⟨H0, S0, F, P⟩ ρ τ σ H Hs) (h : ∀ a, a ∈ F ↔ a ∈ F') : Ok g ⟨H0, S0, F', P⟩ ρ τ σ H Hs := by
  obtain ⟨fs, ft, r1, r2, c, n⟩ := o.own
  exact ⟨o.sub, o.sub0, fun a z => (o.new a z).imp id fun y => y.imp id (h a).mp, fun a h1 h2 => o.frame a (fun z => h1 ((h a).mp z)) h2, o.there, o.fix, fs, ft, r1, r2, c, fun a ha => let ⟨z1, z2, z3⟩ := n a ha; ⟨z1, z2, z3.imp id (h a).mp⟩⟩
theorem SpD.use {F : List T → Option Out} {vs vo : List V} {to : List T} {avs : List AV} {H Hs : Hp} {ρ : Sl} {e : Fr0} {τ : Tm} {σ : L2.St} {Q : VK} (o : Ok g e ρ ((vo, to) :: τ) σ H Hs) (ar : ARel g Hs H ρ σ avs vs vo to)
    (q : Post g W e τ σ one (callD F avs ρ) Q) : SpD g F vs H Q (WE W σ) := by
  unfold callD at q
  cases ht : takeA avs ρ with
  | none => rw [ht] at q; exact q.elim
  | some p =>
    obtain ⟨ts, ρ'⟩ := p
    rw [ht] at q
    simp only [Option.bind_some] at q
    cases hF : F ts with
    | none => rw [hF] at q; exact q.elim
    | some out =>
      rw [hF] at q
      simp only [Option.bind_some] at q
      obtain ⟨vi, ti, o1, hl, k⟩ := takeA_ok ar o ht
      have fx : ∀ p ∈ e.P, p.1 < σ.length := fun p hp => (List.getElem?_eq_some_iff.mp (o.fix p hp)).1
      have hlen : ρ'.length = σ.length := by
        obtain ⟨fs, ft, r1, _⟩ := o1.own
        exact r1.lengths
      have om : Ok g e ρ' ((vo ++ vi, to ++ ti) :: τ) σ H Hs := o1.merge
      obtain ⟨S, fa, fs', sH, sS, ra, ca, na, hle, back⟩ := om.call (lendA avs)
      -- the arguments, in their places
      obtain ⟨vs0, hsplit⟩ : ∃ fo fi, RepTs g S H to vo fo ∧ RepTs g S H ti vi fi ∧ fa = fo ++ fi := by
        obtain ⟨fs2, ft2, q1, q2, _⟩ := o1.own
        obtain ⟨f1, f2, e1, z1, f3, f4, e2, z2, _⟩ := q2
        have z1' : RepTs g S H ti vi f1 := RepTs.keep sS (fun _ _ => rfl) z1
        have z2' : RepTs g S H to vo f3 := RepTs.keep sS (fun _ _ => rfl) z2
        exact ⟨f3, f1, z2', z1', RepTs.det ra (RepTs.append z2' z1')⟩
      obtain ⟨fi, r1, r2, efa⟩ := hsplit
      have kb : ∀ t v f, RepT g Hs H t v f → (f = [] ∨ ∃ fs, RepE g Hs H ρ σ fs ∧ ∀ a ∈ f, a ∈ fs) → (lendA avs = false → isFz t = true) → lendA avs = false ∨ ioA avs = false → Rep g S t.d v := by
        intro t v f rt hf hz hio
        refine RepT.toD sS (fun a ha => ?_) rt
        rcases hf with rfl | ⟨fs, rfs, hin⟩
        · cases ha
        · by_cases hl0 : lendA avs = true
          · have hn : ioA avs = false := by
              rcases hio with z | z
              · rw [hl0] at z; cases z
              · exact z
            have eρ := takeA_noIo hn ht
            subst eρ
            obtain ⟨fs1, rfs1, hS⟩ := hle hl0
            rw [RepE.det rfs rfs1] at hin
            exact hS a (hin a ha)
          · have hl1 : lendA avs = false := by simpa using hl0
            have hz1 := hz hl1
            cases t <;> simp only [isFz, Bool.false_eq_true] at hz1
            simp only [RepT] at rt
            rw [rt.2] at ha
            cases ha
      have fin2 : ∀ (t : T) (fin : List (Option T)), retOk avs t fin = true → (lendA avs = false ∨ ioA avs = false) ∧ (lendA avs = true → t.sh = true ∧ shE fin = true) := by
        intro t fin h
        unfold retOk at h
        simp only [Bool.or_eq_true, Bool.not_eq_true', Bool.and_eq_true] at h
        rcases h with h | ⟨⟨h1, h2⟩, h3⟩
        · exact ⟨.inl h, fun z => by rw [h] at z; cases z⟩
        · exact ⟨.inr h1, fun _ => ⟨h2, h3⟩⟩
      cases out with
      | ret t fin =>
        simp only at q
        split at q
        · rename_i hret
          obtain ⟨hio, hsh⟩ := fin2 t fin hret
          obtain ⟨fp, rts, cf⟩ := k S vs0 fi r1 r2 fun t v f a1 a2 a3 => kb t v f a1 a2 a3 hio
          refine ⟨ts, S, fp, .ret t fin, sH, rts, fun a => ?_, fun a ha => na a ?_, hF, fun v H' S' en => ?_⟩
          · rw [cf a, ← List.count_append, ← efa]; exact ca a
          · rw [efa]
            have := List.count_pos_iff.mpr ha
            exact List.count_pos_iff.mp (by rw [List.count_append, ← cf a]; exact this)
          · have en' : EndOk g ⟨H, S, fa, []⟩ vs t fin v H' S' := Ok.permF en fun a => by
              rw [efa]
              constructor
              · intro ha
                have := List.count_pos_iff.mpr ha
                exact List.count_pos_iff.mp (by rw [List.count_append, ← cf a]; exact this)
              · intro ha
                have := List.count_pos_iff.mpr ha
                exact List.count_pos_iff.mp (by rw [cf a, ← List.count_append]; exact this)
            obtain ⟨Hs', o5⟩ := back vs t fin v H' S' en' hsh
            cases hp : putA avs fin ρ' with
            | none => rw [hp] at q; exact q.elim
            | some ρ'' =>
              rw [hp] at q
              exact q v H' Hs' (putA_ok ar fx hlen o5 hp)
        · exact q.elim
      | exc c t fin =>
        simp only at q
        split at q
        · rename_i hret
          obtain ⟨hio, hsh⟩ := fin2 t fin hret
          obtain ⟨fp, rts, cf⟩ := k S vs0 fi r1 r2 fun t v f a1 a2 a3 => kb t v f a1 a2 a3 hio
          refine ⟨ts, S, fp, .exc c t fin, sH, rts, fun a => ?_, fun a ha => na a ?_, hF, fun v dx H' S' en hd => ?_⟩
          · rw [cf a, ← List.count_append, ← efa]; exact ca a
          · rw [efa]
            have := List.count_pos_iff.mpr ha
            exact List.count_pos_iff.mp (by rw [List.count_append, ← cf a]; exact this)
          · have en' : EndOk g ⟨H, S, fa, []⟩ vs t fin v H' S' := Ok.permF en fun a => by
              rw [efa]
              constructor
              · intro ha
                have := List.count_pos_iff.mpr ha
                exact List.count_pos_iff.mp (by rw [List.count_append, ← cf a]; exact this)
              · intro ha
                have := List.count_pos_iff.mpr ha
                exact List.count_pos_iff.mp (by rw [cf a, ← List.count_append]; exact this)
            obtain ⟨Hs', o5⟩ := back vs t fin v H' S' en' hsh
            cases hp : putA avs fin ρ' with
            | none => rw [hp] at q; exact q.elim
            | some ρ'' =>
              rw [hp] at q
              exact q v dx H' Hs' (putA_ok ar fx hlen o5 hp) hd
        · exact q.elim
/-- f(..) of a def of the text -/
theorem cj_call (k : Cp X g c) (tk : Takes X W) {f : Str} {ps : List Str} {F : List T → Option Out} {fr : Sl → Option (Rs (List AV))} {p : Pos} (hg : glB c f = true) (hdb : (f == ("__debug__" : Str)) = false) (hf : FnAt X g f ps F) (hs : ∀ e ∈ e1 :: es, starB e = false) (ha : VJ X g W fr (e1 :: es)) :
    CJ X g W (fun ρ => bindR (fr ρ) fun avs ρ1 => callD F avs ρ1) (.Call (.Name f p) (e1 :: es) [] pos) := by
  obtain ⟨fa, fd, j, hm, hk, F1, hr, hb⟩ := hf.ex
  obtain ⟨ta, pa, ra⟩ := ha
  refine ⟨_, pe_callS F1 hr (k.gl hg) hm hk hb (passAt tk) pa hdb (star_cons (hs _ (by simp))) (star_none fun e he => hs e (by simp [he])), fun e ρ τ σ H Hs Q o q => ?_⟩
  dsimp only at q
  refine ra e ρ τ σ H Hs _ o ?_
  cases h : fr ρ with
  | none => rw [h] at q; exact q
  | some r =>
    rw [h] at q
    cases r with
    | ex c t ρ' => exact q
    | ok avs ρ1 =>
      rintro vs H1 Hs1 ⟨vo, to, o1, ar⟩
      exact SpD.use o1 ar q
end
end DL
namespace DL
open PySem PySem.Spec L2

/-! ### displays, tests, choices -/
def allFz : List T → Option (List D)
  | [] => some []
  | .fz d :: ts => (allFz ts).map (d :: ·)
  | _ => none
def tupT (ts : List T) : T :=
  match allFz ts with
  | some ds => .fz (.tup ds)
  | none => .tup ts
section
variable {X : Cx} {g : Gx} {c : Cxt} {W : WX} {e1 e2 e3 ex : Expr} {es : List Expr} {fa fb fd : Sl → Option (Rs T)} {pos : Pos}
theorem allFz_rep {Hs H : Hp} : ∀ {ts : List T} {ds : List D} {vs : List V} {f : List Addr}, allFz ts = some ds → RepTs g Hs H ts vs f → Reps g Hs ds vs ∧ f = []
  | [], _, _, _, h, r => by
    cases h
    simp only [RepTs] at r
    obtain ⟨rfl, rfl⟩ := r
    exact ⟨by simp only [Reps], rfl⟩
  | .fz d :: ts, ds, vs, f, h, r => by
    simp only [allFz, Option.map_eq_some_iff] at h
    obtain ⟨ds', h, rfl⟩ := h
    simp only [RepTs] at r
    obtain ⟨v, vs', f1, f2, rfl, rfl, q, r⟩ := r
    simp only [RepT] at q
    obtain ⟨q, rfl⟩ := q
    obtain ⟨q2, rfl⟩ := allFz_rep h r
    exact ⟨by simp only [Reps]; exact ⟨v, vs', rfl, q, q2⟩, rfl⟩
  | .lst _ :: _, _, _, _, h, _ => by cases h
  | .tup _ :: _, _, _, _, h, _ => by cases h
  | .dic _ _ :: _, _, _, _, h, _ => by cases h
  | .obj _ _ _ :: _, _, _, _, h, _ => by cases h
theorem tupT_rep {Hs H : Hp} {ts : List T} {vs : List V} {f : List Addr} {a : Addr} (h : Hs a = some (.tup vs)) (r : RepTs g Hs H ts vs f) : RepT g Hs H (tupT ts) (.ref a) f := by
  unfold tupT
  cases e : allFz ts with
  | none => simp only [RepT]; exact ⟨a, vs, rfl, h, r⟩
  | some ds =>
    obtain ⟨q, rfl⟩ := allFz_rep e r
    simp only [RepT, Rep]
    exact ⟨⟨a, vs, rfl, SqT.of h, q⟩, trivial⟩
/-- (a, b, ..) -/
theorem cj_tup {fr : Sl → Option (Rs (List T))} {x1} (ha : AJ X g W fr es) : CJ X g W (fun ρ => bindR (fr ρ) fun ts ρ1 => if ts.length ≤ sizeLine then some (.ok (tupT ts) ρ1) else none) (.Tuple es x1 pos) := by
  obtain ⟨ta, pa, ra⟩ := ha
  refine ⟨_, pe_tup pa, fun e ρ τ σ H Hs Q o q => ?_⟩
  refine ra e ρ τ σ H Hs _ o (Post.bind q fun ts ρ1 _ vs H1 Hs1 o1 q1 => ?_)
  split at q1
  · rename_i hz
    have hl : vs.length = ts.length := by
      obtain ⟨fs, ft, _, r, _⟩ := o1.own
      obtain ⟨f, f', _, r, _⟩ := r
      exact r.length
    refine ⟨by rw [hl]; exact hz, fun p hp => q1 _ _ _ (o1.pack (ps := []) (upd_keep hp) (fun _ z => nomatch z) (fun _ z => nomatch z) List.nodup_nil (Same_upd (o1.freeS hp)) (fun a u z => ?_) (fun a z => ?_) (fun _ z => nomatch z) fun f r => by
      rw [List.nil_append]
      exact tupT_rep upd_same r)⟩
    · by_cases h : a = p
      · subst h; rw [upd_same] at z ⊢; exact z
      · rw [upd_ne h] at z ⊢; exact o1.sub a u z
    · by_cases h : a = p
      · subst h; exact .inr hp
      · rw [upd_ne h] at z; exact .inl z
  · exact q1.elim
/-- a new list of what is at hand -/
theorem Ok.newList {e : Fr0} {ρ : Sl} {τ : Tm} {σ : L2.St} {H Hs : Hp} {vs : List V} {ts : List T} {p : Addr} (o : Ok g e ρ ((vs, ts) :: τ) σ H Hs) (hp : H p = none) : Ok g e ρ (([.ref p], [.lst ts]) :: τ) σ (upd H p (.lst vs)) Hs := by
  have hs := o.freeS hp
  refine o.pack (ps := [p]) (upd_keep hp) (fun a z => ?_) (fun a z => ?_) (by simp) (Same.refl _) (fun a u z => ?_) (fun a z => .inl z) (fun a z => ?_) fun f r => ?_
  · simp at z; subst z; exact hp
  · simp at z; subst z; rw [upd_same]; simp
  · rw [upd_ne (ne_of_none (o.sub a u z) hp)]; exact o.sub a u z
  · simp at z; subst z; exact hs
  · simp only [RepT]
    exact ⟨p, vs, f, rfl, upd_same, rfl, r⟩
theorem cj_lst {fr : Sl → Option (Rs (List T))} (ha : AJ X g W fr es) : CJ X g W (fun ρ => bindR (fr ρ) fun ts ρ1 => if ts.length ≤ sizeLine then some (.ok (.lst ts) ρ1) else none) (.List es pos) := by
  obtain ⟨ta, pa, ra⟩ := ha
  refine ⟨_, pe_lst pa, fun e ρ τ σ H Hs Q o q => ?_⟩
  refine ra e ρ τ σ H Hs _ o (Post.bind q fun ts ρ1 _ vs H1 Hs1 o1 q1 => ?_)
  split at q1
  · rename_i hz
    have hl : vs.length = ts.length := by
      obtain ⟨fs, ft, _, r, _⟩ := o1.own
      obtain ⟨f, f', _, r, _⟩ := r
      exact r.length
    exact ⟨by rw [hl]; exact hz, fun p hp => q1 _ _ _ (o1.newList hp)⟩
  · exact q1.elim

/-! tests -/
theorem PostB.bind {α γ δ : Type} {e : Fr0} {τ : Tm} {σ : L2.St} {gr' : γ → δ → List V × List T} {r : Option (Rs γ)} {k : γ → Sl → Option (Rs Bool)} {Q : Bool → Hp → Prop} {Q1 : δ → Hp → Prop}
    (q : PostB g W e τ σ (bindR r k) Q) (h : ∀ a ρ1, r = some (.ok a ρ1) → ∀ b H1 Hs1, Ok g e ρ1 (gr' a b :: τ) σ H1 Hs1 → PostB g W e τ σ (k a ρ1) Q → Q1 b H1) : Post g W e τ σ gr' r Q1 := by
  cases r with
  | none => exact q
  | some r =>
    cases r with
    | ex c t ρ => exact q
    | ok a ρ1 => exact fun b H1 Hs1 o1 => h a ρ1 rfl b H1 Hs1 o1 q
theorem PostB.bindB {e : Fr0} {τ : Tm} {σ : L2.St} {r : Option (Rs Bool)} {k : Bool → Sl → Option (Rs Bool)} {Q Q1 : Bool → Hp → Prop}
    (q : PostB g W e τ σ (bindR r k) Q) (h : ∀ b ρ1, r = some (.ok b ρ1) → ∀ H1 Hs1, Ok g e ρ1 τ σ H1 Hs1 → PostB g W e τ σ (k b ρ1) Q → Q1 b H1) : PostB g W e τ σ r Q1 := by
  cases r with
  | none => exact q
  | some r =>
    cases r with
    | ex c t ρ => exact q
    | ok a ρ1 => exact fun H1 Hs1 o1 => h a ρ1 rfl H1 Hs1 o1 q
/-- by the truth of a value -/
theorem bj_val (k : Cp X g c) (ha : CJ X g W fa ex) (he : ∀ whole, isTrue ex X.env whole = (do let v ← whole; standAt ex.pos; holding [v] (truthy v))) : BJ X g W (fun ρ => bindR (fa ρ) fun x ρ1 => okR x.d.tru ρ1) ex := by
  obtain ⟨ta, pa, ra⟩ := ha
  refine ⟨_, pt_truth pa he, fun e ρ τ σ H Hs Q o q => ?_⟩
  refine ra e ρ τ σ H Hs _ o (PostB.bind (α := Bool) q fun x ρ1 _ v H1 Hs1 o1 q1 => ?_)
  cases hb : x.d.tru with
  | none => rw [hb] at q1; exact q1.elim
  | some b =>
    rw [hb] at q1
    obtain ⟨f, r⟩ := o1.top
    exact ⟨b, truD k.hk (r.now o1.sub) hb, q1 H1 Hs1 o1.drop⟩
theorem bj_not (ha : BJ X g W fe e1) : BJ X g W (fun ρ => bindR (fe ρ) fun b ρ1 => some (.ok (!b) ρ1)) (.UnaryOp .Not e1 pos) := by
  obtain ⟨ta, pa, ra⟩ := ha
  refine ⟨_, pt_not pa, fun e ρ τ σ H Hs Q o q => ?_⟩
  exact ra e ρ τ σ H Hs _ o (PostB.bindB q fun b ρ1 _ H1 Hs1 o1 q1 => q1 H1 Hs1 o1)
theorem WBJ.t {f : Sl → Option (Rs Bool)} (h : WBJ X g W f ex) : BJ X g W f ex := let ⟨tt, w, r⟩ := h; ⟨tt, w.pt, r⟩
theorem wbj_and1 {f : Sl → Option (Rs Bool)} (ha : BJ X g W f e1) : WBJ X g W f (.BoolOp .And [e1] pos) := let ⟨ta, pa, ra⟩ := ha; ⟨ta, pw_and1 pa, ra⟩
theorem wbj_or1 {f : Sl → Option (Rs Bool)} (ha : BJ X g W f e1) : WBJ X g W f (.BoolOp .Or [e1] pos) := let ⟨ta, pa, ra⟩ := ha; ⟨ta, pw_or1 pa, ra⟩
theorem wbj_and {f f' : Sl → Option (Rs Bool)} (ha : BJ X g W f e1) (hb : WBJ X g W f' (.BoolOp .And (e2 :: es) pos)) : WBJ X g W (fun ρ => bindR (f ρ) fun b ρ1 => if b = true then f' ρ1 else some (.ok false ρ1)) (.BoolOp .And (e1 :: e2 :: es) pos) := by
  obtain ⟨ta, pa, ra⟩ := ha
  obtain ⟨tb, pb, rb⟩ := hb
  refine ⟨_, pw_and pa pb, fun e ρ τ σ H Hs Q o q => ?_⟩
  refine ra e ρ τ σ H Hs _ o (PostB.bindB q fun b ρ1 _ H1 Hs1 o1 q1 => ?_)
  cases b with
  | true => exact iteT (rb e ρ1 τ σ H1 Hs1 Q o1 q1)
  | false => exact iteF (q1 H1 Hs1 o1)
theorem wbj_or {f f' : Sl → Option (Rs Bool)} (ha : BJ X g W f e1) (hb : WBJ X g W f' (.BoolOp .Or (e2 :: es) pos)) : WBJ X g W (fun ρ => bindR (f ρ) fun b ρ1 => if b = true then some (.ok true ρ1) else f' ρ1) (.BoolOp .Or (e1 :: e2 :: es) pos) := by
  obtain ⟨ta, pa, ra⟩ := ha
  obtain ⟨tb, pb, rb⟩ := hb
  refine ⟨_, pw_or pa pb, fun e ρ τ σ H Hs Q o q => ?_⟩
  refine ra e ρ τ σ H Hs _ o (PostB.bindB q fun b ρ1 _ H1 Hs1 o1 q1 => ?_)
  cases b with
  | true => exact iteT (q1 H1 Hs1 o1)
  | false => exact iteF (rb e ρ1 τ σ H1 Hs1 Q o1 q1)
theorem bj_cmp (k : Cp X g c) {o : O2} {op : CmpOp} (hn : o.bin = none) (ho : o.cmp = some op) (hs : setB e2 = false) (ha : CJ X g W fa e1) (hb : CJ X g W fb e2) :
    BJ X g W (fun ρ => bindR (fa ρ) fun x ρ1 => bindR (fb ρ1) fun y ρ2 => okR ((o2 o x.d y.d).bind D.tru) ρ2) (.Compare e1 [op] [e2] pos) := by
  obtain ⟨r, hr, rr⟩ := opD (X := X) k.hk (by have := k.hu; omega) o
  have hf : o.f = compareOp op := by unfold O2.f; rw [hn, ho]; rfl
  rw [hf] at hr
  obtain ⟨ta, pa, ra⟩ := ha
  obtain ⟨tb, pb, rb⟩ := hb
  refine ⟨_, pt_cmpR hr pa pb (noMark hs), fun e ρ τ σ H Hs Q ok q => ?_⟩
  refine ra e ρ τ σ H Hs _ ok (PostB.bind (α := Bool) q fun x ρ1 _ va H1 Hs1 o1 q1 => ?_)
  refine rb e ρ1 _ σ H1 Hs1 _ o1 ?_
  cases h2 : fb ρ1 with
  | none => rw [h2] at q1; exact q1
  | some r2 =>
    rw [h2] at q1
    cases r2 with
    | ex c t' ρ' => exact XP.drop q1
    | ok y ρ2 =>
      intro vb H2 Hs2 o2
      simp only [bindR, okR] at q1
      cases hd : DL.o2 o x.d y.d with
      | none => rw [hd] at q1; exact q1.elim
      | some d =>
        rw [hd] at q1
        obtain ⟨kb, rfl⟩ := o2_cmp hn hd
        obtain ⟨fy, ry⟩ := o2.top
        obtain ⟨fx, rx⟩ := o2.swap.top
        obtain ⟨h1, h3⟩ := rr H2 x.d y.d va vb _ (rx.now o2.sub) (ry.now o2.sub) hd
        exact h3 _ ⟨kb, rfl, q1 H2 Hs2 o2.drop.drop⟩
/-- a if t else b -/
theorem cj_ife {ft : Sl → Option (Rs Bool)} (ht : BJ X g W ft e1) (ha : CJ X g W fa e2) (hb : CJ X g W fb e3) : CJ X g W (fun ρ => bindR (ft ρ) fun b ρ1 => if b = true then fa ρ1 else fb ρ1) (.IfExp e1 e2 e3 pos) := by
  obtain ⟨tt, pt, rt⟩ := ht
  obtain ⟨ta, pa, ra⟩ := ha
  obtain ⟨tb, pb, rb⟩ := hb
  refine ⟨_, pe_ifExp pt pa pb, fun e ρ τ σ H Hs Q o q => ?_⟩
  refine rt e ρ τ σ H Hs _ o ?_
  dsimp only at q
  cases h : ft ρ with
  | none => rw [h] at q; exact q
  | some r =>
    rw [h] at q
    cases r with
    | ex c t ρ' => exact q
    | ok b ρ1 =>
      intro H1 Hs1 o1
      cases b with
      | true => exact iteT (ra e ρ1 τ σ H1 Hs1 Q o1 q)
      | false => exact iteF (rb e ρ1 τ σ H1 Hs1 Q o1 q)
theorem bj_ife {ft f1 f2 : Sl → Option (Rs Bool)} (ht : BJ X g W ft e1) (ha : BJ X g W f1 e2) (hb : BJ X g W f2 e3) : BJ X g W (fun ρ => bindR (ft ρ) fun b ρ1 => if b = true then f1 ρ1 else f2 ρ1) (.IfExp e1 e2 e3 pos) := by
  obtain ⟨tt, pt, rt⟩ := ht
  obtain ⟨ta, pa, ra⟩ := ha
  obtain ⟨tb, pb, rb⟩ := hb
  refine ⟨fun σ H Q => tt σ H fun c H1 => if c = true then ta σ H1 Q else tb σ H1 Q, ⟨fun pins s σ H Q I h => ?_⟩, fun e ρ τ σ H Hs Q o q => ?_⟩
  · refine PyProof.Rows.isTrue_IfExp (thn (pt.run pins s σ H _ I h) fun d s1 ⟨H1, I1, q1⟩ => ?_)
    cases d with
    | true => exact pa.run pins s1 σ H1 Q I1 q1
    | false => exact pb.run pins s1 σ H1 Q I1 q1
  · refine rt e ρ τ σ H Hs _ o (PostB.bindB q fun b ρ1 _ H1 Hs1 o1 q1 => ?_)
    cases b with
    | true => exact iteT (ra e ρ1 τ σ H1 Hs1 Q o1 q1)
    | false => exact iteF (rb e ρ1 τ σ H1 Hs1 Q o1 q1)
end
end DL
namespace DL
open PySem PySem.Spec L2

/-! ### statements -/
inductive Fl where
  | nx (ρ : Sl) | ret (t : T) (ρ : Sl) | bk (ρ : Sl) | ct (ρ : Sl) | ex (c : Nat) (t : T) (ρ : Sl)
def PrOk (e : Fr0) (c : Cxt) : Prop := ∀ p ∈ e.P, p.1 ∈ c.prot
def PostS (g : Gx) (W : WX) (e : Fr0) (τ : Tm) (D : Ends) (r : Option Fl) : Prop :=
  match r with
  | none => False
  | some (.nx ρ) => ∀ σ' H' Hs', Ok g e ρ τ σ' H' Hs' → D.nx σ' H'
  | some (.bk ρ) => ∀ σ' H' Hs', Ok g e ρ τ σ' H' Hs' → D.bk σ' H'
  | some (.ct ρ) => ∀ σ' H' Hs', Ok g e ρ τ σ' H' Hs' → D.ct σ' H'
  | some (.ret t ρ) => ∀ v σ' H' Hs', Ok g e ρ (([v], [t]) :: τ) σ' H' Hs' → D.rt v H'
  | some (.ex c t ρ) => ∀ v dx σ' H' Hs', Ok g e ρ (([v], [t]) :: τ) σ' H' Hs' → H' dx = some (.xd [(valueN, v)]) → W (.ref (g.cls c)) (some dx) σ' H'
def SJ (X : Cx) (g : Gx) (c : Cxt) (W : WX) (f : Sl → Option Fl) (st : Stmt) : Prop :=
  ∃ ts, PS X st ts ∧ ∀ e ρ τ σ H Hs (D : Ends), PrOk e c → Ok g e ρ τ σ H Hs → PostS g W e τ D (f ρ) → ts D σ H
def SsJ (X : Cx) (g : Gx) (c : Cxt) (W : WX) (f : Sl → Option Fl) (st : List Stmt) : Prop :=
  ∃ ts, PSs X st ts ∧ ∀ e ρ τ σ H Hs (D : Ends), PrOk e c → Ok g e ρ τ σ H Hs → PostS g W e τ D (f ρ) → ts D σ H
def bindF (r : Option Fl) (k : Sl → Option Fl) : Option Fl :=
  match r with
  | some (.nx ρ) => k ρ
  | r => r
/-- an expression ahead of what a statement does with it -/
def bindE {α : Type} (r : Option (Rs α)) (k : α → Sl → Option Fl) : Option Fl :=
  match r with
  | none => none
  | some (.ok a ρ) => k a ρ
  | some (.ex c t ρ) => some (.ex c t ρ)
section
variable {X : Cx} {g : Gx} {c : Cxt} {W : WX} {e1 e2 ex : Expr} {st : Stmt} {sts : List Stmt} {fa fb : Sl → Option (Rs T)} {f1 f2 : Sl → Option Fl} {pos : Pos}
theorem PostS.bindE {α δ : Type} {e : Fr0} {τ : Tm} {σ : L2.St} {D : Ends} {gr : α → δ → List V × List T} {r : Option (Rs α)} {k : α → Sl → Option Fl} {Q1 : δ → Hp → Prop} (q : PostS g W e τ D (DL.bindE r k))
    (h : ∀ a ρ1, r = some (.ok a ρ1) → ∀ b H1 Hs1, Ok g e ρ1 (gr a b :: τ) σ H1 Hs1 → PostS g W e τ D (k a ρ1) → Q1 b H1) : Post g W e τ σ gr r Q1 := by
  cases r with
  | none => exact q
  | some r =>
    cases r with
    | ex c t ρ => exact fun v dx H' Hs' o hd => q v dx σ H' Hs' o hd
    | ok a ρ1 => exact fun b H1 Hs1 o1 => h a ρ1 rfl b H1 Hs1 o1 q
theorem PostS.bindEB {e : Fr0} {τ : Tm} {σ : L2.St} {D : Ends} {r : Option (Rs Bool)} {k : Bool → Sl → Option Fl} {Q1 : Bool → Hp → Prop} (q : PostS g W e τ D (DL.bindE r k))
    (h : ∀ b ρ1, r = some (.ok b ρ1) → ∀ H1 Hs1, Ok g e ρ1 τ σ H1 Hs1 → PostS g W e τ D (k b ρ1) → Q1 b H1) : PostB g W e τ σ r Q1 := by
  cases r with
  | none => exact q
  | some r =>
    cases r with
    | ex c t ρ => exact fun v dx H' Hs' o hd => q v dx σ H' Hs' o hd
    | ok a ρ1 => exact fun H1 Hs1 o1 => h a ρ1 rfl H1 Hs1 o1 q
theorem ssj_nil : SsJ X g c W (fun ρ => some (.nx ρ)) [] := ⟨_, pss_nil, fun e ρ τ σ H Hs D _ o q => q σ H Hs o⟩
theorem ssj_cons (h1 : SJ X g c W f1 st) (h2 : SsJ X g c W f2 sts) : SsJ X g c W (fun ρ => bindF (f1 ρ) f2) (st :: sts) := by
  obtain ⟨t1, p1, r1⟩ := h1
  obtain ⟨t2, p2, r2⟩ := h2
  refine ⟨_, pss_cons p1 p2, fun e ρ τ σ H Hs D hp o q => ?_⟩
  refine r1 e ρ τ σ H Hs _ hp o ?_
  dsimp only at q
  cases h : f1 ρ with
  | none => rw [h] at q; exact q
  | some r =>
    rw [h] at q
    cases r with
    | nx ρ1 => exact fun σ1 H1 Hs1 o1 => r2 e ρ1 τ σ1 H1 Hs1 D hp o1 q
    | ret t ρ1 => exact q
    | bk ρ1 => exact q
    | ct ρ1 => exact q
    | ex c t ρ1 => exact q
theorem sj_pass : SJ X g c W (fun ρ => some (.nx ρ)) (.Pass pos) := ⟨_, ps_pass, fun e ρ τ σ H Hs D _ o q => q σ H Hs o⟩
theorem sj_break : SJ X g c W (fun ρ => some (.bk ρ)) (.Break pos) := ⟨_, ps_break, fun e ρ τ σ H Hs D _ o q => q σ H Hs o⟩
theorem sj_continue : SJ X g c W (fun ρ => some (.ct ρ)) (.Continue pos) := ⟨_, ps_continue, fun e ρ τ σ H Hs D _ o q => q σ H Hs o⟩
def compB : Expr → Bool
  | .ListComp _ _ _ _ => true | .SetComp _ _ _ _ => true | .DictComp _ _ _ _ _ => true
  | _ => false
theorem no_swap {e : Expr} {t : Option Expr} {l : Nat} {env : PySem.Env} (h : compB e = false) : swapsWith e t l env = pure false := by
  cases e <;> first | rfl | simp [compB] at h
theorem sj_expr (hs : compB ex = false) (ha : CJ X g W fa ex) : SJ X g c W (fun ρ => bindE (fa ρ) fun _ ρ1 => some (.nx ρ1)) (.Expr ex pos) := by
  obtain ⟨ta, pa, ra⟩ := ha
  refine ⟨_, ps_expr pa (no_swap hs), fun e ρ τ σ H Hs D hp o q => ?_⟩
  exact ra e ρ τ σ H Hs _ o (PostS.bindE q fun x ρ1 _ v H1 Hs1 o1 q1 => q1 σ H1 Hs1 o1.drop)
theorem sj_ret (ha : CJ X g W fa ex) : SJ X g c W (fun ρ => bindE (fa ρ) fun t ρ1 => some (.ret t ρ1)) (.Return (some ex) pos) := by
  obtain ⟨ta, pa, ra⟩ := ha
  refine ⟨_, ps_ret pa, fun e ρ τ σ H Hs D hp o q => ?_⟩
  exact ra e ρ τ σ H Hs _ o (PostS.bindE q fun x ρ1 _ v H1 Hs1 o1 q1 => q1 v σ H1 Hs1 o1)
theorem sj_retN : SJ X g c W (fun ρ => some (.ret (.fz .non) ρ)) (.Return none pos) :=
  ⟨_, ps_retN, fun e ρ τ σ H Hs D hp o q => q _ σ H Hs (o.push (d := .non) (v := .non) (by simp only [Rep]))⟩
theorem sj_if {ft : Sl → Option (Rs Bool)} {a b : List Stmt} (ht : BJ X g W ft ex) (ha : SsJ X g c W f1 a) (hb : SsJ X g c W f2 b) : SJ X g c W (fun ρ => bindE (ft ρ) fun k ρ1 => if k = true then f1 ρ1 else f2 ρ1) (.If ex a b pos) := by
  obtain ⟨tt, pt, rt⟩ := ht
  obtain ⟨t1, p1, r1⟩ := ha
  obtain ⟨t2, p2, r2⟩ := hb
  refine ⟨_, ps_if pt p1 p2, fun e ρ τ σ H Hs D hp o q => ?_⟩
  refine rt e ρ τ σ H Hs _ o (PostS.bindEB q fun b ρ1 _ H1 Hs1 o1 q1 => ?_)
  cases b with
  | true => exact iteT (r1 e ρ1 τ σ H1 Hs1 D hp o1 q1)
  | false => exact iteF (r2 e ρ1 τ σ H1 Hs1 D hp o1 q1)
theorem Cp.loc (k : Cp X g c) {x : Str} (h : (c.look.lookup x == some .local || c.look.lookup x == some .cell) = true) : L2.Loc X.env.scope x := by
  unfold L2.Loc
  rw [k.sc]
  simp only [Bool.or_eq_true, beq_iff_eq] at h
  exact h
def locB (c : Cxt) (x : Str) : Bool := c.look.lookup x == some .local || c.look.lookup x == some .cell
def loclB (c : Cxt) (x : Str) : Bool := c.look.lookup x == some .local
theorem PrOk.ne {e : Fr0} (hp : PrOk e c) {i : Nat} (h : c.prot.contains i = false) : ∀ p ∈ e.P, p.1 ≠ i := fun p hm z => by
  have := hp p hm
  rw [z] at this
  have h2 : c.prot.contains i = true := List.contains_iff_mem.mpr this
  rw [h] at h2
  cases h2
theorem Ok.lenN {e : Fr0} {ρ : Sl} {τ : Tm} {σ : L2.St} {H Hs : Hp} (o : Ok g e ρ τ σ H Hs) : ρ.length = σ.length := by
  obtain ⟨fs, ft, r1, _⟩ := o.own
  exact r1.lengths
/-- x = e -/
theorem sj_asg (k : Cp X g c) (hfn : X.fn = fun _ => true) {i : Nat} {x : Str} {p : Pos} (h1 : c.N[i]? = some x) (h2 : locB c x = true) (h3 : c.prot.contains i = false) (hs : compB ex = false) (ha : CJ X g W fa ex) :
    SJ X g c W (fun ρ => bindE (fa ρ) fun t ρ1 => if i < ρ1.length then some (.nx (ρ1.set i (some t))) else none) (.Assign [.Name x p] ex pos) := by
  obtain ⟨ta, pa, ra⟩ := ha
  refine ⟨_, ps_set (i := i) k.nd (by rw [k.N]; exact h1) (k.loc h2) pa (no_swap hs) (.inl (by rw [hfn])), fun e ρ τ σ H Hs D hp o q => ?_⟩
  refine ra e ρ τ σ H Hs _ o (PostS.bindE q fun x ρ1 _ v H1 Hs1 o1 q1 => ?_)
  split at q1
  · rename_i hi
    exact q1 _ H1 Hs1 (o1.store hi (hp.ne h3))
  · exact q1.elim
/-- x op= e -/
def augB : O2 → Bool
  | .add => true | .sub => true | .mul => true | .fdiv => true | .mod => true | .band => true | .bor => true | .bxor => true
  | _ => false
theorem iop_mulX {X : Cx} : OpR X (inplaceOp .Mult) (rI CMulX fun i j => .int (i * j)) := opI fun _ _ _ _ _ _ _ hc q => PyProof.Rows.imul_int q hc.ok
theorem opIn {o : O2} (ho : augB o = true) : ∃ op r, o.bin = some op ∧ OpR X (inplaceOp op) r ∧
    ∀ H a b va vb d, Rep g H a va → Rep g H b vb → o2 o a b = some d → d.atom = true ∧ ∀ Q : VK, Q d.at H → r va vb H Q := by
  cases o <;> simp only [augB, Bool.false_eq_true] at ho
  · refine ⟨_, _, rfl, iop_add.or iop_add_str, fun H a b va vb d ra rb h => ?_⟩
    cases a <;> cases b <;> simp only [o2] at h <;> try cases h
    · simp only [Rep] at ra rb; subst ra; subst rb
      exact ⟨rfl, fun Q q => .inl ⟨_, _, rfl, rfl, q⟩⟩
    · split at h
      · rename_i hz
        cases h
        simp only [Rep] at ra rb; subst ra; subst rb
        exact ⟨rfl, fun Q q => .inr ⟨_, _, rfl, rfl, hz, q⟩⟩
      · cases h
  · refine ⟨_, _, rfl, iop_sub, fun H a b va vb d ra rb h => ?_⟩
    cases a <;> cases b <;> simp only [o2] at h <;> try cases h
    simp only [Rep] at ra rb; subst ra; subst rb
    exact ⟨rfl, fun Q q => ⟨_, _, rfl, rfl, q⟩⟩
  · refine ⟨_, _, rfl, iop_mulX, fun H a b va vb d ra rb h => ?_⟩
    cases a <;> cases b <;> simp only [o2] at h <;> try cases h
    split at h
    · rename_i hz
      cases h
      simp only [Rep] at ra rb; subst ra; subst rb
      exact ⟨rfl, fun Q q => ⟨_, _, rfl, rfl, (show CMulX _ _ from by unfold CMulX; exact of_decide_eq_true hz), q⟩⟩
    · cases h
  · refine ⟨_, _, rfl, iop_fdivW, fun H a b va vb d ra rb h => ?_⟩
    cases a <;> cases b <;> simp only [o2] at h <;> try cases h
    split at h
    · rename_i hz
      cases h
      simp only [Rep] at ra rb; subst ra; subst rb
      simp only [divB, Bool.and_eq_true, decide_eq_true_eq] at hz
      exact ⟨rfl, fun Q q => ⟨_, _, rfl, rfl, hz, q⟩⟩
    · cases h
  · refine ⟨_, _, rfl, iop_mod, fun H a b va vb d ra rb h => ?_⟩
    cases a <;> cases b <;> simp only [o2] at h <;> try cases h
    split at h
    · rename_i hz
      cases h
      simp only [Rep] at ra rb; subst ra; subst rb
      exact ⟨rfl, fun Q q => ⟨_, _, rfl, rfl, hz, q⟩⟩
    · cases h
  · refine ⟨_, _, rfl, iop_and, fun H a b va vb d ra rb h => ?_⟩
    cases a <;> cases b <;> simp only [o2] at h <;> try cases h
    simp only [Rep] at ra rb; subst ra; subst rb
    exact ⟨rfl, fun Q q => ⟨_, _, rfl, rfl, q⟩⟩
  · refine ⟨_, _, rfl, iop_or, fun H a b va vb d ra rb h => ?_⟩
    cases a <;> cases b <;> simp only [o2] at h <;> try cases h
    simp only [Rep] at ra rb; subst ra; subst rb
    exact ⟨rfl, fun Q q => ⟨_, _, rfl, rfl, q⟩⟩
  · refine ⟨_, _, rfl, iop_xor, fun H a b va vb d ra rb h => ?_⟩
    cases a <;> cases b <;> simp only [o2] at h <;> try cases h
    simp only [Rep] at ra rb; subst ra; subst rb
    exact ⟨rfl, fun Q q => ⟨_, _, rfl, rfl, q⟩⟩
theorem sj_aug (k : Cp X g c) (hfn : X.fn = fun _ => true) {o : O2} {op : Operator} {i : Nat} {x : Str} {p : Pos} (hb : o.bin = some op) (ho : augB o = true) (h1 : c.N[i]? = some x) (h2 : locB c x = true) (h3 : c.prot.contains i = false) (ha : CJ X g W fa ex) :
    SJ X g c W (fun ρ => match ρ[i]? with
      | some (some (.fz d)) => bindE (fa ρ) fun t ρ1 => match o2 o d t.d with
        | some d' => if i < ρ1.length then some (.nx (ρ1.set i (some (.fz d')))) else none
        | none => none
      | _ => none) (.AugAssign (.Name x p) op ex pos) := by
  obtain ⟨op', r, hb', hr, rr⟩ := opIn (X := X) (g := g) ho
  rw [hb] at hb'
  cases hb'
  obtain ⟨ta, pa, ra⟩ := ha
  refine ⟨_, ps_aug (i := i) k.nd (by rw [k.N]; exact h1) (k.loc h2) pa (fun pins s σ H x y v u Q I rx ry q => augR hr I rx ry q) (.inl (by rw [hfn])), fun e ρ τ σ H Hs D hp ok q => ?_⟩
  dsimp only at q
  split at q
  · rename_i d hd
    obtain ⟨v, f, hv, rv⟩ := ok.get hd
    simp only [RepT] at rv
    refine ⟨v, hv, ra e ρ _ σ H Hs _ (ok.push rv.1) ?_⟩
    cases h : fa ρ with
    | none => rw [h] at q; exact q
    | some r2 =>
      rw [h] at q
      cases r2 with
      | ex c t ρ1 => exact fun w dx H' Hs' o1 hdx => q w dx σ H' Hs' o1.swap.drop hdx
      | ok t ρ1 =>
        intro w H1 Hs1 o1
        simp only [bindE] at q
        split at q
        · rename_i d' hd'
          split at q
          · rename_i hi
            obtain ⟨f1, r1⟩ := o1.top
            obtain ⟨f2, r2⟩ := o1.swap.top
            obtain ⟨h4, h5⟩ := rr H1 d t.d v w d' (r2.now o1.sub) (r1.now o1.sub) hd'
            exact h5 _ (q _ H1 Hs1 ((o1.drop.drop.push (Rep.at h4)).store hi (hp.ne h3)))
          · exact q.elim
        · exact q.elim
  · exact q.elim
/-- the things of a group go into slots, from the first on -/
def storeG : List Nat → List T → Sl → Option Sl
  | [], [], ρ => some ρ
  | i :: is, t :: ts, ρ => if i < ρ.length then storeG is ts (ρ.set i (some t)) else none
  | _, _, _ => none
theorem Ok.popG {e : Fr0} {ρ : Sl} {τ : Tm} {σ : L2.St} {H Hs : Hp} {v : V} {vs : List V} {t : T} {ts : List T} (o : Ok g e ρ ((v :: vs, t :: ts) :: τ) σ H Hs) : Ok g e ρ (([v], [t]) :: (vs, ts) :: τ) σ H Hs := by
  obtain ⟨fs, ft, r1, r2, c, n⟩ := o.own
  obtain ⟨f, f', ef, z, r⟩ := r2
  simp only [RepTs] at z
  obtain ⟨v', vs', f1, f2, e1, rfl, q, z⟩ := z
  obtain ⟨rfl, rfl⟩ := List.cons.inj e1
  subst ef
  exact ⟨o.sub, o.sub0, o.new, o.frame, o.there, o.fix, fs, f1 ++ (f2 ++ f'), r1, ⟨f1, _, rfl, RepTs.one.mpr q, f2, f', rfl, z, r⟩, fun a => by have := c a; simp only [List.count_append] at this ⊢; omega, fun a ha => n a (by simp only [List.mem_append] at ha ⊢; rcases ha with h | h | h | h <;> simp [h])⟩
end
end DL
namespace DL
open PySem PySem.Spec L2

/-! ### several targets -/
def kidsT : T → Option (List T)
  | .fz (.tup ds) => some (ds.map T.fz)
  | .tup ts => some ts
  | _ => none
/-- swapped stores: not all constants -/
def parB (vs : List Expr) : Bool := vs.all (fun e => !starB e) && !vs.all (foldedForSure 8) && !vs.all (constantsAlone 8)
section
variable {X : Cx} {g : Gx} {c : Cxt} {W : WX} {e1 e2 ex : Expr} {st : Stmt} {sts : List Stmt} {fa fb : Sl → Option (Rs T)} {f1 f2 : Sl → Option Fl} {pos : Pos}
theorem swapped2 (k : Cp X g c) (hbk : X.env.scope.kind = .function) {x y : Str} {px py pt pt2 : Pos} {kt k2 : Nat} (hx : loclB c x = true) (hy : loclB c y = true) (hl : (py.line == px.line) = true) (hxy : x ≠ y) (h : parB [e1, e2] = true) :
    swappedStores [.Tuple [.Name x px, .Name y py] kt pt] (.Tuple [e1, e2] k2 pt2) X.env = pure (some [x, y]) := by
  have hb : X.env.blockKind = .function := by
    unfold PySem.Env.blockKind
    rw [hbk]
    rfl
  have kx : X.env.kindOf x = some .local := (k.sc x).trans (beq_iff_eq.mp hx)
  have ky : X.env.kindOf y = some .local := (k.sc y).trans (beq_iff_eq.mp hy)
  unfold parB at h
  simp only [Bool.and_eq_true, Bool.not_eq_true'] at h
  obtain ⟨⟨h1, h2⟩, h3⟩ := h
  have hl' : py.line = px.line := beq_iff_eq.mp hl
  unfold swappedStores
  simp only [hb]
  refine (if_neg (by simp)).trans ?_
  refine (if_neg ?_).trans ?_
  · rw [List.any_eq_true]
    rintro ⟨e, he, hs⟩
    have := (List.all_eq_true.mp h1) e he
    cases e <;> first | (cases hs; done) | (simp [starB] at this)
  · have hn : ¬ y = x := fun z => hxy z.symm
    simp only [List.filterMap, kx, ky, hl', List.head?, Option.map_some, Option.getD_some, Expr.pos, beq_self_eq_true, Bool.and_self, if_true, List.length_cons, List.length_nil]
    refine (if_neg (by simp [List.eraseDups_cons, hn])).trans ?_
    rw [if_neg (by rw [h2]; exact Bool.false_ne_true), if_neg (by rw [h3]; exact Bool.false_ne_true)]
theorem swapped3 (k : Cp X g c) (hbk : X.env.scope.kind = .function) {e3 : Expr} {x y z : Str} {px py pz pt pt2 : Pos} {kt k2 : Nat} (hx : loclB c x = true) (hy : loclB c y = true) (hz : loclB c z = true) (hl : (py.line == px.line) = true) (hl2 : (pz.line == px.line) = true) (hxy : x ≠ y) (hxz : x ≠ z) (hyz : y ≠ z) (h : parB [e1, e2, e3] = true) :
    swappedStores [.Tuple [.Name x px, .Name y py, .Name z pz] kt pt] (.Tuple [e1, e2, e3] k2 pt2) X.env = pure (some [x, y, z]) := by
  have hb : X.env.blockKind = .function := by
    unfold PySem.Env.blockKind
    rw [hbk]
    rfl
  have kx : X.env.kindOf x = some .local := (k.sc x).trans (beq_iff_eq.mp hx)
  have ky : X.env.kindOf y = some .local := (k.sc y).trans (beq_iff_eq.mp hy)
  have kz : X.env.kindOf z = some .local := (k.sc z).trans (beq_iff_eq.mp hz)
  unfold parB at h
  simp only [Bool.and_eq_true, Bool.not_eq_true'] at h
  obtain ⟨⟨h1, h2⟩, h3⟩ := h
  have hl' : py.line = px.line := beq_iff_eq.mp hl
  have hl2' : pz.line = px.line := beq_iff_eq.mp hl2
  unfold swappedStores
  simp only [hb]
  refine (if_neg (by simp)).trans ?_
  refine (if_neg ?_).trans ?_
  · rw [List.any_eq_true]
    rintro ⟨e, he, hs⟩
    have := (List.all_eq_true.mp h1) e he
    cases e <;> first | (cases hs; done) | (simp [starB] at this)
  · have hn : ¬ y = x := fun z => hxy z.symm
    have hn2 : ¬ z = x := fun w => hxz w.symm
    have hn3 : ¬ z = y := fun w => hyz w.symm
    simp only [List.filterMap, kx, ky, kz, hl', hl2', List.head?, Option.map_some, Option.getD_some, Expr.pos, beq_self_eq_true, Bool.and_self, if_true, List.length_cons, List.length_nil]
    refine (if_neg (by simp [List.eraseDups_cons, hn, hn2, hn3])).trans ?_
    rw [if_neg (by rw [h2]; exact Bool.false_ne_true), if_neg (by rw [h3]; exact Bool.false_ne_true)]
/-- a, b = x, y with plain local names -/
theorem sj_par2 (k : Cp X g c) (hbk : X.env.scope.kind = .function) {i j : Nat} {x y : Str} {px py pt pt2 : Pos} {kt k2 : Nat} {fr : Sl → Option (Rs (List T))} (hi : c.N[i]? = some x) (hj : c.N[j]? = some y) (hij : i ≠ j) (hx : loclB c x = true) (hy : loclB c y = true) (p1 : c.prot.contains i = false) (p2 : c.prot.contains j = false)
    (hl : (py.line == px.line) = true) (hxy : x ≠ y) (hs : parB [e1, e2] = true) (ha : AJ X g W fr [e1, e2]) :
    SJ X g c W (fun ρ => bindE (fr ρ) fun ts ρ1 => (storeG [i, j] ts ρ1).map Fl.nx) (.Assign [.Tuple [.Name x px, .Name y py] kt pt] (.Tuple [e1, e2] k2 pt2) pos) := by
  obtain ⟨ta, pa, ra⟩ := ha
  have lx : X.env.scope.names.lookup x = some .local := by rw [k.sc]; exact beq_iff_eq.mp hx
  have ly : X.env.scope.names.lookup y = some .local := by rw [k.sc]; exact beq_iff_eq.mp hy
  refine ⟨_, ps_par k.calm k.nd (by rw [k.N]; exact hi) (by rw [k.N]; exact hj) hij lx ly pa (swapped2 k hbk hx hy hl hxy hs) rfl, fun e ρ τ σ H Hs D hp o q => ?_⟩
  refine ra e ρ τ σ H Hs _ o (PostS.bindE q fun ts ρ1 _ vs H1 Hs1 o1 q1 => ?_)
  match ts, q1, o1 with
  | [t, u], q1, o1 =>
    obtain ⟨v, w, rfl⟩ : ∃ v w, vs = [v, w] := by
      obtain ⟨fs, ft, _, r, _⟩ := o1.own
      obtain ⟨f, f', _, r, _⟩ := r
      have := r.length
      match vs, this with
      | [v, w], _ => exact ⟨v, w, rfl⟩
    simp only [storeG] at q1
    split at q1
    · rename_i h1
      split at q1
      · rename_i h2
        refine ⟨v, w, rfl, q1 _ H1 Hs1 (Ok.drop (p := ([], [])) ?_)⟩
        exact ((o1.popG.store h1 (hp.ne p1)).popG.store h2 (hp.ne p2))
      · exact q1.elim
    · exact q1.elim
  | [], q1, _ => exact q1.elim
  | [t], q1, _ =>
    simp only [storeG] at q1
    split at q1 <;> exact q1.elim
  | t :: u :: z :: r, q1, _ =>
    simp only [storeG] at q1
    split at q1
    · split at q1 <;> exact q1.elim
    · exact q1.elim
theorem sj_par3 (k : Cp X g c) (hbk : X.env.scope.kind = .function) {e3 : Expr} {i j l : Nat} {x y z : Str} {px py pz pt pt2 : Pos} {kt k2 : Nat} {fr : Sl → Option (Rs (List T))} (hi : c.N[i]? = some x) (hj : c.N[j]? = some y) (hl : c.N[l]? = some z) (hij : i ≠ j) (hil : i ≠ l) (hjl : j ≠ l) (hx : loclB c x = true) (hy : loclB c y = true) (hz : loclB c z = true)
    (p1 : c.prot.contains i = false) (p2 : c.prot.contains j = false) (p3 : c.prot.contains l = false)
    (hl1 : (py.line == px.line) = true) (hl2 : (pz.line == px.line) = true) (hxy : x ≠ y) (hxz : x ≠ z) (hyz : y ≠ z) (hs : parB [e1, e2, e3] = true) (ha : AJ X g W fr [e1, e2, e3]) :
    SJ X g c W (fun ρ => bindE (fr ρ) fun ts ρ1 => (storeG [i, j, l] ts ρ1).map Fl.nx) (.Assign [.Tuple [.Name x px, .Name y py, .Name z pz] kt pt] (.Tuple [e1, e2, e3] k2 pt2) pos) := by
  obtain ⟨ta, pa, ra⟩ := ha
  have lx : X.env.scope.names.lookup x = some .local := by rw [k.sc]; exact beq_iff_eq.mp hx
  have ly : X.env.scope.names.lookup y = some .local := by rw [k.sc]; exact beq_iff_eq.mp hy
  have lz : X.env.scope.names.lookup z = some .local := by rw [k.sc]; exact beq_iff_eq.mp hz
  refine ⟨_, ps_par3 k.calm k.nd (by rw [k.N]; exact hi) (by rw [k.N]; exact hj) (by rw [k.N]; exact hl) hij hil hjl lx ly lz pa (swapped3 k hbk hx hy hz hl1 hl2 hxy hxz hyz hs) rfl, fun e ρ τ σ H Hs D hp o q => ?_⟩
  refine ra e ρ τ σ H Hs _ o (PostS.bindE q fun ts ρ1 _ vs H1 Hs1 o1 q1 => ?_)
  match ts, q1, o1 with
  | [t, u, s], q1, o1 =>
    obtain ⟨v, w, r, rfl⟩ : ∃ v w r, vs = [v, w, r] := by
      obtain ⟨fs, ft, _, r, _⟩ := o1.own
      obtain ⟨f, f', _, r, _⟩ := r
      have := r.length
      match vs, this with
      | [v, w, r], _ => exact ⟨v, w, r, rfl⟩
    simp only [storeG] at q1
    split at q1
    · rename_i h1
      split at q1
      · rename_i h2
        split at q1
        · rename_i h3
          refine ⟨v, w, r, rfl, q1 _ H1 Hs1 (Ok.drop (p := ([], [])) ?_)⟩
          exact (((o1.popG.store h1 (hp.ne p1)).popG.store h2 (hp.ne p2)).popG.store h3 (hp.ne p3))
        · exact q1.elim
      · exact q1.elim
    · exact q1.elim
  | [], q1, _ => exact q1.elim
  | [t], q1, _ =>
    simp only [storeG] at q1
    split at q1 <;> exact q1.elim
  | [t, u], q1, _ =>
    simp only [storeG] at q1
    split at q1
    · split at q1 <;> exact q1.elim
    · exact q1.elim
  | t :: u :: z :: w :: r, q1, _ =>
    simp only [storeG] at q1
    split at q1
    · split at q1
      · split at q1 <;> exact q1.elim
      · exact q1.elim
    · exact q1.elim

/-! ### while -/
def whileN (ft : Sl → Option (Rs Bool)) (fb : Sl → Option Fl) : Nat → Sl → Option Fl
  | 0, _ => none
  | n + 1, ρ => match ft ρ with
    | none => none
    | some (.ex c t ρ1) => some (.ex c t ρ1)
    | some (.ok false ρ1) => some (.nx ρ1)
    | some (.ok true ρ1) => match fb ρ1 with
      | some (.nx ρ2) => whileN ft fb n ρ2
      | some (.ct ρ2) => whileN ft fb n ρ2
      | some (.bk ρ2) => some (.nx ρ2)
      | some (.ret t ρ2) => some (.ret t ρ2)
      | some (.ex c t ρ2) => some (.ex c t ρ2)
      | none => none
/-- a while that ends -/
noncomputable def whileF (ft : Sl → Option (Rs Bool)) (fb : Sl → Option Fl) (ρ : Sl) : Option Fl := by
  classical
  exact if h : ∃ n r, whileN ft fb n ρ = some r then whileN ft fb h.choose ρ else none
theorem whileN_mono {ft : Sl → Option (Rs Bool)} {fb : Sl → Option Fl} : ∀ {n m : Nat} {ρ : Sl} {r : Fl}, whileN ft fb n ρ = some r → n ≤ m → whileN ft fb m ρ = some r
  | 0, _, _, _, h, _ => by cases h
  | n + 1, 0, _, _, _, l => by omega
  | n + 1, m + 1, ρ, r, h, l => by
    simp only [whileN] at h ⊢
    split at h
    · cases h
    · exact h
    · exact h
    · split at h
      · exact whileN_mono h (by omega)
      · exact whileN_mono h (by omega)
      · exact h
      · exact h
      · exact h
      · cases h
theorem whileF_of {ft : Sl → Option (Rs Bool)} {fb : Sl → Option Fl} {n : Nat} {ρ : Sl} {r : Fl} (h : whileN ft fb n ρ = some r) : whileF ft fb ρ = some r := by
  unfold whileF
  have hx : ∃ n r, whileN ft fb n ρ = some r := ⟨n, r, h⟩
  rw [dif_pos hx]
  obtain ⟨r', h'⟩ := hx.choose_spec
  rw [h']
  have a := whileN_mono h (Nat.le_max_left n hx.choose)
  have b := whileN_mono h' (Nat.le_max_right n hx.choose)
  rw [a] at b
  exact b.symm
theorem whileF_to {ft : Sl → Option (Rs Bool)} {fb : Sl → Option Fl} {ρ : Sl} {r : Fl} (h : whileF ft fb ρ = some r) : ∃ n, whileN ft fb n ρ = some r := by
  unfold whileF at h
  split at h
  · exact ⟨_, h⟩
  · cases h
/-- one turn -/
theorem whileF_eq (ft : Sl → Option (Rs Bool)) (fb : Sl → Option Fl) (ρ : Sl) : whileF ft fb ρ = (match ft ρ with
    | none => none
    | some (.ex c t ρ1) => some (.ex c t ρ1)
    | some (.ok false ρ1) => some (.nx ρ1)
    | some (.ok true ρ1) => match fb ρ1 with
      | some (.nx ρ2) => whileF ft fb ρ2
      | some (.ct ρ2) => whileF ft fb ρ2
      | some (.bk ρ2) => some (.nx ρ2)
      | some (.ret t ρ2) => some (.ret t ρ2)
      | some (.ex c t ρ2) => some (.ex c t ρ2)
      | none => none) := by
  have fwd : ∀ r, whileF ft fb ρ = some r → (match ft ρ with
    | none => none
    | some (.ex c t ρ1) => some (.ex c t ρ1)
    | some (.ok false ρ1) => some (.nx ρ1)
    | some (.ok true ρ1) => match fb ρ1 with
      | some (.nx ρ2) => whileF ft fb ρ2
      | some (.ct ρ2) => whileF ft fb ρ2
      | some (.bk ρ2) => some (.nx ρ2)
      | some (.ret t ρ2) => some (.ret t ρ2)
      | some (.ex c t ρ2) => some (.ex c t ρ2)
      | none => none) = some r := fun r h => by
    obtain ⟨n, h⟩ := whileF_to h
    cases n with
    | zero => cases h
    | succ n =>
      simp only [whileN] at h
      split at h
      · cases h
      · exact h
      · exact h
      · split at h
        · exact whileF_of h
        · exact whileF_of h
        · exact h
        · exact h
        · exact h
        · cases h
  cases h : whileF ft fb ρ with
  | some r => exact (fwd r h).symm
  | none =>
    generalize hr : (match ft ρ with
      | none => none
      | some (.ex c t ρ1) => some (.ex c t ρ1)
      | some (.ok false ρ1) => some (.nx ρ1)
      | some (.ok true ρ1) => match fb ρ1 with
        | some (.nx ρ2) => whileF ft fb ρ2
        | some (.ct ρ2) => whileF ft fb ρ2
        | some (.bk ρ2) => some (.nx ρ2)
        | some (.ret t ρ2) => some (.ret t ρ2)
        | some (.ex c t ρ2) => some (.ex c t ρ2)
        | none => none : Option Fl) = r
    cases r with
    | none => rfl
    | some r =>
      exfalso
      have : ∃ n, whileN ft fb n ρ = some r := by
        split at hr
        · cases hr
        · rename_i c t ρ1 hf; exact ⟨1, by simp only [whileN, hf]; exact hr⟩
        · rename_i ρ1 hf; exact ⟨1, by simp only [whileN, hf]; exact hr⟩
        · rename_i ρ1 hf
          split at hr
          · rename_i ρ2 hb
            obtain ⟨n, hn⟩ := whileF_to hr
            exact ⟨n + 1, by simp only [whileN, hf, hb]; exact hn⟩
          · rename_i ρ2 hb
            obtain ⟨n, hn⟩ := whileF_to hr
            exact ⟨n + 1, by simp only [whileN, hf, hb]; exact hn⟩
          · rename_i ρ2 hb; exact ⟨1, by simp only [whileN, hf, hb]; exact hr⟩
          · rename_i t ρ2 hb; exact ⟨1, by simp only [whileN, hf, hb]; exact hr⟩
          · rename_i c t ρ2 hb; exact ⟨1, by simp only [whileN, hf, hb]; exact hr⟩
          · cases hr
      obtain ⟨n, hn⟩ := this
      rw [whileF_of hn] at h
      cases h
theorem sj_while {ft : Sl → Option (Rs Bool)} {body : List Stmt} (hpo : PassesOwn (model X.prog X.w) X.A X.env X.xe) (ht : BJ X g W ft ex) (hb : SsJ X g c W f1 body) : SJ X g c W (whileF ft f1) (.While ex body [] pos) := by
  obtain ⟨tt, pt, rt⟩ := ht
  obtain ⟨tb, pb, rb⟩ := hb
  refine ⟨_, ps_while hpo pt pb, fun e ρ τ σ H Hs D hp o q => ?_⟩
  have q' : ∃ n, PostS g W e τ D (whileN ft f1 n ρ) := by
    cases h : whileF ft f1 ρ with
    | none => rw [h] at q; exact q.elim
    | some r =>
      obtain ⟨n, hn⟩ := whileF_to h
      exact ⟨n, by rw [hn, ← h]; exact q⟩
  obtain ⟨n, q'⟩ := q'
  refine ⟨fun m σ H => ∃ ρ Hs, Ok g e ρ τ σ H Hs ∧ PostS g W e τ D (whileN ft f1 m ρ), ⟨n, ρ, Hs, o, q'⟩, ?_⟩
  rintro m σ H ⟨ρ, Hs, o, q⟩
  cases m with
  | zero => exact q.elim
  | succ m =>
    simp only [whileN] at q
    refine rt e ρ τ σ H Hs _ o ?_
    cases h : ft ρ with
    | none => rw [h] at q; exact q
    | some r =>
      rw [h] at q
      cases r with
      | ex c t ρ1 => exact fun v dx H' Hs' o' hd => q v dx σ H' Hs' o' hd
      | ok b ρ1 =>
        intro H1 Hs1 o1
        cases b with
        | false => exact iteF (q σ H1 Hs1 o1)
        | true =>
          refine iteT ⟨fun σ' H' => ∃ ρ Hs, Ok g e ρ τ σ' H' Hs ∧ PostS g W e τ D (whileN ft f1 m ρ), fun σ' H' h' => ⟨m, Nat.lt_succ_self m, h'⟩, rb e ρ1 τ σ H1 Hs1 _ hp o1 ?_⟩
          simp only at q
          cases h2 : f1 ρ1 with
          | none => rw [h2] at q; exact q
          | some r2 =>
            rw [h2] at q
            cases r2 with
            | nx ρ2 => exact fun σ' H' Hs' o' => ⟨ρ2, Hs', o', q⟩
            | ct ρ2 => exact fun σ' H' Hs' o' => ⟨ρ2, Hs', o', q⟩
            | bk ρ2 => exact q
            | ret t ρ2 => exact q
            | ex c t ρ2 => exact q
end
end DL
namespace DL
open PySem PySem.Spec L2

/-! ### targets -/
mutual
inductive Tg where
  | n (i : Nat) | t (ts : Tgs)
inductive Tgs where
  | nil | cons (a : Tg) (r : Tgs)
end
def Tgs.len : Tgs → Nat
  | .nil => 0
  | .cons _ r => r.len + 1
mutual
def stT : Tg → T → Sl → Option Sl
  | .n i, t, ρ => if i < ρ.length then some (ρ.set i (some t)) else none
  | .t ts, t, ρ => match kidsT t with
    | some us => stTs ts us ρ
    | none => none
def stTs : Tgs → List T → Sl → Option Sl
  | .nil, [], ρ => some ρ
  | .cons a r, t :: ts, ρ => match stT a t ρ with
    | some ρ' => stTs r ts ρ'
    | none => none
  | _, _, _ => none
end
mutual
def Tg.sl : Tg → List Nat
  | .n i => [i]
  | .t ts => ts.sl
def Tgs.sl : Tgs → List Nat
  | .nil => []
  | .cons a r => a.sl ++ r.sl
end
mutual
def mtG (c : Cxt) : Tg → Expr → Bool
  | .n i, .Name x _ => c.N[i]? == some x && stoB c x && !c.prot.contains i
  | .t ts, .Tuple es _ _ => mtGs c ts es
  | _, _ => false
def mtGs (c : Cxt) : Tgs → List Expr → Bool
  | .nil, [] => true
  | .cons a r, e :: es => !starB e && mtG c a e && mtGs c r es
  | _, _ => false
end
theorem stTs_len : ∀ {ts : Tgs} {us : List T} {ρ ρ' : Sl}, stTs ts us ρ = some ρ' → us.length = ts.len
  | .nil, [], _, _, _ => rfl
  | .nil, _ :: _, _, _, h => by simp [stTs] at h
  | .cons _ _, [], _, _, h => by simp [stTs] at h
  | .cons a r, u :: us, ρ, ρ', h => by
    simp only [stTs] at h
    split at h
    · rw [List.length_cons, stTs_len h]; rfl
    · cases h
section
variable {X : Cx} {g : Gx} {c : Cxt} {W : WX} {e : Fr0} {ρ ρ' : Sl} {τ : Tm} {σ σ' : L2.St} {H H' Hs Hs' : Hp}
theorem Reps.fzs {Hs H : Hp} : ∀ {ds : List D} {vs : List V}, Reps g Hs ds vs → RepTs g Hs H (ds.map T.fz) vs []
  | [], _, h => by
    simp only [Reps] at h
    subst h
    simp only [List.map_nil, RepTs]
    exact ⟨trivial, trivial⟩
  | d :: ds, _, h => by
    simp only [Reps] at h
    obtain ⟨v, vs', rfl, q, r⟩ := h
    simp only [List.map_cons, RepTs]
    exact ⟨v, vs', [], [], rfl, rfl, RepT.fz q, Reps.fzs r⟩
theorem Ok.pushs {vs : List V} {ds : List D} (o : Ok g e ρ τ σ H Hs) (r : Reps g Hs ds vs) : Ok g e ρ ((vs, ds.map T.fz) :: τ) σ H Hs := by
  obtain ⟨fs, ft, r1, r2, c, n⟩ := o.own
  exact ⟨o.sub, o.sub0, o.new, o.frame, o.there, o.fix, fs, ft, r1, ⟨[], ft, rfl, Reps.fzs r, r2⟩, c, n⟩
/-- a tuple at hand: its parts at hand -/
theorem Ok.kids {v : V} {t : T} {us : List T} (o : Ok g e ρ (([v], [t]) :: τ) σ H Hs) (h : kidsT t = some us) : ∃ a vs, v = .ref a ∧ SqT g.K H a vs ∧ vs.length = us.length ∧ Ok g e ρ ((vs, us) :: τ) σ H Hs := by
  unfold kidsT at h
  split at h
  · rename_i ds
    cases h
    obtain ⟨f, r⟩ := o.top
    simp only [RepT, Rep] at r
    obtain ⟨⟨a, vs, rfl, q, r⟩, _⟩ := r
    exact ⟨a, vs, rfl, Same.sqT o.sub q, by rw [r.length, List.length_map], o.drop.pushs r⟩
  · rename_i ts
    cases h
    obtain ⟨fs, ft, r1, r2, c, n⟩ := o.own
    obtain ⟨f, f', ef, z, r⟩ := r2
    have z := RepTs.one.mp z
    simp only [RepT] at z
    obtain ⟨a, vs, rfl, q, z⟩ := z
    exact ⟨a, vs, rfl, SqT.of (o.sub _ _ q), z.length, o.sub, o.sub0, o.new, o.frame, o.there, o.fix, fs, ft, r1, ⟨f, f', ef, z, r⟩, c, n⟩
  · cases h
/-- slots outside of is are as they were -/
def SlOut (is : List Nat) (σ σ' : L2.St) : Prop := σ'.length = σ.length ∧ ∀ j, j ∉ is → σ'[j]? = σ[j]?
theorem SlOut.refl {is : List Nat} : SlOut is σ σ := ⟨rfl, fun _ _ => rfl⟩
theorem SlOut.trans {is js : List Nat} {σ1 σ2 σ3 : L2.St} (a : SlOut is σ1 σ2) (b : SlOut js σ2 σ3) : SlOut (is ++ js) σ1 σ3 :=
  ⟨b.1.trans a.1, fun j hj => by
    simp only [List.mem_append, not_or] at hj
    rw [b.2 j hj.2, a.2 j hj.1]⟩
def GJ (X : Cx) (g : Gx) (c : Cxt) (tg : Tg) (ex : Expr) : Prop :=
  ∃ gt, PG X ex gt ∧ ∀ e ρ τ σ H Hs v t (Q : L2.St → Hp → Prop), PrOk e c → Ok g e ρ (([v], [t]) :: τ) σ H Hs → (∃ ρ', stT tg t ρ = some ρ' ∧ ∀ σ', SlOut tg.sl σ σ' → Ok g e ρ' τ σ' H Hs → Q σ' H) → gt v σ H Q
def GsJ (X : Cx) (g : Gx) (c : Cxt) (tg : Tgs) (es : List Expr) : Prop :=
  ∃ gt, PGs X es gt ∧ ∀ e ρ τ σ H Hs vs ts (Q : L2.St → Hp → Prop), PrOk e c → Ok g e ρ ((vs, ts) :: τ) σ H Hs → (∃ ρ', stTs tg ts ρ = some ρ' ∧ ∀ σ', SlOut tg.sl σ σ' → Ok g e ρ' τ σ' H Hs → Q σ' H) → gt vs σ H Q
theorem Cp.sto (k : Cp X g c) {x : Str} (h : stoB c x = true) : L2.Loc X.env.scope x := by
  unfold stoB at h
  simp only [Bool.or_eq_true, Bool.and_eq_true, beq_iff_eq] at h
  unfold L2.Loc
  rw [k.sc]
  exact h.imp id fun z => z.1
theorem asg_cons {e : Expr} {es : List Expr} {env : PySem.Env} (h : starB e = false) : assignEach (e :: es) env = (false, assign e env) :: assignEach es env := by
  cases e <;> first | rfl | simp [starB] at h
theorem asg_len {c : Cxt} {env : PySem.Env} : ∀ {tg : Tgs} {es : List Expr}, mtGs c tg es = true → (assignEach es env).length = tg.len ∧ (assignEach es env).findIdx? (·.1) = none
  | .nil, es, h => by
    unfold mtGs at h
    split at h <;> rename_i z <;> (try (cases z; done)) <;> (try (cases h; done))
    exact ⟨rfl, rfl⟩
  | .cons a r, es, h => by
    unfold mtGs at h
    split at h <;> rename_i z <;> (try (cases z; done)) <;> (try (cases h; done))
    cases z
    simp only [Bool.and_eq_true, Bool.not_eq_true'] at h
    obtain ⟨h1, h2⟩ := asg_len (env := env) h.2
    rw [asg_cons h.1.1]
    refine ⟨by rw [List.length_cons, h1]; rfl, ?_⟩
    rw [List.findIdx?_cons, h2]
    rfl
mutual
theorem sndG (k : Cp X g c) : ∀ (tg : Tg) (ex : Expr), mtG c tg ex = true → GJ X g c tg ex
  | .n i, ex, h => by
    unfold mtG at h
    split at h <;> rename_i z <;> (try (cases z; done)) <;> (try (cases h; done))
    cases z
    simp only [Bool.and_eq_true, Bool.not_eq_true', beq_iff_eq] at h
    obtain ⟨⟨h1, h2⟩, h3⟩ := h
    refine ⟨_, pg_name (i := i) k.nd (by rw [k.N]; exact h1) (k.sto h2) (k.fn _ h2), fun e ρ τ σ H Hs v t Q hp o q => ?_⟩
    obtain ⟨ρ', hs, q⟩ := q
    simp only [stT] at hs
    split at hs
    · rename_i hi
      cases hs
      exact q _ ⟨by rw [List.length_set], fun j hj => by
        simp only [Tg.sl, List.mem_singleton] at hj
        rw [List.getElem?_set_ne (fun z => hj z.symm)]⟩ (o.store hi (hp.ne h3))
    · cases hs
  | .t ts, ex, h => by
    unfold mtG at h
    split at h <;> rename_i z <;> (try (cases z; done)) <;> (try (cases h; done))
    cases z
    obtain ⟨gt, pg, rg⟩ := sndGs k ts _ h
    refine ⟨_, pg_tup (n := ts.len) k.calm pg (asg_len h).1 (asg_len h).2, fun e ρ τ σ H Hs v t Q hp o q => ?_⟩
    obtain ⟨ρ', hs, q⟩ := q
    simp only [stT] at hs
    split at hs
    · rename_i us hu
      obtain ⟨a, vs, rfl, sq, hl, o1⟩ := o.kids hu
      exact ⟨a, vs, rfl, k.hk ▸ sq, by rw [hl, stTs_len hs], rg e ρ τ σ H Hs vs us Q hp o1 ⟨ρ', hs, q⟩⟩
    · cases hs
theorem sndGs (k : Cp X g c) : ∀ (tg : Tgs) (es : List Expr), mtGs c tg es = true → GsJ X g c tg es
  | .nil, es, h => by
    unfold mtGs at h
    split at h <;> rename_i z <;> (try (cases z; done)) <;> (try (cases h; done))
    refine ⟨_, pgs_nil, fun e ρ τ σ H Hs vs ts Q hp o q => ?_⟩
    obtain ⟨ρ', hs, q⟩ := q
    cases ts with
    | nil =>
      cases hs
      have : vs = [] := by
        obtain ⟨fs, ft, _, r, _⟩ := o.own
        obtain ⟨f, f', _, r, _⟩ := r
        simpa using r.length
      exact ⟨this, q σ SlOut.refl o.drop⟩
    | cons t ts => simp [stTs] at hs
  | .cons a r, es, h => by
    unfold mtGs at h
    split at h <;> rename_i z <;> (try (cases z; done)) <;> (try (cases h; done))
    rename_i ex es' 
    cases z
    simp only [Bool.and_eq_true, Bool.not_eq_true'] at h
    obtain ⟨⟨h0, h1⟩, h2⟩ := h
    obtain ⟨g1, p1, r1⟩ := sndG k a _ h1
    obtain ⟨g2, p2, r2⟩ := sndGs k r _ h2
    refine ⟨_, pgs_cons p1 p2 (by rw [asg_cons h0]; rfl), fun e ρ τ σ H Hs vs ts Q hp o q => ?_⟩
    obtain ⟨ρ', hs, q⟩ := q
    cases ts with
    | nil => simp [stTs] at hs
    | cons t ts =>
      simp only [stTs] at hs
      split at hs
      · rename_i ρ1 h1
        obtain ⟨v, vs', rfl⟩ : ∃ v vs', vs = v :: vs' := by
          obtain ⟨fs, ft, _, r, _⟩ := o.own
          obtain ⟨f, f', _, r, _⟩ := r
          simp only [RepTs] at r
          obtain ⟨v, vs', _, _, e, _⟩ := r
          exact ⟨v, vs', e⟩
        refine ⟨v, vs', rfl, r1 e ρ _ σ H Hs v t _ hp o.popG ⟨ρ1, h1, fun σ1 so o1 => ?_⟩⟩
        exact r2 e ρ1 τ σ1 H Hs vs' ts Q hp o1 ⟨ρ', hs, fun σ2 so2 o2 => q σ2 (so.trans so2) o2⟩
      · cases hs
end
end
end DL
namespace DL
open PySem PySem.Spec L2

/-! ### what is walked -/
/-- what is kept at hand while something is walked -/
abbrev Ks := List (V × D)
def Kept (g : Gx) (Hs : Hp) (ks : Ks) : Prop := ∀ p ∈ ks, Rep g Hs p.2 p.1
def kG (ks : Ks) : List V × List T := (ks.map (·.1), ks.map fun p => .fz p.2)
/-- an iterator gives the items ds, frozen; new objects may come -/
def Gives (g : Gx) (J : It) (ds : List D) (ks : Ks) : Prop :=
  ∀ i H Hs, Kept g Hs ks → Same Hs H →
    (∀ d, ds[i]? = some d → J.go i H ∧ ∀ x H', J.yld i H x H' → ∃ Hs', (∀ a, H a ≠ none → H' a = H a) ∧ Same Hs Hs' ∧ Same Hs' H' ∧ (∀ a, Hs' a ≠ none → Hs a ≠ none ∨ H a = none) ∧ Rep g Hs' d x) ∧
    (i = ds.length → J.stop i H)
def PostI (g : Gx) (W : WX) (e : Fr0) (τ : Tm) (σ : L2.St) (r : Option (Rs (List D))) (R : It → Hp → Prop) : Prop :=
  match r with
  | none => False
  | some (.ok ds ρ) => ∀ J ks H' Hs', Ok g e ρ (kG ks :: τ) σ H' Hs' → Gives g J ds ks → R J H'
  | some (.ex c t ρ) => XP g W e τ σ c t ρ
def IJ (X : Cx) (g : Gx) (W : WX) (tg : Expr) (f : Sl → Option (Rs (List D))) (ex : Expr) : Prop :=
  ∃ wi, PI X tg ex wi ∧ ∀ e ρ τ σ H Hs (R : It → Hp → Prop), Ok g e ρ τ σ H Hs → PostI g W e τ σ (f ρ) R → wi σ H R
theorem PostI.bind {g : Gx} {W : WX} {γ δ : Type} {e : Fr0} {τ : Tm} {σ : L2.St} {gr' : γ → δ → List V × List T} {r : Option (Rs γ)} {k : γ → Sl → Option (Rs (List D))} {R : It → Hp → Prop} {Q1 : δ → Hp → Prop}
    (q : PostI g W e τ σ (bindR r k) R) (h : ∀ a ρ1, r = some (.ok a ρ1) → ∀ b H1 Hs1, Ok g e ρ1 (gr' a b :: τ) σ H1 Hs1 → PostI g W e τ σ (k a ρ1) R → Q1 b H1) : Post g W e τ σ gr' r Q1 := by
  cases r with
  | none => exact q
  | some r =>
    cases r with
    | ex c t ρ => exact q
    | ok a ρ1 => exact fun b H1 Hs1 o1 => h a ρ1 rfl b H1 Hs1 o1 q
def lstD : D → Option (List D)
  | .lst ds => some ds
  | _ => none
def tupD : D → Option (List D)
  | .tup ds => some ds
  | _ => none
def strD : D → Option (List D)
  | .str x => some (x.cps.toList.map fun c => .str ⟨#[c]⟩)
  | _ => none
def rngL (lo c : Int) : Nat → List D
  | 0 => []
  | n + 1 => .int lo :: rngL (lo + c) c n
theorem rngL_len (c : Int) : ∀ (n : Nat) (lo : Int), (rngL lo c n).length = n
  | 0, _ => rfl
  | n + 1, lo => by rw [rngL, List.length_cons, rngL_len c n]
theorem rngL_get (c : Int) : ∀ (n : Nat) (lo : Int) (i : Nat) (d : D), (rngL lo c n)[i]? = some d → i < n ∧ d = .int (lo + (i : Nat) * c)
  | 0, _, _, _, h => by simp [rngL] at h
  | n + 1, lo, 0, d, h => by
    simp [rngL] at h
    subst h
    exact ⟨by omega, by congr 1; simp⟩
  | n + 1, lo, i + 1, d, h => by
    simp only [rngL, List.getElem?_cons_succ] at h
    obtain ⟨h1, rfl⟩ := rngL_get c n (lo + c) i d h
    refine ⟨by omega, ?_⟩
    congr 1
    rw [show ((i + 1 : Nat) : Int) = (i : Int) + 1 by omega, Int.add_mul]
    omega
def smallI (i : Int) : Bool := decide (-(2 ^ 62) ≤ i) && decide (i < 2 ^ 62)
def rng1D : D → Option (List D)
  | .int j => if smallI j = true then some (rngL 0 1 j.toNat) else none
  | _ => none
def rng2D : D → D → Option (List D)
  | .int i, .int j => if smallI i = true ∧ smallI j = true then some (rngL i 1 (j - i).toNat) else none
  | _, _ => none
def rng3D : D → D → D → Option (List D)
  | .int i, .int j, .int c => if c ≠ 0 ∧ c.natAbs < 1073741824 ∧ Builtin.Range.small i j c = true ∧ 0 ≤ Builtin.Range.rangeSize i j c then some (rngL i c (Builtin.Range.rangeSize i j c).toNat) else none
  | _, _, _ => none
def enumL (k : Nat) : List D → List D
  | [] => []
  | d :: ds => .tup [.int k, d] :: enumL (k + 1) ds
theorem enumL_len : ∀ (ds : List D) (k : Nat), (enumL k ds).length = ds.length
  | [], _ => rfl
  | d :: ds, k => by rw [enumL, List.length_cons, enumL_len ds, List.length_cons]
theorem enumL_get : ∀ (ds : List D) (k i : Nat) (d : D), (enumL k ds)[i]? = some d → ∃ d0, ds[i]? = some d0 ∧ d = .tup [.int (k + i : Nat), d0]
  | [], _, _, _, h => by simp [enumL] at h
  | d0 :: ds, k, 0, d, h => by
    simp [enumL] at h
    exact ⟨d0, by simp, by rw [← h]; rfl⟩
  | d0 :: ds, k, i + 1, d, h => by
    simp only [enumL, List.getElem?_cons_succ] at h
    obtain ⟨d1, h1, rfl⟩ := enumL_get ds (k + 1) i d h
    exact ⟨d1, by simpa using h1, by rw [show k + 1 + i = k + (i + 1) by omega]⟩
def zipL : List D → List D → List D
  | d :: ds, e :: es => .tup [d, e] :: zipL ds es
  | _, _ => []
theorem zipL_len : ∀ (ds es : List D), (zipL ds es).length = min ds.length es.length
  | [], _ => by simp [zipL]
  | _ :: _, [] => by simp [zipL]
  | d :: ds, e :: es => by rw [zipL, List.length_cons, zipL_len ds es, List.length_cons, List.length_cons]; omega
theorem zipL_get : ∀ (ds es : List D) (i : Nat) (d : D), (zipL ds es)[i]? = some d → ∃ d0 e0, ds[i]? = some d0 ∧ es[i]? = some e0 ∧ d = .tup [d0, e0]
  | [], _, _, _, h => by simp [zipL] at h
  | _ :: _, [], _, _, h => by simp [zipL] at h
  | d0 :: ds, e0 :: es, 0, d, h => by
    simp [zipL] at h
    exact ⟨d0, e0, by simp, by simp, h.symm⟩
  | d0 :: ds, e0 :: es, i + 1, d, h => by
    simp only [zipL, List.getElem?_cons_succ] at h
    obtain ⟨d1, e1, h1, h2, rfl⟩ := zipL_get ds es i d h
    exact ⟨d1, e1, by simpa using h1, by simpa using h2, rfl⟩
section
variable {X : Cx} {g : Gx} {c : Cxt} {W : WX} {tg e1 e2 e3 ex : Expr} {fa fb fd : Sl → Option (Rs T)} {pos p : Pos}
theorem RepTs.kept {Hs H : Hp} : ∀ {ks : Ks} {f : List Addr}, RepTs g Hs H (ks.map fun p => T.fz p.2) (ks.map (·.1)) f → Kept g Hs ks
  | [], _, _ => fun _ h => nomatch h
  | (v, d) :: ks, f, r => by
    simp only [List.map_cons, RepTs] at r
    obtain ⟨v', vs', f1, f2, e, _, q, r⟩ := r
    obtain ⟨rfl, rfl⟩ := List.cons.inj e
    simp only [RepT] at q
    intro p hp
    rcases List.mem_cons.mp hp with rfl | hp
    · exact q.1
    · exact RepTs.kept r p hp
theorem Ok.kept {e : Fr0} {ρ : Sl} {τ : Tm} {σ : L2.St} {H Hs : Hp} {ks : Ks} (o : Ok g e ρ (kG ks :: τ) σ H Hs) : Kept g Hs ks := by
  obtain ⟨fs, ft, _, r, _⟩ := o.own
  obtain ⟨f, f', _, r, _⟩ := r
  exact RepTs.kept r
theorem gives_still {J : It} {ds : List D} {ks : Ks} (hg : ∀ i H Hs, Kept g Hs ks → Same Hs H → ∀ d, ds[i]? = some d → J.go i H ∧ ∀ x H', J.yld i H x H' → H' = H ∧ Rep g Hs d x) (hs : ∀ H Hs, Kept g Hs ks → Same Hs H → J.stop ds.length H) : Gives g J ds ks := by
  intro i H Hs h1 h2
  refine ⟨fun d hd => ?_, fun hi => by subst hi; exact hs H Hs h1 h2⟩
  obtain ⟨a, b⟩ := hg i H Hs h1 h2 d hd
  refine ⟨a, fun x H' hy => ?_⟩
  obtain ⟨rfl, r⟩ := b x H' hy
  exact ⟨Hs, fun _ _ => rfl, Same.refl _, h2, fun _ z => .inl z, r⟩
theorem kept_lst {Hs : Hp} {a : Addr} {ds : List D} {ks : Ks} (h : Kept g Hs ks) (m : (V.ref a, D.lst ds) ∈ ks) : ∃ vs, SqL g.K Hs a vs ∧ Reps g Hs ds vs := by
  have := h _ m
  simp only [Rep] at this
  obtain ⟨a', vs, e, q, r⟩ := this
  cases e
  exact ⟨vs, .inl q, r⟩
theorem kept_tup {Hs : Hp} {a : Addr} {ds : List D} {ks : Ks} (h : Kept g Hs ks) (m : (V.ref a, D.tup ds) ∈ ks) : ∃ vs, SqT g.K Hs a vs ∧ Reps g Hs ds vs := by
  have := h _ m
  simp only [Rep] at this
  obtain ⟨a', vs, e, q, r⟩ := this
  cases e
  exact ⟨vs, q, r⟩
theorem gives_list (hk : g.K = X.K) {a : Addr} {ds : List D} {ks : Ks} (m : (V.ref a, D.lst ds) ∈ ks) : Gives g (Itl X.K a) ds ks := by
  refine gives_still (fun i H Hs kp s d hd => ?_) (fun H Hs kp s => ?_)
  · obtain ⟨vs, sq, r⟩ := kept_lst kp m
    obtain ⟨v, hv, rv⟩ := r.at_ i d hd
    refine ⟨⟨vs, v, hk ▸ Same.sqL s sq, hv⟩, fun x H' hy => ?_⟩
    obtain ⟨rfl, hy⟩ := hy
    have := hy vs (hk ▸ Same.sqL s sq)
    rw [hv] at this
    cases this
    exact ⟨rfl, rv⟩
  · obtain ⟨vs, sq, r⟩ := kept_lst kp m
    exact ⟨vs, hk ▸ Same.sqL s sq, by rw [r.length]; exact Nat.le_refl _⟩
theorem gives_tup (hk : g.K = X.K) {a : Addr} {ds : List D} {ks : Ks} (m : (V.ref a, D.tup ds) ∈ ks) : Gives g (Itt X.K a) ds ks := by
  refine gives_still (fun i H Hs kp s d hd => ?_) (fun H Hs kp s => ?_)
  · obtain ⟨vs, sq, r⟩ := kept_tup kp m
    obtain ⟨v, hv, rv⟩ := r.at_ i d hd
    refine ⟨⟨vs, v, hk ▸ Same.sqT s sq, hv⟩, fun x H' hy => ?_⟩
    obtain ⟨rfl, hy⟩ := hy
    have := hy vs (hk ▸ Same.sqT s sq)
    rw [hv] at this
    cases this
    exact ⟨rfl, rv⟩
  · obtain ⟨vs, sq, r⟩ := kept_tup kp m
    exact ⟨vs, hk ▸ Same.sqT s sq, by rw [r.length]; exact Nat.le_refl _⟩
theorem gives_rev (hk : g.K = X.K) {a : Addr} {ds : List D} {ks : Ks} (m : (V.ref a, D.lst ds) ∈ ks) : Gives g (Itv X.K a ds.length) ds.reverse ks := by
  refine gives_still (fun i H Hs kp s d hd => ?_) (fun H Hs kp s => by show ds.length ≤ _; rw [List.length_reverse]; exact Nat.le_refl _)
  obtain ⟨vs, sq, r⟩ := kept_lst kp m
  have hi : i < ds.length := by
    have := (List.getElem?_eq_some_iff.mp hd).1
    simpa using this
  rw [List.getElem?_reverse hi] at hd
  obtain ⟨v, hv, rv⟩ := r.at_ _ d hd
  refine ⟨⟨by omega, vs, v, hk ▸ Same.sqL s sq, hv⟩, fun x H' hy => ?_⟩
  obtain ⟨rfl, hy⟩ := hy
  have := hy vs (hk ▸ Same.sqL s sq)
  rw [hv] at this
  cases this
  exact ⟨rfl, rv⟩
theorem gives_rng {ks : Ks} (lo c : Int) (n : Nat) : Gives g (Itc lo c n) (rngL lo c n) ks := by
  refine gives_still (fun i H Hs _ s d hd => ?_) (fun H Hs _ s => by show n ≤ _; rw [rngL_len]; exact Nat.le_refl _)
  obtain ⟨h1, rfl⟩ := rngL_get c n lo i d hd
  refine ⟨h1, fun x H' hy => ?_⟩
  obtain ⟨rfl, rfl⟩ := hy
  exact ⟨rfl, by simp only [Rep]⟩
theorem gives_rng1 {ks : Ks} (lo : Int) (n : Nat) : Gives g (Itr lo n) (rngL lo 1 n) ks := by
  refine gives_still (fun i H Hs _ s d hd => ?_) (fun H Hs _ s => by show n ≤ _; rw [rngL_len]; exact Nat.le_refl _)
  obtain ⟨h1, rfl⟩ := rngL_get 1 n lo i d hd
  refine ⟨h1, fun x H' hy => ?_⟩
  obtain ⟨rfl, rfl⟩ := hy
  exact ⟨rfl, by simp only [Rep]; rw [Int.mul_one]⟩
theorem gives_str {ks : Ks} (x : Str) : Gives g (Its x) (x.cps.toList.map fun c => .str ⟨#[c]⟩) ks := by
  refine gives_still (fun i H Hs _ s d hd => ?_) (fun H Hs _ s => by show x.cps.size ≤ _; rw [List.length_map, Array.length_toList]; exact Nat.le_refl _)
  rw [List.getElem?_map, Option.map_eq_some_iff] at hd
  obtain ⟨c, hc, rfl⟩ := hd
  rw [Array.getElem?_toList] at hc
  have h1 := (Array.getElem?_eq_some_iff.mp hc).1
  refine ⟨h1, fun v H' hy => ?_⟩
  obtain ⟨rfl, c', h2, rfl⟩ := hy
  rw [hc] at h2
  cases h2
  exact ⟨rfl, by simp only [Rep]⟩
/-- a new tuple comes each turn -/
theorem gives_pair {J : It} {ds : List D} {ks : Ks} (hg : ∀ i H Hs, Kept g Hs ks → Same Hs H → ∀ d, ds[i]? = some d → J.go i H ∧ ∀ x H', J.yld i H x H' → ∃ T u d1 d2, d = .tup [d1, d2] ∧ x = .ref T ∧ H T = none ∧ H' = upd H T (.tup u) ∧ Reps g Hs [d1, d2] u) (hs : ∀ H Hs, Kept g Hs ks → Same Hs H → J.stop ds.length H) : Gives g J ds ks := by
  intro i H Hs h1 h2
  refine ⟨fun d hd => ?_, fun hi => by subst hi; exact hs H Hs h1 h2⟩
  obtain ⟨a, b⟩ := hg i H Hs h1 h2 d hd
  refine ⟨a, fun x H' hy => ?_⟩
  obtain ⟨T, u, d1, d2, rfl, rfl, hT, rfl, r⟩ := b x H' hy
  have hTs : Hs T = none := by
    cases q : Hs T with
    | none => rfl
    | some y => have := h2 T y q; rw [hT] at this; cases this
  refine ⟨upd Hs T (.tup u), upd_keep hT, Same_upd hTs, fun a y q => ?_, fun a q => ?_, ?_⟩
  · by_cases z : a = T
    · subst z; rw [upd_same] at q ⊢; exact q
    · rw [upd_ne z] at q ⊢; exact h2 a y q
  · by_cases z : a = T
    · subst z; exact .inr hT
    · rw [upd_ne z] at q; exact .inl q
  · simp only [Rep]
    exact ⟨T, u, rfl, SqT.of upd_same, Reps.mono (Same_upd hTs) r⟩
theorem gives_enum (hk : g.K = X.K) {a : Addr} {ds : List D} {ks : Ks} (m : (V.ref a, D.lst ds) ∈ ks) : Gives g (Ite X.K a) (enumL 0 ds) ks := by
  refine gives_pair (fun i H Hs kp s d hd => ?_) (fun H Hs kp s => ?_)
  · obtain ⟨vs, sq, r⟩ := kept_lst kp m
    obtain ⟨d0, h0, rfl⟩ := enumL_get ds 0 i d hd
    obtain ⟨v, hv, rv⟩ := r.at_ i d0 h0
    refine ⟨⟨vs, v, hk ▸ Same.sqL s sq, hv⟩, fun x H' hy => ?_⟩
    obtain ⟨T, y, rfl, hT, rfl, hy⟩ := hy
    have := hy vs (hk ▸ Same.sqL s sq)
    rw [hv] at this
    cases this
    refine ⟨T, _, _, _, rfl, rfl, hT, rfl, ?_⟩
    simp only [Reps]
    exact ⟨_, _, rfl, by simp only [Rep, Nat.zero_add], _, _, rfl, rv, rfl⟩
  · obtain ⟨vs, sq, r⟩ := kept_lst kp m
    exact ⟨vs, hk ▸ Same.sqL s sq, by rw [r.length, enumL_len]; exact Nat.le_refl _⟩
theorem gives_zip (hk : g.K = X.K) {a b : Addr} {ds es : List D} {ks : Ks} (m : (V.ref a, D.lst ds) ∈ ks) (m2 : (V.ref b, D.lst es) ∈ ks) : Gives g (Itz X.K a b) (zipL ds es) ks := by
  refine gives_pair (fun i H Hs kp s d hd => ?_) (fun H Hs kp s => ?_)
  · obtain ⟨vs, sq, r⟩ := kept_lst kp m
    obtain ⟨ws, sq2, r2⟩ := kept_lst kp m2
    obtain ⟨d0, e0, h0, h1, rfl⟩ := zipL_get ds es i d hd
    obtain ⟨v, hv, rv⟩ := r.at_ i d0 h0
    obtain ⟨w, hw, rw'⟩ := r2.at_ i e0 h1
    refine ⟨⟨vs, ws, v, w, hk ▸ Same.sqL s sq, hk ▸ Same.sqL s sq2, hv, hw⟩, fun x H' hy => ?_⟩
    obtain ⟨T, y, z, rfl, hT, rfl, hy, hz⟩ := hy
    have e1 := hy vs (hk ▸ Same.sqL s sq)
    have e2 := hz ws (hk ▸ Same.sqL s sq2)
    rw [hv] at e1
    rw [hw] at e2
    cases e1
    cases e2
    refine ⟨T, _, _, _, rfl, rfl, hT, rfl, ?_⟩
    simp only [Reps]
    exact ⟨_, _, rfl, rv, _, _, rfl, rw', rfl⟩
  · obtain ⟨vs, sq, r⟩ := kept_lst kp m
    obtain ⟨ws, sq2, r2⟩ := kept_lst kp m2
    exact ⟨vs, ws, hk ▸ Same.sqL s sq, hk ▸ Same.sqL s sq2, by rw [r.length, r2.length, zipL_len]; omega⟩
theorem gives_zipT (hk : g.K = X.K) {a b : Addr} {ds es : List D} {ks : Ks} (m : (V.ref a, D.tup ds) ∈ ks) (m2 : (V.ref b, D.tup es) ∈ ks) : Gives g (RZ.ItzT X.K a b) (zipL ds es) ks := by
  refine gives_pair (fun i H Hs kp s d hd => ?_) (fun H Hs kp s => ?_)
  · obtain ⟨vs, sq, r⟩ := kept_tup kp m
    obtain ⟨ws, sq2, r2⟩ := kept_tup kp m2
    obtain ⟨d0, e0, h0, h1, rfl⟩ := zipL_get ds es i d hd
    obtain ⟨v, hv, rv⟩ := r.at_ i d0 h0
    obtain ⟨w, hw, rw'⟩ := r2.at_ i e0 h1
    refine ⟨⟨vs, ws, v, w, hk ▸ Same.sqT s sq, hk ▸ Same.sqT s sq2, hv, hw⟩, fun x H' hy => ?_⟩
    obtain ⟨T, y, z, rfl, hT, rfl, hy, hz⟩ := hy
    have e1 := hy vs (hk ▸ Same.sqT s sq)
    have e2 := hz ws (hk ▸ Same.sqT s sq2)
    rw [hv] at e1
    rw [hw] at e2
    cases e1
    cases e2
    refine ⟨T, _, _, _, rfl, rfl, hT, rfl, ?_⟩
    simp only [Reps]
    exact ⟨_, _, rfl, rv, _, _, rfl, rw', rfl⟩
  · obtain ⟨vs, sq, r⟩ := kept_tup kp m
    obtain ⟨ws, sq2, r2⟩ := kept_tup kp m2
    exact ⟨vs, ws, hk ▸ Same.sqT s sq, hk ▸ Same.sqT s sq2, by rw [r.length, r2.length, zipL_len]; omega⟩

/-! the iterables of the text: what is walked is frozen -/
theorem ij_lst (k : Cp X g c) (ha : CJ X g W fa ex) : IJ X g W tg (fun ρ => bindR (fa ρ) fun t ρ1 => okR (lstD t.d) ρ1) ex := by
  obtain ⟨ta, pa, ra⟩ := ha
  refine ⟨_, pi_list pa, fun e ρ τ σ H Hs R o q => ?_⟩
  refine ra e ρ τ σ H Hs _ o (PostI.bind q fun x ρ1 _ v H1 Hs1 o1 q1 => ?_)
  cases hd : x.d <;> rw [hd] at q1 <;> try exact q1.elim
  rename_i ds
  obtain ⟨Hs2, _, o2⟩ := o1.freeze
  obtain ⟨f, r⟩ := o2.top
  rw [hd] at r o2
  simp only [RepT, Rep] at r
  obtain ⟨⟨a, vs, rfl, sq, r⟩, _⟩ := r
  exact ⟨a, rfl, ⟨vs, k.hk ▸ Same.sqL o2.sub (.inl sq)⟩, q1 _ [(.ref a, .lst ds)] H1 Hs2 o2 (gives_list k.hk (by simp))⟩
theorem ij_tup (k : Cp X g c) (ha : CJ X g W fa ex) : IJ X g W tg (fun ρ => bindR (fa ρ) fun t ρ1 => okR (tupD t.d) ρ1) ex := by
  obtain ⟨ta, pa, ra⟩ := ha
  refine ⟨_, pi_tup pa, fun e ρ τ σ H Hs R o q => ?_⟩
  refine ra e ρ τ σ H Hs _ o (PostI.bind q fun x ρ1 _ v H1 Hs1 o1 q1 => ?_)
  cases hd : x.d <;> rw [hd] at q1 <;> try exact q1.elim
  rename_i ds
  obtain ⟨Hs2, _, o2⟩ := o1.freeze
  obtain ⟨f, r⟩ := o2.top
  rw [hd] at r o2
  simp only [RepT, Rep] at r
  obtain ⟨⟨a, vs, rfl, sq, r⟩, _⟩ := r
  exact ⟨a, rfl, ⟨vs, k.hk ▸ Same.sqT o2.sub sq⟩, q1 _ [(.ref a, .tup ds)] H1 Hs2 o2 (gives_tup k.hk (by simp))⟩
theorem ij_str (ha : CJ X g W fa ex) : IJ X g W tg (fun ρ => bindR (fa ρ) fun t ρ1 => okR (strD t.d) ρ1) ex := by
  obtain ⟨ta, pa, ra⟩ := ha
  refine ⟨_, pi_str pa, fun e ρ τ σ H Hs R o q => ?_⟩
  refine ra e ρ τ σ H Hs _ o (PostI.bind q fun x ρ1 _ v H1 Hs1 o1 q1 => ?_)
  obtain ⟨f, r⟩ := o1.top
  have r := r.now o1.sub
  cases hd : x.d <;> rw [hd] at q1 r <;> try exact q1.elim
  rename_i s
  simp only [Rep] at r
  exact ⟨s, r, q1 _ [] H1 Hs1 o1.drop.nilG (gives_str s)⟩
theorem ij_rng1 (k : Cp X g c) (hg : glB c "range" = true) (hs : starB e1 = false) (ha : CJ X g W fa e1) : IJ X g W tg (fun ρ => bindR (fa ρ) fun t ρ1 => okR (rng1D t.d) ρ1) (.Call (.Name "range" p) [e1] [] pos) := by
  obtain ⟨ta, pa, ra⟩ := ha
  refine ⟨_, pi_range1 (k.gl hg) (k.bn _ (by decide)) (pa_one pa hs) (star_cons hs), fun e ρ τ σ H Hs R o q => ?_⟩
  refine ra e ρ τ σ H Hs _ o (PostI.bind q fun x ρ1 _ v H1 Hs1 o1 q1 => ?_)
  obtain ⟨f, r⟩ := o1.top
  have r := r.now o1.sub
  cases hd : x.d <;> rw [hd] at q1 r <;> try exact q1.elim
  rename_i j
  simp only [Rep] at r
  subst r
  simp only [rng1D] at q1
  split at q1
  · rename_i hz
    simp only [smallI, Bool.and_eq_true, decide_eq_true_eq] at hz
    exact ⟨j, rfl, hz.1, hz.2, q1 _ [] H1 Hs1 o1.drop.nilG (gives_rng1 _ _)⟩
  · exact q1.elim
theorem ij_rng2 (k : Cp X g c) (hg : glB c "range" = true) (hs : starB e1 = false) (hs2 : starB e2 = false) (ha : CJ X g W fa e1) (hb : CJ X g W fb e2) : IJ X g W tg (fun ρ => bindR (fa ρ) fun t ρ1 => bindR (fb ρ1) fun u ρ2 => okR (rng2D t.d u.d) ρ2) (.Call (.Name "range" p) [e1, e2] [] pos) := by
  obtain ⟨ta, pa, ra⟩ := ha
  obtain ⟨tb, pb, rb⟩ := hb
  refine ⟨_, pi_range2 (k.gl hg) (k.bn _ (by decide)) (pa_two pa pb hs hs2) (by rw [star_cons hs, star_cons hs2]; rfl) (by rw [star_cons hs2]; rfl), fun e ρ τ σ H Hs R o q => ?_⟩
  refine ra e ρ τ σ H Hs _ o (PostI.bind q fun x ρ1 _ v H1 Hs1 o1 q1 => ?_)
  refine rb e ρ1 _ σ H1 Hs1 _ o1 ?_
  cases h2 : fb ρ1 with
  | none => rw [h2] at q1; exact q1
  | some r2 =>
    rw [h2] at q1
    cases r2 with
    | ex c t' ρ' => exact XP.drop q1
    | ok y ρ2 =>
      intro w H2 Hs2 o2
      obtain ⟨f2, r2⟩ := o2.top
      obtain ⟨f1, r1⟩ := o2.swap.top
      have r2 := r2.now o2.sub
      have r1 := r1.now o2.sub
      simp only [bindR] at q1
      unfold rng2D at q1
      split at q1
      · rename_i i j hx hy
        rw [hx] at r1
        rw [hy] at r2
        simp only [Rep] at r1 r2
        subst r1
        subst r2
        split at q1
        · rename_i hz
          simp only [smallI, Bool.and_eq_true, decide_eq_true_eq] at hz
          exact ⟨i, j, rfl, ⟨hz.1.1, hz.1.2, hz.2.1, hz.2.2⟩, q1 _ [] H2 Hs2 o2.drop.drop.nilG (gives_rng1 _ _)⟩
        · exact q1.elim
      · exact q1.elim
theorem ij_rng3 (k : Cp X g c) (hg : glB c "range" = true) (hs : starB e1 = false) (hs2 : starB e2 = false) (hs3 : starB e3 = false) (ha : CJ X g W fa e1) (hb : CJ X g W fb e2) (hd : CJ X g W fd e3) :
    IJ X g W tg (fun ρ => bindR (fa ρ) fun t ρ1 => bindR (fb ρ1) fun u ρ2 => bindR (fd ρ2) fun w ρ3 => okR (rng3D t.d u.d w.d) ρ3) (.Call (.Name "range" p) [e1, e2, e3] [] pos) := by
  obtain ⟨ta, pa, ra⟩ := ha
  obtain ⟨tb, pb, rb⟩ := hb
  obtain ⟨td, pd, rd⟩ := hd
  refine ⟨_, pi_range3 (k.gl hg) (k.bn _ (by decide)) (pa_cons pa (pa_two pb pd hs2 hs3) (star_cons hs)) (star_cons hs) (star_none fun x hx => by simp at hx; rcases hx with rfl | rfl <;> assumption), fun e ρ τ σ H Hs R o q => ?_⟩
  refine ra e ρ τ σ H Hs _ o (PostI.bind q fun x ρ1 _ v H1 Hs1 o1 q1 => ?_)
  refine rb e ρ1 _ σ H1 Hs1 _ o1 ?_
  cases h2 : fb ρ1 with
  | none => rw [h2] at q1; exact q1
  | some r2 =>
    rw [h2] at q1
    cases r2 with
    | ex c t' ρ' => exact XP.drop q1
    | ok y ρ2 =>
      intro w H2 Hs2 o2
      simp only [bindR] at q1
      refine rd e ρ2 _ σ H2 Hs2 _ o2 ?_
      cases h3 : fd ρ2 with
      | none => rw [h3] at q1; exact q1
      | some r3 =>
        rw [h3] at q1
        cases r3 with
        | ex c t' ρ' => exact XP.drop (XP.drop q1)
        | ok z ρ3 =>
          intro u H3 Hs3 o3
          obtain ⟨f3, r3⟩ := o3.top
          obtain ⟨f2, r2⟩ := o3.swap.top
          obtain ⟨f1, r1⟩ := o3.drop.swap.top
          have r3 := r3.now o3.sub
          have r2 := r2.now o3.sub
          have r1 := r1.now o3.sub
          simp only [bindR] at q1
          unfold rng3D at q1
          split at q1
          · rename_i i j c hx hy hz
            rw [hx] at r1
            rw [hy] at r2
            rw [hz] at r3
            simp only [Rep] at r1 r2 r3
            subst r1
            subst r2
            subst r3
            split at q1
            · rename_i hz
              exact ⟨i, j, c, _, rfl, ⟨hz.1, hz.2.1, hz.2.2.1, (Int.toNat_of_nonneg hz.2.2.2).symm⟩, q1 _ [] H3 Hs3 o3.drop.drop.drop.nilG (gives_rng _ _ _)⟩
            · exact q1.elim
          · exact q1.elim
theorem ij_rev (k : Cp X g c) (hg : glB c "reversed" = true) (hm : X.mg "reversed" = none) (hs : starB e1 = false) (ha : CJ X g W fa e1) : IJ X g W tg (fun ρ => bindR (fa ρ) fun t ρ1 => okR ((lstD t.d).map List.reverse) ρ1) (.Call (.Name "reversed" p) [e1] [] pos) := by
  obtain ⟨ta, pa, ra⟩ := ha
  refine ⟨_, pi_reversed (k.gl hg) hm (pa_one pa hs) (star_cons hs), fun e ρ τ σ H Hs R o q => ?_⟩
  refine ra e ρ τ σ H Hs _ o (PostI.bind q fun x ρ1 _ v H1 Hs1 o1 q1 => ?_)
  cases hd : x.d <;> rw [hd] at q1 <;> try exact q1.elim
  rename_i ds
  obtain ⟨Hs2, _, o2⟩ := o1.freeze
  obtain ⟨f, r⟩ := o2.top
  rw [hd] at r o2
  simp only [RepT, Rep] at r
  obtain ⟨⟨a, vs, rfl, sq, r⟩, _⟩ := r
  refine ⟨a, vs, rfl, k.hk ▸ Same.sqL o2.sub (.inl sq), ?_⟩
  rw [r.length]
  exact q1 _ [(.ref a, .lst ds)] H1 Hs2 o2 (gives_rev k.hk (by simp))
theorem ij_enum {elts : List Expr} {kk : Nat} {tpos : Pos} (k : Cp X g c) (hg : glB c "enumerate" = true) (hs : starB e1 = false) (ha : CJ X g W fa e1) : IJ X g W (.Tuple elts kk tpos) (fun ρ => bindR (fa ρ) fun t ρ1 => okR ((lstD t.d).map (enumL 0)) ρ1) (.Call (.Name "enumerate" p) [e1] [] pos) := by
  obtain ⟨ta, pa, ra⟩ := ha
  refine ⟨_, pi_enum (k.gl hg) (k.bn _ (by decide)) (pa_one pa hs) (star_cons hs), fun e ρ τ σ H Hs R o q => ?_⟩
  refine ra e ρ τ σ H Hs _ o (PostI.bind q fun x ρ1 _ v H1 Hs1 o1 q1 => ?_)
  cases hd : x.d <;> rw [hd] at q1 <;> try exact q1.elim
  rename_i ds
  obtain ⟨Hs2, _, o2⟩ := o1.freeze
  obtain ⟨f, r⟩ := o2.top
  rw [hd] at r o2
  simp only [RepT, Rep] at r
  obtain ⟨⟨a, vs, rfl, sq, r⟩, _⟩ := r
  exact ⟨a, vs, rfl, k.hk ▸ Same.sqL o2.sub (.inl sq), q1 _ [(.ref a, .lst ds)] H1 Hs2 o2 (gives_enum k.hk (by simp))⟩
def zipD : D → D → Option (List D)
  | .lst ds, .lst es => some (zipL ds es)
  | .tup ds, .tup es => some (zipL ds es)
  | _, _ => none
theorem ij_zip {elts : List Expr} {kk : Nat} {tpos : Pos} (k : Cp X g c) (hg : glB c "zip" = true) (hs : starB e1 = false) (hs2 : starB e2 = false) (ha : CJ X g W fa e1) (hb : CJ X g W fb e2) :
    IJ X g W (.Tuple elts kk tpos) (fun ρ => bindR (fa ρ) fun t ρ1 => bindR (fb ρ1) fun u ρ2 => okR (zipD t.d u.d) ρ2) (.Call (.Name "zip" p) [e1, e2] [] pos) := by
  obtain ⟨ta, pa, ra⟩ := ha
  obtain ⟨tb, pb, rb⟩ := hb
  refine ⟨_, RZ.pi_zipA (k.gl hg) (k.bn _ (by decide)) (pa_two pa pb hs hs2) (star_cons hs) (star_none fun x hx => by simp at hx; subst hx; exact hs2), fun e ρ τ σ H Hs R o q => ?_⟩
  refine ra e ρ τ σ H Hs _ o (PostI.bind q fun x ρ1 _ v H1 Hs1 o1 q1 => ?_)
  refine rb e ρ1 _ σ H1 Hs1 _ o1 ?_
  cases h2 : fb ρ1 with
  | none => rw [h2] at q1; exact q1
  | some r2 =>
    rw [h2] at q1
    cases r2 with
    | ex c t' ρ' => exact XP.drop q1
    | ok y ρ2 =>
      intro w H2 Hs2 o2
      obtain ⟨Hs3, _, o3⟩ := o2.freeze
      obtain ⟨Hs4, _, o4⟩ := o3.swap.freeze
      obtain ⟨f1, r1⟩ := o4.top
      obtain ⟨f2, r2⟩ := o4.swap.top
      simp only [bindR] at q1
      unfold zipD at q1
      split at q1
      · rename_i ds es hx hy
        rw [hx] at r1 o4
        rw [hy] at r2 o4
        simp only [RepT, Rep] at r1 r2
        obtain ⟨⟨a, vs, rfl, sq, r1⟩, _⟩ := r1
        obtain ⟨⟨b, ws, rfl, sq2, r2⟩, _⟩ := r2
        exact ⟨a, b, vs, ws, rfl, .inl ⟨k.hk ▸ Same.sqL o4.sub (.inl sq), k.hk ▸ Same.sqL o4.sub (.inl sq2), q1 _ [(.ref b, .lst es), (.ref a, .lst ds)] H2 Hs4 o4.merge (gives_zip k.hk (by simp) (by simp))⟩⟩
      · rename_i ds es hx hy
        rw [hx] at r1 o4
        rw [hy] at r2 o4
        simp only [RepT, Rep] at r1 r2
        obtain ⟨⟨a, vs, rfl, sq, r1⟩, _⟩ := r1
        obtain ⟨⟨b, ws, rfl, sq2, r2⟩, _⟩ := r2
        exact ⟨a, b, vs, ws, rfl, .inr ⟨k.hk ▸ Same.sqT o4.sub sq, k.hk ▸ Same.sqT o4.sub sq2, q1 _ [(.ref b, .tup es), (.ref a, .tup ds)] H2 Hs4 o4.merge (gives_zipT k.hk (by simp) (by simp))⟩⟩
      · exact q1.elim
end

/-! ### for -/
def forF (st : T → Sl → Option Sl) (fb : Sl → Option Fl) : List D → Sl → Option Fl
  | [], ρ => some (.nx ρ)
  | d :: ds, ρ => match st (.fz d) ρ with
    | none => none
    | some ρ1 => match fb ρ1 with
      | some (.nx ρ2) => forF st fb ds ρ2
      | some (.ct ρ2) => forF st fb ds ρ2
      | some (.bk ρ2) => some (.nx ρ2)
      | some (.ret t ρ2) => some (.ret t ρ2)
      | some (.ex c t ρ2) => some (.ex c t ρ2)
      | none => none
theorem sj_for {X : Cx} {g : Gx} {c : Cxt} {W : WX} {tg iter : Expr} {pos : Pos} {fi : Sl → Option (Rs (List D))} {G : Tg} {fb : Sl → Option Fl} {body : List Stmt} (k : Cp X g c) (hpo : PassesOwn (model X.prog X.w) X.A X.env X.xe) (hs : ∀ x, foldedSetIterable iter X.env x = pure x) (hi : IJ X g W tg fi iter) (hg : GJ X g c G tg) (hb : SsJ X g c W fb body) :
    SJ X g c W (fun ρ => bindE (fi ρ) fun ds ρ1 => forF (stT G) fb ds ρ1) (.For tg iter body [] pos) := by
  obtain ⟨wi, pi, ri⟩ := hi
  obtain ⟨gt, pg, rg⟩ := hg
  obtain ⟨tb, pb, rb⟩ := hb
  refine ⟨_, ps_for hpo k.calm pi pg pb hs, fun e ρ τ σ H Hs D hp o q => ?_⟩
  refine ri e ρ τ σ H Hs _ o ?_
  dsimp only at q
  cases h : fi ρ with
  | none => rw [h] at q; exact q
  | some r =>
    rw [h] at q
    cases r with
    | ex c t ρ' => exact fun v dx H' Hs' o' hd => q v dx σ H' Hs' o' hd
    | ok ds ρ1 =>
      intro J ks H1 S1 o1 gv
      simp only [bindE] at q
      refine ⟨fun i m σ H => ∃ ρ Hs, i + m = ds.length ∧ Ok g e ρ (kG ks :: τ) σ H Hs ∧ PostS g W e τ D (forF (stT G) fb (ds.drop i) ρ), ⟨ds.length, ρ1, S1, by omega, o1, q⟩, ?_⟩
      rintro i m σ H ⟨ρ, Hs, him, o, q⟩
      obtain ⟨g1, g2⟩ := gv i H Hs o.kept o.sub
      cases hd : ds[i]? with
      | none =>
        have hi : i = ds.length := by
          have := List.getElem?_eq_none_iff.mp hd
          omega
        refine .inl ⟨g2 hi, ?_⟩
        rw [hi, List.drop_length] at q
        exact q σ H Hs o.drop
      | some d =>
        have hi : i < ds.length := (List.getElem?_eq_some_iff.mp hd).1
        obtain ⟨g3, g4⟩ := g1 d hd
        rw [List.drop_eq_getElem_cons hi] at q
        have hd' : ds[i] = d := (List.getElem?_eq_some_iff.mp hd).2
        rw [hd'] at q
        simp only [forF] at q
        refine .inr ⟨g3, fun σ' H' => ∃ ρ Hs, Ok g e ρ (kG ks :: τ) σ' H' Hs ∧ PostS g W e τ D (forF (stT G) fb (ds.drop (i + 1)) ρ), fun σ' H' ⟨ρ', Hs', o', q'⟩ => ⟨m - 1, by omega, ρ', Hs', by omega, o', q'⟩, fun x H' hy => ?_⟩
        obtain ⟨Hs', k1, k2, k3, k4, rx⟩ := g4 x H' hy
        have o2 := (o.step k1 k2 k3 k4).push rx
        cases hst : stT G (.fz d) ρ with
        | none => rw [hst] at q; exact q.elim
        | some ρ2 =>
          rw [hst] at q
          simp only at q
          refine rg e ρ _ σ H' Hs' x (.fz d) _ hp o2 ⟨ρ2, hst, fun σ2 _ o3 => rb e ρ2 _ σ2 H' Hs' _ hp o3 ?_⟩
          cases h2 : fb ρ2 with
          | none => rw [h2] at q; exact q
          | some r2 =>
            rw [h2] at q
            cases r2 with
            | nx ρ3 => exact fun σ' H' Hs' o' => ⟨ρ3, Hs', o', q⟩
            | ct ρ3 => exact fun σ' H' Hs' o' => ⟨ρ3, Hs', o', q⟩
            | bk ρ3 => exact fun σ' H' Hs' o' => q σ' H' Hs' o'.drop
            | ret t ρ3 => exact fun v σ' H' Hs' o' => q v σ' H' Hs' o'.swap.drop
            | ex c t ρ3 => exact fun v dx σ' H' Hs' o' hd => q v dx σ' H' Hs' o'.swap.drop hd
end DL
namespace DL
open PySem PySem.Spec L2

/-! ### comprehensions -/
def blkLook (c : Cxt) (scope : Scope) : List (Str × NameKind) :=
  scope.names.map fun p => if (p.2 == .free && c.look.lookup p.1 == some .cell) = true then (p.1, .cell) else p
def Cxt.inB (c : Cxt) (scope : Scope) : Cxt := { c with look := blkLook c scope, blk := some scope.names }
abbrev W0 : WX := fun _ _ _ _ => False
section
variable {X : Cx} {g : Gx} {c : Cxt} {W : WX} {tg iter elt e1 e2 ex : Expr} {fa fb fd : Sl → Option (Rs T)} {pos p : Pos} {scope : Scope}
theorem lookup_relab {sc : Scope} (c : Cxt) {env : PySem.Env} (hk : env.scope.kind = .function) (hs : ∀ x, env.scope.names.lookup x = c.look.lookup x) : (relabel sc env).names = blkLook c sc := by
  unfold relabel blkLook
  apply List.map_congr_left
  intro p hp
  obtain ⟨n, k⟩ := p
  simp only [PySem.Env.kindOf, hk, hs, beq_self_eq_true, Bool.and_true]
theorem Cp.blk (k : Cp X g c) (ok : BlkOk X.N X.env.scope scope own) (s : Shared) (H : Hp) (C : Addr) (cl : List (Str × Addr)) (fp : List Addr) : Cp (X.blk s H scope (compEnvC scope cl C X.env) fp) g (c.inB scope) where
  N := k.N
  nd := k.nd
  sc := fun x => by
    show (relabel scope X.env).names.lookup x = _
    rw [lookup_relab c k.kind k.sc]
    rfl
  calm := k.calm
  hk := k.hk
  hu := k.hu
  bn := k.bn
  kind := ok.kind
  gd := k.gd
  fn := fun x hx => by
    unfold stoB at hx
    simp only [Cxt.inB, Bool.or_eq_true, Bool.and_eq_true, beq_iff_eq] at hx
    rcases hx with hx | hx
    · refine .inr ?_
      show (relabel scope X.env).names.lookup x = _
      rw [lookup_relab c k.kind k.sc]
      exact hx
    · exact .inl (by show (scope.names.lookup x == some .cell) = true; rw [hx.2]; rfl)
  con := k.con
theorem takes0 {X : Cx} : Takes X W0 := fun u s' ⟨_, _, _, _, _, _, _, _, _, _, _, _, _, _, _, _, w⟩ => w.elim

/-! slots forgotten -/
def wipeT (ρ : Sl) : List Nat → Sl
  | [] => ρ
  | v :: vs => (wipeT ρ vs).set v none
theorem wipeT_len (ρ : Sl) : ∀ vs, (wipeT ρ vs).length = ρ.length
  | [] => rfl
  | v :: vs => by rw [wipeT, List.length_set, wipeT_len ρ vs]
theorem wipeT_at (ρ : Sl) : ∀ (vs : List Nat) (j : Nat) (t : T), (wipeT ρ vs)[j]? = some (some t) → j ∉ vs
  | [], _, _, _ => by simp
  | v :: vs, j, t, h => by
    rw [wipeT] at h
    by_cases z : v = j
    · subst z
      by_cases hv : v < (wipeT ρ vs).length
      · rw [List.getElem?_set_self hv] at h; cases h
      · rw [List.getElem?_eq_none (by simpa using hv)] at h; cases h
    · rw [List.getElem?_set_ne z] at h
      have := wipeT_at ρ vs j t h
      simp only [List.mem_cons, not_or]
      exact ⟨fun y => z y.symm, this⟩
theorem wipe_out' {σ : L2.St} {j : Nat} : ∀ {vs : List Nat}, j ∉ vs → (wipe σ vs)[j]? = σ[j]?
  | [], _ => rfl
  | v :: vs, h => by
    simp only [List.mem_cons, not_or] at h
    rw [wipe, List.getElem?_set_ne (fun z => h.1 z.symm), wipe_out' h.2]
variable {e : Fr0} {ρ ρ' : Sl} {τ : Tm} {σ σ' : L2.St} {H H' Hs Hs' : Hp}
theorem RepE.resl : ∀ {ρ : Sl} {σ σ' : L2.St} {fp : List Addr}, RepE g Hs H ρ σ fp → σ'.length = σ.length → (∀ (j : Nat) (t : T), ρ[j]? = some (some t) → σ'[j]? = σ[j]?) → RepE g Hs H ρ σ' fp
  | [], σ, σ', fp, h, l, _ => by
    obtain ⟨rfl, rfl⟩ := h
    exact ⟨by simpa using l, rfl⟩
  | none :: ρ, σ, σ', fp, h, l, k => by
    obtain ⟨o, σ1, rfl, r⟩ := h
    cases σ' with
    | nil => simp at l
    | cons o' σ' => exact ⟨o', σ', rfl, RepE.resl r (by simpa using l) fun j t hj => by simpa using k (j + 1) t (by simpa using hj)⟩
  | some t :: ρ, σ, σ', fp, h, l, k => by
    obtain ⟨v, σ1, f, f', rfl, rfl, q, r⟩ := h
    cases σ' with
    | nil => simp at l
    | cons o' σ' =>
      have e1 := k 0 t (by simp)
      simp at e1
      subst e1
      exact ⟨v, σ', f, f', rfl, rfl, q, RepE.resl r (by simpa using l) fun j t hj => by simpa using k (j + 1) t (by simpa using hj)⟩
theorem Ok.resl (o : Ok g e ρ τ σ H Hs) (l : σ'.length = σ.length) (k : ∀ (j : Nat) (t : T), ρ[j]? = some (some t) → σ'[j]? = σ[j]?) (hp : ∀ p ∈ e.P, σ'[p.1]? = σ[p.1]?) : Ok g e ρ τ σ' H Hs := by
  obtain ⟨fs, ft, r1, r2, c, n⟩ := o.own
  exact ⟨o.sub, o.sub0, o.new, o.frame, o.there, fun p h => by rw [hp p h]; exact o.fix p h, fs, ft, r1.resl l k, r2, c, n⟩
theorem RepE.unset : ∀ {ρ : Sl} {σ : L2.St} {fp : List Addr} (i : Nat), RepE g Hs H ρ σ fp → ∃ fp', RepE g Hs H (ρ.set i none) σ fp' ∧ ∀ a, fp'.count a ≤ fp.count a
  | [], _, fp, _, h => ⟨fp, by simpa using h, fun _ => Nat.le_refl _⟩
  | none :: ρ, _, fp, 0, h => ⟨fp, by simpa using h, fun _ => Nat.le_refl _⟩
  | none :: ρ, _, fp, i + 1, h => by
    obtain ⟨o, σ1, rfl, r⟩ := h
    obtain ⟨fp', r', c⟩ := RepE.unset i r
    exact ⟨fp', ⟨o, σ1, rfl, r'⟩, c⟩
  | some t :: ρ, _, fp, 0, h => by
    obtain ⟨v, σ1, f, f', rfl, rfl, q, r⟩ := h
    exact ⟨f', ⟨_, σ1, rfl, r⟩, fun a => by rw [List.count_append]; omega⟩
  | some t :: ρ, _, fp, i + 1, h => by
    obtain ⟨v, σ1, f, f', rfl, rfl, q, r⟩ := h
    obtain ⟨fp', r', c⟩ := RepE.unset i r
    exact ⟨f ++ fp', ⟨v, σ1, f, fp', rfl, rfl, q, r'⟩, fun a => by rw [List.count_append, List.count_append]; have := c a; omega⟩
theorem Ok.unset (o : Ok g e ρ τ σ H Hs) (i : Nat) : Ok g e (ρ.set i none) τ σ H Hs := by
  obtain ⟨fs, ft, r1, r2, c, n⟩ := o.own
  obtain ⟨fs', r1', c'⟩ := r1.unset i
  refine ⟨o.sub, o.sub0, o.new, o.frame, o.there, o.fix, fs', ft, r1', r2, fun a => ?_, fun a ha => n a ?_⟩
  · have := c a; have := c' a; omega
  · rcases ha with ha | ha
    · have := List.count_pos_iff.mpr ha
      have := c' a
      exact .inl (List.count_pos_iff.mp (by omega))
    · exact .inr ha
theorem Ok.wipeT (o : Ok g e ρ τ σ H Hs) : ∀ vs, Ok g e (DL.wipeT ρ vs) τ σ H Hs
  | [] => o
  | v :: vs => (Ok.wipeT o vs).unset v
theorem Ok.wipe (o : Ok g e ρ τ σ H Hs) (vs : List Nat) (hp : ∀ p ∈ e.P, p.1 ∉ vs) : Ok g e (DL.wipeT ρ vs) τ (L2.wipe σ vs) H Hs :=
  (o.wipeT vs).resl (wipe_length σ vs) (fun j t h => wipe_out' (wipeT_at ρ vs j t h)) fun p h => wipe_out' (hp p h)
theorem Ok.unwipe (o : Ok g e ρ τ σ' H Hs) {vs : List Nat} (h : L2.wipe σ' vs = L2.wipe σ vs) (hp : ∀ p ∈ e.P, p.1 ∉ vs) : Ok g e (DL.wipeT ρ vs) τ σ H Hs := by
  have out : ∀ j, j ∉ vs → σ[j]? = σ'[j]? := fun j hj => by
    have := congrArg (fun s => s[j]?) h
    simp only [wipe_out' hj] at this
    exact this.symm
  refine (o.wipeT vs).resl ?_ (fun j t h => out j (wipeT_at ρ vs j t h)) fun p h => out _ (hp p h)
  have := congrArg List.length h
  rw [wipe_length, wipe_length] at this
  exact this.symm
theorem wipe_of_out {σ σ' : L2.St} {is : List Nat} : ∀ {vs : List Nat}, SlOut is σ σ' → (∀ i ∈ is, i ∈ vs) → L2.wipe σ' vs = L2.wipe σ vs := fun {vs} so hv => by
  apply List.ext_getElem?
  intro j
  by_cases hj : j ∈ vs
  · have : ∀ (σ : L2.St) (vs : List Nat), j ∈ vs → (L2.wipe σ vs)[j]? = if j < σ.length then some none else none := by
      intro σ vs
      induction vs with
      | nil => intro h; cases h
      | cons v vs ih =>
        intro h
        rw [L2.wipe]
        by_cases z : v = j
        · subst z
          by_cases hl : v < σ.length
          · rw [List.getElem?_set_self (by rw [wipe_length]; exact hl), if_pos hl]
          · rw [List.getElem?_eq_none (by rw [List.length_set, wipe_length]; omega), if_neg hl]
        · rw [List.getElem?_set_ne z]
          exact ih ((List.mem_cons.mp h).resolve_left fun y => z y.symm)
    rw [this σ' vs hj, this σ vs hj, so.1]
  · rw [wipe_out' hj, wipe_out' hj]
    exact so.2 j fun h => hj (hv j h)
theorem wipe_idem {σ : L2.St} {vs : List Nat} : L2.wipe (L2.wipe σ vs) vs = L2.wipe σ vs :=
  wipe_of_out (is := vs) ⟨wipe_length σ vs, fun j hj => wipe_out' hj⟩ fun _ h => h

/-! a list that grows -/
/-- what is owned at a is written anew; its parts come from what is at hand -/
theorem Ok.wrL {D : Addr} {ts : List T} {ws : List V} {us : List T} (o : Ok g e ρ ((ws, us) :: ([.ref D], [.lst ts]) :: τ) σ H Hs) : ∃ acc, H D = some (.lst acc) ∧ acc.length = ts.length ∧
    ∀ acc' ts', (∀ H' fu f, RepTs g Hs H' us ws fu → RepTs g Hs H' ts acc f → ∃ f', RepTs g Hs H' ts' acc' f' ∧ ∀ a, f'.count a ≤ fu.count a + f.count a) → Ok g e ρ (([.ref D], [.lst ts']) :: τ) σ (upd H D (.lst acc')) Hs := by
  obtain ⟨fs, ft, r1, r2, c, n⟩ := o.own
  obtain ⟨fu, f2, rfl, ru, f3, f4, rfl, rl, rx⟩ := r2
  have rl' := RepTs.one.mp rl
  clear rl
  simp only [RepT] at rl'
  obtain ⟨a, acc, f5, e1, hD, rfl, rl⟩ := rl'
  cases e1
  refine ⟨acc, hD, rl.length, fun acc' ts' mk => ?_⟩
  have hDm : D ∈ fs ∨ D ∈ fu ++ (D :: f5 ++ f4) := .inr (by simp)
  obtain ⟨n1, n2, n3⟩ := n D hDm
  have cD := c D
  simp only [List.count_append, List.count_cons_self, List.cons_append] at cD
  have nD : ∀ a, a ∈ fs ∨ a ∈ fu ∨ a ∈ f5 ∨ a ∈ f4 → upd H D (.lst acc') a = H a := fun a ha => upd_ne fun z => by
    subst z
    rcases ha with h | h | h | h <;> have := List.count_pos_iff.mpr h <;> omega
  obtain ⟨f', r', c'⟩ := mk (upd H D (.lst acc')) fu f5 (RepTs.keep (Same.refl _) (fun a ha => nD a (by simp [ha])) ru) (RepTs.keep (Same.refl _) (fun a ha => nD a (by simp [ha])) rl)
  refine ⟨fun a u z => ?_, o.sub0, o.new, fun a h1 h2 => ?_, fun a h => ?_, o.fix, fs, (D :: f') ++ f4, r1.keep (Same.refl _) fun a ha => nD a (by simp [ha]), ⟨D :: f', f4, rfl, RepTs.one.mpr ?_, rx.keep (Same.refl _) fun a ha => nD a (by simp [ha])⟩, fun a => ?_, fun a ha => ?_⟩
  · rw [upd_ne (fun y => by subst y; rw [n1] at z; cases z)]; exact o.sub a u z
  · rw [upd_ne (fun y => by subst y; exact (n3.elim (fun q => h2 q) fun q => h1 q))]; exact o.frame a h1 h2
  · by_cases z : a = D
    · subst z; rw [upd_same]; simp
    · rw [upd_ne z]; exact o.there a h
  · simp only [RepT]
    exact ⟨D, acc', f', rfl, upd_same, rfl, r'⟩
  · have h1 := c a
    have h2 := c' a
    simp only [List.count_append, List.count_cons, List.cons_append] at h1 ⊢
    omega
  · by_cases z : a = D
    · subst z; exact ⟨n1, by rw [upd_same]; simp, n3⟩
    · rw [upd_ne z]
      refine n a ?_
      rcases ha with ha | ha
      · exact .inl ha
      · refine .inr ?_
        simp only [List.mem_append, List.mem_cons, List.cons_append] at ha ⊢
        rcases ha with ha | ha | ha
        · exact absurd ha z
        · have h1 := List.count_pos_iff.mpr ha
          have h2 := c' a
          by_cases h3 : 0 < fu.count a
          · exact .inl (List.count_pos_iff.mp h3)
          · exact .inr (.inr (.inl (List.count_pos_iff.mp (by omega))))
        · exact .inr (.inr (.inr ha))
theorem Ok.app {D : Addr} {ts : List T} {y : V} {t : T} (o : Ok g e ρ (([y], [t]) :: ([.ref D], [.lst ts]) :: τ) σ H Hs) : ∃ acc, H D = some (.lst acc) ∧ acc.length = ts.length ∧ Ok g e ρ (([.ref D], [.lst (ts ++ [t])]) :: τ) σ (upd H D (.lst (acc ++ [y]))) Hs := by
  obtain ⟨acc, h1, h2, k⟩ := o.wrL
  exact ⟨acc, h1, h2, k _ _ fun H' fu f ru rl => ⟨f ++ fu, RepTs.append rl ru, fun a => by rw [List.count_append]; omega⟩⟩

/-- no slot need stay -/
def Fr0.np (e : Fr0) : Fr0 := ⟨e.H, e.S, e.F, []⟩
theorem Ok.np (o : Ok g e ρ τ σ H Hs) : Ok g e.np ρ τ σ H Hs := ⟨o.sub, o.sub0, o.new, o.frame, o.there, (fun _ h => nomatch h), o.own⟩
theorem Ok.ofNp (o : Ok g e.np ρ τ σ H Hs) (h : ∀ p ∈ e.P, σ[p.1]? = some (some p.2)) : Ok g e ρ τ σ H Hs := ⟨o.sub, o.sub0, o.new, o.frame, o.there, h, o.own⟩
theorem noP {i : List Nat} : ∀ p ∈ e.np.P, p.1 ∉ i := fun _ h => nomatch h
theorem npOk : PrOk e.np c := fun _ h => nomatch h
def lcF (st : T → Sl → Option Sl) (ft : Sl → Option (Rs Bool)) (fe : Sl → Option (Rs T)) (vs : List Nat) : List D → Sl → List T → Option (Rs (List T))
  | [], ρ, acc => some (.ok acc (wipeT ρ vs))
  | d :: ds, ρ, acc => match st (.fz d) ρ with
    | none => none
    | some ρ1 => match ft ρ1 with
      | some (.ok false ρ2) => lcF st ft fe vs ds (wipeT ρ2 vs) acc
      | some (.ok true ρ2) => match fe ρ2 with
        | some (.ok t ρ3) => if acc.length < sizeLine then lcF st ft fe vs ds (wipeT ρ3 vs) (acc ++ [t]) else none
        | _ => none
      | _ => none
/-- one target for all the blocks that may be entered -/
def allE (f : Shared → Hp → Addr → List (Str × Addr) → List Addr → TE) : TE := fun σ H Q => ∀ s H0 C cl fp, f s H0 C cl fp σ H Q
theorem pe_all {ctx : Shared → Hp → Addr → List (Str × Addr) → List Addr → Cx} {f : Shared → Hp → Addr → List (Str × Addr) → List Addr → TE} (h : ∀ s H0 C cl fp, PE (ctx s H0 C cl fp) ex (f s H0 C cl fp)) (s : Shared) (H0 : Hp) (C : Addr) (cl : List (Str × Addr)) (fp : List Addr) : PE (ctx s H0 C cl fp) ex (allE f) :=
  ⟨fun pins s1 σ H Q I q => (h s H0 C cl fp).run pins s1 σ H Q I (q s H0 C cl fp)⟩
def allG (f : Shared → Hp → Addr → List (Str × Addr) → List Addr → TG) : TG := fun v σ H Q => ∀ s H0 C cl fp, f s H0 C cl fp v σ H Q
theorem pg_all {ctx : Shared → Hp → Addr → List (Str × Addr) → List Addr → Cx} {f : Shared → Hp → Addr → List (Str × Addr) → List Addr → TG} (h : ∀ s H0 C cl fp, PG (ctx s H0 C cl fp) ex (f s H0 C cl fp)) (s : Shared) (H0 : Hp) (C : Addr) (cl : List (Str × Addr)) (fp : List Addr) : PG (ctx s H0 C cl fp) ex (allG f) :=
  ⟨fun pins s1 σ H v u Q I r q => (h s H0 C cl fp).run pins s1 σ H v u Q I r (q s H0 C cl fp)⟩
def allT (f : Shared → Hp → Addr → List (Str × Addr) → List Addr → TT) : TT := fun σ H Q => ∀ s H0 C cl fp, f s H0 C cl fp σ H Q
theorem pts_all {ctx : Shared → Hp → Addr → List (Str × Addr) → List Addr → Cx} {es : List Expr} {f : Shared → Hp → Addr → List (Str × Addr) → List Addr → TT} (h : ∀ s H0 C cl fp, PTs (ctx s H0 C cl fp) es (f s H0 C cl fp)) (s : Shared) (H0 : Hp) (C : Addr) (cl : List (Str × Addr)) (fp : List Addr) : PTs (ctx s H0 C cl fp) es (allT f) :=
  ⟨fun pins s1 σ H Q I q => (h s H0 C cl fp).run pins s1 σ H Q I (q s H0 C cl fp)⟩
def allI (f : Shared → Hp → Addr → List (Str × Addr) → List Addr → TI) : TI := fun σ H Q => ∀ s H0 C cl fp, f s H0 C cl fp σ H Q
theorem pi_all {ctx : Shared → Hp → Addr → List (Str × Addr) → List Addr → Cx} {f : Shared → Hp → Addr → List (Str × Addr) → List Addr → TI} (h : ∀ s H0 C cl fp, PI (ctx s H0 C cl fp) tg ex (f s H0 C cl fp)) (s : Shared) (H0 : Hp) (C : Addr) (cl : List (Str × Addr)) (fp : List Addr) : PI (ctx s H0 C cl fp) tg ex (allI f) :=
  ⟨fun pins s1 σ H R I q => (h s H0 C cl fp).run pins s1 σ H R I (q s H0 C cl fp)⟩
/-- the tests of a clause: none or one -/
def TsJ (X : Cx) (g : Gx) (W : WX) (f : Sl → Option (Rs Bool)) (es : List Expr) : Prop :=
  ∃ tt, PTs X es tt ∧ ∀ e ρ τ σ H Hs (Q : Bool → Hp → Prop), Ok g e ρ τ σ H Hs → PostB g W e τ σ (f ρ) Q → tt σ H Q
theorem tsj_nil : TsJ X g W (fun ρ => some (.ok true ρ)) [] := ⟨_, pts_nil, fun e ρ τ σ H Hs Q o q => q H Hs o⟩
theorem tsj_one {f : Sl → Option (Rs Bool)} (h : BJ X g W f ex) : TsJ X g W f [ex] := let ⟨_, p, r⟩ := h; ⟨_, pts_one p, r⟩
/-- in every block that may be entered -/
def InBlk (X : Cx) (scope : Scope) (P : Cx → Prop) : Prop := ∀ (s : Shared) (H : Hp) (C : Addr) (cl : List (Str × Addr)) (fp : List Addr), P (X.blk s H scope (compEnvC scope cl C X.env) fp)
theorem Cp.inBlk (k : Cp X g c) (ok : BlkOk X.N X.env.scope scope own) {P : Cx → Prop} (h : ∀ Y, Cp Y g (c.inB scope) → (∀ u s', Y.xe u s' ↔ False) → P Y) : InBlk X scope P := fun s H C cl fp => h _ (k.blk ok s H C cl fp) fun _ _ => Iff.rfl
theorem lc_walk {G : Tg} {gt : TG} {tt : TT} {te : TE} {ft : Sl → Option (Rs Bool)} {fe : Sl → Option (Rs T)} {c' : Cxt} {vs : List Nat} {D : Addr} {ks : Ks}
    (hv : ∀ i ∈ G.sl, i ∈ vs) (hvp : ∀ p ∈ e.P, p.1 ∉ vs) (hp : PrOk e c')
    (rg : ∀ e ρ τ σ H Hs v t (Q : L2.St → Hp → Prop), PrOk e c' → Ok g e ρ (([v], [t]) :: τ) σ H Hs → (∃ ρ', stT G t ρ = some ρ' ∧ ∀ σ', SlOut G.sl σ σ' → Ok g e ρ' τ σ' H Hs → Q σ' H) → gt v σ H Q)
    (rt : ∀ e ρ τ σ H Hs (Q : Bool → Hp → Prop), Ok g e ρ τ σ H Hs → PostB g W0 e τ σ (ft ρ) Q → tt σ H Q)
    (re : ∀ e ρ τ σ H Hs (Q : VK), Ok g e ρ τ σ H Hs → Post g W0 e τ σ one (fe ρ) Q → te σ H Q)
    {d : DL.D} {ρ : Sl} {ts : List T} {rest : List DL.D} {r : Rs (List T)} {H : Hp} {Hs : Hp} {x : V} {N : Hp → Prop}
    (o : Ok g e ρ (([x], [.fz d]) :: ([.ref D], [.lst ts]) :: kG ks :: τ) (L2.wipe σ vs) H Hs)
    (q : lcF (stT G) ft fe vs (d :: rest) ρ ts = some r)
    (hN : ∀ ρ' ts' H' Hs', Ok g e ρ' (([.ref D], [.lst ts']) :: kG ks :: τ) (L2.wipe σ vs) H' Hs' → lcF (stT G) ft fe vs rest ρ' ts' = some r → N H') :
    gt x (L2.wipe σ vs) H fun σ2 H2 => L2.wipe σ2 vs = L2.wipe σ vs ∧ tt σ2 H2 fun b H3 =>
      if b = true then te σ2 H3 fun y H4 => ∃ acc, H4 D = some (.lst acc) ∧ acc.length < sizeLine ∧ N (upd H4 D (.lst (acc ++ [y]))) else N H3 := by
  simp only [lcF] at q
  cases hst : stT G (.fz d) ρ with
  | none => rw [hst] at q; cases q
  | some ρ1 =>
    rw [hst] at q
    simp only at q
    refine rg e ρ _ _ H Hs x (.fz d) _ hp o ⟨ρ1, hst, fun σ2 so o2 => ?_⟩
    have ew : L2.wipe σ2 vs = L2.wipe σ vs := by
      rw [wipe_of_out so hv, wipe_idem]
    have ew2 : L2.wipe σ2 vs = L2.wipe (L2.wipe σ vs) vs := by rw [ew, wipe_idem]
    refine ⟨ew, rt e ρ1 _ σ2 H Hs _ o2 ?_⟩
    cases ht : ft ρ1 with
    | none => rw [ht] at q; cases q
    | some r1 =>
      rw [ht] at q
      cases r1 with
      | ex c t ρ2 => cases q
      | ok b ρ2 =>
        intro H3 Hs3 o3
        cases b with
        | false => exact iteF (hN _ _ H3 Hs3 (o3.unwipe ew2 hvp) q)
        | true =>
          refine iteT (re e ρ2 _ σ2 H3 Hs3 _ o3 ?_)
          simp only at q
          cases he : fe ρ2 with
          | none => rw [he] at q; cases q
          | some r2 =>
            rw [he] at q
            cases r2 with
            | ex c t ρ3 => cases q
            | ok t ρ3 =>
              intro y H4 Hs4 o4
              simp only at q
              split at q
              · rename_i hz
                obtain ⟨acc, h1, h2, o5⟩ := o4.app
                exact ⟨acc, h1, by rw [h2]; exact hz, hN _ _ _ _ (o5.unwipe ew2 hvp) q⟩
              · cases q
theorem lc_read {wi : TI} {G : Tg} {gt : TG} {tt : TT} {te : TE} {ft : Sl → Option (Rs Bool)} {fe : Sl → Option (Rs T)} {fi : Sl → Option (Rs (List D))} {c' : Cxt} {own : List (Str × Nat)}
    (hv : ∀ i ∈ G.sl, i ∈ own.map (·.2))
    (ri : ∀ e ρ τ σ H Hs (R : It → Hp → Prop), Ok g e ρ τ σ H Hs → PostI g W e τ σ (fi ρ) R → wi σ H R)
    (rg : ∀ e ρ τ σ H Hs v t (Q : L2.St → Hp → Prop), PrOk e c' → Ok g e ρ (([v], [t]) :: τ) σ H Hs → (∃ ρ', stT G t ρ = some ρ' ∧ ∀ σ', SlOut G.sl σ σ' → Ok g e ρ' τ σ' H Hs → Q σ' H) → gt v σ H Q)
    (rt : ∀ e ρ τ σ H Hs (Q : Bool → Hp → Prop), Ok g e ρ τ σ H Hs → PostB g W0 e τ σ (ft ρ) Q → tt σ H Q)
    (re : ∀ e ρ τ σ H Hs (Q : VK), Ok g e ρ τ σ H Hs → Post g W0 e τ σ one (fe ρ) Q → te σ H Q)
    {e : Fr0} {ρ : Sl} {τ : Tm} {σ : L2.St} {H Hs : Hp} {Q : VK} (o : Ok g e ρ τ σ H Hs)
    (q : Post g W e τ σ one (bindR (fi ρ) fun ds ρ1 => bindR (lcF (stT G) ft fe (own.map (·.2)) ds (DL.wipeT ρ1 (own.map (·.2))) []) fun ts ρ2 => some (.ok (.lst ts) ρ2)) Q) : tLc wi gt tt te (own.map (·.2)) σ H Q := by
  refine ri e ρ τ σ H Hs _ o ?_
  cases h : fi ρ with
  | none => rw [h] at q; exact q
  | some r =>
    rw [h] at q
    cases r with
    | ex c t ρ' => exact q
    | ok ds ρ1 =>
      intro J ks H1 S1 o1 gv D hD
      simp only [bindR] at q
      cases hr : lcF (stT G) ft fe (own.map (·.2)) ds (DL.wipeT ρ1 (own.map (·.2))) [] with
      | none => rw [hr] at q; exact q.elim
      | some rr =>
        rw [hr] at q
        have o1' := (o1.nilG.newList hD).np.wipe (own.map (·.2)) noP
        refine ⟨fun i m H => ∃ ρ ts Hs, i + m = ds.length ∧ Ok g e.np ρ (([.ref D], [.lst ts]) :: kG ks :: τ) (L2.wipe σ (own.map (·.2))) H Hs ∧ lcF (stT G) ft fe (own.map (·.2)) (ds.drop i) ρ ts = some rr, ⟨ds.length, _, [], S1, by omega, o1', hr⟩, ?_⟩
        rintro i m H ⟨ρ2, ts, Hs2, him, o2, q2⟩
        obtain ⟨g1, g2⟩ := gv i H Hs2 (o2.swap.kept) o2.sub
        cases hd : ds[i]? with
        | none =>
          have hi : i = ds.length := by
            have := List.getElem?_eq_none_iff.mp hd
            omega
          rw [hi, List.drop_length] at q2
          simp only [lcF] at q2
          cases q2
          refine .inl ⟨g2 hi, ?_⟩
          refine q _ H Hs2 ?_
          exact (o2.swap.drop.unwipe wipe_idem noP).ofNp o.fix
        | some d =>
          have hi : i < ds.length := (List.getElem?_eq_some_iff.mp hd).1
          obtain ⟨g3, g4⟩ := g1 d hd
          rw [List.drop_eq_getElem_cons hi] at q2
          have hd' : ds[i] = d := (List.getElem?_eq_some_iff.mp hd).2
          rw [hd'] at q2
          refine .inr ⟨g3, fun H' => ∃ ρ ts Hs, Ok g e.np ρ (([.ref D], [.lst ts]) :: kG ks :: τ) (L2.wipe σ (own.map (·.2))) H' Hs ∧ lcF (stT G) ft fe (own.map (·.2)) (ds.drop (i + 1)) ρ ts = some rr, fun H' ⟨ρ', ts', Hs', o', q'⟩ => ⟨m - 1, by omega, ρ', ts', Hs', by omega, o', q'⟩, fun x H' hy => ?_⟩
          obtain ⟨Hs', k1, k2, k3, k4, rx⟩ := g4 x H' hy
          exact lc_walk hv noP npOk rg rt re ((o2.step k1 k2 k3 k4).push rx) q2 fun ρ' ts' H' Hs' o' q' => ⟨ρ', ts', Hs', o', q'⟩
/-- [elt for tg in iter if ..] -/
theorem lc_body {G : Tg} {ft : Sl → Option (Rs Bool)} {fe : Sl → Option (Rs T)} {fi : Sl → Option (Rs (List D))} {own : List (Str × Nat)} {ifs : List Expr} (k : Cp X g c) (ok : blkC X.N X.env.scope scope own = true) (hv : (G.sl.all fun i => (own.map (·.2)).contains i) = true)
    (hi : IJ X g W tg fi iter) (hg : InBlk X scope fun Y => GJ Y g (c.inB scope) G tg) (ht : InBlk X scope fun Y => TsJ Y g W0 ft ifs) (he : InBlk X scope fun Y => CJ Y g W0 fe elt) :
    ∃ wi gt tt te, PI X tg iter wi ∧ (∀ s H C cl fp, PG (X.blk s H scope (compEnvC scope cl C X.env) fp) tg gt) ∧ (∀ s H C cl fp, PTs (X.blk s H scope (compEnvC scope cl C X.env) fp) ifs tt) ∧ (∀ s H C cl fp, PE (X.blk s H scope (compEnvC scope cl C X.env) fp) elt te) ∧
      ∀ e ρ τ σ H Hs (Q : VK), Ok g e ρ τ σ H Hs → Post g W e τ σ one (bindR (fi ρ) fun ds ρ1 => bindR (lcF (stT G) ft fe (own.map (·.2)) ds (wipeT ρ1 (own.map (·.2))) []) fun ts ρ2 => some (.ok (.lst ts) ρ2)) Q → tLc wi gt tt te (own.map (·.2)) σ H Q := by
  obtain ⟨wi, pi, ri⟩ := hi
  refine ⟨wi, allG fun s H C cl fp => (hg s H C cl fp).choose, allT fun s H C cl fp => (ht s H C cl fp).choose, allE fun s H C cl fp => (he s H C cl fp).choose, pi,
    pg_all fun s H C cl fp => (hg s H C cl fp).choose_spec.1, pts_all fun s H C cl fp => (ht s H C cl fp).choose_spec.1, pe_all fun s H C cl fp => (he s H C cl fp).choose_spec.1, fun e ρ τ σ H Hs Q o q => ?_⟩
  refine lc_read (c' := c.inB scope) (fun i hi => ?_) ri (fun e ρ τ σ H Hs v t Q hp o q s H0 C cl fp => (hg s H0 C cl fp).choose_spec.2 e ρ τ σ H Hs v t Q hp o q) (fun e ρ τ σ H Hs Q o q s H0 C cl fp => (ht s H0 C cl fp).choose_spec.2 e ρ τ σ H Hs Q o q)
    (fun e ρ τ σ H Hs Q o q s H0 C cl fp => (he s H0 C cl fp).choose_spec.2 e ρ τ σ H Hs Q o q) o q
  have := (List.all_eq_true.mp hv) i hi
  exact List.contains_iff_mem.mp this
theorem cj_lc {G : Tg} {ft : Sl → Option (Rs Bool)} {fe : Sl → Option (Rs T)} {fi : Sl → Option (Rs (List D))} {own : List (Str × Nat)} {ifs : List Expr} (k : Cp X g c) (ok : blkC X.N X.env.scope scope own = true) (hv : (G.sl.all fun i => (own.map (·.2)).contains i) = true) (hs : ∀ x, foldedSetIterable iter X.env x = pure x)
    (hi : IJ X g W tg fi iter) (hg : InBlk X scope fun Y => GJ Y g (c.inB scope) G tg) (ht : InBlk X scope fun Y => TsJ Y g W0 ft ifs) (he : InBlk X scope fun Y => CJ Y g W0 fe elt) :
    CJ X g W (fun ρ => bindR (fi ρ) fun ds ρ1 => bindR (lcF (stT G) ft fe (own.map (·.2)) ds (wipeT ρ1 (own.map (·.2))) []) fun ts ρ2 => some (.ok (.lst ts) ρ2)) (.ListComp elt [⟨tg, iter, ifs, 0⟩] scope pos) := by
  obtain ⟨wi, gt, tt, te, h1, h2, h3, h4, h5⟩ := lc_body k ok hv hi hg ht he
  exact ⟨_, pe_lc k.calm k.nd h1 (blkOk_by ok) h2 h3 h4 hs, h5⟩
theorem sj_asgLc {G : Tg} {ft : Sl → Option (Rs Bool)} {fe : Sl → Option (Rs T)} {fi : Sl → Option (Rs (List D))} {own : List (Str × Nat)} {ifs : List Expr} {i : Nat} {x : Str} {py spos : Pos} (k : Cp X g c) (ok : blkC X.N X.env.scope scope own = true) (hv : (G.sl.all fun i => (own.map (·.2)).contains i) = true) (hs : ∀ x, foldedSetIterable iter X.env x = pure x)
    (h1 : c.N[i]? = some x) (h2 : c.look.lookup x = some .local) (h3 : c.prot.contains i = false) (hl : (py.line == pos.line) = true) (ha : (scope.names.any fun (n, k) => n == x && (k == .local || k == .cell)) = false)
    (hi : IJ X g W tg fi iter) (hg : InBlk X scope fun Y => GJ Y g (c.inB scope) G tg) (ht : InBlk X scope fun Y => TsJ Y g W0 ft ifs) (he : InBlk X scope fun Y => CJ Y g W0 fe elt) :
    SJ X g c W (fun ρ => bindE (bindR (fi ρ) fun ds ρ1 => bindR (lcF (stT G) ft fe (own.map (·.2)) ds (wipeT ρ1 (own.map (·.2))) []) fun ts ρ2 => some (.ok (.lst ts) ρ2)) fun t ρ1 => if i < ρ1.length then some (.nx (ρ1.set i (some t))) else none) (.Assign [.Name x py] (.ListComp elt [⟨tg, iter, ifs, 0⟩] scope pos) spos) := by
  obtain ⟨wi, gt, tt, te, p1, p2, p3, p4, p5⟩ := lc_body k ok hv hi hg ht he
  have hx : X.env.scope.names.lookup x = some .local := by rw [k.sc]; exact h2
  refine ⟨_, ps_setLc (i := i) k.calm k.nd (by rw [k.N]; exact h1) hx (sw_true k.kind hx hl ha) p1 (blkOk_by ok) p2 p3 p4 hs, fun e ρ τ σ H Hs D hp o q => ?_⟩
  refine p5 e ρ τ σ H Hs _ o (PostS.bindE q fun x ρ1 _ v H1 Hs1 o1 q1 => ?_)
  split at q1
  · rename_i hi
    exact q1 _ H1 Hs1 (o1.store hi (hp.ne h3))
  · exact q1.elim
end
end DL
namespace DL
open PySem PySem.Spec L2

/-! ### parts of a tree, written in their place -/
def subT : List Nat → T → Option T
  | [], t => some t
  | j :: p, .lst ts => (ts[j]?).bind (subT p)
  | j :: p, .tup ts => (ts[j]?).bind (subT p)
  | j :: p, .dic _ ts => (ts[j]?).bind (subT p)
  | j :: p, .obj _ _ ts => (ts[j]?).bind (subT p)
  | _ :: _, .fz _ => none
def putT : List Nat → T → T → T
  | [], _, s => s
  | j :: p, .lst ts, s => .lst (match ts[j]? with | some u => ts.set j (putT p u s) | none => ts)
  | j :: p, .tup ts, s => .tup (match ts[j]? with | some u => ts.set j (putT p u s) | none => ts)
  | j :: p, .dic ks ts, s => .dic ks (match ts[j]? with | some u => ts.set j (putT p u s) | none => ts)
  | j :: p, .obj c ns ts, s => .obj c ns (match ts[j]? with | some u => ts.set j (putT p u s) | none => ts)
  | _ :: _, .fz d, _ => .fz d
/-- the way from a value to a part of it -/
def Chain (g : Gx) (H : Hp) : List Nat → T → V → V → Prop
  | [], _, v, w => w = v
  | j :: p, .lst ts, v, w => ∃ a vs u t', v = .ref a ∧ H a = some (.lst vs) ∧ vs.length = ts.length ∧ vs[j]? = some u ∧ ts[j]? = some t' ∧ Chain g H p t' u w
  | j :: p, .tup ts, v, w => ∃ a vs u t', v = .ref a ∧ H a = some (.tup vs) ∧ vs.length = ts.length ∧ vs[j]? = some u ∧ ts[j]? = some t' ∧ Chain g H p t' u w
  | j :: p, .dic ks ts, v, w => ∃ a vs u t', v = .ref a ∧ H a = some (.dK (ks.zip vs)) ∧ ks.length = vs.length ∧ vs.length = ts.length ∧ vs[j]? = some u ∧ ts[j]? = some t' ∧ Chain g H p t' u w
  | j :: p, .obj c ns ts, v, w => ∃ a dx vs u t', v = .ref a ∧ H a = some (.ins (g.cls c) dx (ns.zip vs)) ∧ ns.length = vs.length ∧ vs.length = ts.length ∧ vs[j]? = some u ∧ ts[j]? = some t' ∧ Chain g H p t' u w
  | _ :: _, .fz _, _, _ => False
section
variable {X : Cx} {g : Gx} {c : Cxt} {W : WX} {e : Fr0} {ρ ρ' : Sl} {τ : Tm} {σ σ' : L2.St} {H H' Hs Hs' : Hp}
theorem RepTs.sub : ∀ {j : Nat} {ts : List T} {u : T} {vs : List V} {fp : List Addr}, ts[j]? = some u → RepTs g Hs H ts vs fp → ∃ (w : V) (fs fr : List Addr), vs[j]? = some w ∧ RepT g Hs H u w fs ∧ (∀ a, fp.count a = fs.count a + fr.count a) ∧
    ∀ H' u' fs', (∀ a ∈ fr, H' a = H a) → RepT g Hs H' u' w fs' → ∃ fp', RepTs g Hs H' (ts.set j u') vs fp' ∧ ∀ a, fp'.count a = fs'.count a + fr.count a
  | j, [], u, _, _, h, _ => by simp at h
  | 0, t :: ts, u, vs, fp, h, r => by
    simp at h
    subst h
    simp only [RepTs] at r
    obtain ⟨v, vs', f, f', rfl, rfl, q, r⟩ := r
    refine ⟨v, f, f', by simp, q, fun a => by rw [List.count_append], fun H' u' fs' k q' => ⟨fs' ++ f', ?_, fun a => by rw [List.count_append]⟩⟩
    simp only [List.set_cons_zero, RepTs]
    exact ⟨v, vs', fs', f', rfl, rfl, q', RepTs.keep (Same.refl _) k r⟩
  | j + 1, t :: ts, u, vs, fp, h, r => by
    simp only [RepTs] at r
    obtain ⟨v, vs', f, f', rfl, rfl, q, r⟩ := r
    obtain ⟨w, fs, fr, h1, h2, h3, h4⟩ := RepTs.sub (j := j) (by simpa using h) r
    refine ⟨w, fs, f ++ fr, by simpa using h1, h2, fun a => by rw [List.count_append, List.count_append, h3 a]; omega, fun H' u' fs' k q' => ?_⟩
    obtain ⟨fp', r', c'⟩ := h4 H' u' fs' (fun a ha => k a (by simp [ha])) q'
    refine ⟨f ++ fp', ?_, fun a => by rw [List.count_append, List.count_append, c' a]; omega⟩
    simp only [List.set_cons_succ, RepTs]
    exact ⟨v, vs', f, fp', rfl, rfl, q.keep (Same.refl _) fun a ha => k a (by simp [ha]), r'⟩
theorem RepT.sub (sm : Same Hs H) : ∀ {p : List Nat} {t s : T} {v : V} {fp : List Addr}, subT p t = some s → RepT g Hs H t v fp → ∃ (w : V) (fs fr : List Addr), Chain g H p t v w ∧ RepT g Hs H s w fs ∧ (∀ a, fp.count a = fs.count a + fr.count a) ∧
    ∀ H' s' fs', (∀ a ∈ fr, H' a = H a) → RepT g Hs H' s' w fs' → ∃ fp', RepT g Hs H' (putT p t s') v fp' ∧ ∀ a, fp'.count a = fs'.count a + fr.count a
  | [], t, s, v, fp, h, r => by
    simp only [subT] at h
    cases h
    exact ⟨v, fp, [], rfl, r, fun a => by simp, fun H' s' fs' _ q => ⟨fs', by simpa only [putT] using q, fun a => by simp⟩⟩
  | j :: p, .fz d, s, v, fp, h, r => by simp [subT] at h
  | j :: p, .lst ts, s, v, fp, h, r => by
    simp only [subT, Option.bind_eq_some_iff] at h
    obtain ⟨u, hu, h⟩ := h
    simp only [RepT] at r
    obtain ⟨a, vs, f, rfl, ha, rfl, r⟩ := r
    obtain ⟨w, fs, fr, h1, h2, h3, h4⟩ := RepTs.sub hu r
    obtain ⟨w2, fs2, fr2, c1, c2, c3, c4⟩ := RepT.sub sm h h2
    refine ⟨w2, fs2, a :: (fr2 ++ fr), by simp only [Chain]; exact ⟨a, vs, w, u, rfl, ha, r.length, h1, hu, c1⟩, c2, fun b => by rw [List.count_cons, List.count_cons, List.count_append, h3 b, c3 b]; omega, fun H' s' fs' k q => ?_⟩
    obtain ⟨fp1, q1, k1⟩ := c4 H' s' fs' (fun b hb => k b (by simp [hb])) q
    obtain ⟨fp2, q2, k2⟩ := h4 H' _ fp1 (fun b hb => k b (by simp [hb])) q1
    refine ⟨a :: fp2, ?_, fun b => by rw [List.count_cons, List.count_cons, List.count_append, k2 b, k1 b]; omega⟩
    simp only [putT, hu, RepT]
    exact ⟨a, vs, fp2, rfl, by rw [k a (by simp)]; exact ha, rfl, q2⟩
  | j :: p, .tup ts, s, v, fp, h, r => by
    simp only [subT, Option.bind_eq_some_iff] at h
    obtain ⟨u, hu, h⟩ := h
    simp only [RepT] at r
    obtain ⟨a, vs, rfl, ha, r⟩ := r
    obtain ⟨w, fs, fr, h1, h2, h3, h4⟩ := RepTs.sub hu r
    obtain ⟨w2, fs2, fr2, c1, c2, c3, c4⟩ := RepT.sub sm h h2
    refine ⟨w2, fs2, fr2 ++ fr, by simp only [Chain]; exact ⟨a, vs, w, u, rfl, sm _ _ ha, r.length, h1, hu, c1⟩, c2, fun b => by rw [List.count_append, h3 b, c3 b]; omega, fun H' s' fs' k q => ?_⟩
    obtain ⟨fp1, q1, k1⟩ := c4 H' s' fs' (fun b hb => k b (by simp [hb])) q
    obtain ⟨fp2, q2, k2⟩ := h4 H' _ fp1 (fun b hb => k b (by simp [hb])) q1
    refine ⟨fp2, ?_, fun b => by rw [List.count_append, k2 b, k1 b]; omega⟩
    simp only [putT, hu, RepT]
    exact ⟨a, vs, rfl, ha, q2⟩
  | j :: p, .dic ks ts, s, v, fp, h, r => by
    simp only [subT, Option.bind_eq_some_iff] at h
    obtain ⟨u, hu, h⟩ := h
    simp only [RepT] at r
    obtain ⟨a, vs, f, rfl, ha, l, rfl, r⟩ := r
    obtain ⟨w, fs, fr, h1, h2, h3, h4⟩ := RepTs.sub hu r
    obtain ⟨w2, fs2, fr2, c1, c2, c3, c4⟩ := RepT.sub sm h h2
    refine ⟨w2, fs2, a :: (fr2 ++ fr), by simp only [Chain]; exact ⟨a, vs, w, u, rfl, ha, l, r.length, h1, hu, c1⟩, c2, fun b => by rw [List.count_cons, List.count_cons, List.count_append, h3 b, c3 b]; omega, fun H' s' fs' k q => ?_⟩
    obtain ⟨fp1, q1, k1⟩ := c4 H' s' fs' (fun b hb => k b (by simp [hb])) q
    obtain ⟨fp2, q2, k2⟩ := h4 H' _ fp1 (fun b hb => k b (by simp [hb])) q1
    refine ⟨a :: fp2, ?_, fun b => by rw [List.count_cons, List.count_cons, List.count_append, k2 b, k1 b]; omega⟩
    simp only [putT, hu, RepT]
    exact ⟨a, vs, fp2, rfl, by rw [k a (by simp)]; exact ha, l, rfl, q2⟩
  | j :: p, .obj c ns ts, s, v, fp, h, r => by
    simp only [subT, Option.bind_eq_some_iff] at h
    obtain ⟨u, hu, h⟩ := h
    simp only [RepT] at r
    obtain ⟨a, dx, vs, f, rfl, ha, hd, l, rfl, r⟩ := r
    obtain ⟨w, fs, fr, h1, h2, h3, h4⟩ := RepTs.sub hu r
    obtain ⟨w2, fs2, fr2, c1, c2, c3, c4⟩ := RepT.sub sm h h2
    refine ⟨w2, fs2, a :: dx :: (fr2 ++ fr), by simp only [Chain]; exact ⟨a, dx, vs, w, u, rfl, ha, l, r.length, h1, hu, c1⟩, c2, fun b => by simp only [List.count_cons, List.count_append, h3 b, c3 b]; omega, fun H' s' fs' k q => ?_⟩
    obtain ⟨fp1, q1, k1⟩ := c4 H' s' fs' (fun b hb => k b (by simp [hb])) q
    obtain ⟨fp2, q2, k2⟩ := h4 H' _ fp1 (fun b hb => k b (by simp [hb])) q1
    refine ⟨a :: dx :: fp2, ?_, fun b => by simp only [List.count_cons, List.count_append, k2 b, k1 b]; omega⟩
    simp only [putT, hu, RepT]
    exact ⟨a, dx, vs, fp2, rfl, by rw [k a (by simp)]; exact ha, by rw [k dx (by simp)]; exact hd, l, rfl, q2⟩
/-- a list or a dict, its parts and what stands at its place -/
inductive Nod : T → HO → List T → List V → Prop where
  | lst {ts acc} : Nod (.lst ts) (.lst acc) ts acc
  | dic {ks ts acc} : ks.length = acc.length → Nod (.dic ks ts) (.dK (ks.zip acc)) ts acc
theorem Nod.rep {s : T} {ho : HO} {ts : List T} {acc : List V} {D : Addr} {f : List Addr} (n : Nod s ho ts acc) (h : H D = some ho) (r : RepTs g Hs H ts acc f) : RepT g Hs H s (.ref D) (D :: f) := by
  cases n with
  | lst => simp only [RepT]; exact ⟨D, acc, f, rfl, h, rfl, r⟩
  | dic l => simp only [RepT]; exact ⟨D, acc, f, rfl, h, l, rfl, r⟩
theorem Nod.of {s : T} {w : V} {fs : List Addr} (r : RepT g Hs H s w fs) (h : (∃ ts, s = .lst ts) ∨ ∃ ks ts, s = .dic ks ts) : ∃ D ho ts acc f, w = .ref D ∧ fs = D :: f ∧ H D = some ho ∧ Nod s ho ts acc ∧ RepTs g Hs H ts acc f := by
  rcases h with ⟨ts, rfl⟩ | ⟨ks, ts, rfl⟩
  · simp only [RepT] at r
    obtain ⟨D, vs, f, rfl, hD, rfl, r⟩ := r
    exact ⟨D, _, ts, vs, f, rfl, rfl, hD, .lst, r⟩
  · simp only [RepT] at r
    obtain ⟨D, vs, f, rfl, hD, l, rfl, r⟩ := r
    exact ⟨D, _, ts, vs, f, rfl, rfl, hD, .dic l, r⟩
/-- what is owned is written anew, in its place; its parts, and what comes out, come from what is at hand -/
theorem Ok.wrP {v : V} {t s : T} {p : List Nat} {ws : List V} {us : List T} (o : Ok g e ρ ((ws, us) :: ([v], [t]) :: τ) σ H Hs) (hs : subT p t = some s) (hn : (∃ ts, s = .lst ts) ∨ ∃ ks ts, s = .dic ks ts) :
    ∃ D ho ts acc, Chain g H p t v (.ref D) ∧ H D = some ho ∧ Nod s ho ts acc ∧ acc.length = ts.length ∧ ws.length = us.length ∧ ∀ s' ho' ts' acc' rvs rts, Nod s' ho' ts' acc' →
      (∀ (H' : Hp) (fu f : List Addr), (∀ a ∈ fu, H' a = H a) → RepTs g Hs H' us ws fu → RepTs g Hs H' ts acc f → ∃ f' fr : List Addr, RepTs g Hs H' ts' acc' f' ∧ RepTs g Hs H' rts rvs fr ∧ ∀ a, f'.count a + fr.count a ≤ fu.count a + f.count a) →
      Ok g e ρ ((rvs, rts) :: ([v], [putT p t s']) :: τ) σ (upd H D ho') Hs := by
  obtain ⟨fs, ft, r1, r2, c, n⟩ := o.own
  obtain ⟨fu, f2, rfl, ru, f3, f4, rfl, rl, rx⟩ := r2
  have rl' := RepTs.one.mp rl
  clear rl
  obtain ⟨w, fs2, fr2, ch, rs, cs, plug⟩ := rl'.sub o.sub hs
  obtain ⟨D, ho, ts, acc, f5, rfl, rfl, hD, nd, rl⟩ := Nod.of rs hn
  refine ⟨D, ho, ts, acc, ch, hD, nd, rl.length, ru.length, fun s' ho' ts' acc' rvs rts nd' mk => ?_⟩
  have cD := c D
  have cs' := cs D
  simp only [List.count_append, List.count_cons_self] at cD cs'
  have hDm : D ∈ fs ∨ D ∈ fu ++ (f3 ++ f4) := .inr (by
    have : D ∈ f3 := List.count_pos_iff.mp (by omega)
    simp [this])
  obtain ⟨n1, n2, n3⟩ := n D hDm
  have nD : ∀ a, a ∈ fs ∨ a ∈ fu ∨ a ∈ f5 ∨ a ∈ fr2 ∨ a ∈ f4 → upd H D ho' a = H a := fun a ha => upd_ne fun z => by
    subst z
    rcases ha with h | h | h | h | h <;> have := List.count_pos_iff.mpr h <;> omega
  obtain ⟨f', fr, r', rr, c'⟩ := mk (upd H D ho') fu f5 (fun a ha => nD a (by simp [ha])) (RepTs.keep (Same.refl _) (fun a ha => nD a (by simp [ha])) ru) (RepTs.keep (Same.refl _) (fun a ha => nD a (by simp [ha])) rl)
  obtain ⟨fp', rp, cp⟩ := plug (upd H D ho') s' (D :: f') (fun a ha => nD a (by simp [ha])) (nd'.rep upd_same r')
  refine ⟨fun a u z => ?_, o.sub0, o.new, fun a h1 h2 => ?_, fun a h => ?_, o.fix, fs, fr ++ (fp' ++ f4), r1.keep (Same.refl _) fun a ha => nD a (by simp [ha]), ⟨fr, _, rfl, rr, fp', f4, rfl, RepTs.one.mpr rp, rx.keep (Same.refl _) fun a ha => nD a (by simp [ha])⟩, fun a => ?_, fun a ha => ?_⟩
  · rw [upd_ne (fun y => by subst y; rw [n1] at z; cases z)]; exact o.sub a u z
  · rw [upd_ne (fun y => by subst y; exact (n3.elim (fun q => h2 q) fun q => h1 q))]; exact o.frame a h1 h2
  · by_cases z : a = D
    · subst z; rw [upd_same]; simp
    · rw [upd_ne z]; exact o.there a h
  · have h1 := c a
    have h2 := c' a
    have h3 := cp a
    have h4 := cs a
    simp only [List.count_append, List.count_cons] at h1 h3 h4 ⊢
    omega
  · by_cases z : a = D
    · subst z; exact ⟨n1, by rw [upd_same]; simp, n3⟩
    · rw [upd_ne z]
      refine n a ?_
      rcases ha with ha | ha
      · exact .inl ha
      · refine .inr (List.count_pos_iff.mp ?_)
        have h0 := List.count_pos_iff.mpr ha
        have h2 := c' a
        have h3 := cp a
        have h4 := cs a
        have hz : (D == a) = false := by simpa using fun y => z y.symm
        simp only [List.count_append, List.count_cons, hz] at h0 h3 h4 ⊢
        simp only [Bool.false_eq_true, if_false, Nat.add_zero] at h0 h3 h4 ⊢
        omega

/-! ### methods that change a list -/
inductive Mm where
  | append | extend | reverse | clear | pop | insert
  deriving DecidableEq
def Mm.nm : Mm → Str
  | .append => "append" | .extend => "extend" | .reverse => "reverse" | .clear => "clear" | .pop => "pop" | .insert => "insert"
/-- what becomes of the list, what is handed back -/
def mmT : Mm → T → List T → Option (T × T)
  | .append, .lst ts, [u] => if ts.length < sizeLine then some (.lst (ts ++ [u]), .fz .non) else none
  | .extend, .lst ts, [.lst us] => if ts.length + us.length ≤ sizeLine then some (.lst (ts ++ us), .fz .non) else none
  | .reverse, .lst ts, [] => some (.lst ts.reverse, .fz .non)
  | .clear, .lst ts, [] => some (.lst [], .fz .non)
  | .pop, .lst ts, [] => match ts[ts.length - 1]? with
    | some u => some (.lst ts.dropLast, u)
    | none => none
  | .insert, .lst ts, [.fz (.int i), u] => if ts.length < sizeLine ∧ 0 ≤ i ∧ i < 2 ^ 63 then some (.lst (ts.take i.toNat ++ u :: ts.drop i.toNat), .fz .non) else none
  | _, _, _ => none
theorem RepTs.rev : ∀ {ts : List T} {vs : List V} {f : List Addr}, RepTs g Hs H ts vs f → ∃ f', RepTs g Hs H ts.reverse vs.reverse f' ∧ ∀ a, f'.count a = f.count a
  | [], vs, f, r => by
    simp only [RepTs] at r
    obtain ⟨rfl, rfl⟩ := r
    exact ⟨[], by simp only [List.reverse_nil, RepTs]; exact ⟨trivial, trivial⟩, fun _ => rfl⟩
  | t :: ts, vs, f, r => by
    simp only [RepTs] at r
    obtain ⟨v, vs', f1, f2, rfl, rfl, q, r⟩ := r
    obtain ⟨f3, r3, c3⟩ := RepTs.rev r
    refine ⟨f3 ++ f1, ?_, fun a => by rw [List.count_append, List.count_append, c3 a]; omega⟩
    simp only [List.reverse_cons]
    exact RepTs.append r3 (RepTs.one.mpr q)
theorem RepTs.split : ∀ (n : Nat) {ts : List T} {vs : List V} {f : List Addr}, RepTs g Hs H ts vs f → ∃ f1 f2, RepTs g Hs H (ts.take n) (vs.take n) f1 ∧ RepTs g Hs H (ts.drop n) (vs.drop n) f2 ∧ f = f1 ++ f2
  | 0, ts, vs, f, r => ⟨[], f, by simp only [List.take_zero, RepTs]; exact ⟨trivial, trivial⟩, by simpa using r, rfl⟩
  | n + 1, [], vs, f, r => by
    simp only [RepTs] at r
    obtain ⟨rfl, rfl⟩ := r
    exact ⟨[], [], by simp only [List.take_nil, RepTs]; exact ⟨trivial, trivial⟩, by simp only [List.drop_nil, RepTs]; exact ⟨trivial, trivial⟩, rfl⟩
  | n + 1, t :: ts, vs, f, r => by
    simp only [RepTs] at r
    obtain ⟨v, vs', f1, f2, rfl, rfl, q, r⟩ := r
    obtain ⟨f3, f4, r3, r4, rfl⟩ := RepTs.split n r
    refine ⟨f1 ++ f3, f4, ?_, by simpa using r4, by rw [List.append_assoc]⟩
    simp only [List.take_succ_cons, RepTs]
    exact ⟨v, _, f1, f3, rfl, rfl, q, r3⟩
/-- a rule of such a method -/
theorem mmR : ∀ m : Mm, ∃ id r, MtR X id r ∧ PlainAttrs "list" ∧ Slot "list" m.nm id ∧ typeOf (.builtin id) = pure (.type "method_descriptor") ∧
    ∀ {e ρ τ σ H Hs v t p s s' u ws us}, Ok g e ρ ((ws, us) :: ([v], [t]) :: τ) σ H Hs → subT p t = some s → mmT m s us = some (s', u) → ∃ w, Chain g H p t v w ∧ (∃ D xs, w = .ref D ∧ H D = some (.lst xs)) ∧
      ∀ Q : VK, (∀ v' H', Ok g e ρ (([v'], [u]) :: ([v], [putT p t s']) :: τ) σ H' Hs → Q v' H') → r w ws H Q := by
  intro m
  cases m
  case append =>
    refine ⟨_, _, mt_append, PySem.F.plainAttrs_list, PySem.F.slot_list_append, PySem.F.type_list_append, fun {e ρ τ σ H Hs v t p s s' u ws us} o hs hm => ?_⟩
    unfold mmT at hm
    split at hm <;> rename_i z <;> (try (cases z; done)) <;> (try (cases hm; done))
    rename_i ts u1
    split at hm <;> (try (cases hm; done))
    rename_i hz
    cases hm
    obtain ⟨D, ho, ts', acc, ch, hD, nd, hl, hw, k⟩ := o.wrP hs (.inl ⟨_, rfl⟩)
    cases nd
    match ws, hw with
    | [y], _ =>
      refine ⟨_, ch, ⟨D, acc, rfl, hD⟩, fun Q q => ⟨D, acc, y, rfl, rfl, hD, by rw [hl]; exact hz, q _ _ ?_⟩⟩
      exact k _ _ _ _ [.non] [.fz .non] .lst fun H' fu f kp ru rl => ⟨f ++ fu, [], RepTs.append rl ru, RepTs.one.mpr (RepT.fz (by simp only [Rep])), fun a => by rw [List.count_append]; simp; omega⟩
  case extend =>
    refine ⟨_, _, mt_extend, PySem.F.plainAttrs_list, PySem.F.slot_list_extend, PySem.F.type_list_extend, fun {e ρ τ σ H Hs v t p s s' u ws us} o hs hm => ?_⟩
    unfold mmT at hm
    split at hm <;> rename_i z <;> (try (cases z; done)) <;> (try (cases hm; done))
    rename_i ts us1
    split at hm <;> (try (cases hm; done))
    rename_i hz
    cases hm
    obtain ⟨D, ho, ts', acc, ch, hD, nd, hl, hw, k⟩ := o.wrP hs (.inl ⟨_, rfl⟩)
    cases nd
    match ws, hw with
    | [y], _ =>
      obtain ⟨f0, r0⟩ := o.top
      simp only [RepT] at r0
      obtain ⟨b, zs, f1, rfl, hb, _, r1⟩ := r0
      refine ⟨_, ch, ⟨D, acc, rfl, hD⟩, fun Q q => ⟨D, b, acc, zs, rfl, rfl, hD, hb, by rw [hl, r1.length]; exact hz, q _ _ ?_⟩⟩
      refine k _ _ _ _ [.non] [.fz .non] .lst fun H' fu f kp ru rl => ?_
      have ru' := RepTs.one.mp ru
      simp only [RepT] at ru'
      obtain ⟨b', zs', f2, e1, hb', rfl, r2⟩ := ru'
      cases e1
      rw [kp b (by simp), hb] at hb'
      cases hb'
      exact ⟨f ++ f2, [], RepTs.append rl r2, RepTs.one.mpr (RepT.fz (by simp only [Rep])), fun a => by rw [List.count_append, List.count_cons]; simp; omega⟩
  case reverse =>
    refine ⟨_, _, mt_reverse, PySem.F.plainAttrs_list, PySem.F.slot_list_reverse, PySem.F.type_list_reverse, fun {e ρ τ σ H Hs v t p s s' u ws us} o hs hm => ?_⟩
    unfold mmT at hm
    split at hm <;> rename_i z <;> (try (cases z; done)) <;> (try (cases hm; done))
    cases hm
    obtain ⟨D, ho, ts', acc, ch, hD, nd, hl, hw, k⟩ := o.wrP hs (.inl ⟨_, rfl⟩)
    cases nd
    match ws, hw with
    | [], _ =>
      refine ⟨_, ch, ⟨D, acc, rfl, hD⟩, fun Q q => ⟨D, acc, rfl, rfl, hD, q _ _ ?_⟩⟩
      refine k _ _ _ _ [.non] [.fz .non] .lst fun H' fu f kp ru rl => ?_
      obtain ⟨f', r', c'⟩ := rl.rev
      exact ⟨f', [], r', RepTs.one.mpr (RepT.fz (by simp only [Rep])), fun a => by rw [c' a]; simp⟩
  case clear =>
    refine ⟨_, _, mt_clear, PySem.F.plainAttrs_list, PySem.F.slot_list_clear, PySem.F.type_list_clear, fun {e ρ τ σ H Hs v t p s s' u ws us} o hs hm => ?_⟩
    unfold mmT at hm
    split at hm <;> rename_i z <;> (try (cases z; done)) <;> (try (cases hm; done))
    cases hm
    obtain ⟨D, ho, ts', acc, ch, hD, nd, hl, hw, k⟩ := o.wrP hs (.inl ⟨_, rfl⟩)
    cases nd
    match ws, hw with
    | [], _ =>
      refine ⟨_, ch, ⟨D, acc, rfl, hD⟩, fun Q q => ⟨D, acc, rfl, rfl, hD, q _ _ ?_⟩⟩
      exact k _ _ _ _ [.non] [.fz .non] .lst fun H' fu f kp ru rl => ⟨[], [], by simp only [RepTs]; exact ⟨trivial, trivial⟩, RepTs.one.mpr (RepT.fz (by simp only [Rep])), fun a => by simp⟩
  case pop =>
    refine ⟨_, _, mt_pop, PySem.F.plainAttrs_list, PySem.F.slot_list_pop, PySem.F.type_list_pop, fun {e ρ τ σ H Hs v t p s s' u ws us} o hs hm => ?_⟩
    unfold mmT at hm
    split at hm <;> rename_i z <;> (try (cases z; done)) <;> (try (cases hm; done))
    rename_i ts
    split at hm <;> (try (cases hm; done))
    rename_i u1 hu
    cases hm
    obtain ⟨D, ho, ts', acc, ch, hD, nd, hl, hw, k⟩ := o.wrP hs (.inl ⟨_, rfl⟩)
    cases nd
    match ws, hw with
    | [], _ =>
      have hpos : ts.length - 1 < ts.length := (List.getElem?_eq_some_iff.mp hu).1
      obtain ⟨y, hy⟩ : ∃ y, acc[acc.length - 1]? = some y := ⟨acc[acc.length - 1]'(by omega), List.getElem?_eq_getElem _⟩
      refine ⟨_, ch, ⟨D, acc, rfl, hD⟩, fun Q q => ⟨D, acc, y, rfl, rfl, hD, hy, q _ _ ?_⟩⟩
      refine k _ _ _ _ [y] [_] .lst fun H' fu f kp ru rl => ?_
      obtain ⟨f1, f2, r1, r2, rfl⟩ := RepTs.split (ts.length - 1) rl
      have e1 : ts.drop (ts.length - 1) = [u] := by
        rw [List.drop_eq_getElem_cons hpos, (List.getElem?_eq_some_iff.mp hu).2, show ts.length - 1 + 1 = ts.length by omega, List.drop_length]
      have e2 : acc.drop (ts.length - 1) = [y] := by
        rw [← hl, List.drop_eq_getElem_cons (by omega), (List.getElem?_eq_some_iff.mp hy).2, show acc.length - 1 + 1 = acc.length by omega, List.drop_length]
      rw [e1, e2] at r2
      refine ⟨f1, f2, ?_, r2, fun a => by rw [List.count_append]; omega⟩
      rw [List.dropLast_eq_take, List.dropLast_eq_take, hl]
      exact r1
  case insert =>
    refine ⟨_, _, mt_insert, PySem.F.plainAttrs_list, PySem.F.slot_list_insert, PySem.F.type_list_insert, fun {e ρ τ σ H Hs v t p s s' u ws us} o hs hm => ?_⟩
    unfold mmT at hm
    split at hm <;> rename_i z <;> (try (cases z; done)) <;> (try (cases hm; done))
    rename_i ts i u1
    split at hm <;> (try (cases hm; done))
    rename_i hz
    cases hm
    obtain ⟨D, ho, ts', acc, ch, hD, nd, hl, hw, k⟩ := o.wrP hs (.inl ⟨_, rfl⟩)
    cases nd
    match ws, hw with
    | [x, y], _ =>
      have hx : x = .int i := by
        obtain ⟨fs, ft, _, r, _⟩ := o.own
        obtain ⟨f, f', _, r, _⟩ := r
        simp only [RepTs] at r
        obtain ⟨v1, vs1, _, _, e1, _, q, _⟩ := r
        obtain ⟨rfl, _⟩ := List.cons.inj e1
        simp only [RepT, Rep] at q
        exact q.1
      refine ⟨_, ch, ⟨D, acc, rfl, hD⟩, fun Q q => ⟨D, acc, i, y, rfl, by rw [hx], hD, by rw [hl]; exact hz.1, hz.2.1, hz.2.2, q _ _ ?_⟩⟩
      refine k _ _ _ _ [.non] [.fz .non] .lst fun H' fu f kp ru rl => ?_
      obtain ⟨f1, f2, r1, r2, rfl⟩ := RepTs.split i.toNat rl
      simp only [RepTs] at ru
      obtain ⟨v1, vs1, g1, g2, e1, rfl, q1, v2, vs2, g3, g4, e2, rfl, q2, e3, rfl⟩ := ru
      obtain ⟨rfl, rfl⟩ := List.cons.inj e1
      obtain ⟨rfl, rfl⟩ := List.cons.inj e2
      refine ⟨(f1 ++ g3) ++ f2, [], ?_, RepTs.one.mpr (RepT.fz (by simp only [Rep])), fun a => by simp only [List.count_append, List.count_nil]; omega⟩
      have := RepTs.append (RepTs.append r1 (RepTs.one.mpr q2)) r2
      rw [List.append_assoc _ [_] _] at this
      exact this
end
end DL
namespace DL
open PySem PySem.Spec L2

/-! ### paths in the text -/
inductive Pt where
  | s (i : Nat) | ix (a : Pt) (q : P)
def keyIx : List Key → Key → Option Nat
  | [], _ => none
  | k :: ks, k' => if k = k' then some 0 else (keyIx ks k').map (· + 1)
def rsvPos : T → D → Option Nat
  | .lst ts, .int i => ixN ts.length i
  | .tup ts, .int i => ixN ts.length i
  | .dic ks _, d => (keyOf d).bind (keyIx ks)
  | _, _ => none
def rsvPt : Pt → Sl → Option (Nat × List Nat × T)
  | .s i, ρ => match ρ[i]? with
    | some (some t) => some (i, [], t)
    | _ => none
  | .ix a q, ρ => match rsvPt a ρ with
    | some (i, p, s) => match evP q ρ with
      | some x => match rsvPos s x.d with
        | some j => match subT [j] s with
          | some u => some (i, p ++ [j], u)
          | none => none
        | none => none
      | none => none
    | none => none
def Pt.sl : Pt → Nat
  | .s i => i
  | .ix a _ => a.sl
def mtPt (c : Cxt) : Pt → Expr → Bool
  | .s i, .Name x _ => c.N[i]? == some x && visB c x
  | .ix a q, .Subscript e1 e2 _ => !slB e2 && mtPt c a e1 && mtP c q e2
  | _, _ => false
section
variable {X : Cx} {g : Gx} {c : Cxt} {W : WX} {e : Fr0} {ρ ρ' : Sl} {τ : Tm} {σ σ' : L2.St} {H H' Hs Hs' : Hp}
theorem subT_app : ∀ {p : List Nat} {t s : T} {j : Nat}, subT p t = some s → subT (p ++ [j]) t = subT [j] s
  | [], t, s, j, h => by simp only [subT] at h; cases h; rfl
  | i :: p, .fz d, s, j, h => by simp [subT] at h
  | i :: p, .lst ts, s, j, h => by
    simp only [subT, Option.bind_eq_some_iff] at h
    obtain ⟨u, hu, h⟩ := h
    simp only [List.cons_append, subT, hu, Option.bind_some]
    exact subT_app h
  | i :: p, .tup ts, s, j, h => by
    simp only [subT, Option.bind_eq_some_iff] at h
    obtain ⟨u, hu, h⟩ := h
    simp only [List.cons_append, subT, hu, Option.bind_some]
    exact subT_app h
  | i :: p, .dic ks ts, s, j, h => by
    simp only [subT, Option.bind_eq_some_iff] at h
    obtain ⟨u, hu, h⟩ := h
    simp only [List.cons_append, subT, hu, Option.bind_some]
    exact subT_app h
  | i :: p, .obj cc ns ts, s, j, h => by
    simp only [subT, Option.bind_eq_some_iff] at h
    obtain ⟨u, hu, h⟩ := h
    simp only [List.cons_append, subT, hu, Option.bind_some]
    exact subT_app h
theorem Chain.app : ∀ {p : List Nat} {t s : T} {v w w' : V} {j : Nat}, subT p t = some s → Chain g H p t v w → Chain g H [j] s w w' → Chain g H (p ++ [j]) t v w'
  | [], t, s, v, w, w', j, h, h1, h2 => by simp only [subT] at h; cases h; simp only [Chain] at h1; subst h1; exact h2
  | i :: p, .fz d, s, v, w, w', j, h, _, _ => by simp [subT] at h
  | i :: p, .lst ts, s, v, w, w', j, h, h1, h2 => by
    simp only [subT, Option.bind_eq_some_iff] at h
    obtain ⟨u, hu, h⟩ := h
    simp only [Chain, List.cons_append] at h1 ⊢
    obtain ⟨a, vs, u', t', e1, e2, e3, e4, e5, h1⟩ := h1
    rw [hu] at e5
    cases e5
    exact ⟨a, vs, u', _, e1, e2, e3, e4, hu, Chain.app h h1 h2⟩
  | i :: p, .tup ts, s, v, w, w', j, h, h1, h2 => by
    simp only [subT, Option.bind_eq_some_iff] at h
    obtain ⟨u, hu, h⟩ := h
    simp only [Chain, List.cons_append] at h1 ⊢
    obtain ⟨a, vs, u', t', e1, e2, e3, e4, e5, h1⟩ := h1
    rw [hu] at e5
    cases e5
    exact ⟨a, vs, u', _, e1, e2, e3, e4, hu, Chain.app h h1 h2⟩
  | i :: p, .dic ks ts, s, v, w, w', j, h, h1, h2 => by
    simp only [subT, Option.bind_eq_some_iff] at h
    obtain ⟨u, hu, h⟩ := h
    simp only [Chain, List.cons_append] at h1 ⊢
    obtain ⟨a, vs, u', t', e1, e2, e3, e4, e5, e6, h1⟩ := h1
    rw [hu] at e6
    cases e6
    exact ⟨a, vs, u', _, e1, e2, e3, e4, e5, hu, Chain.app h h1 h2⟩
  | i :: p, .obj cc ns ts, s, v, w, w', j, h, h1, h2 => by
    simp only [subT, Option.bind_eq_some_iff] at h
    obtain ⟨u, hu, h⟩ := h
    simp only [Chain, List.cons_append] at h1 ⊢
    obtain ⟨a, dx, vs, u', t', e1, e2, e3, e4, e5, e6, h1⟩ := h1
    rw [hu] at e6
    cases e6
    exact ⟨a, dx, vs, u', _, e1, e2, e3, e4, e5, hu, Chain.app h h1 h2⟩
theorem Chain.det : ∀ {p : List Nat} {t : T} {v w w' : V}, Chain g H p t v w → Chain g H p t v w' → w = w'
  | [], t, v, w, w', h1, h2 => by simp only [Chain] at h1 h2; rw [h1, h2]
  | i :: p, .fz d, v, w, w', h1, _ => by simp [Chain] at h1
  | i :: p, .lst ts, v, w, w', h1, h2 => by
    simp only [Chain] at h1 h2
    obtain ⟨a, vs, u, t1, rfl, e2, e3, e4, e5, h1⟩ := h1
    obtain ⟨a', vs', u', t2, e1, f2, f3, f4, f5, h2⟩ := h2
    cases e1
    rw [e2] at f2
    cases f2
    rw [e4] at f4
    rw [e5] at f5
    cases f4
    cases f5
    exact Chain.det h1 h2
  | i :: p, .tup ts, v, w, w', h1, h2 => by
    simp only [Chain] at h1 h2
    obtain ⟨a, vs, u, t1, rfl, e2, e3, e4, e5, h1⟩ := h1
    obtain ⟨a', vs', u', t2, e1, f2, f3, f4, f5, h2⟩ := h2
    cases e1
    rw [e2] at f2
    cases f2
    rw [e4] at f4
    rw [e5] at f5
    cases f4
    cases f5
    exact Chain.det h1 h2
  | i :: p, .dic ks ts, v, w, w', h1, h2 => by
    simp only [Chain] at h1 h2
    obtain ⟨a, vs, u, t1, rfl, e2, e3, e3', e4, e5, h1⟩ := h1
    obtain ⟨a', vs', u', t2, e1, f2, f3, f3', f4, f5, h2⟩ := h2
    cases e1
    rw [e2] at f2
    have h3 := Option.some.inj f2
    injection h3 with h3
    have e2 : vs = vs' := by
      have := congrArg (List.map Prod.snd) h3
      rwa [List.map_snd_zip (by omega), List.map_snd_zip (by omega)] at this
    subst e2
    rw [e4] at f4
    rw [e5] at f5
    cases f4
    cases f5
    exact Chain.det h1 h2
  | i :: p, .obj cc ns ts, v, w, w', h1, h2 => by
    simp only [Chain] at h1 h2
    obtain ⟨a, dx, vs, u, t1, rfl, e2, e3, e3', e4, e5, h1⟩ := h1
    obtain ⟨a', dx', vs', u', t2, e1, f2, f3, f3', f4, f5, h2⟩ := h2
    cases e1
    rw [e2] at f2
    have h3 := Option.some.inj f2
    injection h3 with h4 h5 h3
    have e2 : vs = vs' := by
      have := congrArg (List.map Prod.snd) h3
      rwa [List.map_snd_zip (by omega), List.map_snd_zip (by omega)] at this
    subst e2
    rw [e4] at f4
    rw [e5] at f5
    cases f4
    cases f5
    exact Chain.det h1 h2
/-- a path leads to a part of a slot's tree -/
structure PtAt (g : Gx) (Hs H : Hp) (ρ : Sl) (σ : L2.St) (i : Nat) (p : List Nat) (s : T) (w : V) : Prop where
  at_ : ∃ v t fp, σ[i]? = some (some v) ∧ ρ[i]? = some (some t) ∧ subT p t = some s ∧ RepT g Hs H t v fp ∧ Chain g H p t v w
  rep : ∃ f, RepT g Hs H s w f
def PtJ (X : Cx) (g : Gx) (a : Pt) (ex : Expr) : Prop :=
  ∃ te, PE X ex te ∧ ∀ ρ σ H Hs O i p s, View g Hs H O ρ σ → rsvPt a ρ = some (i, p, s) → ∀ Q : VK, (∀ w, PtAt g Hs H ρ σ i p s w → Q w H) → te σ H Q
theorem keyIx_val : ∀ {ks : List Key} {vs : List V} {k : Key} {j : Nat}, keyIx ks k = some j → ks.length = vs.length → ∃ v, vs[j]? = some v ∧ valV (ks.zip vs) k = some v
  | [], _, _, _, h, _ => by simp [keyIx] at h
  | k0 :: ks, [], _, _, _, l => by simp at l
  | k0 :: ks, v0 :: vs, k, j, h, l => by
    simp only [keyIx] at h
    rw [List.zip_cons_cons]
    split at h
    · rename_i z
      cases h
      exact ⟨v0, rfl, valV_pos z⟩
    · rename_i z
      simp only [Option.map_eq_some_iff] at h
      obtain ⟨j', h, rfl⟩ := h
      obtain ⟨v, h1, h2⟩ := keyIx_val h (by simpa using l)
      exact ⟨v, by simpa using h1, by rw [valV_neg z]; exact h2⟩
theorem sndPt (k : Cp X g c) : ∀ (a : Pt) (ex : Expr), mtPt c a ex = true → PtJ X g a ex
  | .s i, ex, h => by
    unfold mtPt at h
    split at h <;> rename_i z <;> (try (cases z; done)) <;> (try (cases h; done))
    cases z
    simp only [Bool.and_eq_true, beq_iff_eq] at h
    obtain ⟨v1, v2, v3⟩ := k.vis h.2
    refine ⟨_, pe_var (i := i) (by rw [k.N]; exact h.1) v1 v2 v3, fun ρ σ H Hs O j p s vw hr Q q => ?_⟩
    simp only [rsvPt] at hr
    split at hr <;> (try (cases hr; done))
    rename_i t ht
    cases hr
    obtain ⟨v, fp, h1, h2, _⟩ := vw.at_ _ _ ht
    exact ⟨v, h1, q v ⟨⟨v, _, fp, h1, ht, by simp [subT], h2, by simp [Chain]⟩, fp, h2⟩⟩
  | .ix a q, ex, h => by
    unfold mtPt at h
    split at h <;> rename_i z <;> (try (cases z; done)) <;> (try (cases h; done))
    cases z
    simp only [Bool.and_eq_true, Bool.not_eq_true'] at h
    obtain ⟨⟨h1, h2⟩, h3⟩ := h
    obtain ⟨ta, pa, ra⟩ := sndPt k a _ h2
    obtain ⟨tb, pb, rb⟩ := (soundP k q _ h3).1
    refine ⟨_, pe_ix (ix_seq.or (ix_dict (by have := k.hu; omega))) pa pb (plainIx h1), fun ρ σ H Hs O j p s vw hr Q qq => ?_⟩
    simp only [rsvPt] at hr
    split at hr <;> (try (cases hr; done))
    rename_i i1 p1 s1 hr1
    split at hr <;> (try (cases hr; done))
    rename_i x hx
    split at hr <;> (try (cases hr; done))
    rename_i j1 hj
    split at hr <;> (try (cases hr; done))
    rename_i u hu
    cases hr
    refine ra ρ σ H Hs O _ _ _ vw hr1 _ fun w pt => rb ρ σ H Hs O x vw hx _ fun y fy ry => ?_
    have ryd := ry.r.now vw.sub
    obtain ⟨v, t, fp, e1, e2, e3, e4, e5⟩ := pt.at_
    obtain ⟨f, rs⟩ := pt.rep
    obtain ⟨w', fs', fr', c1, c2, c3, c4⟩ := rs.sub vw.sub hu
    clear c3 c4
    have fin : PtAt g Hs H ρ σ j (p1 ++ [j1]) s w' := ⟨⟨v, t, fp, e1, e2, by rw [subT_app e3]; exact hu, e4, e5.app e3 c1⟩, fs', c2⟩
    generalize x.d = xd at hj ryd
    unfold rsvPos at hj
    split at hj <;> (try (cases hj; done))
    · rename_i ts i2
      simp only [Rep] at ryd
      subst ryd
      simp only [Chain] at c1
      obtain ⟨a', vs, u', t', rfl, f1, f2, f3, f4, f5⟩ := c1
      subst f5
      refine .inl (.inl ⟨a', vs, i2, _, rfl, rfl, SqL.of f1, ?_, qq _ fin⟩)
      unfold atI
      rw [f2, hj]
      exact f3
    · rename_i ts i2
      simp only [Rep] at ryd
      subst ryd
      simp only [Chain] at c1
      obtain ⟨a', vs, u', t', rfl, f1, f2, f3, f4, f5⟩ := c1
      subst f5
      refine .inl (.inr (.inl ⟨a', vs, i2, _, rfl, rfl, SqT.of f1, ?_, qq _ fin⟩))
      unfold atI
      rw [f2, hj]
      exact f3
    · rename_i ks ts
      simp only [Option.bind_eq_some_iff] at hj
      obtain ⟨kk, hk1, hj⟩ := hj
      simp only [Chain] at c1
      obtain ⟨a', vs, u', t', rfl, f1, f2, f2', f3, f4, f5⟩ := c1
      subst f5
      rw [keyOf_kV hk1 ryd]
      obtain ⟨v', g1, g2⟩ := keyIx_val hj f2
      rw [f3] at g1
      cases g1
      exact .inr ⟨a', _, rfl, .inl ⟨_, kk, .inl f1, rfl, g2.symm⟩, qq _ fin⟩
theorem att_base {o : Expr} {nm : Str} {env : PySem.Env} {w : Sem Value} {a : Pt} {c : Cxt} (h : mtPt c a o = true) : attributeBase o nm env w = w := by
  cases o <;> first | rfl | (cases a <;> simp [mtPt] at h)
theorem few_ok {e : Expr} {es : List Expr} {env : PySem.Env} {pos : Pos} (h : ∀ x ∈ e :: es, starB x = false) (hl : es.length < 25) : ((backTo pos (starEach (e :: es) env)).all (fun x => !x.1) && (backToKw pos (keywordEach [] env)).all (fun x => x.1.isSome)
      && decide ((e :: es).length + ([] : List Keyword).length + (if ([] : List Keyword).isEmpty then 0 else 1) < 30)) = true := by
  have := star_none (env := env) (pos := pos) h
  simp only [List.any_eq_false] at this
  simp only [Bool.and_eq_true, List.all_eq_true, decide_eq_true_eq]
  refine ⟨⟨fun x hx => by simpa using this x hx, fun x hx => by simp [backToKw, keywordEach] at hx⟩, by simp; omega⟩
theorem PtAt.listy {i : Nat} {p : List Nat} {s : T} {w : V} (hk : g.K = X.K) (h : PtAt g Hs H ρ σ i p s w) (hl : ∃ ts, s = .lst ts) : tyV X.K "list" w H := by
  obtain ⟨ts, rfl⟩ := hl
  obtain ⟨f, r⟩ := h.rep
  simp only [RepT] at r
  obtain ⟨a, vs, f', rfl, ha, _⟩ := r
  exact .inl ⟨rfl, vs, SqL.of ha⟩
/-- the slot is taken, its part written, and put back -/
theorem Ok.atPt {i : Nat} {p : List Nat} {s : T} {w : V} {ws : List V} {us : List T} {m : Mm} {s' u : T} (o : Ok g e ρ ((ws, us) :: τ) σ H Hs) (pt : PtAt g Hs H ρ σ i p s w) (hm : mmT m s us = some (s', u)) {r : V → List V → Hp → VK → Prop}
    (hr : ∀ {e ρ τ σ H Hs v t p s s' u ws us}, Ok g e ρ ((ws, us) :: ([v], [t]) :: τ) σ H Hs → subT p t = some s → mmT m s us = some (s', u) → ∃ w, Chain g H p t v w ∧ (∃ D xs, w = .ref D ∧ H D = some (.lst xs)) ∧
      ∀ Q : VK, (∀ v' H', Ok g e ρ (([v'], [u]) :: ([v], [putT p t s']) :: τ) σ H' Hs → Q v' H') → r w ws H Q) {Q : VK}
    (q : ∀ t v' H', ρ[i]? = some (some t) → Ok g e (ρ.set i (some (putT p t s'))) (([v'], [u]) :: τ) σ H' Hs → Q v' H') : r w ws H Q := by
  obtain ⟨v, t, fp, e1, e2, e3, e4, e5⟩ := pt.at_
  obtain ⟨v2, hv, o1⟩ := o.take e2
  rw [e1] at hv
  cases hv
  obtain ⟨w', c1, _, k⟩ := hr o1.swap e3 hm
  have := e5.det c1
  subst this
  refine k Q fun v' H' o2 => q t v' H' e2 ?_
  have o3 := o2.swap.back (i := i) e1
  rw [List.set_set] at o3
  exact o3
end
end DL
namespace DL
open PySem PySem.Spec L2

/-! ### a def that may be called, in one form of call: so many by place, these by name; no repr is under way -/
def FnF (P : Program) (w : World) (K : PySem.W.Frag) (mg : Str → Option Value) (base : Heap) (k : Nat) (f : Addr) (n : Nat) (ks : List Str) (sp : Sp) : Prop :=
  ∀ (A : Around) (outer : List Env) (s : Shared) (H : Hp) (us ws : List Value) (vs zs : List V) (Q : VK) (E : XK), Room k A → A.guards = some [] → Env0 P w K mg base A outer s H → Vals vs us → Vals zs ws → us.length = n → ws.length = ks.length → sp (vs ++ zs) H Q E →
    codeAny (model P w) A (.call (.ref f) ⟨us, ks.zip ws⟩) (CR (L2.CX P w) outer P w H s Q E) s
/-- keywords' values: pure -/
def KqJ (X : Cx) (g : Gx) (f : Sl → Option (List T)) (kws : List Keyword) : Prop :=
  ∃ tk, PK X kws tk ∧ ∀ ρ σ H Hs O ts, View g Hs H O ρ σ → f ρ = some ts → ∀ Q : List V → Hp → Prop, (∀ vs, (∃ fs, RepTs g Hs H ts vs fs) → Q vs H) → tk σ H Q
def pickL {α : Type} (idx : List Nat) (xs : List α) : List α := idx.filterMap fun j => xs[j]?
/-- all that is handed over is frozen -/
def allFzA : List AV → Option (List D)
  | [] => some []
  | .own (.fz d) :: r => (allFzA r).map (d :: ·)
  | .bor (.fz d) :: r => (allFzA r).map (d :: ·)
  | _ => none
abbrev ownsA (ds : List D) : List AV := ds.map fun d => AV.own (.fz d)
section
variable {X : Cx} {g : Gx} {c : Cxt} {W : WX} {f : Addr} {k n : Nat} {ks : List Str} {sp : Sp} {pins : List (Addr × Obj)} {σ : L2.St} {H Hs : Hp} {s : Shared} {e : Fr0} {ρ : Sl} {τ : Tm}
theorem fnF_run {Q : VK} {us ws : List Value} {vs zs : List V} (F : FnF X.prog X.w X.K X.mg X.base k f n ks sp) (hr : Room k X.A) (hg : X.A.guards = some []) (tk : Takes X W) (I : Inv X pins σ H s) (r : Vals vs us) (rz : Vals zs ws) (hn : us.length = n) (hw : ws.length = ks.length) (h : sp (vs ++ zs) H Q (WE W σ)) :
    wpAny (model X.prog X.w) X.A (call (.ref f) us (ks.zip ws)) (EP X pins σ Q) X.xe s := by
  refine wpAny_call (codeAny_mono (F X.A X.stack s H us ws vs zs Q (WE W σ) hr hg I.env0 r rz hn hw h) fun res s' out => ?_)
  match res, out with
  | .error e, out => exact passAt tk σ pins H s e s' I out
  | .ok (.ret u), out => exact I.after out
def tcF (n : Nat) (sp : Sp) (W : WX) (ta : TA) : TE := fun σ H Q => ta σ H fun vs H1 => vs.length = n ∧ sp vs H1 Q (WE W σ)
def tcK (n m : Nat) (sp : Sp) (W : WX) (ta tk : TA) : TE := fun σ H Q => ta σ H fun vs H1 => vs.length = n ∧ tk σ H1 fun zs H2 => zs.length = m ∧ sp (vs ++ zs) H2 Q (WE W σ)
/-- f() -/
theorem pe_callF0 {x : Str} {p pos : Pos} (F : FnF X.prog X.w X.K X.mg X.base k f 0 [] sp) (hr : Room k X.A) (kc : Cp X g c) (tk : Takes X W) (hg : Gl X x) (hm : X.mg x = some (.ref f)) (hk : PySem.W.keepIn X.K (.ref f) = true)
    (hdb : (x == ("__debug__" : Str)) = false) : PE X (.Call (.Name x p) [] [] pos) (fun σ H Q => sp [] H Q (WE W σ)) :=
  ⟨fun _ _ _ _ _ J hq => wpAny_Call_Name_kw (ld_glob J hg hm (PySem.W.callWith_K0 J.kIn hk (fnF_run (us := []) (ws := []) (vs := []) (zs := []) F hr kc.gd tk J .nil .nil rfl rfl hq)) hdb)⟩
/-- f(e, ..) by place alone -/
theorem pe_callF {x : Str} {e1 : Expr} {es : List Expr} {ta : TA} {p pos : Pos} (F : FnF X.prog X.w X.K X.mg X.base k f n [] sp) (hr : Room k X.A) (kc : Cp X g c) (tk : Takes X W) (hg : Gl X x) (hm : X.mg x = some (.ref f)) (hk : PySem.W.keepIn X.K (.ref f) = true)
    (hdb : (x == ("__debug__" : Str)) = false) (hs : ∀ e ∈ e1 :: es, starB e = false) (ha : PA X (e1 :: es) ta) : PE X (.Call (.Name x p) (e1 :: es) [] pos) (tcF n sp W ta) := by
  refine ⟨fun pn s0 σ0 H0 Q0 J hq => wpAny_Call_Name_kw (ld_glob J hg hm ?_ hdb)⟩
  refine PySem.W.callWith_K (h₀ := X.base) J.ok.mod.kin hk (thn (ha.run pos pn s0 σ0 H0 _ J hq) fun us s1 ⟨vs, H1, I1, r, l, q⟩ => ⟨I1.kIn, ?_⟩) (star_cons (hs _ (by simp))) (star_none fun e he => hs e (by simp [he]))
  exact fnF_run (us := us) (zs := []) (ws := []) F hr kc.gd tk I1 r .nil (by rw [← r.length]; exact l) rfl (by rw [List.append_nil]; exact q)
theorem kwd_all {kws : List Keyword} {env : PySem.Env} {pos : Pos} {ks : List Str} (h : kws.map (fun q => q.arg) = ks.map some) : (backToKw pos (keywordEach kws env)).all (·.1.isSome) = true ∧ (backToKw pos (keywordEach kws env)).filterMap (·.1) = ks ∧ (backToKw pos (keywordEach kws env)).any (·.1.isNone) = false := by
  induction kws generalizing ks with
  | nil =>
    cases ks with
    | nil => exact ⟨rfl, rfl, rfl⟩
    | cons a b => cases h
  | cons q kws ih =>
    cases ks with
    | nil => cases h
    | cons a ks =>
      obtain ⟨nm, v, kp⟩ := q
      simp only [List.map_cons, List.cons.injEq] at h
      obtain ⟨h1, h2, h3⟩ := ih h.2
      have e : backToKw pos (keywordEach (⟨nm, v, kp⟩ :: kws) env) = (some a, (do let u ← eval v env; standAt pos; pure u)) :: backToKw pos (keywordEach kws env) := by
        rw [← h.1]; rfl
      rw [e]
      exact ⟨by rw [List.all_cons, h1]; rfl, by rw [List.filterMap_cons, h2], by rw [List.any_cons, h3]; rfl⟩
/-- f(.., k = v, ..) -/
theorem pe_callFK {x : Str} {e1 : Expr} {es : List Expr} {kws : List Keyword} {ta tkw : TA} {p pos : Pos} (F : FnF X.prog X.w X.K X.mg X.base k f n ks sp) (hr : Room k X.A) (kc : Cp X g c) (tk : Takes X W) (hg : Gl X x) (hm : X.mg x = some (.ref f)) (hk : PySem.W.keepIn X.K (.ref f) = true)
    (hdb : (x == ("__debug__" : Str)) = false) (hs : ∀ e ∈ e1 :: es, starB e = false) (hks : kws.map (fun q => q.arg) = ks.map some) (ha : PA X (e1 :: es) ta) (hkw : PK X kws tkw) : PE X (.Call (.Name x p) (e1 :: es) kws pos) (tcK n ks.length sp W ta tkw) := by
  refine ⟨fun pn s0 σ0 H0 Q0 J hq => wpAny_Call_Name_kw (ld_glob J hg hm ?_ hdb)⟩
  obtain ⟨k1, k2, k3⟩ := kwd_all (env := X.env) (pos := pos) hks
  refine PySem.W.callWith_KW (h₀ := X.base) J.ok.mod.kin hk k1 (thn (ha.run pos pn s0 σ0 H0 _ J hq) fun us s1 ⟨vs, H1, I1, r, l, q⟩ => thn (hkw.run pos pn s1 σ0 H1 _ I1 q) fun ws s2 ⟨zs, H2, I2, rz, lz, q2⟩ => ⟨I2.kIn, ?_⟩) (by rw [star_none hs, k3]; rfl) (star_cons (hs _ (by simp)))
  rw [k2]
  exact fnF_run (us := us) (zs := zs) F hr kc.gd tk I2 r rz (by rw [← r.length]; exact l) (by rw [← rz.length]; exact lz) q2
/-- f(k = v, ..) -/
theorem pe_callFK0 {x : Str} {kws : List Keyword} {tkw : TA} {p pos : Pos} (F : FnF X.prog X.w X.K X.mg X.base k f 0 ks sp) (hr : Room k X.A) (kc : Cp X g c) (tk : Takes X W) (hg : Gl X x) (hm : X.mg x = some (.ref f)) (hk : PySem.W.keepIn X.K (.ref f) = true)
    (hdb : (x == ("__debug__" : Str)) = false) (hks : kws.map (fun q => q.arg) = ks.map some) (hkw : PK X kws tkw) : PE X (.Call (.Name x p) [] kws pos) (fun σ H Q => tkw σ H fun zs H2 => zs.length = ks.length ∧ sp zs H2 Q (WE W σ)) := by
  refine ⟨fun pn s0 σ0 H0 Q0 J hq => wpAny_Call_Name_kw (ld_glob J hg hm ?_ hdb)⟩
  obtain ⟨k1, k2, k3⟩ := kwd_all (env := X.env) (pos := pos) hks
  refine PySem.W.callWith_KW0 (h₀ := X.base) J.ok.mod.kin hk k1 (thn (hkw.run pos pn s0 σ0 H0 _ J hq) fun ws s2 ⟨zs, H2, I2, rz, lz, q2⟩ => ⟨I2.kIn, ?_⟩) (by rw [k3]; rfl)
  rw [k2]
  exact fnF_run (us := []) (vs := []) (zs := zs) F hr kc.gd tk I2 .nil rz rfl (by rw [← rz.length]; exact lz) q2

/-! keywords' values -/
theorem kqj_nil : KqJ X g (fun _ => some []) [] := ⟨_, pk_nil, fun ρ σ H Hs O ts vw h Q q => by cases h; exact q [] ⟨[], by simp only [RepTs]; exact ⟨trivial, trivial⟩⟩⟩
theorem kqj_cons {q : P} {ex : Expr} {nm : Option Str} {kp : Pos} {kws : List Keyword} {fr : Sl → Option (List T)} (hp : PJ X g (evP q) ex) (hr : KqJ X g fr kws) : KqJ X g (fun ρ => (evP q ρ).bind fun t => (fr ρ).map (t :: ·)) (⟨nm, ex, kp⟩ :: kws) := by
  obtain ⟨ta, pa, ra⟩ := hp
  obtain ⟨tb, pb, rb⟩ := hr
  refine ⟨_, pk_cons pa pb, fun ρ σ H Hs O ts vw h Q q => ?_⟩
  simp only [Option.bind_eq_some_iff, Option.map_eq_some_iff] at h
  obtain ⟨t, ht, us, hu, rfl⟩ := h
  refine ra ρ σ H Hs O t vw ht _ fun v fp rv => rb ρ σ H Hs O us vw hu _ fun vs ⟨fs, rs⟩ => q _ ⟨fp ++ fs, ?_⟩
  simp only [RepTs]
  exact ⟨v, vs, fp, fs, rfl, rfl, rv.r, rs⟩

/-! what is handed over frozen -/
theorem allFzA_rep : ∀ {avs : List AV} {ds : List D} {vs vo : List V} {to : List T}, ARel g Hs H ρ σ avs vs vo to → (∃ f, RepTs g Hs H to vo f) → allFzA avs = some ds → Reps g Hs ds vs
  | [], _, _, _, _, ar, _, h => by
    cases h
    obtain ⟨rfl, _⟩ := ar
    simp only [Reps]
  | .own (.fz d) :: r, ds, _, _, _, ar, ro, h => by
    simp only [allFzA, Option.map_eq_some_iff] at h
    obtain ⟨ds', h, rfl⟩ := h
    obtain ⟨v, vs', vo', to', rfl, rfl, rfl, ar⟩ := ar
    obtain ⟨f, ro⟩ := ro
    simp only [RepTs] at ro
    obtain ⟨v1, vs1, f1, f2, e1, _, q, ro⟩ := ro
    obtain ⟨rfl, rfl⟩ := List.cons.inj e1
    simp only [RepT] at q
    simp only [Reps]
    exact ⟨v, vs', rfl, q.1, allFzA_rep (vs := vs') (vo := vo') (to := to') ar ⟨f2, ro⟩ h⟩
  | .bor (.fz d) :: r, ds, _, _, _, ar, ro, h => by
    simp only [allFzA, Option.map_eq_some_iff] at h
    obtain ⟨ds', h, rfl⟩ := h
    obtain ⟨v, vs', rfl, ⟨f, rf, _⟩, ar⟩ := ar
    simp only [RepT] at rf
    simp only [Reps]
    exact ⟨v, vs', rfl, rf.1, allFzA_rep (vs := vs') ar ro h⟩
  | .own (.lst _) :: _, _, _, _, _, _, _, h => by cases h
  | .own (.tup _) :: _, _, _, _, _, _, _, h => by cases h
  | .own (.dic _ _) :: _, _, _, _, _, _, _, h => by cases h
  | .own (.obj _ _ _) :: _, _, _, _, _, _, _, h => by cases h
  | .bor (.lst _) :: _, _, _, _, _, _, _, h => by cases h
  | .bor (.tup _) :: _, _, _, _, _, _, _, h => by cases h
  | .bor (.dic _ _) :: _, _, _, _, _, _, _, h => by cases h
  | .bor (.obj _ _ _) :: _, _, _, _, _, _, _, h => by cases h
  | .io _ :: _, _, _, _, _, _, _, h => by cases h
theorem ArgsOk.allFz {avs : List AV} {vs : List V} {ds : List D} (a : ArgsOk g e τ σ avs ρ vs H Hs) (h : allFzA avs = some ds) : Reps g Hs ds vs ∧ Ok g e ρ τ σ H Hs := by
  obtain ⟨vo, to, o, ar⟩ := a
  have ro : ∃ f, RepTs g Hs H to vo f := by
    obtain ⟨fs, ft, _, r, _⟩ := o.own
    obtain ⟨f, f', _, r, _⟩ := r
    exact ⟨f, r⟩
  exact ⟨allFzA_rep (vs := vs) (vo := vo) (to := to) ar ro h, o.drop⟩
theorem ARel.owns : ∀ {ds : List D} {vs : List V}, vs.length = ds.length → ARel g Hs H ρ σ (ownsA ds) vs vs (ds.map T.fz)
  | [], [], _ => ⟨rfl, rfl, rfl⟩
  | [], _ :: _, h => by simp at h
  | _ :: _, [], h => by simp at h
  | d :: ds, v :: vs, h => ⟨v, vs, vs, ds.map T.fz, rfl, rfl, rfl, ARel.owns (by simpa using h)⟩
theorem SpD.frozen {F : List T → Option Out} {vs : List V} {ds : List D} {Q : VK} (o : Ok g e ρ τ σ H Hs) (r : Reps g Hs ds vs) (q : Post g W e τ σ one (callD F (ownsA ds) ρ) Q) : SpD g F vs H Q (WE W σ) :=
  SpD.use (o.pushs r) (ARel.owns r.length) q
theorem Reps.pick {ds : List D} {vs : List V} (r : Reps g Hs ds vs) : ∀ (idx : List Nat), Reps g Hs (pickL idx ds) (pickL idx vs)
  | [] => by simp only [pickL, List.filterMap_nil, Reps]
  | j :: idx => by
    have ih := Reps.pick r idx
    unfold pickL at ih ⊢
    rw [List.filterMap_cons, List.filterMap_cons]
    cases hd : ds[j]? with
    | none =>
      have : vs[j]? = none := by
        rw [List.getElem?_eq_none_iff] at hd ⊢
        rw [r.length]; exact hd
      rw [this]
      exact ih
    | some d =>
      obtain ⟨v, hv, rv⟩ := r.at_ j d hd
      rw [hv]
      simp only [Reps]
      exact ⟨v, _, rfl, rv, ih⟩
/-! the forms of a call -/
/-- how a def of the text stands, in one form of call -/
structure FnAtF (X : Cx) (nm : Str) (n : Nat) (ks : List Str) (sp : Sp) : Prop where
  ex : ∃ (f : Addr) (j : Nat), X.mg nm = some (.ref f) ∧ PySem.W.keepIn X.K (.ref f) = true ∧ FnF X.prog X.w X.K X.mg X.base j f n ks sp ∧ Room j X.A
def spStar (g : Gx) (F : List T → Option Out) (m : Nat) : Sp := fun vs H Q E => (vs.drop m).length ≤ sizeLine ∧ ∀ p, H p = none → SpD g F (vs.take m ++ [.ref p]) (upd H p (.tup (vs.drop m))) Q E
def callKw (F : List T → Option Out) (idx : List Nat) (avs : List AV) (ρ : Sl) : Option (Rs T) :=
  match allFzA avs with
  | some ds => callD F (ownsA (pickL idx ds)) ρ
  | none => none
def callSt (F : List T → Option Out) (m : Nat) (avs : List AV) (ρ : Sl) : Option (Rs T) :=
  match allFzA avs with
  | some ds => if (ds.drop m).length ≤ sizeLine then callD F (ownsA (ds.take m ++ [.tup (ds.drop m)])) ρ else none
  | none => none
theorem spStar_use {F : List T → Option Out} {m : Nat} {vs : List V} {ds : List D} {Q : VK} (o : Ok g e ρ τ σ H Hs) (r : Reps g Hs ds vs) (hz : (ds.drop m).length ≤ sizeLine) (q : Post g W e τ σ one (callD F (ownsA (ds.take m ++ [.tup (ds.drop m)])) ρ) Q) : spStar g F m vs H Q (WE W σ) := by
  have hl := r.length
  refine ⟨by rw [List.length_drop] at hz ⊢; omega, fun p hp => ?_⟩
  have hps := o.freeS hp
  have o' := o.growS (u := .tup (vs.drop m)) hp
  have s1 : Same Hs (upd Hs p (.tup (vs.drop m))) := Same_upd hps
  have rs : ∀ (ds : List D) (vs : List V) (k : Nat), Reps g Hs ds vs → Reps g Hs (ds.take k) (vs.take k) ∧ Reps g Hs (ds.drop k) (vs.drop k) := by
    intro ds vs k
    induction k generalizing ds vs with
    | zero => intro h; exact ⟨by simp only [List.take_zero, Reps], by simpa using h⟩
    | succ k ih =>
      intro h
      cases ds with
      | nil =>
        simp only [Reps] at h
        subst h
        exact ⟨by simp only [List.take_nil, Reps], by simp only [List.drop_nil, Reps]⟩
      | cons d ds =>
        simp only [Reps] at h
        obtain ⟨v, vs', rfl, q, h⟩ := h
        obtain ⟨a, b⟩ := ih ds vs' h
        exact ⟨by simp only [List.take_succ_cons, Reps]; exact ⟨v, _, rfl, q, a⟩, by simpa using b⟩
  obtain ⟨ra, rb⟩ := rs ds vs m r
  have app : ∀ (ds es : List D) (vs ws : List V) (S : Hp), Reps g S ds vs → Reps g S es ws → Reps g S (ds ++ es) (vs ++ ws) := by
    intro ds
    induction ds with
    | nil => intro es vs ws S h1 h2; simp only [Reps] at h1; subst h1; exact h2
    | cons d ds ih =>
      intro es vs ws S h1 h2
      simp only [Reps] at h1
      obtain ⟨v, vs', rfl, q, h1⟩ := h1
      simp only [List.cons_append, Reps]
      exact ⟨v, _, rfl, q, ih es vs' ws S h1 h2⟩
  refine SpD.frozen o' (app _ _ _ _ _ (Reps.mono s1 ra) ?_) q
  simp only [Reps, Rep]
  exact ⟨_, [], rfl, ⟨p, _, rfl, SqT.of upd_same, Reps.mono s1 rb⟩, rfl⟩
theorem ARel.len : ∀ {avs : List AV} {vs vo : List V} {to : List T}, ARel g Hs H ρ σ avs vs vo to → vs.length = avs.length
  | [], _, _, _, ar => by obtain ⟨rfl, _⟩ := ar; rfl
  | .own t :: r, _, _, _, ar => by
    obtain ⟨v, vs', vo', to', rfl, _, _, ar⟩ := ar
    rw [List.length_cons, List.length_cons, ar.len]
  | .bor t :: r, _, _, _, ar => by
    obtain ⟨v, vs', rfl, _, ar⟩ := ar
    rw [List.length_cons, List.length_cons, ar.len]
  | .io i :: r, _, _, _, ar => by
    obtain ⟨v, vs', rfl, _, ar⟩ := ar
    rw [List.length_cons, List.length_cons, ar.len]
/-- f() -/
theorem cj_callF0 {f : Str} {F : List T → Option Out} {p pos : Pos} (kc : Cp X g c) (tk : Takes X W) (hg : glB c f = true) (hdb : (f == ("__debug__" : Str)) = false) (hf : FnAtF X f 0 [] (SpD g F)) : CJ X g W (fun ρ => callD F [] ρ) (.Call (.Name f p) [] [] pos) := by
  obtain ⟨fa, j, hm, hk, F1, hr⟩ := hf.ex
  exact ⟨_, pe_callF0 F1 hr kc tk (kc.gl hg) hm hk hdb, fun e ρ τ σ H Hs Q o q => SpD.use o.nilG (vs := []) (avs := []) ⟨rfl, rfl, rfl⟩ q⟩
/-- the arguments, then the call: what follows from how the arguments stand -/
theorem cj_args {ex : Expr} {es : List Expr} {fr : Sl → Option (Rs (List AV))} {n : Nat} {k : List AV → Sl → Option (Rs T)} {sp : Sp} (hp : ∀ ta, PA X es ta → PE X ex (tcF n sp W ta)) (ha : VJ X g W fr es)
    (hk : ∀ e ρ τ σ H Hs avs vs (Q : VK), ArgsOk g e τ σ avs ρ vs H Hs → vs.length = avs.length → Post g W e τ σ one (k avs ρ) Q → sp vs H Q (WE W σ)) :
    CJ X g W (fun ρ => bindR (fr ρ) fun avs ρ1 => if avs.length = n then k avs ρ1 else none) ex := by
  obtain ⟨ta, pa, ra⟩ := ha
  refine ⟨_, hp ta pa, fun e ρ τ σ H Hs Q o q => ?_⟩
  refine ra e ρ τ σ H Hs _ o ?_
  dsimp only at q
  cases h : fr ρ with
  | none => rw [h] at q; exact q
  | some r =>
    rw [h] at q
    cases r with
    | ex c t ρ' => exact q
    | ok avs ρ1 =>
      intro vs H1 Hs1 a
      simp only [bindR] at q
      split at q
      · rename_i hn
        have hl : vs.length = avs.length := by
          obtain ⟨vo, to, _, ar⟩ := a
          exact ar.len
        exact ⟨by rw [hl, hn], hk e ρ1 τ σ H1 Hs1 avs vs Q a hl q⟩
      · exact q.elim
/-- f(e, ..) of a def of the text, by place -/
theorem cj_callF {f : Str} {F : List T → Option Out} {e1 : Expr} {es : List Expr} {n : Nat} {fr : Sl → Option (Rs (List AV))} {p pos : Pos} (kc : Cp X g c) (tk : Takes X W) (hg : glB c f = true) (hdb : (f == ("__debug__" : Str)) = false) (hf : FnAtF X f n [] (SpD g F)) (hs : ∀ e ∈ e1 :: es, starB e = false) (ha : VJ X g W fr (e1 :: es)) :
    CJ X g W (fun ρ => bindR (fr ρ) fun avs ρ1 => if avs.length = n then callD F avs ρ1 else none) (.Call (.Name f p) (e1 :: es) [] pos) := by
  obtain ⟨fa, j, hm, hk, F1, hr⟩ := hf.ex
  exact cj_args (fun ta pa => pe_callF F1 hr kc tk (kc.gl hg) hm hk hdb hs pa) ha fun e ρ τ σ H Hs avs vs Q ⟨vo, to, o, ar⟩ _ q => SpD.use o ar q
/-- f(e, ..), f with a star parameter -/
theorem cj_callS {f : Str} {F : List T → Option Out} {e1 : Expr} {es : List Expr} {n m : Nat} {fr : Sl → Option (Rs (List AV))} {p pos : Pos} (kc : Cp X g c) (tk : Takes X W) (hg : glB c f = true) (hdb : (f == ("__debug__" : Str)) = false) (hf : FnAtF X f n [] (spStar g F m)) (hs : ∀ e ∈ e1 :: es, starB e = false) (ha : VJ X g W fr (e1 :: es)) :
    CJ X g W (fun ρ => bindR (fr ρ) fun avs ρ1 => if avs.length = n then callSt F m avs ρ1 else none) (.Call (.Name f p) (e1 :: es) [] pos) := by
  obtain ⟨fa, j, hm, hk, F1, hr⟩ := hf.ex
  refine cj_args (fun ta pa => pe_callF F1 hr kc tk (kc.gl hg) hm hk hdb hs pa) ha fun e ρ τ σ H Hs avs vs Q a _ q => ?_
  unfold callSt at q
  split at q
  · rename_i ds hds
    obtain ⟨r, o⟩ := a.allFz hds
    split at q
    · rename_i hz
      exact spStar_use o r hz q
    · exact q.elim
  · exact q.elim
/-- f(k = v, ..) -/
theorem cj_callK0 {f : Str} {F : List T → Option Out} {kws : List Keyword} {ks : List Str} {idx : List Nat} {fr : Sl → Option (List T)} {p pos : Pos} (kc : Cp X g c) (tk : Takes X W) (hg : glB c f = true) (hdb : (f == ("__debug__" : Str)) = false) (hf : FnAtF X f 0 ks (fun vs => SpD g F (pickL idx vs))) (hks : kws.map (fun q => q.arg) = ks.map some) (hkw : KqJ X g fr kws) :
    CJ X g W (fun ρ => match (fr ρ).bind allFz with | some ds => if ds.length = ks.length then callD F (ownsA (pickL idx ds)) ρ else none | none => none) (.Call (.Name f p) [] kws pos) := by
  obtain ⟨fa, j, hm, hk, F1, hr⟩ := hf.ex
  obtain ⟨ta, pa, ra⟩ := hkw
  refine ⟨_, pe_callFK0 F1 hr kc tk (kc.gl hg) hm hk hdb hks pa, fun e ρ τ σ H Hs Q o q => ?_⟩
  dsimp only at q
  split at q
  · rename_i ds hds
    simp only [Option.bind_eq_some_iff] at hds
    obtain ⟨ts, h1, h2⟩ := hds
    split at q
    · rename_i hn
      obtain ⟨O, vw⟩ := o.view
      refine ra ρ σ H Hs O ts vw h1 _ fun vs ⟨fs, rs⟩ => ?_
      obtain ⟨r, _⟩ := allFz_rep h2 rs
      exact ⟨by rw [r.length, hn], SpD.frozen o (r.pick idx) q⟩
    · exact q.elim
  · exact q.elim
/-- f(e, .., k = v, ..) -/
theorem cj_callK {f : Str} {F : List T → Option Out} {e1 : Expr} {es : List Expr} {kws : List Keyword} {n : Nat} {ks : List Str} {idx : List Nat} {fq : Sl → Option (List AV)} {fr : Sl → Option (List T)} {p pos : Pos} (kc : Cp X g c) (tk : Takes X W) (hg : glB c f = true) (hdb : (f == ("__debug__" : Str)) = false) (hf : FnAtF X f n ks (fun vs => SpD g F (pickL idx vs))) (hs : ∀ e ∈ e1 :: es, starB e = false) (hks : kws.map (fun q => q.arg) = ks.map some) (ha : VqJ X g fq (e1 :: es)) (hkw : KqJ X g fr kws) :
    CJ X g W (fun ρ => match (fq ρ).bind allFzA, (fr ρ).bind allFz with | some es, some ds => if es.length = n ∧ ds.length = ks.length then callD F (ownsA (pickL idx (es ++ ds))) ρ else none | _, _ => none) (.Call (.Name f p) (e1 :: es) kws pos) := by
  obtain ⟨fa, j, hm, hk, F1, hr⟩ := hf.ex
  obtain ⟨tb, pb, rb⟩ := ha
  obtain ⟨ta, pa, ra⟩ := hkw
  refine ⟨_, pe_callFK F1 hr kc tk (kc.gl hg) hm hk hdb hs hks pb pa, fun e ρ τ σ H Hs Q o q => ?_⟩
  dsimp only at q
  split at q
  · rename_i es ds hes hds
    simp only [Option.bind_eq_some_iff] at hds hes
    obtain ⟨ts, h1, h2⟩ := hds
    obtain ⟨avs, h3, h4⟩ := hes
    split at q
    · rename_i hn
      refine rb e ρ τ σ H Hs avs _ o h3 fun ws ar => ?_
      have r0 : Reps g Hs es ws := allFzA_rep ar ⟨[], by simp only [RepTs]; exact ⟨trivial, trivial⟩⟩ h4
      obtain ⟨O, vw⟩ := o.view
      refine ⟨by rw [r0.length]; exact hn.1, ra ρ σ H Hs O ts vw h1 _ fun vs ⟨fs, rs⟩ => ?_⟩
      obtain ⟨r, _⟩ := allFz_rep h2 rs
      refine ⟨by rw [r.length]; exact hn.2, SpD.frozen o (Reps.pick ?_ idx) q⟩
      have app : ∀ (ds es : List D) (vs ws : List V), Reps g Hs ds vs → Reps g Hs es ws → Reps g Hs (ds ++ es) (vs ++ ws) := by
        intro ds
        induction ds with
        | nil => intro es vs ws h1 h2; simp only [Reps] at h1; subst h1; exact h2
        | cons d ds ih =>
          intro es vs ws h1 h2
          simp only [Reps] at h1
          obtain ⟨v, vs', rfl, q, h1⟩ := h1
          simp only [List.cons_append, Reps]
          exact ⟨v, _, rfl, q, ih es vs' ws h1 h2⟩
      exact app _ _ _ _ r0 r
    · exact q.elim
  · exact q.elim
end
end DL
namespace DL
open PySem PySem.Spec PyProof.Rows L2

/-! ### a def by its body -/
/-- what a body makes of its slots, as what the def makes of its arguments; keep: the parameters that stay -/
def finS (keep : List Nat) (n : Nat) (ρ : Sl) : List (Option T) := (List.range n).map fun j => if keep.contains j = true then (ρ[j]?).bind id else none
def denB (fb : Sl → Option Fl) (n m : Nat) (keep : List Nat) (ts : List T) : Option Out :=
  if ts.length = n then
    match fb (ts.map some ++ List.replicate (m - n) none) with
    | some (.nx ρ) => some (.ret (.fz .non) (finS keep n ρ))
    | some (.ret t ρ) => some (.ret t (finS keep n ρ))
    | some (.ex c t ρ) => some (.exc c t (finS keep n ρ))
    | _ => none
  else none
section
variable {g : Gx} {H H' Hs Hs' S : Hp} {e : Fr0} {ρ : Sl} {τ : Tm} {σ : L2.St}
theorem RepE.init : ∀ {ts : List T} {vs : List V} {fp : List Addr} (n : Nat), RepTs g S H ts vs fp → RepE g S H (ts.map some ++ List.replicate n none) (vs.map some ++ List.replicate n none) fp
  | [], vs, fp, n, r => by
    simp only [RepTs] at r
    obtain ⟨rfl, rfl⟩ := r
    simp only [List.map_nil, List.nil_append]
    induction n with
    | zero => exact ⟨rfl, rfl⟩
    | succ n ih => exact ⟨none, _, rfl, ih⟩
  | t :: ts, vs, fp, n, r => by
    simp only [RepTs] at r
    obtain ⟨v, vs', f, f', rfl, rfl, q, r⟩ := r
    exact ⟨v, _, f, f', rfl, rfl, q, RepE.init n r⟩
/-- the parameters that stay, as a def's entry tells of them -/
def pinsOf (keep : List Nat) (vs : List V) : List (Nat × V) := keep.filterMap fun j => (vs[j]?).map fun v => (j, v)
theorem Ok.start {ts : List T} {vs : List V} {fp : List Addr} {N : List Str} (keep : List Nat) (s : Same S H) (r : RepTs g S H ts vs fp) (c : ∀ a, fp.count a ≤ 1) (n : ∀ a ∈ fp, S a = none ∧ H a ≠ none) :
    Ok g ⟨H, S, fp, pinsOf keep vs⟩ (ts.map some ++ List.replicate (N.length - ts.length) none) [] (L2.start N vs) H S := by
  have hl := r.length
  refine ⟨s, Same.refl _, fun a h => .inl h, fun _ _ _ => rfl, fun _ h => h, fun p hp => ?_, fp, [], ?_, rfl, fun a => by simpa using c a, fun a ha => ?_⟩
  · unfold pinsOf at hp
    rw [List.mem_filterMap] at hp
    obtain ⟨j, hj, hp⟩ := hp
    simp only [Option.map_eq_some_iff] at hp
    obtain ⟨v, hv, rfl⟩ := hp
    unfold L2.start
    rw [List.getElem?_append_left (by rw [List.length_map]; exact (List.getElem?_eq_some_iff.mp hv).1), List.getElem?_map, hv]
    rfl
  · unfold L2.start
    rw [hl]
    exact RepE.init _ r
  · rcases ha with ha | ha
    · exact ⟨(n a ha).1, (n a ha).2, .inr ha⟩
    · cases ha
/-- the slots at the end, as the arguments' fates -/
theorem RepE.fin (keep : List Nat) : ∀ (n i : Nat) {ρ : Sl} {σ : L2.St} {fp : List Addr} (vs : List V), RepE g Hs H ρ σ fp → vs.length = n → (∀ j v, i + j ∈ keep → vs[j]? = some v → σ[j]? = some (some v)) →
    ∃ fp', RepE g Hs H ((List.range n).map fun j => if keep.contains (i + j) = true then (ρ[j]?).bind id else none) (vs.map some) fp' ∧ ∀ a, fp'.count a ≤ fp.count a
  | 0, i, ρ, σ, fp, vs, r, hl, _ => by
    have : vs = [] := by simpa using hl
    subst this
    exact ⟨[], ⟨rfl, rfl⟩, fun a => Nat.zero_le _⟩
  | n + 1, i, ρ, σ, fp, [], r, hl, _ => by simp at hl
  | n + 1, i, ρ, σ, fp, v :: vs, r, hl, k => by
    have step : ∀ (ρ' : Sl) (σ' : L2.St) (f' : List Addr), RepE g Hs H ρ' σ' f' → (∀ j, ρ[j + 1]? = ρ'[j]?) → (∀ j, σ[j + 1]? = σ'[j]?) → ∃ fp', RepE g Hs H ((List.range n).map fun j => if keep.contains (i + 1 + j) = true then (ρ[j + 1]?).bind id else none) (vs.map some) fp' ∧ ∀ a, fp'.count a ≤ f'.count a := by
      intro ρ' σ' f' r' h1 h2
      obtain ⟨fp', q, c⟩ := RepE.fin keep n (i + 1) vs r' (by simpa using hl) fun j w hj hw => by
        rw [← h2 j]
        exact k (j + 1) w (by rw [show i + (j + 1) = i + 1 + j by omega]; exact hj) (by simpa using hw)
      refine ⟨fp', ?_, c⟩
      have e1 : ((List.range n).map fun j => if keep.contains (i + 1 + j) = true then (ρ[j + 1]?).bind id else none) = ((List.range n).map fun j => if keep.contains (i + 1 + j) = true then (ρ'[j]?).bind id else none) := List.map_congr_left fun j _ => by rw [h1 j]
      rw [e1]
      exact q
    have e2 : ((List.range (n + 1)).map fun j => if keep.contains (i + j) = true then (ρ[j]?).bind id else none) = (if keep.contains i = true then (ρ[0]?).bind id else none) :: ((List.range n).map fun j => if keep.contains (i + 1 + j) = true then (ρ[j + 1]?).bind id else none) := by
      rw [List.range_succ_eq_map, List.map_cons, List.map_map]
      rw [List.map_congr_left (g := fun j => if keep.contains (i + 1 + j) = true then (ρ[j + 1]?).bind id else none) fun j _ => by
        simp only [Function.comp]
        rw [show i + (j + 1) = i + 1 + j by omega]]
      simp
    rw [e2]
    match ρ, σ, r with
    | [], σ, r =>
      obtain ⟨rfl, rfl⟩ := r
      obtain ⟨fp', q, c⟩ := step [] [] [] ⟨rfl, rfl⟩ (fun j => by simp) (fun j => by simp)
      refine ⟨fp', ?_, c⟩
      have : (if keep.contains i = true then ((([] : Sl)[0]?).bind id) else none) = (none : Option T) := by split <;> rfl
      rw [this]
      exact ⟨some v, _, rfl, q⟩
    | none :: ρ', _, ⟨o, σ', rfl, r⟩ =>
      obtain ⟨fp', q, c⟩ := step ρ' σ' fp r (fun j => by simp) (fun j => by simp)
      refine ⟨fp', ?_, c⟩
      have : (if keep.contains i = true then (((none :: ρ' : Sl)[0]?).bind id) else none) = (none : Option T) := by split <;> rfl
      rw [this]
      exact ⟨some v, _, rfl, q⟩
    | some t :: ρ', _, ⟨w, σ', f, f', rfl, ef, z, r'⟩ =>
      subst ef
      obtain ⟨fp', q, c⟩ := step ρ' σ' f' r' (fun j => by simp) (fun j => by simp)
      by_cases hk : keep.contains i = true
      · have hw := k 0 v (by simpa using hk) (by simp)
        simp at hw
        subst hw
        refine ⟨f ++ fp', ?_, fun a => by rw [List.count_append, List.count_append]; have := c a; omega⟩
        rw [if_pos hk]
        exact ⟨w, _, f, fp', rfl, rfl, z, q⟩
      · refine ⟨fp', ?_, fun a => by rw [List.count_append]; have := c a; omega⟩
        rw [if_neg hk]
        exact ⟨some v, _, rfl, q⟩
theorem Ok.finish {keep : List Nat} {vs : List V} {n : Nat} (o : Ok g ⟨H, S, F, pinsOf keep vs⟩ ρ τ σ H' Hs') (hn : vs.length = n) : Ok g ⟨H, S, F, []⟩ (finS keep n ρ) τ (vs.map some) H' Hs' := by
  obtain ⟨fs, ft, r1, r2, c, nn⟩ := o.own
  obtain ⟨fs', q, c'⟩ := RepE.fin keep n 0 vs r1 hn fun j v hj hv => by
    have hj' : j ∈ keep := by simpa using hj
    exact o.fix (j, v) (by unfold pinsOf; rw [List.mem_filterMap]; exact ⟨j, hj', by rw [hv]; rfl⟩)
  simp only [Nat.zero_add] at q
  refine ⟨o.sub, o.sub0, o.new, o.frame, o.there, (fun p hp => nomatch hp), fs', ft, q, r2, fun a => ?_, fun a ha => nn a ?_⟩
  · have := c a; have := c' a; omega
  · rcases ha with ha | ha
    · have := List.count_pos_iff.mpr ha
      have := c' a
      exact .inl (List.count_pos_iff.mp (by omega))
    · exact .inr ha
end
/-! a body, and the def that has it -/
section
variable {P : Program} {w : World} {K : PySem.W.Frag} {mg : Str → Option Value} {base : Heap} {g : Gx}
/-- what of the module a body needs -/
structure Md (g : Gx) (K : PySem.W.Frag) (mg : Str → Option Value) (con : List (Str × D)) : Prop where
  hk : g.K = K
  bn : ∀ x ∈ builtinNames, mg x = none
  con : ∀ p ∈ con, p.2.atom = true ∧ ∃ u, mg p.1 = some u ∧ RelV p.2.at u
/-- the body's statements, wherever they run -/
def BodyOk (P : Program) (w : World) (K : PySem.W.Frag) (mg : Str → Option Value) (base : Heap) (k : Nat) (g : Gx) (c : Cxt) (fb : Sl → Option Fl) (body : List Stmt) : Prop :=
  ∀ (X : Cx) (W : WX), X.prog = P → X.w = w → X.K = K → X.mg = mg → X.base = base → Cp X g c → X.fn = (fun _ => true) → Takes X W → PassesOwn (model X.prog X.w) X.A X.env X.xe → Room k X.A → SsJ X g c W fb body
theorem body_read {c : Cxt} {fb : Sl → Option Fl} {x qual : Str} {st : Stmt} {f : Addr} {cdv : Value} {N ps : List Str} {k : Nat} {keep : List Nat} {con : List (Str × D)} (M : Md g K mg con) (S : FnScope N ps (defScope st)) (hN : c.N = N) (hl : c.look = (defScope st).names) (hcon : c.con = con) (hpr : c.prot = keep) (hblk : c.blk = none)
    (B : BodyOk P w K mg base k g c fb (defBody st)) (A : Around) (outer : List Env) (s2 : Shared) (H2 : Hp) (vs : List V) (Q : VK) (E : XK) (hg : A.guards = some []) (hr : Room k (A.deeper (envOfC qual (defScope st) s2.heap.objs.size f cdv))) (hps : vs.length = ps.length)
    (hsp : SpD g (denB fb ps.length N.length keep) vs H2 Q E) : ∃ t, PSs (cxOf (L2.CX P w) P w K mg base N qual (defScope st) f cdv A outer s2 H2 E) (defBody st) t ∧ t { nx := fun _ H' => Q .non H', rt := Q } (L2.start N vs) H2 := by
  have hC : Cp (cxOf (L2.CX P w) P w K mg base N qual (defScope st) f cdv A outer s2 H2 E) g c := by
    refine ⟨hN.symm, S.nd, fun y => ?_, rfl, M.hk, ?_, M.bn, S.kind, hg, fun y _ => .inl rfl, by rw [hcon]; exact M.con⟩
    · show (defScope st).names.lookup y = _
      rw [hl]
    · have := hr.un
      show (A.deeper _).units + 100 < cLine
      omega
  have tk : Takes (cxOf (L2.CX P w) P w K mg base N qual (defScope st) f cdv A outer s2 H2 E) (fun cls d _ H => E cls d H) := takes_of rfl rfl rfl rfl
  obtain ⟨t, pt, rt⟩ := B _ _ rfl rfl rfl rfl rfl hC rfl tk (passes_of rfl) hr
  refine ⟨t, pt, ?_⟩
  obtain ⟨ts, S0, fp, out, sH, rts, cf, nf, hF, post⟩ := hsp
  have hts : vs.length = ts.length := rts.length
  unfold denB at hF
  split at hF <;> (try (cases hF; done))
  rename_i hn
  have o0 := Ok.start (N := N) keep sH rts cf nf
  refine rt _ _ _ _ _ _ _ (fun p hp => ?_) o0 ?_
  · rw [hpr]
    unfold pinsOf at hp
    rw [List.mem_filterMap] at hp
    obtain ⟨j, hj, hp⟩ := hp
    simp only [Option.map_eq_some_iff] at hp
    obtain ⟨_, _, rfl⟩ := hp
    exact hj
  · rw [hn]
    split at hF
    · rename_i ρ' he
      cases hF
      rw [he]
      exact fun σ' H' Hs' o => post .non H' Hs' ((o.push (d := .non) (v := .non) (by simp only [Rep])).finish hps)
    · rename_i t' ρ' he
      cases hF
      rw [he]
      exact fun v σ' H' Hs' o => post v H' Hs' (o.finish hps)
    · rename_i cl t' ρ' he
      cases hF
      rw [he]
      exact fun v dx σ' H' Hs' o hd => post v dx H' Hs' (o.finish hps) hd
    · cases hF
/-- the def, called by place or by name, every parameter given -/
theorem fnF_kw {c : Cxt} {fb : Sl → Option Fl} {x qual : Str} {st : Stmt} {f : Addr} {fd : FuncData} {N ps : List Str} {k n : Nat} {ks : List Str} {idx : List Nat} {keep : List Nat} {con : List (Str × D)} (F : Fun K x qual st f fd) (M : Md g K mg con) (S : FnScope N ps (defScope st)) (hN : c.N = N) (hl : c.look = (defScope st).names) (hcon : c.con = con) (hpr : c.prot = keep) (hblk : c.blk = none)
    (B : BodyOk P w K mg base k g c fb (defBody st)) (hidx : idx.length = ps.length) (hix : ∀ j ∈ idx, j < n + ks.length)
    (hb : ∀ (kV doc pm : Value) (an : Option Addr) (cdv ct : Value) (us ws : List Value), us.length = n → ws.length = ks.length → bindArgs (PySem.W.fnOf x qual (defArgs st) (defBody st) (defScope st) .none kV doc pm an cdv ct) ⟨us, ks.zip ws⟩ = pure (ps.zip (pickL idx (us ++ ws)))) :
    FnF P w K mg base (k + 1) f n ks (fun vs => SpD g (denB fb ps.length N.length keep) (pickL idx vs)) := by
  obtain ⟨oc, od, kV, doc, pm, an, cdv, ct, osl, rfl, lk, hcd⟩ := F.ex
  intro A outer s H us ws vs zs Q E hr hg e0 r rz hn hw hsp
  have hpk : ∀ {α : Type} (xs : List α), xs.length = n + ks.length → (pickL idx xs).length = ps.length := by
    intro α xs hx
    rw [← hidx]
    unfold pickL
    clear hb hidx hsp
    induction idx with
    | nil => rfl
    | cons j idx ih =>
      have hj : j < xs.length := by rw [hx]; exact hix j (by simp)
      rw [List.filterMap_cons, List.getElem?_eq_getElem hj, List.length_cons, List.length_cons, ih fun j hj => hix j (by simp [hj])]
  have rr : Vals (vs ++ zs) (us ++ ws) := r.append rz
  have rp : ∀ idx : List Nat, Vals (pickL idx (vs ++ zs)) (pickL idx (us ++ ws)) := by
    intro idx
    unfold pickL
    induction idx with
    | nil => exact .nil
    | cons j idx ih =>
      rw [List.filterMap_cons, List.filterMap_cons]
      cases hj : (vs ++ zs)[j]? with
      | none => rw [rr.none_of hj]; exact ih
      | some v =>
        obtain ⟨u, hu, ru⟩ := rr.get hj
        rw [hu]
        exact .cons ru ih
  have hvl : (pickL idx (vs ++ zs)).length = ps.length := hpk _ (by rw [rr.length, List.length_append, hn, hw])
  refine StX.run_bnd (k := k) (G := fun xs H2 => xs = pickL idx (vs ++ zs) ∧ H2 = H) lk hcd S hr e0 (fun A' Ex Q' h => ?_) fun s2 H2 xs ⟨ex, eh⟩ hr' => ?_
  · rw [hb kV doc pm an cdv ct us ws hn hw]
    exact wpAny_pure (h s H _ _ e0 Un.refl rfl (fun _ _ z => z) (rp idx) hvl ⟨rfl, rfl⟩)
  · subst ex eh
    exact body_read (x := x) M S hN hl hcon hpr hblk B A outer s2 _ _ Q E hg hr' hvl hsp
theorem pick_range {α : Type} (xs : List α) : pickL (List.range xs.length) xs = xs := by
  have key : ∀ (m : Nat), m ≤ xs.length → (List.range m).filterMap (fun j => xs[j]?) = xs.take m := by
    intro m
    induction m with
    | zero => intro _; simp
    | succ m ih =>
      intro h
      rw [List.range_succ, List.filterMap_append, ih (by omega), List.take_add_one]
      simp only [List.filterMap_cons, List.filterMap_nil]
      cases xs[m]? <;> rfl
  unfold pickL
  rw [key xs.length (Nat.le_refl _), List.take_length]
/-- called by place -/
theorem fnF_pl {c : Cxt} {fb : Sl → Option Fl} {x qual : Str} {st : Stmt} {f : Addr} {fd : FuncData} {N ps : List Str} {k : Nat} {keep : List Nat} {con : List (Str × D)} (F : Fun K x qual st f fd) (M : Md g K mg con) (S : FnScope N ps (defScope st)) (hN : c.N = N) (hl : c.look = (defScope st).names) (hcon : c.con = con) (hpr : c.prot = keep) (hblk : c.blk = none)
    (B : BodyOk P w K mg base k g c fb (defBody st))
    (hb : ∀ (kV doc pm : Value) (an : Option Addr) (cdv ct : Value) (us : List Value), us.length = ps.length → bindArgs (PySem.W.fnOf x qual (defArgs st) (defBody st) (defScope st) .none kV doc pm an cdv ct) ⟨us, []⟩ = pure (ps.zip us)) :
    FnF P w K mg base (k + 1) f ps.length [] (SpD g (denB fb ps.length N.length keep)) := by
  have h := fnF_kw (n := ps.length) (ks := []) (idx := List.range ps.length) F M S hN hl hcon hpr hblk B (by simp) (fun j hj => by simpa using hj) fun kV doc pm an cdv ct us ws hn hw => by
    have e : ws = [] := by simpa using hw
    subst e
    rw [List.append_nil, ← hn, pick_range]
    exact hb kV doc pm an cdv ct us hn
  intro A outer s H us ws vs zs Q E hr hg e0 r rz hn hw hsp
  have e : ws = [] := by simpa using hw
  subst e
  have ez : zs = [] := by
    cases rz
    rfl
  subst ez
  refine h A outer s H us [] vs [] Q E hr hg e0 r .nil hn rfl ?_
  rw [List.append_nil] at hsp ⊢
  rw [show ps.length = vs.length by rw [r.length, hn], pick_range, ← show ps.length = vs.length by rw [r.length, hn]]
  exact hsp
/-- a def with a star parameter -/
theorem fnF_st {c : Cxt} {fb : Sl → Option Fl} {x qual : Str} {st : Stmt} {f : Addr} {fd : FuncData} {N qs : List Str} {pv : Str} {k n : Nat} {keep : List Nat} {con : List (Str × D)} (F : Fun K x qual st f fd) (M : Md g K mg con) (S : FnScope N (qs ++ [pv]) (defScope st)) (hN : c.N = N) (hl : c.look = (defScope st).names) (hcon : c.con = con) (hpr : c.prot = keep) (hblk : c.blk = none)
    (B : BodyOk P w K mg base k g c fb (defBody st)) (hn : qs.length ≤ n)
    (hb : ∀ (kV doc pm : Value) (an : Option Addr) (cdv ct : Value) (us : List Value), us.length = n → bindArgs (PySem.W.fnOf x qual (defArgs st) (defBody st) (defScope st) .none kV doc pm an cdv ct) ⟨us, []⟩ = (newTuple (us.drop qs.length) >>= fun t => pure (qs.zip (us.take qs.length) ++ [(pv, t)]))) :
    FnF P w K mg base (k + 1) f n [] (spStar g (denB fb (qs.length + 1) N.length keep) qs.length) := by
  obtain ⟨oc, od, kV, doc, pm, an, cdv, ct, osl, rfl, lk, hcd⟩ := F.ex
  intro A outer s H us ws vs zs Q E hr hg e0 r rz hun hw hsp
  have e : ws = [] := by simpa using hw
  subst e
  have ez : zs = [] := by
    cases rz
    rfl
  subst ez
  rw [List.append_nil] at hsp
  obtain ⟨hz, hsp⟩ := hsp
  have hvl : vs.length = n := by rw [r.length, hun]
  have fresh : H s.heap.objs.size = Option.none := e0.hok.fresh (Nat.le_refl _)
  refine StX.run_bnd (k := k) (G := fun xs H2 => ∃ p, H p = Option.none ∧ xs = vs.take qs.length ++ [V.ref p] ∧ H2 = upd H p (.tup (vs.drop qs.length))) lk hcd S hr e0 (fun A' Ex Q' h => ?_) fun s2 H2 xs ⟨p, hp, ex, eh⟩ hr' => ?_
  · have hb1 := hb kV doc pm an cdv ct us hun
    show wpAny _ A' (bindArgs _ ⟨us, []⟩) Q' Ex s
    rw [hb1]
    have rd := r.drop qs.length
    refine wpAny_bind (wpAny_newTuple (wpAny_pure ?_) (by rw [← rd.length]; exact hz))
    have nw : ObjOk P w (upd H s.heap.objs.size (.tup (vs.drop qs.length))) (s.heap.push ({ cls := .type "tuple", data := .seq (us.drop qs.length).toArray } : Obj)) s.heap.objs.size (.tup (vs.drop qs.length)) := ⟨hz, us.drop qs.length, rd, ⟨_, Heap.get?_push_size _ rfl, rfl, _, rfl⟩⟩
    have un := StX.un_laid (fs := frs outer) (s := s) (o := ({ cls := .type "tuple", data := .seq (us.drop qs.length).toArray } : Obj)) (u := .tup (vs.drop qs.length)) fresh
    have z := h _ _ (vs.take qs.length ++ [V.ref s.heap.objs.size]) (us.take qs.length ++ [Value.ref s.heap.objs.size]) (StX.env0_laid e0 nw) un rfl (fun e s' => StX.cxUp outer s H _ _ E e s' un (fun b o q => Heap.get?_push_of_some _ q) rfl) ((r.take qs.length).append (.cons rfl .nil))
      (by rw [List.length_append, List.length_append, List.length_take]; simp; omega) ⟨_, fresh, rfl, rfl⟩
    rw [List.zip_append (by rw [List.length_take]; omega)] at z
    exact z
  · subst ex eh
    have := body_read (x := x) (ps := qs ++ [pv]) M S hN hl hcon hpr hblk B A outer s2 (upd H p (.tup (vs.drop qs.length))) (vs.take qs.length ++ [V.ref p]) Q E hg hr' (by rw [List.length_append, List.length_append, List.length_take]; simp; omega)
    rw [List.length_append] at this
    exact this (hsp p hp)
end
end DL
namespace DL
open PySem PySem.Spec PyProof.Rows L2

section
variable {X : Cx} {g : Gx} {c : Cxt} {W : WX} {e1 e2 ex : Expr} {es : List Expr} {fa fb : Sl → Option (Rs T)} {pos apos cpos : Pos} {e : Fr0} {ρ ρ' : Sl} {τ : Tm} {σ σ' : L2.St} {H H' Hs Hs' : Hp}
def isLst : T → Bool
  | .lst _ => true
  | _ => false
theorem isLst_ex {t : T} (h : isLst t = true) : ∃ ts, t = .lst ts := by
  cases t <;> first | exact ⟨_, rfl⟩ | (simp [isLst] at h)
/-- a list's method on a part of a slot, arguments pure and frozen -/
def evMmP (m : Mm) (a : Pt) (ts : List T) (ρ : Sl) : Option (Rs T) :=
  match rsvPt a ρ with
  | some (i, p, s) => match mmT m s ts with
    | some (s', u) => match ρ[i]? with
      | some (some t) => some (.ok u (ρ.set i (some (putT p t s'))))
      | _ => none
    | none => none
  | none => none
theorem mmT_lst {m : Mm} {s s' u : T} {us : List T} (h : mmT m s us = some (s', u)) : ∃ ts, s = .lst ts := by
  unfold mmT at h
  split at h <;> first | exact ⟨_, rfl⟩ | (cases h; done)
theorem cj_mmP0 (k : Cp X g c) {m : Mm} {a : Pt} {o : Expr} {nm : Str} (hn : nm = m.nm) (ha : mtPt c a o = true) (hl : (apos.endLine == cpos.line) = true) : CJ X g W (evMmP m a []) (.Call (.Attribute o nm apos) [] [] cpos) := by
  obtain ⟨id, r, hm, h1, h2, h3, rr⟩ := mmR (X := X) (g := g) m
  obtain ⟨ta, pa, ra⟩ := sndPt k a o ha
  subst hn
  refine ⟨_, pe_bm0 h1 h2 h3 hm pa (att_base ha) hl, fun e ρ τ σ H Hs Q o q => ?_⟩
  unfold evMmP at q
  split at q
  · rename_i i p s hr
    split at q
    · rename_i s' u hmm
      obtain ⟨O, vw⟩ := o.view
      refine ra ρ σ H Hs O i p s vw hr _ fun w pt => ⟨pt.listy k.hk (mmT_lst hmm), ?_⟩
      refine o.nilG.atPt pt hmm rr fun t v' H' ht o2 => ?_
      rw [ht] at q
      exact q v' H' Hs o2
    · exact q.elim
  · exact q.elim
theorem cj_mmP1 (k : Cp X g c) {m : Mm} {a : Pt} {b : P} {o x : Expr} {nm : Str} (hn : nm = m.nm) (ha : mtPt c a o = true) (hb : PJ X g (evP b) x) (hs : starB x = false) (hl : (apos.endLine == cpos.line) = true) : CJ X g W (fun ρ => match evP b ρ with | some (.fz d) => evMmP m a [.fz d] ρ | _ => none) (.Call (.Attribute o nm apos) [x] [] cpos) := by
  obtain ⟨id, r, hm, h1, h2, h3, rr⟩ := mmR (X := X) (g := g) m
  obtain ⟨ta, pa, ra⟩ := sndPt k a o ha
  obtain ⟨tb, pb, rb⟩ := hb
  subst hn
  refine ⟨_, pe_bm h1 h2 h3 hm pa (pa_one pb hs) (att_base ha) (few_ok (by simpa using hs) (by simp)) hl (star_cons hs) (by rfl), fun e ρ τ σ H Hs Q o q => ?_⟩
  dsimp only at q
  split at q
  · rename_i d hd
    unfold evMmP at q
    split at q
    · rename_i i p s hr
      split at q
      · rename_i s' u hmm
        obtain ⟨O, vw⟩ := o.view
        refine ra ρ σ H Hs O i p s vw hr _ fun w pt => ⟨pt.listy k.hk (mmT_lst hmm), ?_⟩
        refine rb ρ σ H Hs O _ vw hd _ fun v fp rv => ?_
        have rv := rv.r
        simp only [RepT] at rv
        refine (o.push rv.1).atPt pt hmm rr fun t v' H' ht o2 => ?_
        rw [ht] at q
        exact q v' H' Hs o2
      · exact q.elim
    · exact q.elim
  · exact q.elim
/-- a list's method on a slot's own list, any arguments -/
def evMm (m : Mm) (i : Nat) (us : List T) (ρ : Sl) : Option (Rs T) :=
  match ρ[i]? with
  | some (some t) => match mmT m t us with
    | some (t', u) => some (.ok u (ρ.set i (some t')))
    | none => none
  | _ => none
def lstAt (i : Nat) (ρ : Sl) : Bool := match ρ[i]? with
  | some (some (.lst _)) => true
  | _ => false
theorem lstAt_ty (hk : g.K = X.K) {i : Nat} (o : Ok g e ρ τ σ H Hs) (h : lstAt i ρ = true) : ∃ v, σ[i]? = some (some v) ∧ tyV X.K "list" v H := by
  unfold lstAt at h
  split at h <;> (try (cases h; done))
  rename_i ts ht
  obtain ⟨v, f, hv, r⟩ := o.get ht
  simp only [RepT] at r
  obtain ⟨a, vs, f', rfl, ha, _⟩ := r
  exact ⟨_, hv, .inl ⟨rfl, vs, SqL.of ha⟩⟩
theorem cj_mm (k : Cp X g c) {m : Mm} {i : Nat} {x nm : Str} {xp : Pos} {fr : Sl → Option (Rs (List T))} (hn : nm = m.nm) (hx : c.N[i]? = some x) (hv : visB c x = true) (hs : ∀ y ∈ e1 :: es, starB y = false) (hle : es.length < 25) (ha : AJ X g W fr (e1 :: es)) (hl : (apos.endLine == cpos.line) = true) :
    CJ X g W (fun ρ => if lstAt i ρ = true then bindR (fr ρ) fun us ρ1 => evMm m i us ρ1 else none) (.Call (.Attribute (.Name x xp) nm apos) (e1 :: es) [] cpos) := by
  obtain ⟨id, r, hm, h1, h2, h3, rr⟩ := mmR (X := X) (g := g) m
  obtain ⟨v1, v2, v3⟩ := k.vis hv
  obtain ⟨ta, pa, ra⟩ := ha
  subst hn
  refine ⟨_, pe_bm h1 h2 h3 hm (pe_var (i := i) (by rw [k.N]; exact hx) v1 v2 v3) pa (by rfl) (few_ok hs hle) hl (star_cons (hs _ (by simp))) (star_none fun y hy => hs y (by simp [hy])), fun e ρ τ σ H Hs Q o q => ?_⟩
  dsimp only at q
  split at q
  · rename_i hl
    obtain ⟨v, hv, ty⟩ := lstAt_ty k.hk o hl
    refine ⟨v, hv, ty, ra e ρ τ σ H Hs _ o (Post.bind q fun us ρ1 _ ws H1 Hs1 o1 q1 => ?_)⟩
    unfold evMm at q1
    split at q1
    · rename_i t ht
      split at q1
      · rename_i t' u hmm
        obtain ⟨v2, fp, hv2, rt⟩ := o1.get ht
        rw [hv] at hv2
        cases hv2
        refine o1.atPt (i := i) (p := []) (s := t) ⟨⟨v, t, fp, hv, ht, by simp [subT], rt, by simp [Chain]⟩, fp, rt⟩ hmm rr fun t2 v' H' ht2 o2 => ?_
        simp only [putT] at o2
        exact q1 v' H' Hs1 o2
      · exact q1.elim
    · exact q1.elim
  · exact q.elim

/-! x[..] = e -/
def putKey (ks : List Key) (ts : List T) (k : Key) (u : T) : List Key × List T :=
  match keyIx ks k with
  | some j => (ks, ts.set j u)
  | none => (ks ++ [k], ts ++ [u])
def setT : T → D → T → Option T
  | .lst ts, .int i, u => (ixN ts.length i).map fun j => .lst (ts.set j u)
  | .dic ks ts, d, u => match keyOf d with
    | some k => if ks.length < sizeLine ∧ ks.Nodup then some (.dic (putKey ks ts k u).1 (putKey ks ts k u).2) else none
    | none => none
  | _, _, _ => none
theorem putK_ix : ∀ {ks : List Key} {vs : List V} {k : Key} {v : V}, ks.Nodup → ks.length = vs.length → putK (ks.zip vs) k v = (match keyIx ks k with | some j => ks.zip (vs.set j v) | none => (ks ++ [k]).zip (vs ++ [v])) := by
  intro ks
  have any_eq : ∀ (ks : List Key) (vs : List V) (k : Key), ks.length = vs.length → ((ks.zip vs).any fun kv => decide (kv.1 = k)) = (keyIx ks k).isSome := by
    intro ks
    induction ks with
    | nil => intro vs k h; rfl
    | cons k0 ks ih =>
      intro vs k h
      cases vs with
      | nil => simp at h
      | cons v0 vs =>
        rw [List.zip_cons_cons, List.any_cons, ih vs k (by simpa using h)]
        simp only [keyIx]
        by_cases z : k0 = k
        · simp [z]
        · simp [z]
  have map_eq : ∀ (ks : List Key) (vs : List V) (k : Key) (v : V) (j : Nat), ks.Nodup → ks.length = vs.length → keyIx ks k = some j → (ks.zip vs).map (fun kv => if kv.1 = k then (kv.1, v) else kv) = ks.zip (vs.set j v) := by
    intro ks
    induction ks with
    | nil => intro vs k v j _ _ h; simp [keyIx] at h
    | cons k0 ks ih =>
      intro vs k v j nd hl h
      cases vs with
      | nil => simp at hl
      | cons v0 vs =>
        simp only [keyIx] at h
        have nd' := List.nodup_cons.mp nd
        split at h
        · rename_i z
          cases h
          subst z
          rw [List.zip_cons_cons, List.map_cons, List.set_cons_zero, List.zip_cons_cons]
          have : (ks.zip vs).map (fun kv => if kv.1 = k0 then (kv.1, v) else kv) = ks.zip vs := by
            conv => rhs; rw [← List.map_id (ks.zip vs)]
            refine List.map_congr_left fun p hp => ?_
            have : p.1 ≠ k0 := fun z => nd'.1 (z ▸ (List.of_mem_zip (a := p.1) (b := p.2) hp).1)
            simp [this]
          rw [this]
          simp
        · rename_i z
          simp only [Option.map_eq_some_iff] at h
          obtain ⟨j', h, rfl⟩ := h
          rw [List.zip_cons_cons, List.map_cons, List.set_cons_succ, List.zip_cons_cons, ih vs k v j' nd'.2 (by simpa using hl) h]
          simp [z]
  intro vs k v nd hl
  unfold putK
  rw [any_eq ks vs k hl]
  cases h : keyIx ks k with
  | none =>
    simp only [Option.isSome_none, Bool.false_eq_true, if_false]
    rw [List.zip_append hl]
    rfl
  | some j =>
    simp only [Option.isSome_some, if_true]
    exact map_eq ks vs k v j nd hl h
def rSet : V → V → V → Hp → (Hp → Prop) → Prop := fun o i v H Q => rSetL o i v H Q ∨ ∃ a H', o = .ref a ∧ DPut H a i v H' ∧ Q H'
theorem set_any (hu : X.A.units + 1 < cLine) : PSet X rSet := by
  intro pn s σ H o i v ov iv u Q I ro ri rv h
  rcases h with h | ⟨a, H', rfl, dp, q⟩
  · exact set_list pn s σ H o i v ov iv u Q I ro ri rv h
  · cases ro
    exact d_setItem hu I dp ri rv fun s' I' => ⟨H', I', q⟩
theorem sub_plain {a : Pt} {c : Cxt} {o i : Expr} {tp : Pos} {env : PySem.Env} (h : mtPt c a o = true) (hi : slB i = false) (v : Value) : assign (.Subscript o i tp) env v = (do
      let ov ← holding [v] (eval o env)
      let iv ← holding [v, ov] (eval i env)
      standAt tp
      holding [v, ov, iv] (setItem ov iv v)
      release [v, ov, iv] []) := by
  cases o <;> first
    | (cases i <;> first | rfl | (simp [slB] at hi; done))
    | (cases a <;> simp [mtPt] at h)
theorem asg_sub_none {o i v : Expr} {tp : Pos} {l : Nat} {env : PySem.Env} : swapsWithSole [.Subscript o i tp] v l env = pure false := by
  unfold swapsWithSole swapsWith
  cases v <;> rfl
theorem RepTs.upd1 {ts : List T} {vs : List V} {f fu : List Addr} {j : Nat} {u : T} {y : V} (r : RepTs g Hs H ts vs f) (ru : RepT g Hs H u y fu) (hj : j < ts.length) : ∃ f', RepTs g Hs H (ts.set j u) (vs.set j y) f' ∧ ∀ a, f'.count a ≤ fu.count a + f.count a := by
  induction ts generalizing vs f j with
  | nil => simp at hj
  | cons t ts ih =>
    simp only [RepTs] at r
    obtain ⟨v, vs', f1, f2, rfl, rfl, q, r⟩ := r
    cases j with
    | zero =>
      refine ⟨fu ++ f2, ?_, fun a => by simp only [List.count_append]; omega⟩
      simp only [List.set_cons_zero, RepTs]
      exact ⟨y, vs', fu, f2, rfl, rfl, ru, r⟩
    | succ j =>
      obtain ⟨f', q', c⟩ := ih r (by simpa using hj)
      refine ⟨f1 ++ f', ?_, fun a => by have := c a; simp only [List.count_append]; omega⟩
      simp only [List.set_cons_succ, RepTs]
      exact ⟨v, _, f1, f', rfl, rfl, q, q'⟩
theorem keyIx_lt : ∀ {ks : List Key} {k : Key} {j : Nat}, keyIx ks k = some j → j < ks.length
  | [], _, _, h => by simp [keyIx] at h
  | k0 :: ks, k, j, h => by
    simp only [keyIx] at h
    split at h
    · cases h; simp
    · simp only [Option.map_eq_some_iff] at h
      obtain ⟨j', h, rfl⟩ := h
      have := keyIx_lt h
      simpa using this
theorem Ok.setPt {i : Nat} {p : List Nat} {s s' t : T} {w y v : V} {d : D} (hk : g.K = X.K) (o : Ok g e ρ (([v], [t]) :: τ) σ H Hs) (pt : PtAt g Hs H ρ σ i p s w) (rd : Rep g H d y) (hs : setT s d t = some s') {Q : Hp → Prop}
    (q : ∀ t0 H', ρ[i]? = some (some t0) → Ok g e (ρ.set i (some (putT p t0 s'))) τ σ H' Hs → Q H') : rSet w y v H Q := by
  obtain ⟨v0, t0, fp, e1, e2, e3, e4, e5⟩ := pt.at_
  obtain ⟨v2, hv, o1⟩ := o.take e2
  rw [e1] at hv
  cases hv
  have hn : (∃ ts, s = .lst ts) ∨ ∃ ks ts, s = .dic ks ts := by
    unfold setT at hs
    split at hs <;> first | exact .inl ⟨_, rfl⟩ | exact .inr ⟨_, _, rfl⟩ | (cases hs; done)
  obtain ⟨D0, ho, ts, acc, ch, hD, nd, hl, hw, kk⟩ := o1.swap.wrP e3 hn
  have := e5.det ch
  subst this
  have fin : ∀ H', Ok g e (ρ.set i none) (([], []) :: ([v0], [putT p t0 s']) :: τ) σ H' Hs → Q H' := fun H' o2 => by
    refine q t0 H' e2 ?_
    have o3 := o2.drop.back (i := i) e1
    rw [List.set_set] at o3
    exact o3
  have nilR : ∀ H', RepTs g Hs H' [] [] [] := fun H' => by simp only [RepTs]; exact ⟨trivial, trivial⟩
  cases nd with
  | lst =>
    cases d <;> simp only [setT, reduceCtorEq] at hs
    rename_i i2
    simp only [Option.map_eq_some_iff] at hs
    obtain ⟨j, hj, rfl⟩ := hs
    simp only [Rep] at rd
    subst rd
    refine .inl ⟨D0, acc, i2, j, rfl, rfl, hD, by rw [hl]; exact hj, fin _ ?_⟩
    refine kk _ _ _ _ [] [] .lst fun H' fu f kp ru rl => ?_
    obtain ⟨f', r', c'⟩ := RepTs.upd1 rl (RepTs.one.mp ru) (ixN_seq hj).2.1
    exact ⟨f', [], r', nilR H', fun a => by simpa using c' a⟩
  | dic l =>
    rename_i ks
    simp only [setT] at hs
    split at hs <;> (try (cases hs; done))
    rename_i kx hkx
    split at hs <;> (try (cases hs; done))
    rename_i hz
    cases hs
    have ey := keyOf_kV hkx rd
    subst ey
    refine .inr ⟨D0, _, rfl, DPut.k hD (by rw [List.length_zip, l, Nat.min_self, ← l]; exact hz.1), ?_⟩
    rw [putK_ix hz.2 l]
    cases hj : keyIx ks kx with
    | none =>
      have o2 := kk (.dic (ks ++ [kx]) (ts ++ [t])) (.dK ((ks ++ [kx]).zip (acc ++ [v]))) (ts ++ [t]) (acc ++ [v]) [] [] (.dic (by simp [l])) fun H' fu f kp ru rl => ⟨f ++ fu, [], RepTs.append rl ru, nilR H', fun a => by rw [List.count_append]; simp; omega⟩
      refine fin _ ?_
      unfold putKey
      rw [hj]
      exact o2
    | some j =>
      have hjl := keyIx_lt hj
      have o2 := kk (.dic ks (ts.set j t)) (.dK (ks.zip (acc.set j v))) (ts.set j t) (acc.set j v) [] [] (.dic (by simp [l])) fun H' fu f kp ru rl => by
        obtain ⟨f', r', c'⟩ := RepTs.upd1 rl (RepTs.one.mp ru) (show j < ts.length by omega)
        exact ⟨f', [], r', nilR H', fun a => by simpa using c' a⟩
      refine fin _ ?_
      unfold putKey
      rw [hj]
      exact o2
def evSet (a : Pt) (q : P) (t : T) (ρ : Sl) : Option Fl :=
  match rsvPt a ρ with
  | some (i, p, s) => match evP q ρ with
    | some x => match setT s x.d t with
      | some s' => match ρ[i]? with
        | some (some t0) => some (.nx (ρ.set i (some (putT p t0 s'))))
        | _ => none
      | none => none
    | none => none
  | none => none
/-- x[..][k] = e -/
theorem sj_set (k : Cp X g c) {a : Pt} {q : P} {o i v : Expr} {tp : Pos} (ha : mtPt c a o = true) (hi : slB i = false) (hq : PJ X g (evP q) i) (hv : CJ X g W fa v) : SJ X g c W (fun ρ => bindE (fa ρ) fun t ρ1 => evSet a q t ρ1) (.Assign [.Subscript o i tp] v pos) := by
  obtain ⟨to, po, ro⟩ := sndPt k a o ha
  obtain ⟨ti, pi, ri⟩ := hq
  obtain ⟨tv, pv, rv⟩ := hv
  refine ⟨_, ps_asg pv (pg_sub po pi (set_any (by have := k.hu; omega)) (sub_plain ha hi)) asg_sub_none (by rfl), fun e ρ τ σ H Hs D hp o q => ?_⟩
  refine rv e ρ τ σ H Hs _ o (PostS.bindE q fun t ρ1 _ v H1 Hs1 o1 q1 => ?_)
  unfold evSet at q1
  split at q1 <;> (try exact q1.elim)
  rename_i i p s hr
  split at q1 <;> (try exact q1.elim)
  rename_i x hx
  split at q1 <;> (try exact q1.elim)
  rename_i s' hs
  obtain ⟨O, vw⟩ := o1.view
  refine ro ρ1 σ H1 Hs1 O i p s vw hr _ fun w pt => ri ρ1 σ H1 Hs1 O x vw hx _ fun y fy ry => ?_
  refine o1.setPt k.hk pt (ry.r.now vw.sub) hs fun t0 H' ht o2 => ?_
  rw [ht] at q1
  exact q1 σ H' Hs1 o2
end
end DL
namespace DL
open PySem PySem.Spec PyProof.Rows L2

/-! ### lists and tuples put together, cut -/
def lstItems : T → Option (List T)
  | .fz (.lst ds) => some (ds.map T.fz)
  | .lst ts => some ts
  | _ => none
def cutG {α : Type} (xs : List α) (lo hi : Option Int) : List α := (xs.drop (HT.sIx xs.length 0 lo)).take (HT.sIx xs.length xs.length hi - HT.sIx xs.length 0 lo)
def addT (x y : T) : Option T :=
  match lstItems x, lstItems y with
  | some us, some ws => if us.length + ws.length ≤ sizeLine then some (.lst (us ++ ws)) else none
  | _, _ => match kidsT x, kidsT y with
    | some us, some ws => if us.length + ws.length ≤ sizeLine ∧ us ≠ [] then some (if ws = [] then x else tupT (us ++ ws)) else none
    | _, _ => (o2 .add x.d y.d).map T.fz
def sliceT (x : T) (lo hi : Option Int) : Option T :=
  match lstItems x with
  | some us => some (.lst (cutG us lo hi))
  | none => match kidsT x with
    | some us => if HT.sIx us.length 0 lo = 0 ∧ HT.sIx us.length us.length hi = us.length then none else some (tupT (cutG us lo hi))
    | none => match x with
      | .fz (.str z) => if z.length ≤ sizeLine then some (.fz (.str (cutS z lo hi))) else none
      | _ => none
section
variable {X : Cx} {g : Gx} {c : Cxt} {W : WX} {e1 e2 e3 ex : Expr} {es : List Expr} {fa fb fd : Sl → Option (Rs T)} {pos apos cpos : Pos} {e : Fr0} {ρ ρ' : Sl} {τ : Tm} {σ σ' : L2.St} {H H' Hs Hs' : Hp}
def rCatR : R2 := fun x y H Q => ∃ l b xs zs, x = .ref l ∧ y = .ref b ∧ Rd H l (.lst xs) ∧ Rd H b (.lst zs) ∧ xs.length + zs.length ≤ sizeLine ∧ ∀ p, H p = none → Q (.ref p) (upd H p (.lst (xs ++ zs)))
theorem op_catR : OpR X (binaryOp .Add) rCatR := by
  intro pn s σ H x y v u Q I rx ry h
  obtain ⟨l, b, xs, zs, rfl, rfl, hl, hb, hz, q⟩ := h
  cases rx
  cases ry
  obtain ⟨_, i1, n1, r1, e1⟩ := hl.ok I.hok
  obtain ⟨_, i2, n2, r2, e2⟩ := hb.ok I.hok
  have l1 := r1.length
  have l2 := r2.length
  refine PySem.P.add_list e1 e2 ?_ (by rw [List.size_toArray, List.size_toArray]; omega)
  rw [show i1.toArray ++ i2.toArray = (i1 ++ i2).toArray by simp]
  exact ⟨.ref _, _, I.lnew (t' := s.toks) (r1.append r2) (by rw [List.length_append]; exact hz), rfl, q _ I.fresh⟩
/-- a list at hand: its parts at hand -/
theorem Ok.items {v : V} {t : T} {us : List T} (o : Ok g e ρ (([v], [t]) :: τ) σ H Hs) (h : lstItems t = some us) : ∃ a vs, v = .ref a ∧ Rd H a (.lst vs) ∧ vs.length = us.length ∧ Ok g e ρ ((vs, us) :: τ) σ H Hs := by
  unfold lstItems at h
  split at h
  · rename_i ds
    cases h
    obtain ⟨f, r⟩ := o.top
    simp only [RepT, Rep] at r
    obtain ⟨⟨a, vs, rfl, q, r⟩, _⟩ := r
    exact ⟨a, vs, rfl, Same.rd o.sub q, by rw [r.length, List.length_map], o.drop.pushs r⟩
  · rename_i ts
    cases h
    obtain ⟨fs, ft, r1, r2, c, n⟩ := o.own
    obtain ⟨f, f', ef, z, r⟩ := r2
    have z' := RepTs.one.mp z
    clear z
    simp only [RepT] at z'
    obtain ⟨a, vs, f1, rfl, q, rfl, z⟩ := z'
    subst ef
    exact ⟨a, vs, rfl, .inl q, z.length, o.sub, o.sub0, o.new, o.frame, o.there, o.fix, fs, f1 ++ f', r1, ⟨f1, f', rfl, z, r⟩, fun b => by have := c b; simp only [List.cons_append, List.count_cons] at this; omega, fun b hb => n b (hb.imp id fun z => by simp only [List.cons_append, List.mem_cons]; exact .inr z)⟩
  · cases h
/-- the parts of a new tuple -/
theorem Ok.newTup {vs : List V} {ts : List T} {p : Addr} (o : Ok g e ρ ((vs, ts) :: τ) σ H Hs) (hp : H p = none) : Ok g e ρ (([.ref p], [tupT ts]) :: τ) σ (upd H p (.tup vs)) (upd Hs p (.tup vs)) := by
  refine o.pack (ps := []) (upd_keep hp) (fun _ z => nomatch z) (fun _ z => nomatch z) List.nodup_nil (Same_upd (o.freeS hp)) (fun a u z => ?_) (fun a z => ?_) (fun _ z => nomatch z) fun f r => by
    rw [List.nil_append]
    exact tupT_rep upd_same r
  · by_cases h : a = p
    · subst h; rw [upd_same] at z ⊢; exact z
    · rw [upd_ne h] at z ⊢; exact o.sub a u z
  · by_cases h : a = p
    · subst h; exact .inr hp
    · rw [upd_ne h] at z; exact .inl z
theorem cj_add (k : Cp X g c) (ha : CJ X g W fa e1) (hb : CJ X g W fb e2) : CJ X g W (fun ρ => bindR (fa ρ) fun x ρ1 => bindR (fb ρ1) fun y ρ2 => okR (addT x y) ρ2) (.BinOp e1 .Add e2 pos) := by
  obtain ⟨ta, pa, ra⟩ := ha
  obtain ⟨tb, pb, rb⟩ := hb
  obtain ⟨r, hr, rr⟩ := opD (X := X) k.hk (by have := k.hu; omega) .add
  refine ⟨_, pe_op (op_catR.or (op_catT.or hr)) pa pb, fun e ρ τ σ H Hs Q o q => ?_⟩
  refine ra e ρ τ σ H Hs _ o (Post.bind q fun x ρ1 _ va H1 Hs1 o1 q1 => ?_)
  refine rb e ρ1 _ σ H1 Hs1 _ o1 (Post.bindD q1 fun y ρ2 _ vb H2 Hs2 o2 q2 => ?_)
  obtain ⟨t, ht, q2⟩ := q2.okR
  unfold addT at ht
  split at ht
  · rename_i us ws hx hy
    split at ht <;> (try (cases ht; done))
    rename_i hz
    cases ht
    obtain ⟨b, vb', rfl, h1, h2, o3⟩ := o2.items hy
    obtain ⟨a, va', rfl, h3, h4, o4⟩ := o3.swap.items hx
    exact .inl ⟨a, b, va', vb', rfl, rfl, h3, h1, by rw [h4, h2]; exact hz, fun p hp => q2 _ _ _ (o4.swap.merge.newList hp)⟩
  · split at ht
    · rename_i us ws hx hy
      split at ht <;> (try (cases ht; done))
      rename_i hz
      cases ht
      obtain ⟨b, vb', rfl, h1, h2, o3⟩ := o2.kids hy
      obtain ⟨a, va', rfl, h3, h4, o4⟩ := o3.swap.kids hx
      refine .inr (.inl ⟨a, b, va', vb', rfl, rfl, k.hk ▸ h3, k.hk ▸ h1, fun z => hz.2 (List.length_eq_zero_iff.mp (by rw [← h4, z]; rfl)), by rw [h4, h2]; exact hz.1, fun z => ?_, fun z p hp => ?_⟩)
      · have : ws = [] := List.length_eq_zero_iff.mp (by rw [← h2, z]; rfl)
        rw [if_pos this] at q2
        exact q2 _ _ _ o2.drop
      · have : ws ≠ [] := fun z' => z (List.length_eq_zero_iff.mp (by rw [h2, z']; rfl))
        rw [if_neg this] at q2
        exact q2 _ _ _ (o4.swap.merge.newTup hp)
    · simp only [Option.map_eq_some_iff] at ht
      obtain ⟨d, hd, rfl⟩ := ht
      obtain ⟨fy, ry⟩ := o2.top
      obtain ⟨fx, rx⟩ := o2.swap.top
      obtain ⟨h1, h2⟩ := rr H2 x.d y.d va vb d (rx.now o2.sub) (ry.now o2.sub) hd
      exact .inr (.inr (h2 Q (q2 _ H2 Hs2 (o2.drop.drop.push (Rep.at h1)))))
/-! slices -/
def POJ (X : Cx) (g : Gx) (W : WX) (f : Sl → Option (Rs (Option Int))) (p : Option Expr) : Prop :=
  ∃ tp, PO X p tp ∧ ∀ e ρ τ σ H Hs (Q : Option Int → Hp → Prop), Ok g e ρ τ σ H Hs → (match f ρ with
    | none => False
    | some (.ok i ρ') => ∀ H' Hs', Ok g e ρ' τ σ H' Hs' → Q i H'
    | some (.ex c t ρ') => XP g W e τ σ c t ρ') → tp σ H Q
theorem poj_none : POJ X g W (fun ρ => some (.ok none ρ)) none := ⟨_, po_none, fun e ρ τ σ H Hs Q o q => q H Hs o⟩
def intD : D → Option Int
  | .int i => some i
  | _ => none
theorem poj_some (ha : CJ X g W fa e1) : POJ X g W (fun ρ => bindR (fa ρ) fun x ρ1 => okR ((intD x.d).map some) ρ1) (some e1) := by
  obtain ⟨ta, pa, ra⟩ := ha
  refine ⟨_, po_some pa, fun e ρ τ σ H Hs Q o q => ?_⟩
  refine ra e ρ τ σ H Hs _ o ?_
  dsimp only at q
  cases h : fa ρ with
  | none => rw [h] at q; exact q
  | some r =>
    rw [h] at q
    cases r with
    | ex c t ρ' => exact q
    | ok x ρ1 =>
      intro v H1 Hs1 o1
      simp only [bindR] at q
      obtain ⟨f, rx⟩ := o1.top
      have rx := rx.now o1.sub
      cases hd : x.d <;> rw [hd] at q rx <;> (try exact q.elim)
      simp only [Rep] at rx
      exact ⟨_, rx, q H1 Hs1 o1.drop⟩
theorem RepTs.cut {ts : List T} {vs : List V} {f : List Addr} (r : RepTs g Hs H ts vs f) (lo hi : Option Int) : ∃ f', RepTs g Hs H (cutG ts lo hi) (cutV vs lo hi) f' ∧ ∀ a, f'.count a ≤ f.count a := by
  have hl := r.length
  unfold cutG cutV
  rw [hl]
  obtain ⟨f1, f2, _, r2, rfl⟩ := RepTs.split (HT.sIx ts.length 0 lo) r
  obtain ⟨f3, f4, r3, _, rfl⟩ := RepTs.split (HT.sIx ts.length ts.length hi - HT.sIx ts.length 0 lo) r2
  exact ⟨f3, r3, fun a => by simp only [List.count_append]; omega⟩
theorem Ok.cutH {vs : List V} {ts : List T} (lo hi : Option Int) (o : Ok g e ρ ((vs, ts) :: τ) σ H Hs) : Ok g e ρ ((cutV vs lo hi, cutG ts lo hi) :: τ) σ H Hs := by
  obtain ⟨fs, ft, r1, r2, c, n⟩ := o.own
  obtain ⟨f, f', rfl, z, r⟩ := r2
  obtain ⟨f1, r3, c3⟩ := z.cut lo hi
  refine ⟨o.sub, o.sub0, o.new, o.frame, o.there, o.fix, fs, f1 ++ f', r1, ⟨f1, f', rfl, r3, r⟩, fun a => ?_, fun a ha => n a ?_⟩
  · have := c a; have := c3 a; simp only [List.count_append] at *; omega
  · refine ha.imp id fun z => ?_
    rcases List.mem_append.mp z with z | z
    · have := List.count_pos_iff.mpr z
      have := c3 a
      exact List.mem_append.mpr (.inl (List.count_pos_iff.mp (by omega)))
    · exact List.mem_append.mpr (.inr z)
theorem cj_slice {lo hi : Option Expr} {fl fh : Sl → Option (Rs (Option Int))} {p2 : Pos} (k : Cp X g c) (ha : CJ X g W fa e1) (hl : POJ X g W fl lo) (hh : POJ X g W fh hi) : CJ X g W (fun ρ => bindR (fa ρ) fun x ρ1 => bindR (fl ρ1) fun l ρ2 => bindR (fh ρ2) fun h ρ3 => okR (sliceT x l h) ρ3) (.Subscript e1 (.Slice lo hi none p2) pos) := by
  obtain ⟨ta, pa, ra⟩ := ha
  obtain ⟨tl, pl, rl⟩ := hl
  obtain ⟨th, ph, rh⟩ := hh
  refine ⟨_, pe_slice (sl_list.or (sl_tup.or sl_str)) pa pl ph, fun e ρ τ σ H Hs Q o q => ?_⟩
  refine ra e ρ τ σ H Hs _ o (Post.bind q fun x ρ1 _ va H1 Hs1 o1 q1 => ?_)
  refine rl e ρ1 _ σ H1 Hs1 _ o1 ?_
  cases h1 : fl ρ1 with
  | none => rw [h1] at q1; exact q1
  | some r1 =>
    rw [h1] at q1
    cases r1 with
    | ex c t ρ' => exact XP.drop q1
    | ok l ρ2 =>
      intro H2 Hs2 o2
      simp only [bindR] at q1
      refine rh e ρ2 _ σ H2 Hs2 _ o2 ?_
      cases h2 : fh ρ2 with
      | none => rw [h2] at q1; exact q1
      | some r2 =>
        rw [h2] at q1
        cases r2 with
        | ex c t ρ' => exact XP.drop q1
        | ok u ρ3 =>
          intro H3 Hs3 o3
          simp only [bindR] at q1
          obtain ⟨t, ht, q3⟩ := q1.okR
          unfold sliceT at ht
          split at ht
          · rename_i us hx
            cases ht
            obtain ⟨a, vs, rfl, h3, h4, o4⟩ := o3.items hx
            exact .inl ⟨a, vs, rfl, .inl h3, fun p hp => q3 _ _ _ ((o4.cutH l u).newList hp)⟩
          · split at ht
            · rename_i us hx
              split at ht <;> (try (cases ht; done))
              rename_i hz
              cases ht
              obtain ⟨a, vs, rfl, h3, h4, o4⟩ := o3.kids hx
              exact .inr (.inl ⟨a, vs, rfl, k.hk ▸ h3, by rw [h4]; exact hz, fun p hp => q3 _ _ _ ((o4.cutH l u).newTup hp)⟩)
            · split at ht <;> (try (cases ht; done))
              rename_i z hfa _ _
              split at ht <;> (try (cases ht; done))
              rename_i hz
              cases ht
              obtain ⟨f, rx⟩ := o3.top
              simp only [RepT, Rep] at rx
              exact .inr (.inr ⟨z, rx.1, hz, q3 _ _ _ (o3.drop.push (d := .str (cutS z l u)) (by simp only [Rep]))⟩)
end
end DL
namespace DL
open PySem PySem.Spec PyProof.Rows L2

/-! ### built-in functions of values -/
inductive Bf where
  | list | tuple | sorted | all | any | sum | min | max | divmod | repr | bool | str | len | int | abs | min2 | max2
  deriving DecidableEq
def Bf.nm : Bf → Str
  | .list => "list" | .tuple => "tuple" | .sorted => "sorted" | .all => "all" | .any => "any" | .sum => "sum" | .min => "min" | .max => "max" | .divmod => "divmod" | .repr => "repr" | .bool => "bool" | .str => "str"
  | .len => "len" | .int => "int" | .abs => "abs" | .min2 => "min" | .max2 => "max"
def Bf.val : Bf → Value
  | .list => .type "list" | .tuple => .type "tuple" | .bool => .type "bool" | .str => .type "str" | .int => .type "int"
  | .sorted => .builtin "sorted" | .all => .builtin "all" | .any => .builtin "any" | .sum => .builtin "sum" | .min => .builtin "min" | .max => .builtin "max" | .divmod => .builtin "divmod" | .repr => .builtin "repr"
  | .len => .builtin "len" | .abs => .builtin "abs" | .min2 => .builtin "min" | .max2 => .builtin "max"
def intsD : List D → Option (List Int)
  | [] => some []
  | .int i :: ds => (intsD ds).map (i :: ·)
  | _ => none
def blsD : List D → Option (List Bool)
  | [] => some []
  | .bl i :: ds => (blsD ds).map (i :: ·)
  | _ => none
def lstDs (t : T) : Option (List D) := lstD t.d
def sortI (ns : List Int) : List Int := ns.mergeSort (fun a b => decide (a ≤ b))
def maxI : Int → List Int → Int
  | m, [] => m
  | m, n :: ns => maxI (if n > m then n else m) ns
def minI : Int → List Int → Int
  | m, [] => m
  | m, n :: ns => minI (if n < m then n else m) ns
def reprD (d : D) : Option D := if d.py.canLay0 = true ∧ d.py.showable = true ∧ d.py.depth ≤ 60 ∧ d.py.hasDict = false ∧ d.py.shown.length ≤ sizeLine then some (.str d.py.shown) else none
def bfT : Bf → List T → Option T
  | .list, [t] => match lstItems t with
    | some us => some (.lst us)
    | none => (kidsT t).map T.lst
  | .tuple, [t] => match lstItems t with
    | some us => some (tupT us)
    | none => (kidsT t).map fun _ => t
  | .sorted, [t] => ((lstDs t).bind intsD).map fun ns => .lst ((sortI ns).map fun n => .fz (.int n))
  | .all, [t] => ((lstDs t).bind blsD).map fun bs => .fz (.bl (bs.all id))
  | .any, [t] => ((lstDs t).bind blsD).map fun bs => .fz (.bl (bs.any id))
  | .sum, [t] => ((lstDs t).bind intsD).map fun ns => .fz (.int ns.sum)
  | .min, [t] => match (lstDs t).bind intsD with
    | some (n :: ns) => some (.fz (.int (minI n ns)))
    | _ => none
  | .max, [t] => match (lstDs t).bind intsD with
    | some (n :: ns) => some (.fz (.int (maxI n ns)))
    | _ => none
  | .divmod, [t, u] => match t.d, u.d with
    | .int i, .int j => if 0 < j ∧ j < 1073741824 then some (.fz (.tup [.int (i / j), .int (i % j)])) else none
    | _, _ => none
  | .repr, [t] => (reprD t.d).map T.fz
  | .bool, [t] => match t.d with
    | .int i => some (.fz (.bl (i != 0)))
    | .bl b => some (.fz (.bl b))
    | _ => none
  | .str, [t] => match t.d with
    | .int i => if i.natAbs.log2 < 1920 then some (.fz (.str (toString i))) else none
    | _ => none
  | .len, [t] => (b1D .len t.d).map T.fz
  | .int, [t] => (b1D .int t.d).map T.fz
  | .abs, [t] => (b1D .abs t.d).map T.fz
  | .min2, [t, u] => (b2D .min t.d u.d).map T.fz
  | .max2, [t, u] => (b2D .max t.d u.d).map T.fz
  | _, _ => none
section
variable {X : Cx} {g : Gx} {c : Cxt} {W : WX} {e1 e2 e3 ex : Expr} {es : List Expr} {pos : Pos} {e : Fr0} {ρ ρ' : Sl} {τ : Tm} {σ σ' : L2.St} {H H' Hs Hs' : Hp}
/-- what a rule of a call by values is good for -/
def BfR (X : Cx) (g : Gx) (b : Bf) : Prop := ∃ r : List V → Hp → VK → Prop, CallR X b.val r ∧
  ∀ e ρ τ σ H Hs ws us t (Q : VK), Ok g e ρ ((ws, us) :: τ) σ H Hs → bfT b us = some t → (∀ v H' Hs', Ok g e ρ (([v], [t]) :: τ) σ H' Hs' → Q v H') → r ws H Q
theorem Ok.one_ {ws : List V} {t : T} (o : Ok g e ρ ((ws, [t]) :: τ) σ H Hs) : ∃ v, ws = [v] := by
  obtain ⟨fs, ft, _, r, _⟩ := o.own
  obtain ⟨f, f', _, r, _⟩ := r
  have := r.length
  match ws, this with
  | [v], _ => exact ⟨v, rfl⟩
theorem Ok.two_ {ws : List V} {t u : T} (o : Ok g e ρ ((ws, [t, u]) :: τ) σ H Hs) : ∃ v w, ws = [v, w] ∧ Rep g H t.d v ∧ Rep g H u.d w := by
  obtain ⟨fs, ft, _, r, _⟩ := o.own
  obtain ⟨f, f', _, r, _⟩ := r
  simp only [RepTs] at r
  obtain ⟨v, vs1, f1, f2, e1, _, q1, w, vs2, f3, f4, e2, _, q2, e3, _⟩ := r
  subst e2
  subst e3
  exact ⟨v, w, e1, q1.now o.sub, q2.now o.sub⟩
theorem Reps.ints : ∀ {ds : List D} {vs : List V} {ns : List Int}, Reps g H ds vs → intsD ds = some ns → vs = ns.map V.int
  | [], _, _, r, h => by
    cases h
    simp only [Reps] at r
    subst r
    rfl
  | .int i :: ds, _, _, r, h => by
    simp only [intsD, Option.map_eq_some_iff] at h
    obtain ⟨ns, h, rfl⟩ := h
    simp only [Reps, Rep] at r
    obtain ⟨v, vs', rfl, rfl, r⟩ := r
    rw [List.map_cons, Reps.ints r h]
  | .non :: _, _, _, _, h => by cases h
  | .bl _ :: _, _, _, _, h => by cases h
  | .str _ :: _, _, _, _, h => by cases h
  | .tup _ :: _, _, _, _, h => by cases h
  | .lst _ :: _, _, _, _, h => by cases h
  | .dic _ _ :: _, _, _, _, h => by cases h
  | .obj _ _ _ :: _, _, _, _, h => by cases h
  | .scr _ :: _, _, _, _, h => by cases h
theorem Reps.bls : ∀ {ds : List D} {vs : List V} {ns : List Bool}, Reps g H ds vs → blsD ds = some ns → vs = ns.map V.bl
  | [], _, _, r, h => by
    cases h
    simp only [Reps] at r
    subst r
    rfl
  | .bl i :: ds, _, _, r, h => by
    simp only [blsD, Option.map_eq_some_iff] at h
    obtain ⟨ns, h, rfl⟩ := h
    simp only [Reps, Rep] at r
    obtain ⟨v, vs', rfl, rfl, r⟩ := r
    rw [List.map_cons, Reps.bls r h]
  | .non :: _, _, _, _, h => by cases h
  | .int _ :: _, _, _, _, h => by cases h
  | .str _ :: _, _, _, _, h => by cases h
  | .tup _ :: _, _, _, _, h => by cases h
  | .lst _ :: _, _, _, _, h => by cases h
  | .dic _ _ :: _, _, _, _, h => by cases h
  | .obj _ _ _ :: _, _, _, _, h => by cases h
  | .scr _ :: _, _, _, _, h => by cases h
theorem Ok.lstRd {v : V} {t : T} {ds : List D} (o : Ok g e ρ (([v], [t]) :: τ) σ H Hs) (h : lstDs t = some ds) : ∃ a vs, v = .ref a ∧ Rd H a (.lst vs) ∧ Reps g H ds vs := by
  obtain ⟨f, r⟩ := o.top
  have r := r.now o.sub
  unfold lstDs lstD at h
  split at h <;> (try (cases h; done))
  rename_i ds' hd
  cases h
  rw [hd] at r
  simp only [Rep] at r
  exact r
theorem fzInts_rep {ns : List Int} {S : Hp} : RepTs g S H (ns.map fun n => T.fz (.int n)) (ns.map V.int) [] := by
  induction ns with
  | nil => simp only [List.map_nil, RepTs]; exact ⟨trivial, trivial⟩
  | cons n ns ih =>
    simp only [List.map_cons, RepTs]
    exact ⟨_, _, [], [], rfl, rfl, RepT.fz (by simp only [Rep]), ih⟩
theorem Ok.fzInts (o : Ok g e ρ τ σ H Hs) (ns : List Int) : Ok g e ρ ((ns.map V.int, ns.map fun n => T.fz (.int n)) :: τ) σ H Hs := by
  obtain ⟨fs, ft, r1, r2, c, n⟩ := o.own
  exact ⟨o.sub, o.sub0, o.new, o.frame, o.there, o.fix, fs, ft, r1, ⟨[], ft, rfl, fzInts_rep, r2⟩, c, n⟩
theorem sort_uniq {a b : List Int} (p : a.Perm b) (ha : a.Pairwise (· ≤ ·)) (hb : b.Pairwise (· ≤ ·)) : a = b :=
  List.Perm.eq_of_pairwise (fun x y _ _ h1 h2 => Int.le_antisymm h1 h2) ha hb p
theorem sortI_perm (ns : List Int) : (sortI ns).Perm ns := List.mergeSort_perm _ _
theorem sortI_le (ns : List Int) : (sortI ns).Pairwise (· ≤ ·) := by
  have := List.pairwise_mergeSort (le := fun a b : Int => decide (a ≤ b)) (fun a b c h1 h2 => by simp only [decide_eq_true_eq] at *; omega) (fun a b => by simp only [Bool.or_eq_true, decide_eq_true_eq]; omega) ns
  exact this.imp fun h => by simpa using h
theorem maxI_spec : ∀ (ns : List Int) (m : Int), maxI m ns ∈ m :: ns ∧ ∀ y ∈ m :: ns, y ≤ maxI m ns
  | [], m => by simp [maxI]
  | n :: ns, m => by
    obtain ⟨h1, h2⟩ := maxI_spec ns (if n > m then n else m)
    simp only [maxI]
    refine ⟨?_, fun y hy => ?_⟩
    · rcases List.mem_cons.mp h1 with h | h
      · rw [h]; split <;> simp
      · simp [h]
    · have h3 := h2 (if n > m then n else m) (by simp)
      have h4 := fun y (hy : y ∈ ns) => h2 y (by simp [hy])
      generalize maxI (if n > m then n else m) ns = q at *
      rcases List.mem_cons.mp hy with rfl | hy
      · split at h3 <;> omega
      · rcases List.mem_cons.mp hy with rfl | hy
        · split at h3 <;> omega
        · exact h4 y hy
theorem minI_spec : ∀ (ns : List Int) (m : Int), minI m ns ∈ m :: ns ∧ ∀ y ∈ m :: ns, minI m ns ≤ y
  | [], m => by simp [minI]
  | n :: ns, m => by
    obtain ⟨h1, h2⟩ := minI_spec ns (if n < m then n else m)
    simp only [minI]
    refine ⟨?_, fun y hy => ?_⟩
    · rcases List.mem_cons.mp h1 with h | h
      · rw [h]; split <;> simp
      · simp [h]
    · have h3 := h2 (if n < m then n else m) (by simp)
      have h4 := fun y (hy : y ∈ ns) => h2 y (by simp [hy])
      generalize minI (if n < m then n else m) ns = q at *
      rcases List.mem_cons.mp hy with rfl | hy
      · split at h3 <;> omega
      · rcases List.mem_cons.mp hy with rfl | hy
        · split at h3 <;> omega
        · exact h4 y hy
/-- repr of data; no repr is under way -/
theorem call_reprD (kc : Cp X g c) : CallR X (.builtin "repr") (fun xs H Q => ∃ v d s, xs = [v] ∧ Rep g H d v ∧ reprD d = some (.str s) ∧ Q (.str s) H) := by
  intro pn s σ H xs us Q I r h
  obtain ⟨v, d, tx, rfl, rd, hd, q⟩ := h
  unfold reprD at hd
  split at hd <;> (try (cases hd; done))
  rename_i hc
  cases hd
  obtain ⟨h1, h2, h3, h4, h5⟩ := hc
  obtain ⟨u, rfl, ru⟩ := r.one
  have dp := rd.dp h1
  rw [kc.hk] at dp
  have fin : ∀ (h' : Heap) (t tk : Tok), (∀ b o, s.heap.get? b = some o → h'.get? b = some o) → EP X pn σ Q (.str d.py.shown t) { s with heap := h', toks := tk } := fun h' t tk kp => ⟨.str d.py.shown, H, I.kept (t' := tk) kp, ⟨_, rfl⟩, q⟩
  have hu := kc.hu
  cases d <;> simp only [D.py, PyData.canLay0, Bool.false_eq_true] at h1
  · simp only [Rep] at rd; subst rd; cases ru
    exact PySem.P.repr_of_none (fin s.heap _ _ fun _ _ z => z)
  · simp only [Rep] at rd; subst rd; cases ru
    exact PySem.P.repr_of_bool (fin s.heap _ _ fun _ _ z => z)
  · simp only [Rep] at rd; subst rd
    obtain ⟨t, rfl⟩ := ru
    exact PySem.P.repr_of_int (by simpa only [D.py, PyData.showable, decide_eq_true_eq] using h2) (fin s.heap _ _ fun _ _ z => z)
  · simp only [Rep] at rd; subst rd
    obtain ⟨t, rfl⟩ := ru
    exact PySem.P.repr_of_str (fin s.heap _ _ fun _ _ z => z) h5
  · obtain ⟨as, rr⟩ := Dp.reads I _ v u dp ru
    simp only [Rep] at rd
    obtain ⟨a, vs, rfl, _⟩ := rd
    cases ru
    exact repr_of_reads' rr h2 (fun z => by rw [h4] at z; cases z) kc.gd (by omega) (fun _ _ z => z) (fun h' t tk kp => fin h' t tk kp) h5
  · obtain ⟨as, rr⟩ := Dp.reads I _ v u dp ru
    simp only [Rep] at rd
    obtain ⟨a, vs, rfl, _⟩ := rd
    cases ru
    exact repr_of_reads' rr h2 (fun z => by rw [h4] at z; cases z) kc.gd (by omega) (fun _ _ z => z) (fun h' t tk kp => fin h' t tk kp) h5
theorem b1_fz {r : List V → Hp → VK → Prop} {b : B1} (rr : ∀ H d v w, Rep g H d v → b1D b d = some w → w.atom = true ∧ ∀ Q : VK, Q w.at H → r [v] H Q) {ws : List V} {t u : T} {Q : VK} (o : Ok g e ρ ((ws, [t]) :: τ) σ H Hs) (h : (b1D b t.d).map T.fz = some u) (q : ∀ v H' Hs', Ok g e ρ (([v], [u]) :: τ) σ H' Hs' → Q v H') : r ws H Q := by
  simp only [Option.map_eq_some_iff] at h
  obtain ⟨d, h, rfl⟩ := h
  obtain ⟨v, rfl⟩ := o.one_
  obtain ⟨f, rv⟩ := o.top
  obtain ⟨h1, h2⟩ := rr H t.d v d (rv.now o.sub) h
  exact h2 Q (q _ H Hs (o.drop.push (Rep.at h1)))
theorem bfOk (kc : Cp X g c) : ∀ b : Bf, BfR X g b := by
  intro b
  have hc := kc.calm
  cases b
  case list =>
    refine ⟨_, call_list_of, fun e ρ τ σ H Hs ws us t Q o h q => ?_⟩
    unfold bfT at h
    split at h <;> rename_i z <;> (try (cases z; done)) <;> (try (cases h; done))
    rename_i t1
    obtain ⟨v, rfl⟩ := o.one_
    split at h
    · rename_i us hu
      cases h
      obtain ⟨a, vs, rfl, h1, h2, o1⟩ := o.items hu
      exact ⟨a, vs, rfl, .inl (.inl h1), fun l hl => q _ _ _ (o1.newList hl)⟩
    · simp only [Option.map_eq_some_iff] at h
      obtain ⟨us, hu, rfl⟩ := h
      obtain ⟨a, vs, rfl, h1, h2, o1⟩ := o.kids hu
      exact ⟨a, vs, rfl, .inr (kc.hk ▸ h1), fun l hl => q _ _ _ (o1.newList hl)⟩
  case tuple =>
    refine ⟨_, call_tuple_of, fun e ρ τ σ H Hs ws us t Q o h q => ?_⟩
    unfold bfT at h
    split at h <;> rename_i z <;> (try (cases z; done)) <;> (try (cases h; done))
    rename_i t1
    obtain ⟨v, rfl⟩ := o.one_
    split at h
    · rename_i us hu
      cases h
      obtain ⟨a, vs, rfl, h1, h2, o1⟩ := o.items hu
      exact ⟨a, vs, rfl, .inl ⟨.inl h1, fun l hl => q _ _ _ (o1.newTup hl)⟩⟩
    · simp only [Option.map_eq_some_iff] at h
      obtain ⟨us, hu, rfl⟩ := h
      obtain ⟨a, vs, rfl, h1, h2, o1⟩ := o.kids hu
      exact ⟨a, vs, rfl, .inr ⟨kc.hk ▸ h1, q _ _ _ o⟩⟩
  case sorted =>
    refine ⟨_, cr_sortedI, fun e ρ τ σ H Hs ws us t Q o h q => ?_⟩
    unfold bfT at h
    split at h <;> rename_i z <;> (try (cases z; done)) <;> (try (cases h; done))
    obtain ⟨v, rfl⟩ := o.one_
    simp only [Option.map_eq_some_iff, Option.bind_eq_some_iff] at h
    obtain ⟨ns, ⟨ds, hd, hn⟩, rfl⟩ := h
    obtain ⟨a, vs, rfl, h1, h2⟩ := o.lstRd hd
    have e1 := h2.ints hn
    subst e1
    refine ⟨a, ns, rfl, .inl h1, fun ns' p hp1 hp2 hp => q _ _ Hs ?_⟩
    have : ns' = sortI ns := sort_uniq (hp1.trans (sortI_perm ns).symm) hp2 (sortI_le ns)
    subst this
    exact (o.drop.fzInts _).newList hp
  case all =>
    refine ⟨_, cr_all hc, fun e ρ τ σ H Hs ws us t Q o h q => ?_⟩
    unfold bfT at h
    split at h <;> rename_i z <;> (try (cases z; done)) <;> (try (cases h; done))
    obtain ⟨v, rfl⟩ := o.one_
    simp only [Option.map_eq_some_iff, Option.bind_eq_some_iff] at h
    obtain ⟨ns, ⟨ds, hd, hn⟩, rfl⟩ := h
    obtain ⟨a, vs, rfl, h1, h2⟩ := o.lstRd hd
    have e1 := h2.bls hn
    subst e1
    exact ⟨a, ns, rfl, .inl h1, q _ H Hs (o.drop.push (by simp only [Rep]))⟩
  case any =>
    refine ⟨_, cr_any hc, fun e ρ τ σ H Hs ws us t Q o h q => ?_⟩
    unfold bfT at h
    split at h <;> rename_i z <;> (try (cases z; done)) <;> (try (cases h; done))
    obtain ⟨v, rfl⟩ := o.one_
    simp only [Option.map_eq_some_iff, Option.bind_eq_some_iff] at h
    obtain ⟨ns, ⟨ds, hd, hn⟩, rfl⟩ := h
    obtain ⟨a, vs, rfl, h1, h2⟩ := o.lstRd hd
    have e1 := h2.bls hn
    subst e1
    exact ⟨a, ns, rfl, .inl h1, q _ H Hs (o.drop.push (by simp only [Rep]))⟩
  case sum =>
    refine ⟨_, cr_sum hc, fun e ρ τ σ H Hs ws us t Q o h q => ?_⟩
    unfold bfT at h
    split at h <;> rename_i z <;> (try (cases z; done)) <;> (try (cases h; done))
    obtain ⟨v, rfl⟩ := o.one_
    simp only [Option.map_eq_some_iff, Option.bind_eq_some_iff] at h
    obtain ⟨ns, ⟨ds, hd, hn⟩, rfl⟩ := h
    obtain ⟨a, vs, rfl, h1, h2⟩ := o.lstRd hd
    have e1 := h2.ints hn
    subst e1
    exact ⟨a, ns, rfl, .inl h1, q _ H Hs (o.drop.push (by simp only [Rep]))⟩
  case min =>
    refine ⟨_, cr_min hc, fun e ρ τ σ H Hs ws us t Q o h q => ?_⟩
    unfold bfT at h
    split at h <;> rename_i z <;> (try (cases z; done)) <;> (try (cases h; done))
    obtain ⟨v, rfl⟩ := o.one_
    split at h <;> (try (cases h; done))
    rename_i n ns hn
    cases h
    simp only [Option.bind_eq_some_iff] at hn
    obtain ⟨ds, hd, hn⟩ := hn
    obtain ⟨a, vs, rfl, h1, h2⟩ := o.lstRd hd
    have e1 := h2.ints hn
    subst e1
    refine ⟨a, n :: ns, rfl, .inl h1, by simp, fun m hm1 hm2 => q _ H Hs (o.drop.push ?_)⟩
    obtain ⟨k1, k2⟩ := minI_spec ns n
    have : m = minI n ns := Int.le_antisymm (hm2 _ k1) (k2 _ hm1)
    simp only [Rep, this]
  case max =>
    refine ⟨_, cr_max hc, fun e ρ τ σ H Hs ws us t Q o h q => ?_⟩
    unfold bfT at h
    split at h <;> rename_i z <;> (try (cases z; done)) <;> (try (cases h; done))
    obtain ⟨v, rfl⟩ := o.one_
    split at h <;> (try (cases h; done))
    rename_i n ns hn
    cases h
    simp only [Option.bind_eq_some_iff] at hn
    obtain ⟨ds, hd, hn⟩ := hn
    obtain ⟨a, vs, rfl, h1, h2⟩ := o.lstRd hd
    have e1 := h2.ints hn
    subst e1
    refine ⟨a, n :: ns, rfl, .inl h1, by simp, fun m hm1 hm2 => q _ H Hs (o.drop.push ?_)⟩
    obtain ⟨k1, k2⟩ := maxI_spec ns n
    have : m = maxI n ns := Int.le_antisymm (k2 _ hm1) (hm2 _ k1)
    simp only [Rep, this]
  case divmod =>
    refine ⟨_, call_divmod, fun e ρ τ σ H Hs ws us t Q o h q => ?_⟩
    unfold bfT at h
    split at h <;> rename_i z <;> (try (cases z; done)) <;> (try (cases h; done))
    obtain ⟨v, w, rfl, r1, r2⟩ := o.two_
    split at h <;> (try (cases h; done))
    rename_i i j hi hj
    split at h <;> (try (cases h; done))
    rename_i hz
    cases h
    rw [hi] at r1
    rw [hj] at r2
    simp only [Rep] at r1 r2
    subst r1
    subst r2
    refine ⟨i, j, rfl, ⟨hz.1, hz.2⟩, fun p hp => ?_⟩
    have o1 := (o.drop.push (d := .int (i / j)) (v := .int (i / j)) (by simp only [Rep]))
    have o2 := (o1.push (d := .int (i % j)) (v := .int (i % j)) (by simp only [Rep])).merge.newTup hp
    exact q _ _ _ o2
  case repr =>
    refine ⟨_, call_reprD kc, fun e ρ τ σ H Hs ws us t Q o h q => ?_⟩
    unfold bfT at h
    split at h <;> rename_i z <;> (try (cases z; done)) <;> (try (cases h; done))
    rename_i t1
    obtain ⟨v, rfl⟩ := o.one_
    obtain ⟨f, rv⟩ := o.top
    simp only [Option.map_eq_some_iff] at h
    obtain ⟨d, h, rfl⟩ := h
    have hs : ∃ s, d = .str s := by
      unfold reprD at h
      split at h <;> cases h
      exact ⟨_, rfl⟩
    obtain ⟨s, rfl⟩ := hs
    exact ⟨v, t1.d, s, rfl, rv.now o.sub, h, q _ H Hs (o.drop.push (by simp only [Rep]))⟩
  case bool =>
    refine ⟨_, call_bool1, fun e ρ τ σ H Hs ws us t Q o h q => ?_⟩
    unfold bfT at h
    split at h <;> rename_i z <;> (try (cases z; done)) <;> (try (cases h; done))
    obtain ⟨v, rfl⟩ := o.one_
    obtain ⟨f, rv⟩ := o.top
    have rv := rv.now o.sub
    split at h <;> (try (cases h; done)) <;> rename_i i hi <;> cases h <;> rw [hi] at rv <;> simp only [Rep] at rv <;> subst rv
    · exact .inl ⟨_, rfl, q _ H Hs (o.drop.push (by simp only [Rep]))⟩
    · exact .inr ⟨_, rfl, q _ H Hs (o.drop.push (by simp only [Rep]))⟩
  case str =>
    refine ⟨_, call_str_int, fun e ρ τ σ H Hs ws us t Q o h q => ?_⟩
    unfold bfT at h
    split at h <;> rename_i z <;> (try (cases z; done)) <;> (try (cases h; done))
    obtain ⟨v, rfl⟩ := o.one_
    obtain ⟨f, rv⟩ := o.top
    have rv := rv.now o.sub
    split at h <;> (try (cases h; done))
    rename_i i hi
    split at h <;> (try (cases h; done))
    rename_i hz
    cases h
    rw [hi] at rv
    simp only [Rep] at rv
    subst rv
    exact ⟨_, rfl, hz, q _ H Hs (o.drop.push (by simp only [Rep]))⟩
  case len =>
    obtain ⟨r, hr, rr⟩ := b1R (X := X) kc.hk .len
    refine ⟨r, hr, fun e ρ τ σ H Hs ws us t Q o h q => ?_⟩
    unfold bfT at h
    split at h <;> rename_i z <;> (try (cases z; done)) <;> (try (cases h; done))
    exact b1_fz rr o h q
  case int =>
    obtain ⟨r, hr, rr⟩ := b1R (X := X) kc.hk .int
    refine ⟨r, hr, fun e ρ τ σ H Hs ws us t Q o h q => ?_⟩
    unfold bfT at h
    split at h <;> rename_i z <;> (try (cases z; done)) <;> (try (cases h; done))
    exact b1_fz rr o h q
  case abs =>
    obtain ⟨r, hr, rr⟩ := b1R (X := X) kc.hk .abs
    refine ⟨r, hr, fun e ρ τ σ H Hs ws us t Q o h q => ?_⟩
    unfold bfT at h
    split at h <;> rename_i z <;> (try (cases z; done)) <;> (try (cases h; done))
    exact b1_fz rr o h q
  case min2 =>
    obtain ⟨r, hr, rr⟩ := b2R (X := X) (g := g) hc .min
    refine ⟨r, hr, fun e ρ τ σ H Hs ws us t Q o h q => ?_⟩
    unfold bfT at h
    split at h <;> rename_i z <;> (try (cases z; done)) <;> (try (cases h; done))
    simp only [Option.map_eq_some_iff] at h
    obtain ⟨d, h, rfl⟩ := h
    obtain ⟨v, w, rfl, r1, r2⟩ := o.two_
    obtain ⟨h1, h2⟩ := rr H _ _ v w d r1 r2 h
    exact h2 Q (q _ H Hs (o.drop.push (Rep.at h1)))
  case max2 =>
    obtain ⟨r, hr, rr⟩ := b2R (X := X) (g := g) hc .max
    refine ⟨r, hr, fun e ρ τ σ H Hs ws us t Q o h q => ?_⟩
    unfold bfT at h
    split at h <;> rename_i z <;> (try (cases z; done)) <;> (try (cases h; done))
    simp only [Option.map_eq_some_iff] at h
    obtain ⟨d, h, rfl⟩ := h
    obtain ⟨v, w, rfl, r1, r2⟩ := o.two_
    obtain ⟨h1, h2⟩ := rr H _ _ v w d r1 r2 h
    exact h2 Q (q _ H Hs (o.drop.push (Rep.at h1)))
/-- f(e, ..) of a built-in -/
theorem cj_bf (kc : Cp X g c) {b : Bf} {f : Str} {fr : Sl → Option (Rs (List T))} {p : Pos} (hf : f = b.nm) (hg : glB c f = true) (hs : ∀ x ∈ e1 :: es, starB x = false) (ha : AJ X g W fr (e1 :: es)) :
    CJ X g W (fun ρ => bindR (fr ρ) fun us ρ1 => okR (bfT b us) ρ1) (.Call (.Name f p) (e1 :: es) [] pos) := by
  obtain ⟨r, hr, rr⟩ := bfOk kc b
  obtain ⟨ta, pa, ra⟩ := ha
  refine ⟨fun σ H Q => ta σ H fun vs H1 => r vs H1 Q, ?_, fun e ρ τ σ H Hs Q o q => ?_⟩
  · subst hf
    cases b <;> first
      | exact pe_callTy hr (kc.gl hg) (kc.bn _ (by decide)) (by decide +kernel) pa (by decide) (by decide) (star_cons (hs _ (by simp))) (star_none fun x hx => hs x (by simp [hx]))
      | exact pe_callB hr (kc.gl hg) (kc.bn _ (by decide)) (by decide +kernel) pa (by decide) (by decide) (star_cons (hs _ (by simp))) (star_none fun x hx => hs x (by simp [hx]))
  · refine ra e ρ τ σ H Hs _ o (Post.bind q fun us ρ1 _ ws H1 Hs1 o1 q1 => ?_)
    obtain ⟨t, ht, q2⟩ := q1.okR
    exact rr e ρ1 τ σ H1 Hs1 ws us t Q o1 ht q2
end
end DL
namespace DL
open PySem PySem.Spec PyProof.Rows L2

/-! ### sorted(set(xs)) of ints -/
abbrev mtSet (w : World) : Obj := { cls := .type "set", dict := none, data := .set #[] 0 (.fresh 0 0 (!w.params.followText "set-order")) }
section
variable {P : Program} {w : World} {A : Around} {E : Value → Shared → Prop} {s : Shared}
/-- set(l) of a list of ints -/
theorem setOfInts {l : Addr} {its : Array Value} (ns : List Int) {Q : Value → Shared → Prop} (hh : A.handled = none) (hl : s.heap.IsList l its) (hi : IntsAre its.toList ns) (hb : ns.length + 1 < scanBound)
    (fin : ∀ (h' : Heap) (tk c : Nat), SetR w h' s.heap.objs.size (fun j => decide (j ∈ ns)) c → c ≤ ns.length → (∀ b o, s.heap.get? b = some o → h'.get? b = some o) → Q (.ref s.heap.objs.size) { s with heap := h', toks := tk }) :
    wpAny (model P w) A (call (.type "set") [.ref l]) Q E s := by
  have len : its.size = ns.length := by
    have z := IntsAre.length hi
    rwa [Array.length_toList] at z
  obtain ⟨c, tl, hmro⟩ := F.called_set.mro
  have f1 := F.called_set.made
  have f2 := F.called_set.sub
  refine wpAny_call (codeAny_of_tree ?_)
  show wpAny _ _ (callAny (.type "set") _) _ _ _
  refine wpAny_pure ⟨Code.quiet_builtin _ (by decide +kernel), codeAny_builtin F.entry_type_call ?_⟩
  rw [Around.under_plain (weight_type_call_type "set" [.ref l] []) rfl]
  have f3 := F.called_set.notType
  have f4 := F.called_set.canCreate
  have f5 := F.typeCall_set_1 (.ref l)
  repeat (any_goals (first | assumption | wp_step))
  refine codeAny_mono (code_set_led1 (.ref l) (E := E) (Q₁ := fun ob s₁ => ob = .ref s.heap.objs.size ∧ s₁ = { s with heap := s.heap.push (mtSet w) }) ⟨rfl, rfl⟩) fun r s₁ made => ?_
  cases r with
  | error e => exact made
  | ok fl =>
    cases fl with
    | ret ob =>
      obtain ⟨rfl, rfl⟩ := made
      have at0 : (s.heap.push (mtSet w)).get? s.heap.objs.size = some (mtSet w) := Heap.get?_push_size _ rfl
      have ty0 : Shared.TypeIs { s with heap := s.heap.push (mtSet w) } (.ref s.heap.objs.size) "set" := ⟨_, at0, rfl⟩
      have f6 := F.called_set.init.lookup
      have f7 := F.called_set.init.bind (.ref s.heap.objs.size)
      repeat (any_goals (first | assumption | wp_step))
      refine codeAny_mono (codeAny_call_builtin (R := wants (fun r s₂ => r = .none ∧ ∃ h' tk c, s₂ = { s with heap := h', toks := tk } ∧ SetR w h' s.heap.objs.size (fun j => decide (j ∈ ns)) c ∧ c ≤ ns.length ∧
          (∀ b o, s.heap.get? b = some o → h'.get? b = some o)) E) F.called_set.init.plain F.entry_set_init (check_set_init_1 ty0 ?_)) fun r₂ s₂ ended => ?_
      · obtain ⟨⟨oc, od, oda, osl⟩, at1, e1, nl, e2⟩ := hl
        simp only at e1 e2
        subst e1; subst e2
        have at2 : (s.heap.push (mtSet w)).get? l = some { cls := .type "list", dict := od, data := .seq its nl, slots := osl } := Heap.get?_push_of_some _ at1
        have f8 := F.sub_list_set
        have f9 := F.sub_list_frozenset
        have ne : (Value.type "list" == Value.type "dict") = false := by decide
        have isl : (s.heap.push (mtSet w)).IsList l its := ⟨_, at2, rfl, nl, rfl⟩
        unfold Builtin.«set.__init__» noKeywords Builtin.Frozenset.updateFrom
        generalize iterE : pyIter = iter
        wp_walk
        subst iterE
        refine wpAny_pyIter_list isl (wpAny_bind (wpAny_runValue ?_))
        have ltl : l < s.heap.objs.size := Heap.lt_size at1
        have h3 : A.in1.in1.in1.handled = none := by simp [hh]
        have neI : l ≠ (s.heap.push (mtSet w)).objs.size := by
          rw [Heap.size_push]; exact fun z => absurd ltl (by rw [z]; exact Nat.not_lt.mpr (Nat.le_succ _))
        have nin : s.heap.objs.size ∉ [(s.heap.push (mtSet w)).objs.size, l] := by
          rw [Heap.size_push]
          intro z
          rcases List.mem_cons.mp z with z | z
          · exact absurd z (Nat.ne_of_lt (Nat.lt_succ_self _))
          · rw [List.mem_singleton] at z
            exact absurd ltl (by rw [← z]; exact Nat.lt_irrefl _)
        have val : ∀ (i : Nat) (v : Value), its[i]? = some v → ∃ k t, ns[i]? = some k ∧ v = .int k t := fun i v hv => by
          have hlt : i < ns.length := by rw [← len]; exact (Array.getElem?_eq_some_iff.mp hv).1
          obtain ⟨t, e⟩ := IntsAre.int_at hi i v (by rw [Array.getElem?_toList]; exact hv)
          exact ⟨ns[i], t, List.getElem?_eq_getElem hlt, by rw [e, List.getD_eq_getElem?_getD, List.getElem?_eq_getElem hlt] <;> rfl⟩
        refine set_update_ints ((Walks.list h3 _ l neI its).toS) s.heap.objs.size nin ns len hb val (its.size - 0) 0 _ (by omega) (Nat.zero_le _) ⟨⟨_, Heap.get?_push_size _ rfl, rfl, rfl⟩, isl.push _⟩ ?start ?done
        case start =>
          exact ⟨0, Nat.le_refl 0, setR_new_at (Heap.get?_push_of_some _ at0)⟩
        case done =>
          intro s' c' mv hc' hS'
          obtain ⟨h', g2, d', tk', os'⟩ := s'
          obtain rfl : g2 = s.gens := mv.gens
          obtain rfl : d' = s.drawn := mv.drawn
          obtain rfl : os' = s.os := mv.os
          show wpAny _ _ _ _ _ _
          refine wpAny_pure ?_
          show wpAny _ _ (ret Value.none) _ _ _
          rw [len] at hc'
          refine wpAny_pure ⟨rfl, h', tk', c', rfl, hS', hc', fun b o e => ?_⟩
          have blt : b < s.heap.objs.size := Heap.lt_size e
          refine mv.heap b o ?_ (Heap.get?_push_of_some _ (Heap.get?_push_of_some _ e))
          rw [Heap.size_push]
          intro z
          rcases List.mem_cons.mp z with z | z
          · exact absurd blt (by rw [z]; exact Nat.lt_irrefl _)
          · rw [List.mem_singleton] at z
            exact absurd blt (by rw [z]; exact Nat.not_lt.mpr (Nat.le_succ _))
      · cases r₂ with
        | error e => exact ended
        | ok fl₂ =>
          cases fl₂ with
          | ret r =>
            obtain ⟨rfl, h', tk, c', rfl, hS', hc', kp⟩ := ended
            repeat (any_goals (first | assumption | wp_step))
            exact fin _ _ _ hS' hc' kp
          | _ => exact ended.elim
    | _ => exact made.elim
/-- sorted(a) of a set of ints -/
theorem sortedOfSet {a : Addr} {S : Int → Bool} {n : Nat} {Q : Value → Shared → Prop} (R : SetR w s.heap a S n) (hh : A.handled = none)
    (fin : ∀ s' p (out : List Value) (c : Nat) (ns : List Int), (∀ b o, s.heap.get? b = some o → s'.heap.get? b = some o) → s'.gens = s.gens → s'.os = s.os → s.heap.objs.size ≤ p →
      s'.heap.get? p = some (seqObj "list" out.toArray c) → IntsAre out ns → ns.Pairwise (· < ·) → (∀ k, k ∈ ns ↔ S k = true) → ns.length = n → Q (.ref p) s') :
    wpAny (model P w) A (call (.builtin "sorted") [.ref a]) Q E s := by
  obtain ⟨o, es, ep, t, ho, hex, hd, good, nd, mem, hb, hf, hn, hr, hl⟩ := R
  refine Calls.call_function_entry kind_sorted plain_sorted entry_sorted (args_sorted1 _) ?_
  unfold Builtin.«sorted»
  refine wpAny_bind (m := checkCount "sorted" 1 1 _) (wpAny_pure ?_)
  refine wpAny_bind (collect_set (A := A.in1) hh ⟨o, ho, hex.1, hd⟩ hf hb hr hl fun s1 vs k1 hz g1 o1 pm => ?_)
  have lv : vs.length = n := by rw [pm.length_eq, List.length_map, Array.length_toList]; exact hn
  have is : IntsAre vs (vs.map Builtin.Re.reRawOf) := ints_of vs fun v hv => by
    obtain ⟨x, hx, q⟩ := List.mem_map.mp (pm.mem_iff.mp hv)
    obtain ⟨k, tk, h1, _⟩ := good x hx
    exact ⟨k, tk, by rw [← q]; exact h1⟩
  have pk : (vs.map Builtin.Re.reRawOf).Perm (es.toList.map L2.keyOf) := by
    have z := pm.map Builtin.Re.reRawOf
    rwa [List.map_map] at z
  have small : vs.length ≤ sizeLine := by rw [lv, ← hn]; exact Nat.le_trans (Nat.le_of_lt hb) (by decide)
  refine wpAny_bind (wpAny_newList ?_ small)
  have at1 : (s1.heap.push (seqObj "list" vs.toArray 0)).get? s1.heap.objs.size = some (seqObj "list" vs.toArray 0) := Heap.get?_push_size _ rfl
  refine wpAny_bind (wpAny_holding (wpAny_call_entry slot_list_sort ⟨_, at1, rfl⟩ entry_list_sort (SrtO.list_sort_ord SrtO.swo_int at1 small (fun h2 => SrtO.ints_sortable is h2) fun out h1 h2 => ⟨_, rfl, ?_⟩) (args_list_sort _)))
  obtain ⟨x1, x2, x3⟩ := SrtO.ints_out is h1 h2
  obtain ⟨c, hc⟩ := sortedHeap_at (vs := vs) (out := out.toArray) at1
  have pn : (out.map SrtO.iv).Perm (es.toList.map L2.keyOf) := x2.trans pk
  refine wpAny_pure ⟨_, rfl, fin _ s1.heap.objs.size out c _ (fun b u e => ?_) g1 o1 hz hc x1 (lt_of_le_nodup _ x3 (pn.nodup_iff.mpr nd)) (fun k => by rw [pn.mem_iff, ← mem k]) ?_⟩
  · have z := k1 b u e
    have blt := Heap.lt_size z
    show (sortedHeap (s1.heap.push (seqObj "list" vs.toArray 0)) s1.heap.objs.size vs out.toArray).get? b = some u
    rw [sortedHeap_old (Nat.ne_of_lt blt) (by rw [size_push']; exact Nat.lt_succ_of_lt blt)]
    exact Heap.get?_push_of_some _ z
  · rw [pn.length_eq, List.length_map, Array.length_toList]; exact hn
end
section
variable {X : Cx} {g : Gx} {c : Cxt} {W : WX} {e1 : Expr} {fa : Sl → Option (Rs T)} {pos p1 p2 p3 : Pos}
theorem cr_setI (hc : X.calm = true) : CallR X (.type "set") (fun xs H Q => ∃ (l : Addr) (ns : List Int), xs = [.ref l] ∧ SqL X.K H l (ns.map V.int) ∧ ns.length + 1 < scanBound ∧ ∀ (p : Addr) (k : Nat), H p = none → k ≤ ns.length → Q (.ref p) (upd H p (SetO X.w p (fun j => decide (j ∈ ns)) k))) := by
  intro pn s σ H xs us Q I r h
  obtain ⟨l, ns, rfl, sq, hb, q⟩ := h
  obtain ⟨u, rfl, ru⟩ := r.one
  cases ru
  obtain ⟨its, rv, pl, hz⟩ := I.list sq
  refine setOfInts ns (I.ok.hd hc) pl.isList (by simpa using rv.ints) hb fun h' tk k hS hk kp => ?_
  exact ⟨.ref s.heap.objs.size, _, I.laid (t' := tk) kp (Nat.le_refl _) (setO_new hS), rfl, q _ _ I.fresh hk⟩
theorem cr_sortedSI (hc : X.calm = true) : CallR X (.builtin "sorted") (fun xs H Q => ∃ (a : Addr) (S : Int → Bool) (n : Nat), xs = [.ref a] ∧ H a = some (SetO X.w a S n) ∧ n ≤ sizeLine ∧
    ∀ (ns : List Int) (p : Addr), ns.Pairwise (· < ·) → (∀ k, k ∈ ns ↔ S k = true) → ns.length = n → H p = none → Q (.ref p) (upd H p (.lst (ns.map V.int)))) := by
  intro pn s σ H xs us Q I r h
  obtain ⟨a, S, n, rfl, ha, hn, q⟩ := h
  obtain ⟨u, rfl, ru⟩ := r.one
  cases ru
  refine sortedOfSet (setO_get I ha) (I.ok.hd hc) fun s' p out k ns kp eg eo hp at1 is pw mem ln => ?_
  have np : H p = none := I.hok.fresh hp
  have hlen : p < s'.heap.objs.size := Heap.lt_size at1
  refine ⟨.ref p, upd H p (.lst (ns.map V.int)), ?_, rfl, q ns p pw mem ln np⟩
  exact I.call' (ch := []) eo (Un.laid kp hp np) (I.hok.laid kp hp ⟨by rw [List.length_map, ln]; exact hn, out, k, vals_of_ints is, at1⟩) (by rw [eg]; exact I.bare) (fun _ z => nomatch z)
theorem pa_one1 {X : Cx} {e : Expr} {t : TE} (hs : starB e = false) (h : PE X e t) : PA X [e] (fun σ H Q => t σ H fun v H1 => Q [v] H1) := by
  have z := pa_cons h pa_nil (star_cons hs)
  exact z
end
/-! the ascending list of what a list of ints holds -/
def insI (k : Int) : List Int → List Int
  | [] => [k]
  | x :: xs => if k < x then k :: x :: xs else if k = x then x :: xs else x :: insI k xs
def setI (ns : List Int) : List Int := ns.foldr insI []
theorem insI_mem (k j : Int) : ∀ xs, j ∈ insI k xs ↔ j = k ∨ j ∈ xs
  | [] => by simp [insI]
  | x :: xs => by
    unfold insI
    split
    · simp
    · split
      · rename_i h1 h2
        subst h2
        simp
      · rw [List.mem_cons, insI_mem k j xs, List.mem_cons]
        exact ⟨fun h => by rcases h with h | h | h <;> simp [h], fun h => by rcases h with h | h | h <;> simp [h]⟩
theorem setI_mem (j : Int) : ∀ ns, j ∈ setI ns ↔ j ∈ ns
  | [] => by simp [setI]
  | n :: ns => by
    show j ∈ insI n (setI ns) ↔ _
    rw [insI_mem, setI_mem j ns, List.mem_cons]
theorem insI_asc (k : Int) : ∀ xs, xs.Pairwise (· < ·) → (insI k xs).Pairwise (· < ·)
  | [], _ => by simp [insI]
  | x :: xs, h => by
    have h0 := List.pairwise_cons.mp h
    unfold insI
    split
    · rename_i h1
      exact List.pairwise_cons.mpr ⟨fun y hy => by
        rcases List.mem_cons.mp hy with rfl | hy
        · exact h1
        · have := h0.1 y hy; omega, h⟩
    · split
      · exact h
      · rename_i h1 h2
        exact List.pairwise_cons.mpr ⟨fun y hy => by
          rcases (insI_mem k y xs).mp hy with rfl | hy
          · omega
          · exact h0.1 y hy, insI_asc k xs h0.2⟩
theorem setI_asc : ∀ ns, (setI ns).Pairwise (· < ·)
  | [] => List.Pairwise.nil
  | n :: ns => insI_asc n _ (setI_asc ns)
theorem asc_uniq : ∀ {a b : List Int}, a.Pairwise (· < ·) → b.Pairwise (· < ·) → (∀ k, k ∈ a ↔ k ∈ b) → a = b
  | [], [], _, _, _ => rfl
  | [], y :: b, _, _, h => absurd ((h y).mpr (by simp)) (by simp)
  | x :: a, [], _, _, h => absurd ((h x).mp (by simp)) (by simp)
  | x :: a, y :: b, ha, hb, h => by
    have a0 := List.pairwise_cons.mp ha
    have b0 := List.pairwise_cons.mp hb
    have e : x = y := by
      have h1 := (h x).mp (by simp)
      have h2 := (h y).mpr (by simp)
      rcases List.mem_cons.mp h1 with h1 | h1
      · exact h1
      · rcases List.mem_cons.mp h2 with h2 | h2
        · exact h2.symm
        · have := a0.1 y h2
          have := b0.1 x h1
          omega
    subst e
    rw [asc_uniq a0.2 b0.2 fun k => ?_]
    have hk := h k
    simp only [List.mem_cons] at hk
    constructor
    · intro m
      have := a0.1 k m
      rcases hk.mp (.inr m) with z | z
      · omega
      · exact z
    · intro m
      have := b0.1 k m
      rcases hk.mpr (.inr m) with z | z
      · omega
      · exact z
section
variable {X : Cx} {g : Gx} {c : Cxt} {W : WX} {e1 : Expr} {fa : Sl → Option (Rs T)} {pos p1 p2 p3 : Pos}
def ssetT (t : T) : Option T := ((lstDs t).bind intsD).bind fun ns => if ns.length + 1 < scanBound then some (.lst ((setI ns).map fun n => .fz (.int n))) else none
/-- sorted(set(e)), e a list of ints -/
theorem cj_sset (kc : Cp X g c) (h1 : glB c "sorted" = true) (h2 : glB c "set" = true) (hs : starB e1 = false) (ha : CJ X g W fa e1) :
    CJ X g W (fun ρ => bindR (fa ρ) fun t ρ1 => okR (ssetT t) ρ1) (.Call (.Name "sorted" p1) [.Call (.Name "set" p2) [e1] [] p3] [] pos) := by
  obtain ⟨ta, pa, ra⟩ := ha
  refine ⟨_, pe_callB (cr_sortedSI kc.calm) (kc.gl h1) (kc.bn _ (by decide)) (by decide +kernel) (pa_one1 rfl (pe_callTy (cr_setI kc.calm) (kc.gl h2) (kc.bn _ (by decide)) (by decide +kernel) (pa_one1 hs pa) (by decide) (by decide) (star_cons hs) (star_none fun x hx => nomatch hx))) (by decide) (by decide) (star_cons rfl) (star_none fun x hx => nomatch hx), fun e ρ τ σ H Hs Q o q => ?_⟩
  refine ra e ρ τ σ H Hs _ o (Post.bind q fun t ρ1 _ v H1 Hs1 o1 q1 => ?_)
  obtain ⟨u, hu, q2⟩ := q1.okR
  unfold ssetT at hu
  simp only [Option.bind_eq_some_iff] at hu
  obtain ⟨ns, ⟨ds, hd, hi⟩, hu⟩ := hu
  split at hu <;> (try (cases hu; done))
  rename_i hb
  cases hu
  obtain ⟨a, vs, rfl, rd, rs⟩ := o1.lstRd hd
  obtain rfl := rs.ints hi
  refine ⟨a, ns, rfl, .inl rd, hb, fun p k hp hk => ?_⟩
  refine ⟨p, _, k, rfl, upd_same, Nat.le_trans hk (by have : scanBound ≤ sizeLine := by decide
                                                      omega), fun ms p' pw mem ln hp' => ?_⟩
  have em : ms = setI ns := asc_uniq pw (setI_asc ns) fun j => by rw [mem, setI_mem]; simp
  subst em
  exact q2 _ _ _ (((o1.drop.grow (upd_keep hp)).fzInts _).newList hp')
end
end DL
namespace DL
open PySem PySem.Spec PyProof.Rows L2

section
variable {X : Cx} {g : Gx} {c : Cxt} {W : WX} {e1 e2 ex tgx : Expr} {st : Stmt} {fa fb : Sl → Option (Rs T)} {f1 : Sl → Option Fl} {pos p1 p2 p3 : Pos}
/-- it is never reached -/
theorem sj_nev : SJ X g c W (fun _ => none) st := ⟨_, ps_never, fun e ρ τ σ H Hs D _ o q => q.elim⟩
theorem ssj_nev {sts : List Stmt} : SsJ X g c W (fun _ => none) sts := ⟨_, pss_never, fun e ρ τ σ H Hs D _ o q => q.elim⟩
/-- some slots are forgotten first -/
theorem sj_kill (is : List Nat) (h : SJ X g c W f1 st) : SJ X g c W (fun ρ => f1 (wipeT ρ is)) st := by
  obtain ⟨ts, p, r⟩ := h
  exact ⟨ts, p, fun e ρ τ σ H Hs D hp o q => r e _ τ σ H Hs D hp (o.wipeT is) q⟩
def tupB : Expr → Bool
  | .Tuple _ _ _ => true
  | _ => false
theorem no_par {t e : Expr} {env : PySem.Env} (h : tupB e = false) : swappedStores [t] e env = pure none := by
  cases e <;> first | (simp [tupB] at h; done) | (cases t <;> rfl)
/-- names in brackets that are stored one behind the other -/
def swN (c : Cxt) (ts vs : List Expr) : Bool :=
  !(ts.length == 2 || ts.length == 3) || vs.length != ts.length || (ts.filterMap fun
    | .Name y p => if (c.look.lookup y == some .local && p.line == (ts.head?.map (·.pos.line)).getD 0) = true then some y else none
    | _ => none).length != ts.length || vs.all (foldedForSure 8)
def swB (c : Cxt) : Expr → Expr → Bool
  | .Tuple ts _ _, .Tuple vs _ _ => swN c ts vs
  | _, _ => false
theorem swB_ok (k : Cp X g c) {t e : Expr} (h : swB c t e = true) : swappedStores [t] e X.env = pure none := by
  unfold swB at h
  split at h <;> (try (cases h; done))
  have hb : X.env.blockKind = .function := by
    unfold PySem.Env.blockKind
    rw [k.kind]
    rfl
  have ek : X.env.kindOf = fun y => c.look.lookup y := funext k.sc
  unfold swN at h
  simp only [Bool.or_eq_true, Bool.not_eq_true'] at h
  unfold swappedStores
  simp only [hb, ek]
  split
  · rfl
  · rename_i n1
    split
    · rfl
    · split
      · rfl
      · rename_i n3
        split
        · rfl
        · rename_i n4
          exfalso
          simp only [Bool.or_eq_true, Bool.not_eq_true', not_or, Bool.not_eq_true] at n1 n3
          rcases h with ((h | h) | h) | h
          · exact absurd h n1.1.1
          · rw [n1.1.2] at h; cases h
          · exact Bool.noConfusion (h.symm.trans n3.1)
          · exact n4 h
/-- tg = e, tg a name or names in brackets -/
theorem sj_tgt (k : Cp X g c) {G : Tg} (hg : mtG c G tgx = true) (ht : starB tgx = false) (hs : compB ex = false) (hp : swappedStores [tgx] ex X.env = pure none) (ha : CJ X g W fa ex) :
    SJ X g c W (fun ρ => bindE (fa ρ) fun t ρ1 => (stT G t ρ1).map Fl.nx) (.Assign [tgx] ex pos) := by
  obtain ⟨ta, pa, ra⟩ := ha
  obtain ⟨gt, pg, rg⟩ := sndG k G tgx hg
  refine ⟨_, ps_asg pa pg (no_swap hs) hp (by rw [asg_cons ht]; rfl), fun e ρ τ σ H Hs D hpr o q => ?_⟩
  refine ra e ρ τ σ H Hs _ o (PostS.bindE q fun t ρ1 _ v H1 Hs1 o1 q1 => ?_)
  cases h : stT G t ρ1 with
  | none => rw [h] at q1; exact q1.elim
  | some ρ2 =>
    rw [h] at q1
    exact rg e ρ1 τ σ H1 Hs1 v t _ hpr o1 ⟨ρ2, h, fun σ' _ o2 => q1 σ' H1 Hs1 o2⟩
theorem cj_bop1 {op : BoolOp} (ha : CJ X g W fa e1) : CJ X g W fa (.BoolOp op [e1] pos) := let ⟨ta, pa, ra⟩ := ha; ⟨ta, pe_one pa, ra⟩
theorem cj_and {es : List Expr} (k : Cp X g c) (ha : CJ X g W fa e1) (hb : CJ X g W fb (.BoolOp .And (e2 :: es) pos)) :
    CJ X g W (fun ρ => bindR (fa ρ) fun x ρ1 => match x.d.tru with | some true => fb ρ1 | some false => some (.ok x ρ1) | none => none) (.BoolOp .And (e1 :: e2 :: es) pos) := by
  obtain ⟨ta, pa, ra⟩ := ha
  obtain ⟨tb, pb, rb⟩ := hb
  refine ⟨_, pe_andT pa pb, fun e ρ τ σ H Hs Q o q => ra e ρ τ σ H Hs _ o (Post.bind q fun x ρ1 _ v H1 Hs1 o1 q1 => ?_)⟩
  obtain ⟨f, rv⟩ := o1.top
  have rv := rv.now o1.sub
  split at q1
  · rename_i h
    exact ⟨true, truD k.hk rv h, iteT (rb e ρ1 τ σ H1 Hs1 Q o1.drop q1)⟩
  · rename_i h
    exact ⟨false, truD k.hk rv h, iteF (q1 v H1 Hs1 o1)⟩
  · exact q1.elim
theorem cj_or {es : List Expr} (k : Cp X g c) (ha : CJ X g W fa e1) (hb : CJ X g W fb (.BoolOp .Or (e2 :: es) pos)) :
    CJ X g W (fun ρ => bindR (fa ρ) fun x ρ1 => match x.d.tru with | some true => some (.ok x ρ1) | some false => fb ρ1 | none => none) (.BoolOp .Or (e1 :: e2 :: es) pos) := by
  obtain ⟨ta, pa, ra⟩ := ha
  obtain ⟨tb, pb, rb⟩ := hb
  refine ⟨_, pe_orT pa pb, fun e ρ τ σ H Hs Q o q => ra e ρ τ σ H Hs _ o (Post.bind q fun x ρ1 _ v H1 Hs1 o1 q1 => ?_)⟩
  obtain ⟨f, rv⟩ := o1.top
  have rv := rv.now o1.sub
  split at q1
  · rename_i h
    exact ⟨true, truD k.hk rv h, iteT (q1 v H1 Hs1 o1)⟩
  · rename_i h
    exact ⟨false, truD k.hk rv h, iteF (rb e ρ1 τ σ H1 Hs1 Q o1.drop q1)⟩
  · exact q1.elim
/-! list(range(..)) -/
def rgD (a b : Int) : Option T := if -(2 ^ 62) ≤ a ∧ a < 2 ^ 62 ∧ -(2 ^ 62) ≤ b ∧ b < 2 ^ 62 ∧ (b - a).toNat ≤ 2 ^ 24 then some (.lst ((rngL a 1 (b - a).toNat).map T.fz)) else none
theorem rgV_rng (a : Int) : ∀ (n : Nat), ∃ ns : List Int, (List.range n).map (fun i => V.int (a + (i : Nat))) = ns.map V.int ∧ (rngL a 1 n).map T.fz = ns.map (fun n => T.fz (.int n)) := by
  intro n
  refine ⟨(List.range n).map (fun i => a + (i : Nat)), by rw [List.map_map]; rfl, ?_⟩
  induction n generalizing a with
  | zero => rfl
  | succ n ih =>
    rw [rngL, List.map_cons, ih (a + 1), List.range_succ_eq_map, List.map_cons, List.map_map, List.map_cons, List.map_map]
    congr 1
    · simp
    · rw [List.map_map]
      refine List.map_congr_left fun j _ => ?_
      simp only [Function.comp]
      congr 2
      omega
theorem rg_fin {e : Fr0} {ρ : Sl} {τ : Tm} {σ : L2.St} {H Hs : Hp} {a b : Int} {t : T} {q : Addr} (o : Ok g e ρ τ σ H Hs) (h : rgD a b = some t) (hq : H q = none) : RgOk a b ∧ Ok g e ρ (([.ref q], [t]) :: τ) σ (upd H q (.lst (rgV a b))) Hs := by
  unfold rgD at h
  split at h <;> (try (cases h; done))
  rename_i hb
  cases h
  refine ⟨hb, ?_⟩
  obtain ⟨ns, h1, h2⟩ := rgV_rng a (b - a).toNat
  unfold rgV
  rw [h1, h2]
  exact (o.fzInts ns).newList hq
theorem cj_lrng1 (k : Cp X g c) (h1 : glB c "list" = true) (h2 : glB c "range" = true) (hs : starB e1 = false) (ha : CJ X g W fa e1) :
    CJ X g W (fun ρ => bindR (fa ρ) fun t ρ1 => okR ((intD t.d).bind fun n => rgD 0 n) ρ1) (.Call (.Name "list" p1) [.Call (.Name "range" p2) [e1] [] p3] [] pos) := by
  obtain ⟨ta, pa, ra⟩ := ha
  refine ⟨_, pe_listRg k.calm (k.gl h1) (k.bn _ (by decide)) (prg_1 (k.gl h2) (k.bn _ (by decide)) pa (star_cons hs)) (star_cons rfl), fun e ρ τ σ H Hs Q o q => ?_⟩
  refine ra e ρ τ σ H Hs _ o (Post.bind q fun t ρ1 _ v H1 Hs1 o1 q1 => ?_)
  obtain ⟨u, hu, q2⟩ := q1.okR
  simp only [Option.bind_eq_some_iff] at hu
  obtain ⟨n, hn, hu⟩ := hu
  obtain ⟨f, rv⟩ := o1.top
  have rv := rv.now o1.sub
  have hv : v = .int n := by
    unfold intD at hn
    split at hn <;> (try (cases hn; done))
    rename_i hd
    cases hn
    rw [hd] at rv
    simpa only [Rep] using rv
  subst hv
  refine ⟨n, rfl, ?_, fun p hp => ?_⟩
  · unfold rgD at hu
    split at hu <;> (try (cases hu; done))
    rename_i hb
    exact hb
  · exact q2 _ _ _ (rg_fin o1.drop hu hp).2
theorem cj_lrng2 (k : Cp X g c) (h1 : glB c "list" = true) (h2 : glB c "range" = true) (hs : starB e1 = false) (hs2 : starB e2 = false) (ha : CJ X g W fa e1) (hb : CJ X g W fb e2) :
    CJ X g W (fun ρ => bindR (fa ρ) fun t ρ1 => bindR (fb ρ1) fun u ρ2 => okR ((intD t.d).bind fun n => (intD u.d).bind fun m => rgD n m) ρ2) (.Call (.Name "list" p1) [.Call (.Name "range" p2) [e1, e2] [] p3] [] pos) := by
  obtain ⟨ta, pa, ra⟩ := ha
  obtain ⟨tb, pb, rb⟩ := hb
  refine ⟨_, pe_listRg k.calm (k.gl h1) (k.bn _ (by decide)) (prg_2 (k.gl h2) (k.bn _ (by decide)) pa pb (star_cons hs) (star_cons hs2) (star_none fun x hx => by rw [List.mem_singleton] at hx; subst hx; exact hs2)) (star_cons rfl), fun e ρ τ σ H Hs Q o q => ?_⟩
  refine ra e ρ τ σ H Hs _ o (Post.bind q fun t ρ1 _ v H1 Hs1 o1 q1 => ?_)
  refine rb e ρ1 _ σ H1 Hs1 _ o1 (Post.bindD q1 fun u ρ2 _ w H2 Hs2 o2 q2 => ?_)
  obtain ⟨r, hu, q3⟩ := q2.okR
  simp only [Option.bind_eq_some_iff] at hu
  obtain ⟨n, hn, m, hm, hu⟩ := hu
  have key : ∀ {v : V} {t : T} {n : Int} {τ : Tm}, Ok g e ρ2 (([v], [t]) :: τ) σ H2 Hs2 → intD t.d = some n → v = .int n := by
    intro v t n τ o hn
    obtain ⟨f, rv⟩ := o.top
    have rv := rv.now o.sub
    unfold intD at hn
    split at hn <;> (try (cases hn; done))
    rename_i hd
    cases hn
    rw [hd] at rv
    simpa only [Rep] using rv
  obtain rfl := key o2 hm
  obtain rfl := key o2.swap hn
  refine ⟨n, m, rfl, rfl, ?_, fun p hp => ?_⟩
  · unfold rgD at hu
    split at hu <;> (try (cases hu; done))
    rename_i hb
    exact hb
  · exact q3 _ _ _ (rg_fin o2.drop.drop hu hp).2
end
/-! a loop over a list that stays one's own -/
def endB (i : Nat) (t : T) : Option Fl → Option Fl
  | some (.nx ρ) => some (.nx (ρ.set i (some t)))
  | r => r
def forBF (i : Nat) (st : T → Sl → Option Sl) (fb : Sl → Option Fl) (ρ : Sl) : Option Fl :=
  match ρ[i]? with
  | some (some (.lst ts)) => match allFz ts with
    | some ds => endB i (.lst ts) (forF st fb ds (ρ.set i none))
    | none => none
  | _ => none
def Fr0.pin (e : Fr0) (p : Nat × V) : Fr0 := ⟨e.H, e.S, e.F, p :: e.P⟩
def Cxt.pin (c : Cxt) (i : Nat) : Cxt := { c with prot := i :: c.prot }
section
variable {g : Gx} {e : Fr0} {ρ : Sl} {τ : Tm} {σ : L2.St} {H Hs : Hp}
theorem Ok.pin (o : Ok g e ρ τ σ H Hs) {p : Nat × V} (h : σ[p.1]? = some (some p.2)) : Ok g (e.pin p) ρ τ σ H Hs :=
  ⟨o.sub, o.sub0, o.new, o.frame, o.there, fun q hq => by
    rcases List.mem_cons.mp hq with rfl | hq
    · exact h
    · exact o.fix q hq, o.own⟩
theorem Ok.unpin {p : Nat × V} (o : Ok g (e.pin p) ρ τ σ H Hs) : Ok g e ρ τ σ H Hs := ⟨o.sub, o.sub0, o.new, o.frame, o.there, fun q hq => o.fix q (List.mem_cons_of_mem _ hq), o.own⟩
theorem Ok.unpinBack {i : Nat} {v : V} {t : T} (o : Ok g (e.pin (i, v)) ρ (([v], [t]) :: τ) σ H Hs) : Ok g e (ρ.set i (some t)) τ σ H Hs :=
  (Ok.back o (o.fix (i, v) (List.mem_cons_self ..))).unpin
theorem Ok.lstItems {v : V} {ts : List T} {ds : List D} (o : Ok g e ρ (([v], [.lst ts]) :: τ) σ H Hs) (h : allFz ts = some ds) : ∃ a vs, v = .ref a ∧ H a = some (.lst vs) ∧ Reps g Hs ds vs := by
  obtain ⟨f, r⟩ := o.top
  simp only [RepT] at r
  obtain ⟨a, vs, f', rfl, ha, _, r⟩ := r
  exact ⟨a, vs, rfl, ha, (allFz_rep h r).1⟩
end
theorem Cp.pin {X : Cx} {g : Gx} {c : Cxt} (k : Cp X g c) (i : Nat) : Cp X g (c.pin i) := ⟨k.N, k.nd, k.sc, k.calm, k.hk, k.hu, k.bn, k.kind, k.gd, k.fn, k.con⟩
theorem sj_forB {X : Cx} {g : Gx} {c : Cxt} {W : WX} {tg : Expr} {x : Str} {p pos : Pos} {i : Nat} {G : Tg} {fb : Sl → Option Fl} {body : List Stmt} (k : Cp X g c) (hpo : PassesOwn (model X.prog X.w) X.A X.env X.xe) (h1 : c.N[i]? = some x) (h2 : visB c x = true) (hg : GJ X g (c.pin i) G tg) (hb : SsJ X g (c.pin i) W fb body) :
    SJ X g c W (forBF i (stT G) fb) (.For tg (.Name x p) body [] pos) := by
  obtain ⟨v1, v2, v3⟩ := k.vis h2
  obtain ⟨gt, pg, rg⟩ := hg
  obtain ⟨tb, pb, rb⟩ := hb
  refine ⟨_, ps_for hpo k.calm (pi_list (pe_var (i := i) (by rw [k.N]; exact h1) v1 v2 v3)) pg pb (fun _ => rfl), fun e ρ τ σ H Hs D hp o q => ?_⟩
  unfold forBF at q
  split at q <;> (try exact q.elim)
  rename_i ts ht
  split at q <;> (try exact q.elim)
  rename_i ds hds
  obtain ⟨v, hv, o1⟩ := o.take ht
  have o1 := o1.pin (p := (i, v)) hv
  obtain ⟨a, vs, rfl, ha, _⟩ := o1.lstItems hds
  have hp' : PrOk (e.pin (i, .ref a)) (c.pin i) := fun p hm => by
    rcases List.mem_cons.mp hm with rfl | hm
    · exact List.mem_cons_self ..
    · exact List.mem_cons_of_mem _ (hp p hm)
  refine ⟨.ref a, hv, a, rfl, ⟨vs, SqL.of ha⟩, fun j m σ H => ∃ ρ Hs, j + m = ds.length ∧ Ok g (e.pin (i, .ref a)) ρ (([.ref a], [.lst ts]) :: τ) σ H Hs ∧ PostS g W e τ D (endB i (.lst ts) (forF (stT G) fb (ds.drop j) ρ)), ⟨ds.length, _, Hs, by omega, o1, q⟩, ?_⟩
  rintro j m σ H ⟨ρ, Hs, him, o, q⟩
  obtain ⟨a', vs, ea, ha, rs⟩ := o.lstItems hds
  cases ea
  cases hd : ds[j]? with
  | none =>
    have hj : j = ds.length := by
      have := List.getElem?_eq_none_iff.mp hd
      omega
    refine .inl ⟨⟨vs, SqL.of ha, by rw [rs.length, hj]; exact Nat.le_refl _⟩, ?_⟩
    rw [hj, List.drop_length] at q
    exact q σ H Hs o.unpinBack
  | some d =>
    have hj : j < ds.length := (List.getElem?_eq_some_iff.mp hd).1
    obtain ⟨w, hw, rw_⟩ := rs.at_ j d hd
    rw [List.drop_eq_getElem_cons hj] at q
    have hd' : ds[j] = d := (List.getElem?_eq_some_iff.mp hd).2
    rw [hd'] at q
    simp only [forF] at q
    refine .inr ⟨⟨vs, w, SqL.of ha, hw⟩, fun σ' H' => ∃ ρ Hs, Ok g (e.pin (i, .ref a)) ρ (([.ref a], [.lst ts]) :: τ) σ' H' Hs ∧ PostS g W e τ D (endB i (.lst ts) (forF (stT G) fb (ds.drop (j + 1)) ρ)), fun σ' H' ⟨ρ', Hs', o', q'⟩ => ⟨m - 1, by omega, ρ', Hs', by omega, o', q'⟩, fun y H' hy => ?_⟩
    obtain ⟨rfl, hy⟩ := hy
    have hy := hy vs (SqL.of ha)
    rw [hw] at hy
    cases hy
    have o2 := o.push rw_
    cases hst : stT G (.fz d) ρ with
    | none => rw [hst] at q; exact q.elim
    | some ρ2 =>
      rw [hst] at q
      simp only at q
      refine rg _ ρ _ σ H' Hs w (.fz d) _ hp' o2 ⟨ρ2, hst, fun σ2 _ o3 => rb _ ρ2 _ σ2 H' Hs _ hp' o3 ?_⟩
      cases h2 : fb ρ2 with
      | none => rw [h2] at q; exact q
      | some r2 =>
        rw [h2] at q
        cases r2 with
        | nx ρ3 => exact fun σ' H' Hs' o' => ⟨ρ3, Hs', o', q⟩
        | ct ρ3 => exact fun σ' H' Hs' o' => ⟨ρ3, Hs', o', q⟩
        | bk ρ3 => exact fun σ' H' Hs' o' => q σ' H' Hs' o'.unpinBack
        | ret t ρ3 => exact fun v σ' H' Hs' o' => q v σ' H' Hs' o'.swap.drop.unpin
        | ex c t ρ3 => exact fun v dx σ' H' Hs' o' hd => q v dx σ' H' Hs' o'.swap.drop.unpin hd
end DL
namespace DL
open PySem PySem.Spec PyProof.Rows L2

/-! ### terms that are matched with the text -/
/-- a form of call of a def of the text -/
structure Cal where
  nm : Str
  n : Nat
  st : Option Nat
  ks : List Str
  idx : List Nat
  F : List T → Option Out
def Cal.sp (g : Gx) (a : Cal) : Sp := match a.st with
  | some m => spStar g a.F m
  | none => match a.ks with
    | [] => SpD g a.F
    | _ :: _ => fun vs => SpD g a.F (pickL a.idx vs)
structure Tab (X : Cx) (g : Gx) (tb : List Cal) : Prop where
  at_ : ∀ a ∈ tb, FnAtF X a.nm a.n a.ks (a.sp g)
/-- arguments that need no reckoning -/
inductive A1 where
  | b (p : P) | io (i : Nat)
mutual
inductive E where
  | p (a : P) | fzs (i : Nat) | mv (i : Nat) | fz (a : E)
  | bin (o : O2) (a b : E) | cmp (o : O2) (a b : E) | neg (a : E) | not (a : E) | ix (a b : E)
  | tup (es : Es) | lst (es : Es) | ife (t : B) (a b : E) | add (a b : E) | slice (a : E) (lo hi : Oe)
  | bf (b : Bf) (es : Es) | sset (a : E) | lrng1 (a : E) | lrng2 (a b : E)
  | call0 (j : Nat) | call (j : Nat) (vs : Vs) | callS (j : Nat) (vs : Vs) | callK0 (j : Nat) (ks : List P) | callK (j : Nat) (vs : List A1) (ks : List P)
  | mm0 (m : Mm) (a : Pt) | mm1 (m : Mm) (a : Pt) (q : P) | mm (m : Mm) (i : Nat) (es : Es)
  | lc (own : List (Str × Nat)) (G : Tg) (it : I) (t : Bs) (el : E) | and (a b : E) | or (a b : E)
inductive Oe where
  | none | some (a : E)
inductive Es where
  | nil | cons (a : E) (r : Es)
inductive Vs where
  | q (l : List A1) | c (a : E) (r : Vs) | bf (p : P) (r : Vs) | io (i : Nat) (r : Vs)
inductive B where
  | p (a : P) | val (a : E) | not (a : B) | and (a b : B) | or (a b : B) | cmp (o : O2) (a b : E) | ife (t a b : B)
inductive Bs where
  | nil | one (a : B)
inductive I where
  | lst (a : E) | tup (a : E) | str (a : E) | rng1 (a : E) | rng2 (a b : E) | rng3 (a b d : E) | rev (a : E) | enum (a : E) | zip (a b : E)
end
mutual
inductive S where
  | pass | brk | cont | ex (a : E) | ret (a : E) | retN | ife (t : B) (a b : Ss)
  | asg (i : Nat) (a : E) | aug (o : O2) (i : Nat) (a : E) | par2 (i j : Nat) (es : Es) | par3 (i j l : Nat) (es : Es) | tgt (G : Tg) (a : E)
  | whl (t : B) (b : Ss) | for_ (G : Tg) (it : I) (b : Ss) | set (a : Pt) (q : P) (v : E)
  | asgLc (i : Nat) (own : List (Str × Nat)) (G : Tg) (it : I) (t : Bs) (el : E) | nev | kill (is : List Nat) (s : S) | forB (i : Nat) (G : Tg) (b : Ss)
inductive Ss where
  | nil | cons (a : S) (r : Ss) | nev
end
/-! what they make -/
def evV1 : List A1 → Sl → Option (List AV)
  | [] => fun _ => some []
  | .b p :: r => fun ρ => (evP p ρ).bind fun t => (evV1 r ρ).map fun avs => .bor t :: avs
  | .io i :: r => fun ρ => match ρ[i]? with
    | some (some _) => (evV1 r ρ).map fun avs => .io i :: avs
    | _ => none
def evKs : List P → Sl → Option (List T)
  | [] => fun _ => some []
  | p :: r => fun ρ => (evP p ρ).bind fun t => (evKs r ρ).map (t :: ·)
def pR (p : P) : Sl → Option (Rs T) := fun ρ => match evP p ρ with
  | some (.fz d) => some (.ok (.fz d) ρ)
  | _ => none
def fzsR (i : Nat) : Sl → Option (Rs T) := fun ρ => match ρ[i]? with
  | some (some t) => some (.ok (.fz t.d) (ρ.set i (some (.fz t.d))))
  | _ => none
def mvR (i : Nat) : Sl → Option (Rs T) := fun ρ => match ρ[i]? with
  | some (some t) => some (.ok t (ρ.set i none))
  | _ => none
def callR (a : Cal) (f : Sl → Option (Rs (List AV))) : Sl → Option (Rs T) := fun ρ => bindR (f ρ) fun avs ρ1 => if avs.length = a.n then callD a.F avs ρ1 else none
def callSR (a : Cal) (m : Nat) (f : Sl → Option (Rs (List AV))) : Sl → Option (Rs T) := fun ρ => bindR (f ρ) fun avs ρ1 => if avs.length = a.n then callSt a.F m avs ρ1 else none
def callK0R (a : Cal) (f : Sl → Option (List T)) : Sl → Option (Rs T) := fun ρ => match (f ρ).bind allFz with
  | some ds => if ds.length = a.ks.length then callD a.F (ownsA (pickL a.idx ds)) ρ else none
  | none => none
def callKR (a : Cal) (f1 : Sl → Option (List AV)) (f : Sl → Option (List T)) : Sl → Option (Rs T) := fun ρ => match (f1 ρ).bind allFzA, (f ρ).bind allFz with
  | some es, some ds => if es.length = a.n ∧ ds.length = a.ks.length then callD a.F (ownsA (pickL a.idx (es ++ ds))) ρ else none
  | _, _ => none
def lcR (vs : List Nat) (G : Tg) (fi : Sl → Option (Rs (List D))) (ft : Sl → Option (Rs Bool)) (fe : Sl → Option (Rs T)) : Sl → Option (Rs T) := fun ρ => bindR (fi ρ) fun ds ρ1 => bindR (lcF (stT G) ft fe vs ds (wipeT ρ1 vs) []) fun ts ρ2 => some (.ok (.lst ts) ρ2)
def augR (o : O2) (i : Nat) (f : Sl → Option (Rs T)) : Sl → Option Fl := fun ρ => match ρ[i]? with
  | some (some (.fz d)) => bindE (f ρ) fun t ρ1 => match o2 o d t.d with
    | some d' => if i < ρ1.length then some (.nx (ρ1.set i (some (.fz d')))) else none
    | none => none
  | _ => none
def mm1R (m : Mm) (a : Pt) (q : P) : Sl → Option (Rs T) := fun ρ => match evP q ρ with
  | some (.fz d) => evMmP m a [.fz d] ρ
  | _ => none
def bfR (p : P) (fr : Sl → Option (Rs (List AV))) : Sl → Option (Rs (List AV)) := fun ρ => match evP p ρ with
  | some (.fz d) => bindR (fr ρ) fun avs ρ2 => some (.ok (.bor (.fz d) :: avs) ρ2)
  | _ => none
def ioR (i : Nat) (fr : Sl → Option (Rs (List AV))) : Sl → Option (Rs (List AV)) := fun ρ => match ρ[i]? with
  | some (some _) => bindR (fr ρ) fun avs ρ2 => some (.ok (.io i :: avs) ρ2)
  | _ => none
def andR (fa fb : Sl → Option (Rs T)) : Sl → Option (Rs T) := fun ρ => bindR (fa ρ) fun x ρ1 => match x.d.tru with | some true => fb ρ1 | some false => some (.ok x ρ1) | none => none
def orR (fa fb : Sl → Option (Rs T)) : Sl → Option (Rs T) := fun ρ => bindR (fa ρ) fun x ρ1 => match x.d.tru with | some true => some (.ok x ρ1) | some false => fb ρ1 | none => none
mutual
def evE (tb : List Cal) : E → Sl → Option (Rs T)
  | .p a => pR a
  | .fzs i => fzsR i
  | .mv i => mvR i
  | .fz a => fun ρ => bindR (evE tb a ρ) fun x ρ1 => some (.ok (.fz x.d) ρ1)
  | .bin o a b => fun ρ => bindR (evE tb a ρ) fun x ρ1 => bindR (evE tb b ρ1) fun y ρ2 => okR ((o2 o x.d y.d).map T.fz) ρ2
  | .cmp o a b => fun ρ => bindR (evE tb a ρ) fun x ρ1 => bindR (evE tb b ρ1) fun y ρ2 => okR ((o2 o x.d y.d).map T.fz) ρ2
  | .neg a => fun ρ => bindR (evE tb a ρ) fun x ρ1 => okR ((negD x.d).map T.fz) ρ1
  | .not a => fun ρ => bindR (evE tb a ρ) fun x ρ1 => okR ((x.d.tru.map fun b => D.bl (!b)).map T.fz) ρ1
  | .ix a b => fun ρ => bindR (evE tb a ρ) fun x ρ1 => bindR (evE tb b ρ1) fun y ρ2 => okR (((ixT x y.d).bind fzD).map T.fz) ρ2
  | .tup es => fun ρ => bindR (evEs tb es ρ) fun ts ρ1 => if ts.length ≤ sizeLine then some (.ok (tupT ts) ρ1) else none
  | .lst es => fun ρ => bindR (evEs tb es ρ) fun ts ρ1 => if ts.length ≤ sizeLine then some (.ok (.lst ts) ρ1) else none
  | .ife t a b => fun ρ => bindR (evB tb t ρ) fun k ρ1 => if k = true then evE tb a ρ1 else evE tb b ρ1
  | .add a b => fun ρ => bindR (evE tb a ρ) fun x ρ1 => bindR (evE tb b ρ1) fun y ρ2 => okR (addT x y) ρ2
  | .slice a lo hi => fun ρ => bindR (evE tb a ρ) fun x ρ1 => bindR (evOe tb lo ρ1) fun l ρ2 => bindR (evOe tb hi ρ2) fun h ρ3 => okR (sliceT x l h) ρ3
  | .bf b es => fun ρ => bindR (evEs tb es ρ) fun us ρ1 => okR (bfT b us) ρ1
  | .sset a => fun ρ => bindR (evE tb a ρ) fun t ρ1 => okR (ssetT t) ρ1
  | .lrng1 a => fun ρ => bindR (evE tb a ρ) fun t ρ1 => okR ((intD t.d).bind fun n => rgD 0 n) ρ1
  | .lrng2 a b => fun ρ => bindR (evE tb a ρ) fun t ρ1 => bindR (evE tb b ρ1) fun u ρ2 => okR ((intD t.d).bind fun n => (intD u.d).bind fun m => rgD n m) ρ2
  | .call0 j => match tb[j]? with
    | some a => fun ρ => callD a.F [] ρ
    | none => fun _ => none
  | .call j vs => match tb[j]? with
    | some a => callR a (evVs tb vs)
    | none => fun _ => none
  | .callS j vs => match tb[j]? with
    | some a => callSR a (a.st.getD 0) (evVs tb vs)
    | none => fun _ => none
  | .callK0 j ks => match tb[j]? with
    | some a => callK0R a (evKs ks)
    | none => fun _ => none
  | .callK j vs ks => match tb[j]? with
    | some a => callKR a (evV1 vs) (evKs ks)
    | none => fun _ => none
  | .mm0 m a => evMmP m a []
  | .mm1 m a q => mm1R m a q
  | .mm m i es => fun ρ => if lstAt i ρ = true then bindR (evEs tb es ρ) fun us ρ1 => evMm m i us ρ1 else none
  | .lc own G it t el => lcR (own.map (·.2)) G (evI tb it) (evBs tb t) (evE tb el)
  | .and a b => andR (evE tb a) (evE tb b)
  | .or a b => orR (evE tb a) (evE tb b)
def evOe (tb : List Cal) : Oe → Sl → Option (Rs (Option Int))
  | .none => fun ρ => some (.ok none ρ)
  | .some a => fun ρ => bindR (evE tb a ρ) fun x ρ1 => okR ((intD x.d).map some) ρ1
def evEs (tb : List Cal) : Es → Sl → Option (Rs (List T))
  | .nil => fun ρ => some (.ok [] ρ)
  | .cons a r => fun ρ => bindR (evE tb a ρ) fun x ρ1 => bindR (evEs tb r ρ1) fun xs ρ2 => some (.ok (x :: xs) ρ2)
def evVs (tb : List Cal) : Vs → Sl → Option (Rs (List AV))
  | .q l => fun ρ => okR (evV1 l ρ) ρ
  | .c a r => fun ρ => bindR (evE tb a ρ) fun t ρ1 => bindR (evVs tb r ρ1) fun avs ρ2 => some (.ok (.own t :: avs) ρ2)
  | .bf p r => bfR p (evVs tb r)
  | .io i r => ioR i (evVs tb r)
def evB (tb : List Cal) : B → Sl → Option (Rs Bool)
  | .p a => fun ρ => okR (evT a ρ) ρ
  | .val a => fun ρ => bindR (evE tb a ρ) fun x ρ1 => okR x.d.tru ρ1
  | .not a => fun ρ => bindR (evB tb a ρ) fun b ρ1 => some (.ok (!b) ρ1)
  | .and a b => fun ρ => bindR (evB tb a ρ) fun k ρ1 => if k = true then evB tb b ρ1 else some (.ok false ρ1)
  | .or a b => fun ρ => bindR (evB tb a ρ) fun k ρ1 => if k = true then some (.ok true ρ1) else evB tb b ρ1
  | .cmp o a b => fun ρ => bindR (evE tb a ρ) fun x ρ1 => bindR (evE tb b ρ1) fun y ρ2 => okR ((o2 o x.d y.d).bind D.tru) ρ2
  | .ife t a b => fun ρ => bindR (evB tb t ρ) fun k ρ1 => if k = true then evB tb a ρ1 else evB tb b ρ1
def evBs (tb : List Cal) : Bs → Sl → Option (Rs Bool)
  | .nil => fun ρ => some (.ok true ρ)
  | .one a => evB tb a
def evI (tb : List Cal) : I → Sl → Option (Rs (List D))
  | .lst a => fun ρ => bindR (evE tb a ρ) fun t ρ1 => okR (lstD t.d) ρ1
  | .tup a => fun ρ => bindR (evE tb a ρ) fun t ρ1 => okR (tupD t.d) ρ1
  | .str a => fun ρ => bindR (evE tb a ρ) fun t ρ1 => okR (strD t.d) ρ1
  | .rng1 a => fun ρ => bindR (evE tb a ρ) fun t ρ1 => okR (rng1D t.d) ρ1
  | .rng2 a b => fun ρ => bindR (evE tb a ρ) fun t ρ1 => bindR (evE tb b ρ1) fun u ρ2 => okR (rng2D t.d u.d) ρ2
  | .rng3 a b d => fun ρ => bindR (evE tb a ρ) fun t ρ1 => bindR (evE tb b ρ1) fun u ρ2 => bindR (evE tb d ρ2) fun w ρ3 => okR (rng3D t.d u.d w.d) ρ3
  | .rev a => fun ρ => bindR (evE tb a ρ) fun t ρ1 => okR ((lstD t.d).map List.reverse) ρ1
  | .enum a => fun ρ => bindR (evE tb a ρ) fun t ρ1 => okR ((lstD t.d).map (enumL 0)) ρ1
  | .zip a b => fun ρ => bindR (evE tb a ρ) fun t ρ1 => bindR (evE tb b ρ1) fun u ρ2 => okR (zipD t.d u.d) ρ2
end
mutual
noncomputable def evS (tb : List Cal) : S → Sl → Option Fl
  | .pass => fun ρ => some (.nx ρ)
  | .brk => fun ρ => some (.bk ρ)
  | .cont => fun ρ => some (.ct ρ)
  | .ex a => fun ρ => bindE (evE tb a ρ) fun _ ρ1 => some (.nx ρ1)
  | .ret a => fun ρ => bindE (evE tb a ρ) fun t ρ1 => some (.ret t ρ1)
  | .retN => fun ρ => some (.ret (.fz .non) ρ)
  | .ife t a b => fun ρ => bindE (evB tb t ρ) fun k ρ1 => if k = true then evSs tb a ρ1 else evSs tb b ρ1
  | .asg i a => fun ρ => bindE (evE tb a ρ) fun t ρ1 => if i < ρ1.length then some (.nx (ρ1.set i (some t))) else none
  | .aug o i a => augR o i (evE tb a)
  | .par2 i j es => fun ρ => bindE (evEs tb es ρ) fun ts ρ1 => (storeG [i, j] ts ρ1).map Fl.nx
  | .par3 i j l es => fun ρ => bindE (evEs tb es ρ) fun ts ρ1 => (storeG [i, j, l] ts ρ1).map Fl.nx
  | .tgt G a => fun ρ => bindE (evE tb a ρ) fun t ρ1 => (stT G t ρ1).map Fl.nx
  | .whl t b => whileF (evB tb t) (evSs tb b)
  | .for_ G it b => fun ρ => bindE (evI tb it ρ) fun ds ρ1 => forF (stT G) (evSs tb b) ds ρ1
  | .set a q v => fun ρ => bindE (evE tb v ρ) fun t ρ1 => evSet a q t ρ1
  | .asgLc i own G it t el => fun ρ => bindE (lcR (own.map (·.2)) G (evI tb it) (evBs tb t) (evE tb el) ρ) fun t ρ1 => if i < ρ1.length then some (.nx (ρ1.set i (some t))) else none
  | .nev => fun _ => none
  | .kill is s => fun ρ => evS tb s (wipeT ρ is)
  | .forB i G b => forBF i (stT G) (evSs tb b)
noncomputable def evSs (tb : List Cal) : Ss → Sl → Option Fl
  | .nil => fun ρ => some (.nx ρ)
  | .cons a r => fun ρ => bindF (evS tb a ρ) (evSs tb r)
  | .nev => fun _ => none
end
/-! whether they are the text -/
def mtV1 (c : Cxt) : List A1 → List Expr → Bool
  | [], es => match es with
    | [] => true
    | _ => false
  | .b p :: r, es => match es with
    | e :: es => !starB e && mtP c p e && mtV1 c r es
    | _ => false
  | .io i :: r, es => match es with
    | .Name x _ :: es => c.N[i]? == some x && visB c x && mtV1 c r es
    | _ => false
def mtKs (c : Cxt) : List P → List Keyword → Bool
  | [], es => match es with
    | [] => true
    | _ => false
  | p :: r, es => match es with
    | ⟨_, e, _⟩ :: es => mtP c p e && mtKs c r es
    | _ => false
def noStar (es : List Expr) : Bool := es.all fun e => !starB e
def blkD (c : Cxt) (scope : Scope) (own : List (Str × Nat)) : Bool := blkC c.N { scope with names := c.look } scope own
def setE : Expr → Bool
  | .Set _ _ _ => true
  | _ => false
def bopB : Expr → Bool
  | .BoolOp _ _ _ => true | .UnaryOp .Not _ _ => true | .IfExp _ _ _ _ => true | .Compare _ _ _ _ => true | .NamedExpr _ _ _ => true
  | _ => false
mutual
def mtE (tb : List Cal) : E → Cxt → Expr → Bool
  | .p a, c, ex => mtP c a ex
  | .fzs i, c, ex => match ex with
    | .Name x _ => c.N[i]? == some x && visB c x
    | _ => false
  | .mv i, c, ex => match ex with
    | .Name x _ => c.N[i]? == some x && visB c x
    | _ => false
  | .fz a, c, ex => mtE tb a c ex
  | .bin o a b, c, ex => match ex with
    | .BinOp e1 op e2 _ => o.bin == some op && mtE tb a c e1 && mtE tb b c e2
    | _ => false
  | .cmp o a b, c, ex => match ex with
    | .Compare e1 [op] [e2] _ => o.bin == none && o.cmp == some op && !setB e2 && mtE tb a c e1 && mtE tb b c e2
    | _ => false
  | .neg a, c, ex => match ex with
    | .UnaryOp .USub e _ => mtE tb a c e
    | _ => false
  | .not a, c, ex => match ex with
    | .UnaryOp .Not e _ => mtE tb a c e
    | _ => false
  | .ix a b, c, ex => match ex with
    | .Subscript e1 e2 _ => !slB e2 && mtE tb a c e1 && mtE tb b c e2
    | _ => false
  | .tup es, c, ex => match ex with
    | .Tuple xs _ _ => mtEs tb es c xs
    | _ => false
  | .lst es, c, ex => match ex with
    | .List xs _ => mtEs tb es c xs
    | _ => false
  | .ife t a b, c, ex => match ex with
    | .IfExp e1 e2 e3 _ => mtB tb t c e1 && mtE tb a c e2 && mtE tb b c e3
    | _ => false
  | .add a b, c, ex => match ex with
    | .BinOp e1 .Add e2 _ => mtE tb a c e1 && mtE tb b c e2
    | _ => false
  | .slice a lo hi, c, ex => match ex with
    | .Subscript e1 (.Slice l h none _) _ => mtE tb a c e1 && mtOe tb lo c l && mtOe tb hi c h
    | _ => false
  | .bf b es, c, ex => match ex with
    | .Call (.Name f _) (x :: xs) [] _ => f == b.nm && glB c f && mtEs tb es c (x :: xs)
    | _ => false
  | .sset a, c, ex => match ex with
    | .Call (.Name f _) [.Call (.Name h _) [e] [] _] [] _ => f == ("sorted" : Str) && h == ("set" : Str) && glB c f && glB c h && !starB e && mtE tb a c e
    | _ => false
  | .lrng1 a, c, ex => match ex with
    | .Call (.Name f _) [.Call (.Name h _) [e] [] _] [] _ => f == ("list" : Str) && h == ("range" : Str) && glB c f && glB c h && !starB e && mtE tb a c e
    | _ => false
  | .lrng2 a b, c, ex => match ex with
    | .Call (.Name f _) [.Call (.Name h _) [e, e'] [] _] [] _ => f == ("list" : Str) && h == ("range" : Str) && glB c f && glB c h && !starB e && !starB e' && mtE tb a c e && mtE tb b c e'
    | _ => false
  | .call0 j, c, ex => match ex with
    | .Call (.Name f _) [] [] _ => match tb[j]? with
      | some a => f == a.nm && a.n == 0 && a.st == none && a.ks == [] && glB c f && f != "__debug__"
      | none => false
    | _ => false
  | .call j vs, c, ex => match ex with
    | .Call (.Name f _) (x :: xs) [] _ => match tb[j]? with
      | some a => f == a.nm && a.st == none && a.ks == [] && glB c f && f != "__debug__" && noStar (x :: xs) && mtVs tb vs c (x :: xs)
      | none => false
    | _ => false
  | .callS j vs, c, ex => match ex with
    | .Call (.Name f _) (x :: xs) [] _ => match tb[j]? with
      | some a => f == a.nm && a.st.isSome && a.ks == [] && glB c f && f != "__debug__" && noStar (x :: xs) && mtVs tb vs c (x :: xs)
      | none => false
    | _ => false
  | .callK0 j ks, c, ex => match ex with
    | .Call (.Name f _) [] (q :: kws) _ => match tb[j]? with
      | some a => f == a.nm && a.n == 0 && a.st == none && glB c f && f != "__debug__" && decide ((q :: kws).map (fun q => q.arg) = a.ks.map some) && mtKs c ks (q :: kws)
      | none => false
    | _ => false
  | .callK j vs ks, c, ex => match ex with
    | .Call (.Name f _) (x :: xs) (q :: kws) _ => match tb[j]? with
      | some a => f == a.nm && a.st == none && glB c f && f != "__debug__" && noStar (x :: xs) && decide ((q :: kws).map (fun q => q.arg) = a.ks.map some) && mtV1 c vs (x :: xs) && mtKs c ks (q :: kws)
      | none => false
    | _ => false
  | .mm0 m a, c, ex => match ex with
    | .Call (.Attribute o nm ap) [] [] cp => nm == m.nm && mtPt c a o && ap.endLine == cp.line
    | _ => false
  | .mm1 m a q, c, ex => match ex with
    | .Call (.Attribute o nm ap) [x] [] cp => nm == m.nm && mtPt c a o && mtP c q x && !starB x && ap.endLine == cp.line
    | _ => false
  | .mm m i es, c, ex => match ex with
    | .Call (.Attribute (.Name y _) nm ap) (x :: xs) [] cp => nm == m.nm && c.N[i]? == some y && visB c y && decide (xs.length < 25) && mtEs tb es c (x :: xs) && ap.endLine == cp.line
    | _ => false
  | .lc own G it t el, c, ex => match ex with
    | .ListComp elt [⟨tg, iter, ifs, 0⟩] scope _ => blkD c scope own && (G.sl.all fun i => (own.map (·.2)).contains i) && !setE iter && mtI tb it c tg iter && mtG (c.inB scope) G tg && mtBs tb t (c.inB scope) ifs && mtE tb el (c.inB scope) elt
    | _ => false
  | .and a b, c, ex => match ex with
    | .BoolOp .And [e1, e2] _ => mtE tb a c e1 && mtE tb b c e2
    | .BoolOp .And (e1 :: e2 :: e3 :: es) pos => mtE tb a c e1 && mtE tb b c (.BoolOp .And (e2 :: e3 :: es) pos)
    | _ => false
  | .or a b, c, ex => match ex with
    | .BoolOp .Or [e1, e2] _ => mtE tb a c e1 && mtE tb b c e2
    | .BoolOp .Or (e1 :: e2 :: e3 :: es) pos => mtE tb a c e1 && mtE tb b c (.BoolOp .Or (e2 :: e3 :: es) pos)
    | _ => false
def mtOe (tb : List Cal) : Oe → Cxt → Option Expr → Bool
  | .none, c, ex => match ex with
    | none => true
    | some _ => false
  | .some a, c, ex => match ex with
    | some e => mtE tb a c e
    | none => false
def mtEs (tb : List Cal) : Es → Cxt → List Expr → Bool
  | .nil, c, es => match es with
    | [] => true
    | _ => false
  | .cons a r, c, es => match es with
    | e :: es => !starB e && mtE tb a c e && mtEs tb r c es
    | _ => false
def mtVs (tb : List Cal) : Vs → Cxt → List Expr → Bool
  | .q l, c, es => mtV1 c l es
  | .c a r, c, es => match es with
    | e :: es => !starB e && mtE tb a c e && mtVs tb r c es
    | _ => false
  | .bf p r, c, es => match es with
    | e :: es => !starB e && mtP c p e && mtVs tb r c es
    | _ => false
  | .io i r, c, es => match es with
    | .Name x _ :: es => c.N[i]? == some x && visB c x && mtVs tb r c es
    | _ => false
def mtB (tb : List Cal) : B → Cxt → Expr → Bool
  | .p a, c, ex => mtP c a ex
  | .val a, c, ex => !bopB ex && mtE tb a c ex
  | .not a, c, ex => match ex with
    | .UnaryOp .Not e _ => mtB tb a c e
    | _ => false
  | .and a b, c, ex => match ex with
    | .BoolOp .And [e1, e2] _ => mtB tb a c e1 && mtB tb b c e2
    | .BoolOp .And (e1 :: e2 :: e3 :: es) pos => mtB tb a c e1 && mtB tb b c (.BoolOp .And (e2 :: e3 :: es) pos)
    | _ => false
  | .or a b, c, ex => match ex with
    | .BoolOp .Or [e1, e2] _ => mtB tb a c e1 && mtB tb b c e2
    | .BoolOp .Or (e1 :: e2 :: e3 :: es) pos => mtB tb a c e1 && mtB tb b c (.BoolOp .Or (e2 :: e3 :: es) pos)
    | _ => false
  | .cmp o a b, c, ex => match ex with
    | .Compare e1 [op] [e2] _ => o.bin == none && o.cmp == some op && !setB e2 && mtE tb a c e1 && mtE tb b c e2
    | _ => false
  | .ife t a b, c, ex => match ex with
    | .IfExp e1 e2 e3 _ => mtB tb t c e1 && mtB tb a c e2 && mtB tb b c e3
    | _ => false
def mtBs (tb : List Cal) : Bs → Cxt → List Expr → Bool
  | .nil, c, es => match es with
    | [] => true
    | _ => false
  | .one a, c, es => match es with
    | [e] => mtB tb a c e
    | _ => false
def mtI (tb : List Cal) : I → Cxt → Expr → Expr → Bool
  | .lst a, c, tg, ex => mtE tb a c ex
  | .tup a, c, tg, ex => mtE tb a c ex
  | .str a, c, tg, ex => mtE tb a c ex
  | .rng1 a, c, tg, ex => match ex with
    | .Call (.Name f _) [e1] [] _ => f == ("range" : Str) && glB c f && !starB e1 && mtE tb a c e1
    | _ => false
  | .rng2 a b, c, tg, ex => match ex with
    | .Call (.Name f _) [e1, e2] [] _ => f == ("range" : Str) && glB c f && !starB e1 && !starB e2 && mtE tb a c e1 && mtE tb b c e2
    | _ => false
  | .rng3 a b d, c, tg, ex => match ex with
    | .Call (.Name f _) [e1, e2, e3] [] _ => f == ("range" : Str) && glB c f && !starB e1 && !starB e2 && !starB e3 && mtE tb a c e1 && mtE tb b c e2 && mtE tb d c e3
    | _ => false
  | .rev a, c, tg, ex => match ex with
    | .Call (.Name f _) [e1] [] _ => f == ("reversed" : Str) && glB c f && !starB e1 && mtE tb a c e1
    | _ => false
  | .enum a, c, tg, ex => match tg, ex with
    | .Tuple _ _ _, .Call (.Name f _) [e1] [] _ => f == ("enumerate" : Str) && glB c f && !starB e1 && mtE tb a c e1
    | _, _ => false
  | .zip a b, c, tg, ex => match tg, ex with
    | .Tuple _ _ _, .Call (.Name f _) [e1, e2] [] _ => f == ("zip" : Str) && glB c f && !starB e1 && !starB e2 && mtE tb a c e1 && mtE tb b c e2
    | _, _ => false
end
mutual
def mtS (tb : List Cal) : S → Cxt → Stmt → Bool
  | .pass, c, st => match st with
    | .Pass _ => true
    | _ => false
  | .brk, c, st => match st with
    | .Break _ => true
    | _ => false
  | .cont, c, st => match st with
    | .Continue _ => true
    | _ => false
  | .ex a, c, st => match st with
    | .Expr e _ => !compB e && mtE tb a c e
    | _ => false
  | .ret a, c, st => match st with
    | .Return (some e) _ => mtE tb a c e
    | _ => false
  | .retN, c, st => match st with
    | .Return none _ => true
    | _ => false
  | .ife t a b, c, st => match st with
    | .If e x y _ => mtB tb t c e && mtSs tb a c x && mtSs tb b c y
    | _ => false
  | .asg i a, c, st => match st with
    | .Assign [.Name x _] e _ => c.N[i]? == some x && locB c x && !c.prot.contains i && !compB e && mtE tb a c e
    | _ => false
  | .aug o i a, c, st => match st with
    | .AugAssign (.Name x _) op e _ => o.bin == some op && augB o && c.N[i]? == some x && locB c x && !c.prot.contains i && mtE tb a c e
    | _ => false
  | .par2 i j es, c, st => match st with
    | .Assign [.Tuple [.Name x px, .Name y py] _ _] (.Tuple [e1, e2] _ _) _ => c.N[i]? == some x && c.N[j]? == some y && i != j && loclB c x && loclB c y && !c.prot.contains i && !c.prot.contains j && py.line == px.line && x != y && parB [e1, e2] && mtEs tb es c [e1, e2]
    | _ => false
  | .par3 i j l es, c, st => match st with
    | .Assign [.Tuple [.Name x px, .Name y py, .Name z pz] _ _] (.Tuple [e1, e2, e3] _ _) _ => c.N[i]? == some x && c.N[j]? == some y && c.N[l]? == some z && i != j && i != l && j != l && loclB c x && loclB c y && loclB c z && !c.prot.contains i && !c.prot.contains j && !c.prot.contains l && py.line == px.line && pz.line == px.line && x != y && x != z && y != z && parB [e1, e2, e3] && mtEs tb es c [e1, e2, e3]
    | _ => false
  | .tgt G a, c, st => match st with
    | .Assign [tg] e _ => mtG c G tg && !starB tg && !compB e && (!tupB e || swB c tg e) && mtE tb a c e
    | _ => false
  | .whl t b, c, st => match st with
    | .While e x [] _ => mtB tb t c e && mtSs tb b c x
    | _ => false
  | .for_ G it b, c, st => match st with
    | .For tg iter x [] _ => !setE iter && mtI tb it c tg iter && mtG c G tg && mtSs tb b c x
    | _ => false
  | .set a q v, c, st => match st with
    | .Assign [.Subscript o i _] e _ => mtPt c a o && !slB i && mtP c q i && mtE tb v c e
    | _ => false
  | .asgLc i own G it t el, c, st => match st with
    | .Assign [.Name x py] (.ListComp elt [⟨tg, iter, ifs, 0⟩] scope pos) _ => blkD c scope own && (G.sl.all fun i => (own.map (·.2)).contains i) && !setE iter && c.N[i]? == some x && c.look.lookup x == some .local && !c.prot.contains i && py.line == pos.line && !(scope.names.any fun (n, k) => n == x && (k == .local || k == .cell)) && mtI tb it c tg iter && mtG (c.inB scope) G tg && mtBs tb t (c.inB scope) ifs && mtE tb el (c.inB scope) elt
    | _ => false
  | .nev, c, st => true
  | .kill is s, c, st => mtS tb s c st
  | .forB i G b, c, st => match st with
    | .For tg (.Name x _) body [] _ => c.N[i]? == some x && visB c x && mtG (c.pin i) G tg && mtSs tb b (c.pin i) body
    | _ => false
def mtSs (tb : List Cal) : Ss → Cxt → List Stmt → Bool
  | .nil, c, st => match st with
    | [] => true
    | _ => false
  | .cons a r, c, st => match st with
    | s :: st => mtS tb a c s && mtSs tb r c st
    | _ => false
  | .nev, c, st => true
end
end DL
namespace DL
open PySem PySem.Spec PyProof.Rows L2

/-! ### the terms are right -/
section
variable {g : Gx} {tb : List Cal}
theorem blkD_ok {X : Cx} {c : Cxt} {scope : Scope} {own : List (Str × Nat)} (k : Cp X g c) (h : blkD c scope own = true) : blkC X.N X.env.scope scope own = true := by
  unfold blkD blkC at h
  unfold blkC
  rw [k.N]
  simp only [k.sc]
  exact h
theorem Tab.blk {X : Cx} (t : Tab X g tb) (s : Shared) (H : Hp) (scope : Scope) (cenv : Env) (fp : List Addr) : Tab (X.blk s H scope cenv fp) g tb := ⟨fun a ha => ⟨(t.at_ a ha).ex⟩⟩
theorem noSet {ex : Expr} {env : Env} (h : setE ex = false) : ∀ x, foldedSetIterable ex env x = pure x := by
  intro x
  cases ex <;> first | rfl | (simp [setE] at h; done)
theorem noBop {ex : Expr} {env : Env} (h : bopB ex = false) : ∀ whole, isTrue ex env whole = (do let v ← whole; standAt ex.pos; holding [v] (truthy v)) := by
  intro w
  cases ex <;> first
    | rfl
    | (simp [bopB] at h; done)
    | (rename_i op e pos; cases op <;> first | rfl | (simp [bopB] at h; done))
theorem noStar_ok {es : List Expr} (h : noStar es = true) : ∀ e ∈ es, starB e = false := fun e he => by
  have := (List.all_eq_true.mp h) e he
  simpa using this
theorem wbj_p {X : Cx} {W : WX} {p : P} {ex : Expr} (h : WJ X g (evT p) ex) : WBJ X g W (fun ρ => okR (evT p ρ) ρ) ex := by
  obtain ⟨te, pe, r⟩ := h
  refine ⟨te, pe, fun e ρ τ σ H Hs Q o q => ?_⟩
  dsimp only at q
  cases h : evT p ρ with
  | none => rw [h] at q; exact q.elim
  | some b =>
    rw [h] at q
    obtain ⟨O, vw⟩ := o.view
    exact r ρ σ H Hs O b vw h Q (q H Hs o)
theorem sndV1 {X : Cx} {c : Cxt} (k : Cp X g c) : ∀ (l : List A1) (es : List Expr), mtV1 c l es = true → VqJ X g (evV1 l) es
  | [], es, h => by
    unfold mtV1 at h
    split at h <;> (try (cases h; done))
    exact vqj_nil
  | .b p :: r, es, h => by
    unfold mtV1 at h
    split at h <;> (try (cases h; done))
    simp only [Bool.and_eq_true, Bool.not_eq_true'] at h
    exact vqj_b h.1.1 (soundP k p _ h.1.2).1 (sndV1 k r _ h.2)
  | .io i :: r, es, h => by
    unfold mtV1 at h
    split at h <;> (try (cases h; done))
    simp only [Bool.and_eq_true, beq_iff_eq] at h
    exact vqj_io k h.1.1 h.1.2 (sndV1 k r _ h.2)
theorem sndKs {X : Cx} {c : Cxt} (k : Cp X g c) : ∀ (l : List P) (es : List Keyword), mtKs c l es = true → KqJ X g (evKs l) es
  | [], es, h => by
    unfold mtKs at h
    split at h <;> (try (cases h; done))
    exact kqj_nil
  | p :: r, es, h => by
    unfold mtKs at h
    split at h <;> (try (cases h; done))
    simp only [Bool.and_eq_true] at h
    exact kqj_cons (soundP k p _ h.1).1 (sndKs k r _ h.2)
theorem nbug {f : Str} (h : (f != ("__debug__" : Str)) = true) : (f == ("__debug__" : Str)) = false := by
  simpa [bne] using h
theorem Tab.plain {X : Cx} (t : Tab X g tb) {j : Nat} {a : Cal} (h : tb[j]? = some a) (h1 : a.st = none) (h2 : a.ks = []) : FnAtF X a.nm a.n [] (SpD g a.F) := by
  have z := t.at_ a (List.mem_of_getElem? h)
  unfold Cal.sp at z
  rw [h1, h2] at z
  exact z
theorem Tab.star {X : Cx} (t : Tab X g tb) {j : Nat} {a : Cal} (h : tb[j]? = some a) (h1 : a.st.isSome = true) (h2 : a.ks = []) : FnAtF X a.nm a.n [] (spStar g a.F (a.st.getD 0)) := by
  have z := t.at_ a (List.mem_of_getElem? h)
  unfold Cal.sp at z
  cases e : a.st with
  | none => rw [e] at h1; cases h1
  | some m =>
    rw [e, h2] at z
    exact z
theorem Tab.kw {X : Cx} (t : Tab X g tb) {j : Nat} {a : Cal} {q : Keyword} {kws : List Keyword} (h : tb[j]? = some a) (h1 : a.st = none) (h2 : (q :: kws).map (fun q => q.arg) = a.ks.map some) : FnAtF X a.nm a.n a.ks (fun vs => SpD g a.F (pickL a.idx vs)) := by
  have z := t.at_ a (List.mem_of_getElem? h)
  unfold Cal.sp at z
  rw [h1] at z
  cases e : a.ks with
  | nil => rw [e] at h2; cases h2
  | cons b ks =>
    rw [e] at z
    rw [← e]
    rw [e]
    exact z
mutual
theorem sndE : ∀ (a : E) {X : Cx} {W : WX} {c : Cxt} (ex : Expr), Cp X g c → Takes X W → Tab X g tb → mtE tb a c ex = true → CJ X g W (evE tb a) ex
  | .p a, X, W, c, ex, k, tk, tt, h => by
    simp only [mtE] at h
    rw [evE]
    exact cj_p (soundP k a _ h).1
  | .fzs i, X, W, c, ex, k, tk, tt, h => by
    simp only [mtE] at h
    split at h <;> (try (cases h; done))
    simp only [Bool.and_eq_true, beq_iff_eq] at h
    rw [evE]
    exact cj_fzs k h.1 h.2
  | .mv i, X, W, c, ex, k, tk, tt, h => by
    simp only [mtE] at h
    split at h <;> (try (cases h; done))
    simp only [Bool.and_eq_true, beq_iff_eq] at h
    rw [evE]
    exact cj_mv k h.1 h.2
  | .fz a, X, W, c, ex, k, tk, tt, h => by
    simp only [mtE] at h
    rw [evE]
    exact cj_fz (sndE a _ k tk tt h)
  | .bin o a b, X, W, c, ex, k, tk, tt, h => by
    simp only [mtE] at h
    split at h <;> (try (cases h; done))
    simp only [Bool.and_eq_true, beq_iff_eq] at h
    rw [evE]
    exact cj_bin k h.1.1 (sndE a _ k tk tt h.1.2) (sndE b _ k tk tt h.2)
  | .cmp o a b, X, W, c, ex, k, tk, tt, h => by
    simp only [mtE] at h
    split at h <;> (try (cases h; done))
    simp only [Bool.and_eq_true, beq_iff_eq, Bool.not_eq_true'] at h
    rw [evE]
    exact cj_cmp k h.1.1.1.1 h.1.1.1.2 h.1.1.2 (sndE a _ k tk tt h.1.2) (sndE b _ k tk tt h.2)
  | .neg a, X, W, c, ex, k, tk, tt, h => by
    simp only [mtE] at h
    split at h <;> (try (cases h; done))
    rw [evE]
    exact cj_neg (sndE a _ k tk tt h)
  | .not a, X, W, c, ex, k, tk, tt, h => by
    simp only [mtE] at h
    split at h <;> (try (cases h; done))
    rw [evE]
    exact cj_not k (sndE a _ k tk tt h)
  | .ix a b, X, W, c, ex, k, tk, tt, h => by
    simp only [mtE] at h
    split at h <;> (try (cases h; done))
    simp only [Bool.and_eq_true, Bool.not_eq_true'] at h
    rw [evE]
    exact cj_ix k h.1.1 (sndE a _ k tk tt h.1.2) (sndE b _ k tk tt h.2)
  | .tup es, X, W, c, ex, k, tk, tt, h => by
    simp only [mtE] at h
    split at h <;> (try (cases h; done))
    rw [evE]
    exact cj_tup (sndEs es _ k tk tt h).1
  | .lst es, X, W, c, ex, k, tk, tt, h => by
    simp only [mtE] at h
    split at h <;> (try (cases h; done))
    rw [evE]
    exact cj_lst (sndEs es _ k tk tt h).1
  | .ife t a b, X, W, c, ex, k, tk, tt, h => by
    simp only [mtE] at h
    split at h <;> (try (cases h; done))
    simp only [Bool.and_eq_true] at h
    rw [evE]
    exact cj_ife (sndB t _ k tk tt h.1.1).1 (sndE a _ k tk tt h.1.2) (sndE b _ k tk tt h.2)
  | .add a b, X, W, c, ex, k, tk, tt, h => by
    simp only [mtE] at h
    split at h <;> (try (cases h; done))
    simp only [Bool.and_eq_true] at h
    rw [evE]
    exact cj_add k (sndE a _ k tk tt h.1) (sndE b _ k tk tt h.2)
  | .slice a lo hi, X, W, c, ex, k, tk, tt, h => by
    simp only [mtE] at h
    split at h <;> (try (cases h; done))
    simp only [Bool.and_eq_true] at h
    rw [evE]
    exact cj_slice k (sndE a _ k tk tt h.1.1) (sndOe lo _ k tk tt h.1.2) (sndOe hi _ k tk tt h.2)
  | .bf b es, X, W, c, ex, k, tk, tt, h => by
    simp only [mtE] at h
    split at h <;> (try (cases h; done))
    simp only [Bool.and_eq_true, beq_iff_eq] at h
    rw [evE]
    have z := sndEs es _ k tk tt h.2
    exact cj_bf k h.1.1 h.1.2 z.2 z.1
  | .sset a, X, W, c, ex, k, tk, tt, h => by
    simp only [mtE] at h
    split at h <;> (try (cases h; done))
    simp only [Bool.and_eq_true, beq_iff_eq, Bool.not_eq_true'] at h
    obtain ⟨⟨⟨⟨⟨h1, h2⟩, h3⟩, h4⟩, h5⟩, h6⟩ := h
    subst h1
    subst h2
    rw [evE]
    exact cj_sset k h3 h4 h5 (sndE a _ k tk tt h6)
  | .lrng1 a, X, W, c, ex, k, tk, tt, h => by
    simp only [mtE] at h
    split at h <;> (try (cases h; done))
    simp only [Bool.and_eq_true, beq_iff_eq, Bool.not_eq_true'] at h
    obtain ⟨⟨⟨⟨⟨h1, h2⟩, h3⟩, h4⟩, h5⟩, h6⟩ := h
    subst h1
    subst h2
    rw [evE]
    exact cj_lrng1 k h3 h4 h5 (sndE a _ k tk tt h6)
  | .lrng2 a b, X, W, c, ex, k, tk, tt, h => by
    simp only [mtE] at h
    split at h <;> (try (cases h; done))
    simp only [Bool.and_eq_true, beq_iff_eq, Bool.not_eq_true'] at h
    obtain ⟨⟨⟨⟨⟨⟨⟨h1, h2⟩, h3⟩, h4⟩, h5⟩, h6⟩, h7⟩, h8⟩ := h
    subst h1
    subst h2
    rw [evE]
    exact cj_lrng2 k h3 h4 h5 h6 (sndE a _ k tk tt h7) (sndE b _ k tk tt h8)
  | .call0 j, X, W, c, ex, k, tk, tt, h => by
    simp only [mtE] at h
    split at h <;> (try (cases h; done))
    split at h <;> (try (cases h; done))
    rename_i a ha
    simp only [Bool.and_eq_true, beq_iff_eq] at h
    obtain ⟨⟨⟨⟨⟨h1, h2⟩, h3⟩, h4⟩, h5⟩, h6⟩ := h
    subst h1
    have z := tt.plain ha h3 h4
    rw [h2] at z
    rw [evE, ha]
    exact cj_callF0 k tk h5 (nbug h6) z
  | .call j vs, X, W, c, ex, k, tk, tt, h => by
    simp only [mtE] at h
    split at h <;> (try (cases h; done))
    split at h <;> (try (cases h; done))
    rename_i a ha
    simp only [Bool.and_eq_true, beq_iff_eq] at h
    obtain ⟨⟨⟨⟨⟨⟨h1, h2⟩, h3⟩, h4⟩, h5⟩, h6⟩, h7⟩ := h
    subst h1
    rw [evE, ha]
    exact cj_callF k tk h4 (nbug h5) (tt.plain ha h2 h3) (noStar_ok h6) (sndVs vs _ k tk tt h7)
  | .callS j vs, X, W, c, ex, k, tk, tt, h => by
    simp only [mtE] at h
    split at h <;> (try (cases h; done))
    split at h <;> (try (cases h; done))
    rename_i a ha
    simp only [Bool.and_eq_true, beq_iff_eq] at h
    obtain ⟨⟨⟨⟨⟨⟨h1, h2⟩, h3⟩, h4⟩, h5⟩, h6⟩, h7⟩ := h
    subst h1
    rw [evE, ha]
    exact cj_callS k tk h4 (nbug h5) (tt.star ha h2 h3) (noStar_ok h6) (sndVs vs _ k tk tt h7)
  | .callK0 j ks, X, W, c, ex, k, tk, tt, h => by
    simp only [mtE] at h
    split at h <;> (try (cases h; done))
    split at h <;> (try (cases h; done))
    rename_i a ha
    simp only [Bool.and_eq_true, beq_iff_eq, decide_eq_true_eq] at h
    obtain ⟨⟨⟨⟨⟨⟨h1, h2⟩, h3⟩, h4⟩, h5⟩, h6⟩, h7⟩ := h
    subst h1
    have z := tt.kw ha h3 h6
    rw [h2] at z
    rw [evE, ha]
    exact cj_callK0 k tk h4 (nbug h5) z h6 (sndKs k ks _ h7)
  | .callK j vs ks, X, W, c, ex, k, tk, tt, h => by
    simp only [mtE] at h
    split at h <;> (try (cases h; done))
    split at h <;> (try (cases h; done))
    rename_i a ha
    simp only [Bool.and_eq_true, beq_iff_eq, decide_eq_true_eq] at h
    obtain ⟨⟨⟨⟨⟨⟨⟨h1, h2⟩, h3⟩, h4⟩, h5⟩, h6⟩, h7⟩, h8⟩ := h
    subst h1
    rw [evE, ha]
    exact cj_callK k tk h3 (nbug h4) (tt.kw ha h2 h6) (noStar_ok h5) h6 (sndV1 k vs _ h7) (sndKs k ks _ h8)
  | .mm0 m a, X, W, c, ex, k, tk, tt, h => by
    simp only [mtE] at h
    split at h <;> (try (cases h; done))
    simp only [Bool.and_eq_true] at h
    rw [evE]
    exact cj_mmP0 k (beq_iff_eq.mp h.1.1) h.1.2 h.2
  | .mm1 m a q, X, W, c, ex, k, tk, tt, h => by
    simp only [mtE] at h
    split at h <;> (try (cases h; done))
    simp only [Bool.and_eq_true, Bool.not_eq_true'] at h
    rw [evE]
    exact cj_mmP1 k (beq_iff_eq.mp h.1.1.1.1) h.1.1.1.2 (soundP k q _ h.1.1.2).1 h.1.2 h.2
  | .mm m i es, X, W, c, ex, k, tk, tt, h => by
    simp only [mtE] at h
    split at h <;> (try (cases h; done))
    simp only [Bool.and_eq_true, decide_eq_true_eq] at h
    obtain ⟨⟨⟨⟨⟨h1, h2⟩, h3⟩, h4⟩, h5⟩, h6⟩ := h
    have z := sndEs es _ k tk tt h5
    rw [evE]
    exact cj_mm k (beq_iff_eq.mp h1) (beq_iff_eq.mp h2) h3 z.2 h4 z.1 h6
  | .lc own G it t el, X, W, c, ex, k, tk, tt, h => by
    simp only [mtE] at h
    split at h <;> (try (cases h; done))
    simp only [Bool.and_eq_true, Bool.not_eq_true'] at h
    obtain ⟨⟨⟨⟨⟨⟨h1, h2⟩, h3⟩, h4⟩, h5⟩, h6⟩, h7⟩ := h
    have ok := blkD_ok k h1
    have bo := blkOk_by ok
    rw [evE]
    exact cj_lc k ok h2 (noSet h3) (sndI it _ _ k tk tt h4) (fun s H C cl fp => sndG (k.blk bo s H C cl fp) G _ h5) (fun s H C cl fp => sndBs t _ (k.blk bo s H C cl fp) takes0 (tt.blk _ _ _ _ _) h6) (fun s H C cl fp => sndE el _ (k.blk bo s H C cl fp) takes0 (tt.blk _ _ _ _ _) h7)
  | .and a b, X, W, c, ex, k, tk, tt, h => by
    simp only [mtE] at h
    split at h <;> (try (cases h; done))
    · simp only [Bool.and_eq_true] at h
      rw [evE]
      exact cj_and k (sndE a _ k tk tt h.1) (cj_bop1 (sndE b _ k tk tt h.2))
    · simp only [Bool.and_eq_true] at h
      rw [evE]
      exact cj_and k (sndE a _ k tk tt h.1) (sndE b _ k tk tt h.2)
  | .or a b, X, W, c, ex, k, tk, tt, h => by
    simp only [mtE] at h
    split at h <;> (try (cases h; done))
    · simp only [Bool.and_eq_true] at h
      rw [evE]
      exact cj_or k (sndE a _ k tk tt h.1) (cj_bop1 (sndE b _ k tk tt h.2))
    · simp only [Bool.and_eq_true] at h
      rw [evE]
      exact cj_or k (sndE a _ k tk tt h.1) (sndE b _ k tk tt h.2)
theorem sndOe : ∀ (a : Oe) {X : Cx} {W : WX} {c : Cxt} (ex : Option Expr), Cp X g c → Takes X W → Tab X g tb → mtOe tb a c ex = true → POJ X g W (evOe tb a) ex
  | .none, X, W, c, ex, k, tk, tt, h => by
    simp only [mtOe] at h
    split at h <;> (try (cases h; done))
    rw [evOe]
    exact poj_none
  | .some a, X, W, c, ex, k, tk, tt, h => by
    simp only [mtOe] at h
    split at h <;> (try (cases h; done))
    rw [evOe]
    exact poj_some (sndE a _ k tk tt h)
theorem sndEs : ∀ (a : Es) {X : Cx} {W : WX} {c : Cxt} (es : List Expr), Cp X g c → Takes X W → Tab X g tb → mtEs tb a c es = true → AJ X g W (evEs tb a) es ∧ ∀ e ∈ es, starB e = false
  | .nil, X, W, c, es, k, tk, tt, h => by
    simp only [mtEs] at h
    split at h <;> (try (cases h; done))
    rw [evEs]
    exact ⟨aj_nil, fun e he => nomatch he⟩
  | .cons a r, X, W, c, es, k, tk, tt, h => by
    simp only [mtEs] at h
    split at h <;> (try (cases h; done))
    simp only [Bool.and_eq_true, Bool.not_eq_true'] at h
    rw [evEs]
    have z := sndEs r _ k tk tt h.2
    exact ⟨aj_cons h.1.1 (sndE a _ k tk tt h.1.2) z.1, fun e he => by
      rcases List.mem_cons.mp he with rfl | he
      · exact h.1.1
      · exact z.2 e he⟩
theorem sndVs : ∀ (a : Vs) {X : Cx} {W : WX} {c : Cxt} (es : List Expr), Cp X g c → Takes X W → Tab X g tb → mtVs tb a c es = true → VJ X g W (evVs tb a) es
  | .q l, X, W, c, es, k, tk, tt, h => by
    simp only [mtVs] at h
    rw [evVs]
    exact vj_q (sndV1 k l _ h)
  | .c a r, X, W, c, es, k, tk, tt, h => by
    simp only [mtVs] at h
    split at h <;> (try (cases h; done))
    simp only [Bool.and_eq_true, Bool.not_eq_true'] at h
    rw [evVs]
    exact vj_c h.1.1 (sndE a _ k tk tt h.1.2) (sndVs r _ k tk tt h.2)
  | .bf p r, X, W, c, es, k, tk, tt, h => by
    simp only [mtVs] at h
    split at h <;> (try (cases h; done))
    simp only [Bool.and_eq_true, Bool.not_eq_true'] at h
    rw [evVs]
    exact vj_bf h.1.1 (soundP k p _ h.1.2).1 (sndVs r _ k tk tt h.2)
  | .io i r, X, W, c, es, k, tk, tt, h => by
    simp only [mtVs] at h
    split at h <;> (try (cases h; done))
    simp only [Bool.and_eq_true, beq_iff_eq] at h
    rw [evVs]
    exact vj_io k h.1.1 h.1.2 (sndVs r _ k tk tt h.2)
theorem sndB : ∀ (a : B) {X : Cx} {W : WX} {c : Cxt} (ex : Expr), Cp X g c → Takes X W → Tab X g tb → mtB tb a c ex = true → BJ X g W (evB tb a) ex ∧ ∀ op es pos, ex = .BoolOp op es pos → WBJ X g W (evB tb a) ex
  | .p a, X, W, c, ex, k, tk, tt, h => by
    simp only [mtB] at h
    rw [evB]
    have z := soundP k a _ h
    exact ⟨bj_p z.2.1, fun op es pos e => wbj_p (z.2.2 op es pos e)⟩
  | .val a, X, W, c, ex, k, tk, tt, h => by
    simp only [mtB, Bool.and_eq_true, Bool.not_eq_true'] at h
    rw [evB]
    exact ⟨bj_val k (sndE a _ k tk tt h.2) (noBop h.1), fun op es pos e => by subst e; cases h.1⟩
  | .not a, X, W, c, ex, k, tk, tt, h => by
    simp only [mtB] at h
    split at h <;> (try (cases h; done))
    rw [evB]
    exact ⟨bj_not (sndB a _ k tk tt h).1, fun op es pos e => by cases e⟩
  | .and a b, X, W, c, ex, k, tk, tt, h => by
    simp only [mtB] at h
    split at h <;> (try (cases h; done))
    · simp only [Bool.and_eq_true] at h
      rw [evB]
      have w := wbj_and (pos := by assumption) (sndB a _ k tk tt h.1).1 (wbj_and1 (sndB b _ k tk tt h.2).1)
      exact ⟨w.t, fun _ _ _ _ => w⟩
    · simp only [Bool.and_eq_true] at h
      rw [evB]
      have w := wbj_and (sndB a _ k tk tt h.1).1 ((sndB b _ k tk tt h.2).2 _ _ _ rfl)
      exact ⟨w.t, fun _ _ _ _ => w⟩
  | .or a b, X, W, c, ex, k, tk, tt, h => by
    simp only [mtB] at h
    split at h <;> (try (cases h; done))
    · simp only [Bool.and_eq_true] at h
      rw [evB]
      have w := wbj_or (pos := by assumption) (sndB a _ k tk tt h.1).1 (wbj_or1 (sndB b _ k tk tt h.2).1)
      exact ⟨w.t, fun _ _ _ _ => w⟩
    · simp only [Bool.and_eq_true] at h
      rw [evB]
      have w := wbj_or (sndB a _ k tk tt h.1).1 ((sndB b _ k tk tt h.2).2 _ _ _ rfl)
      exact ⟨w.t, fun _ _ _ _ => w⟩
  | .cmp o a b, X, W, c, ex, k, tk, tt, h => by
    simp only [mtB] at h
    split at h <;> (try (cases h; done))
    simp only [Bool.and_eq_true, beq_iff_eq, Bool.not_eq_true'] at h
    rw [evB]
    exact ⟨bj_cmp k h.1.1.1.1 h.1.1.1.2 h.1.1.2 (sndE a _ k tk tt h.1.2) (sndE b _ k tk tt h.2), fun op es pos e => by cases e⟩
  | .ife t a b, X, W, c, ex, k, tk, tt, h => by
    simp only [mtB] at h
    split at h <;> (try (cases h; done))
    simp only [Bool.and_eq_true] at h
    rw [evB]
    exact ⟨bj_ife (sndB t _ k tk tt h.1.1).1 (sndB a _ k tk tt h.1.2).1 (sndB b _ k tk tt h.2).1, fun op es pos e => by cases e⟩
theorem sndBs : ∀ (a : Bs) {X : Cx} {W : WX} {c : Cxt} (es : List Expr), Cp X g c → Takes X W → Tab X g tb → mtBs tb a c es = true → TsJ X g W (evBs tb a) es
  | .nil, X, W, c, es, k, tk, tt, h => by
    simp only [mtBs] at h
    split at h <;> (try (cases h; done))
    rw [evBs]
    exact tsj_nil
  | .one a, X, W, c, es, k, tk, tt, h => by
    simp only [mtBs] at h
    split at h <;> (try (cases h; done))
    rw [evBs]
    exact tsj_one (sndB a _ k tk tt h).1
theorem sndI : ∀ (a : I) {X : Cx} {W : WX} {c : Cxt} (tg ex : Expr), Cp X g c → Takes X W → Tab X g tb → mtI tb a c tg ex = true → IJ X g W tg (evI tb a) ex
  | .lst a, X, W, c, tg, ex, k, tk, tt, h => by
    simp only [mtI] at h
    rw [evI]
    exact ij_lst k (sndE a _ k tk tt h)
  | .tup a, X, W, c, tg, ex, k, tk, tt, h => by
    simp only [mtI] at h
    rw [evI]
    exact ij_tup k (sndE a _ k tk tt h)
  | .str a, X, W, c, tg, ex, k, tk, tt, h => by
    simp only [mtI] at h
    rw [evI]
    exact ij_str (sndE a _ k tk tt h)
  | .rng1 a, X, W, c, tg, ex, k, tk, tt, h => by
    simp only [mtI] at h
    split at h <;> (try (cases h; done))
    simp only [Bool.and_eq_true, beq_iff_eq, Bool.not_eq_true'] at h
    obtain ⟨⟨⟨h1, h2⟩, h3⟩, h4⟩ := h
    subst h1
    rw [evI]
    exact ij_rng1 k h2 h3 (sndE a _ k tk tt h4)
  | .rng2 a b, X, W, c, tg, ex, k, tk, tt, h => by
    simp only [mtI] at h
    split at h <;> (try (cases h; done))
    simp only [Bool.and_eq_true, beq_iff_eq, Bool.not_eq_true'] at h
    obtain ⟨⟨⟨⟨⟨h1, h2⟩, h3⟩, h4⟩, h5⟩, h6⟩ := h
    subst h1
    rw [evI]
    exact ij_rng2 k h2 h3 h4 (sndE a _ k tk tt h5) (sndE b _ k tk tt h6)
  | .rng3 a b d, X, W, c, tg, ex, k, tk, tt, h => by
    simp only [mtI] at h
    split at h <;> (try (cases h; done))
    simp only [Bool.and_eq_true, beq_iff_eq, Bool.not_eq_true'] at h
    obtain ⟨⟨⟨⟨⟨⟨⟨h1, h2⟩, h3⟩, h4⟩, h5⟩, h6⟩, h7⟩, h8⟩ := h
    subst h1
    rw [evI]
    exact ij_rng3 k h2 h3 h4 h5 (sndE a _ k tk tt h6) (sndE b _ k tk tt h7) (sndE d _ k tk tt h8)
  | .rev a, X, W, c, tg, ex, k, tk, tt, h => by
    simp only [mtI] at h
    split at h <;> (try (cases h; done))
    simp only [Bool.and_eq_true, beq_iff_eq, Bool.not_eq_true'] at h
    obtain ⟨⟨⟨h1, h2⟩, h3⟩, h4⟩ := h
    subst h1
    rw [evI]
    exact ij_rev k h2 (k.bn _ (by decide)) h3 (sndE a _ k tk tt h4)
  | .enum a, X, W, c, tg, ex, k, tk, tt, h => by
    simp only [mtI] at h
    split at h <;> (try (cases h; done))
    simp only [Bool.and_eq_true, beq_iff_eq, Bool.not_eq_true'] at h
    obtain ⟨⟨⟨h1, h2⟩, h3⟩, h4⟩ := h
    subst h1
    rw [evI]
    exact ij_enum k h2 h3 (sndE a _ k tk tt h4)
  | .zip a b, X, W, c, tg, ex, k, tk, tt, h => by
    simp only [mtI] at h
    split at h <;> (try (cases h; done))
    simp only [Bool.and_eq_true, beq_iff_eq, Bool.not_eq_true'] at h
    obtain ⟨⟨⟨⟨⟨h1, h2⟩, h3⟩, h4⟩, h5⟩, h6⟩ := h
    subst h1
    rw [evI]
    exact ij_zip k h2 h3 h4 (sndE a _ k tk tt h5) (sndE b _ k tk tt h6)
end
structure Run (X : Cx) (g : Gx) (W : WX) (c : Cxt) (tb : List Cal) : Prop where
  k : Cp X g c
  fn : X.fn = fun _ => true
  po : PassesOwn (model X.prog X.w) X.A X.env X.xe
  tk : Takes X W
  tt : Tab X g tb
mutual
theorem sndS {X : Cx} {W : WX} {c : Cxt} (r : Run X g W c tb) : ∀ (a : S) (st : Stmt), mtS tb a c st = true → SJ X g c W (evS tb a) st
  | .pass, st, h => by
    simp only [mtS] at h
    split at h <;> (try (cases h; done))
    rw [evS]
    exact sj_pass
  | .brk, st, h => by
    simp only [mtS] at h
    split at h <;> (try (cases h; done))
    rw [evS]
    exact sj_break
  | .cont, st, h => by
    simp only [mtS] at h
    split at h <;> (try (cases h; done))
    rw [evS]
    exact sj_continue
  | .ex a, st, h => by
    simp only [mtS] at h
    split at h <;> (try (cases h; done))
    simp only [Bool.and_eq_true, Bool.not_eq_true'] at h
    rw [evS]
    exact sj_expr h.1 (sndE a _ r.k r.tk r.tt h.2)
  | .ret a, st, h => by
    simp only [mtS] at h
    split at h <;> (try (cases h; done))
    rw [evS]
    exact sj_ret (sndE a _ r.k r.tk r.tt h)
  | .retN, st, h => by
    simp only [mtS] at h
    split at h <;> (try (cases h; done))
    rw [evS]
    exact sj_retN
  | .ife t a b, st, h => by
    simp only [mtS] at h
    split at h <;> (try (cases h; done))
    simp only [Bool.and_eq_true] at h
    rw [evS]
    exact sj_if (sndB t _ r.k r.tk r.tt h.1.1).1 (sndSs r a _ h.1.2) (sndSs r b _ h.2)
  | .asg i a, st, h => by
    simp only [mtS] at h
    split at h <;> (try (cases h; done))
    simp only [Bool.and_eq_true, Bool.not_eq_true', beq_iff_eq] at h
    obtain ⟨⟨⟨⟨h1, h2⟩, h3⟩, h4⟩, h5⟩ := h
    rw [evS]
    exact sj_asg r.k r.fn h1 h2 h3 h4 (sndE a _ r.k r.tk r.tt h5)
  | .aug o i a, st, h => by
    simp only [mtS] at h
    split at h <;> (try (cases h; done))
    simp only [Bool.and_eq_true, Bool.not_eq_true', beq_iff_eq] at h
    obtain ⟨⟨⟨⟨⟨h1, h2⟩, h3⟩, h4⟩, h5⟩, h6⟩ := h
    rw [evS]
    exact sj_aug r.k r.fn h1 h2 h3 h4 h5 (sndE a _ r.k r.tk r.tt h6)
  | .par2 i j es, st, h => by
    simp only [mtS] at h
    split at h <;> (try (cases h; done))
    simp only [Bool.and_eq_true, Bool.not_eq_true', beq_iff_eq, bne_iff_ne] at h
    obtain ⟨⟨⟨⟨⟨⟨⟨⟨⟨⟨h1, h2⟩, h3⟩, h4⟩, h5⟩, h6⟩, h7⟩, h8⟩, h9⟩, h10⟩, h11⟩ := h
    rw [evS]
    exact sj_par2 r.k r.k.kind h1 h2 h3 h4 h5 h6 h7 (beq_iff_eq.mpr h8) h9 h10 (sndEs es _ r.k r.tk r.tt h11).1
  | .par3 i j l es, st, h => by
    simp only [mtS] at h
    split at h <;> (try (cases h; done))
    simp only [Bool.and_eq_true, Bool.not_eq_true', beq_iff_eq, bne_iff_ne] at h
    obtain ⟨⟨⟨⟨⟨⟨⟨⟨⟨⟨⟨⟨⟨⟨⟨⟨⟨⟨h1, h2⟩, h3⟩, h4⟩, h5⟩, h6⟩, h7⟩, h8⟩, h9⟩, h10⟩, h11⟩, h12⟩, h13⟩, h14⟩, h15⟩, h16⟩, h17⟩, h18⟩, h19⟩ := h
    rw [evS]
    exact sj_par3 r.k r.k.kind h1 h2 h3 h4 h5 h6 h7 h8 h9 h10 h11 h12 (beq_iff_eq.mpr h13) (beq_iff_eq.mpr h14) h15 h16 h17 h18 (sndEs es _ r.k r.tk r.tt h19).1
  | .tgt G a, st, h => by
    simp only [mtS] at h
    split at h <;> (try (cases h; done))
    simp only [Bool.and_eq_true, Bool.or_eq_true, Bool.not_eq_true'] at h
    obtain ⟨⟨⟨⟨h1, h2⟩, h3⟩, h4⟩, h5⟩ := h
    rw [evS]
    exact sj_tgt r.k h1 h2 h3 (h4.elim no_par (swB_ok r.k)) (sndE a _ r.k r.tk r.tt h5)
  | .whl t b, st, h => by
    simp only [mtS] at h
    split at h <;> (try (cases h; done))
    simp only [Bool.and_eq_true] at h
    rw [evS]
    exact sj_while r.po (sndB t _ r.k r.tk r.tt h.1).1 (sndSs r b _ h.2)
  | .for_ G it b, st, h => by
    simp only [mtS] at h
    split at h <;> (try (cases h; done))
    simp only [Bool.and_eq_true, Bool.not_eq_true'] at h
    rw [evS]
    exact sj_for r.k r.po (noSet h.1.1.1) (sndI it _ _ r.k r.tk r.tt h.1.1.2) (sndG r.k G _ h.1.2) (sndSs r b _ h.2)
  | .set a q v, st, h => by
    simp only [mtS] at h
    split at h <;> (try (cases h; done))
    simp only [Bool.and_eq_true, Bool.not_eq_true'] at h
    rw [evS]
    exact sj_set r.k h.1.1.1 h.1.1.2 (soundP r.k q _ h.1.2).1 (sndE v _ r.k r.tk r.tt h.2)
  | .asgLc i own G it t el, st, h => by
    simp only [mtS] at h
    split at h <;> (try (cases h; done))
    simp only [Bool.and_eq_true, Bool.not_eq_true'] at h
    obtain ⟨⟨⟨⟨⟨⟨⟨⟨⟨⟨⟨h1, h2⟩, h3⟩, h4⟩, h5⟩, h6⟩, h7⟩, h8⟩, h9⟩, h10⟩, h11⟩, h12⟩ := h
    have ok := blkD_ok r.k h1
    have bo := blkOk_by ok
    rw [evS]
    exact sj_asgLc r.k ok h2 (noSet h3) (beq_iff_eq.mp h4) (beq_iff_eq.mp h5) h6 h7 h8 (sndI it _ _ r.k r.tk r.tt h9) (fun s H C cl fp => sndG (r.k.blk bo s H C cl fp) G _ h10) (fun s H C cl fp => sndBs t _ (r.k.blk bo s H C cl fp) takes0 (r.tt.blk _ _ _ _ _) h11) (fun s H C cl fp => sndE el _ (r.k.blk bo s H C cl fp) takes0 (r.tt.blk _ _ _ _ _) h12)
  | .nev, st, h => by
    rw [evS]
    exact sj_nev
  | .kill is s, st, h => by
    simp only [mtS] at h
    rw [evS]
    exact sj_kill is (sndS r s _ h)
  | .forB i G b, st, h => by
    simp only [mtS] at h
    split at h <;> (try (cases h; done))
    simp only [Bool.and_eq_true, beq_iff_eq] at h
    obtain ⟨⟨⟨h1, h2⟩, h3⟩, h4⟩ := h
    rw [evS]
    exact sj_forB r.k r.po h1 h2 (sndG (r.k.pin i) G _ h3) (sndSs ⟨r.k.pin i, r.fn, r.po, r.tk, r.tt⟩ b _ h4)
theorem sndSs {X : Cx} {W : WX} {c : Cxt} (r : Run X g W c tb) : ∀ (a : Ss) (st : List Stmt), mtSs tb a c st = true → SsJ X g c W (evSs tb a) st
  | .nil, st, h => by
    simp only [mtSs] at h
    split at h <;> (try (cases h; done))
    rw [evSs]
    exact ssj_nil
  | .cons a b, st, h => by
    simp only [mtSs] at h
    split at h <;> (try (cases h; done))
    simp only [Bool.and_eq_true] at h
    rw [evSs]
    exact ssj_cons (sndS r a _ h.1) (sndSs r b _ h.2)
  | .nev, st, h => by
    rw [evSs]
    exact ssj_nev
end
end
end DL
namespace DL
open PySem PySem.Spec PyProof.Rows L2

/-! ### the end: the law's own def, called with the script -/
section
variable {P : Program} {w : World} {K : PySem.W.Frag} {mg mb : Str → Option Value} {k : Nat} {fa a : Addr} {sp : Sp} {z : Shared} {vs : List Value} {ns : List Int} {H : Hp}
/-- the heap without what is tracked is a base -/
theorem base_env (kin : K.In z.heap) (gl : z.heap.Ns mainGlobals mg) (bl : z.heap.Ns builtinsNs mb) (bb : ∀ y : Str, y ≠ "__name__" → mb y = bootBuiltins y) (nl : z.heap.NoLimit) (gz : z.gens = #[])
    (at_ : z.heap.get? a = some { cls := .type "list", data := .seq vs.toArray }) (hok : HOk P w H z.heap) (one : ∀ b, H b ≠ none → b = a) (out : H a ≠ none → K.lookup a = none) :
    K.In (hidT z.heap H) ∧ (hidT z.heap H).Ns mainGlobals mg ∧ Env0 P w K mg (hidT z.heap H) callerA [] z H := by
  have dicts : ∀ {b : Addr} {f : Str → Option Value}, z.heap.Ns b f → (hidT z.heap H).Ns b f := by
    rintro b f ⟨o, es, ep, e, d, r⟩
    refine ⟨o, es, ep, hidT_get e ?_, d, r⟩
    apply Classical.byContradiction
    intro nn
    obtain rfl := one b nn
    rw [at_] at e
    cases e
    cases d
  have kin' : K.In (hidT z.heap H) := by
    intro b o e
    refine hidT_get (kin b o e) (Classical.byContradiction fun nn => ?_)
    obtain rfl := one b nn
    rw [out nn] at e
    cases e
  obtain ⟨mc, n1, n2⟩ := nl
  exact ⟨kin', dicts gl, rfl, ⟨kin', dicts gl, ⟨mb, dicts bl, bb⟩, ⟨mc, dicts n1, n2⟩⟩, fun b o e => of_hidT e, Nat.le_of_eq (hidT_size z.heap H), trivial, (fun b hb => absurd (show b ∈ ([] : List Addr) from hb) List.not_mem_nil), hok, AllBare.of_eq gz⟩
/-- what such a call leaves: True, and the script as it was -/
abbrev LawEnd (z : Shared) : Result → Shared → Prop := fun r z' => r = .ok (.ret (.bool true)) ∧ OldK z.heap z'.heap ∧ z'.os = z.os ∧ AllBare z'.gens
theorem law_from (e0 : ∃ base, K.In base ∧ base.Ns mainGlobals mg ∧ Env0 P w K mg base callerA [] z H) (on : Only H) (rm : Room k callerA)
    (F : ∀ base : Heap, K.In base → base.Ns mainGlobals mg → FnF P w K mg base k fa 1 [] sp) (q : sp [.ref a] H (fun v _ => v = .bl true) fun _ _ _ => False) :
    codeAny (model P w) callerA (.call (.ref fa) ⟨[.ref a], []⟩) (LawEnd z) z := by
  obtain ⟨base, b1, b2, env⟩ := e0
  have run := F base b1 b2 callerA [] z H [.ref a] [] [.ref a] [] (fun v _ => v = .bl true) (fun _ _ _ => False) rm rfl env (.cons rfl .nil) .nil rfl rfl (by rw [List.append_nil]; exact q)
  refine codeAny_mono run fun r z' end_ => ?_
  match r, end_ with
  | .error _, ⟨_, _, _, _, _, _, _, _, _, _, _, _, no⟩ => exact no.elim
  | .ok (.ret u), ⟨v, H', os, bare, un, hk', rv, ev⟩ =>
    have ev : v = .bl true := ev
    subst ev
    have eu : u = Value.bool true := rv
    refine ⟨by rw [eu], OldK.of_keep fun b o e => ?_, os, bare⟩
    rcases on b with nb | ⟨ob, xs, fb⟩
    · exact un.keep b o e nb (fun m => absurd (show b ∈ ([] : List Addr) from m) List.not_mem_nil) List.not_mem_nil
    · have o1 := (env.hok b _ fb).1
      rw [e] at o1
      rw [(hk' b _ (un.frzs b ob _ fb)).1, Option.some.inj o1]
theorem law_callF (kin : K.In z.heap) (gl : z.heap.Ns mainGlobals mg) (bl : z.heap.Ns builtinsNs mb) (bb : ∀ y : Str, y ≠ "__name__" → mb y = bootBuiltins y) (nl : z.heap.NoLimit) (gz : z.gens = #[])
    (at_ : z.heap.get? a = some { cls := .type "list", data := .seq vs.toArray }) (is : IntsAre vs ns) (sz : ns.length ≤ sizeLine) (rm : Room k callerA)
    (F : ∀ base : Heap, K.In base → base.Ns mainGlobals mg → FnF P w K mg base k fa 1 [] sp)
    (q : ∀ H : Hp, Only H → SqL K H a (ns.map V.int) → sp [.ref a] H (fun v _ => v = .bl true) fun _ _ _ => False) :
    codeAny (model P w) callerA (.call (.ref fa) ⟨[.ref a], []⟩) (LawEnd z) z := by
  have rv := vals_ints is
  by_cases kn : K.lookup a = none
  · let ob : Obj := { cls := .type "list", data := .seq vs.toArray }
    let H : Hp := fun b => if b = a then some (.frz ob (.lst (ns.map V.int))) else none
    have Hn : ∀ b, b ≠ a → H b = none := fun b nb => if_neg nb
    have Ha : H a = some (.frz ob (.lst (ns.map V.int))) := if_pos rfl
    have on : Only H := fun b => if e : b = a then .inr ⟨ob, ns.map V.int, by rw [e]; exact Ha⟩ else .inl (Hn b e)
    have ok : HOk P w H z.heap := by
      intro b u hu
      by_cases e : b = a
      · subst e
        rw [Ha] at hu
        cases hu
        exact ⟨at_, by rw [List.length_map]; exact sz, vs, _, rv, at_⟩
      · rw [Hn b e] at hu
        cases hu
    exact law_from ⟨_, base_env kin gl bl bb nl gz at_ ok (fun b nb => Classical.byContradiction fun e => nb (Hn b e)) fun _ => kn⟩ on rm F (q H on (.inl (.inr ⟨ob, Ha⟩)))
  · obtain ⟨o, ho⟩ := Option.ne_none_iff_exists'.mp kn
    have eo := kin a o ho
    rw [at_] at eo
    cases eo
    let H : Hp := fun _ => none
    have on : Only H := fun _ => .inl rfl
    exact law_from ⟨_, base_env kin gl bl bb nl gz at_ (fun b u hu => nomatch (show (none : Option HO) = some u from hu)) (fun b nb => absurd rfl nb) fun nn => absurd rfl nn⟩ on rm F
      (q H on (.inr ⟨_, vs.toArray, _, ho, rfl, rfl, rfl, by rw [List.size_toArray, is.length]; exact sz, by simpa using rv⟩))
end
/-- the goal that the head leaves of a law -/
theorem walkF {l : PySem.W.OpenLaw} {n k : Nat} {q : Program} {loose : List Str} {XP : (Str → Option Value) → Heap → Prop} {YP : World → Heap → Prop} {d : DefRec} {sp : Gx → Sp}
    (most : l.most = some n) (small : n ≤ sizeLine) (nod : d.params.defaults = []) (rm : Room k callerA)
    (F : ∀ (w : World) (mg : Str → Option Value) (fa : Addr) (h : Heap), YP w h → h.Ns mainGlobals mg → mg d.name = some (.ref fa) →
      ∃ (g : Gx), g.K.In h ∧ ∀ base : Heap, g.K.In base → base.Ns mainGlobals mg → FnF l.prog w g.K mg base k fa 1 [] (sp g))
    (law : ∀ (g : Gx) (H : Hp) (a : Addr) (ns : List Int), ns.length ≤ n → (∀ i ∈ ns, Builtin.Int.intBits i ≤ 1048576) → Only H → SqL g.K H a (ns.map V.int) → sp g [.ref a] H (fun v _ => v = .bl true) fun _ _ _ => False) :
    PySem.W.WalkO q loose XP YP l.row.toRowW d [] (fun f vs => PySem.call f vs) := by
  refine Att.attach_callB most nod fun w z0 z mg mb fa o pm cd doc a vs ns gr yp ho hd hcd hmg hobj is len bits gz => ?_
  obtain ⟨g, kin, hF⟩ := F w mg fa _ yp gr.T.g hmg
  exact law_callF kin gr.T.g gr.T.b gr.T.builtins gr.T.nolimit gz hobj is (Nat.le_trans len small) rm hF fun H on sq => law g H a ns len bits on sq
/-! ### from what a def makes to what a law wants -/
theorem spD_law {g : Gx} {F : List T → Option Out} {H : Hp} {a : Addr} {ns : List Int} {fin : List (Option T)} (on : Only H) (sq : SqL g.K H a (ns.map V.int)) (h : F [.fz (.scr ns)] = some (.ret (.fz (.bl true)) fin)) :
    SpD g F [.ref a] H (fun v _ => v = .bl true) fun _ _ _ => False := by
  refine ⟨[.fz (.scr ns)], H, [], _, Same.refl H, ?_, (fun b => Nat.zero_le _), (fun b m => nomatch m), h, fun v H' S' e => ?_⟩
  · simp only [RepTs, RepT, Rep]
    exact ⟨_, [], [], [], rfl, rfl, ⟨⟨a, rfl, sq⟩, rfl⟩, rfl, rfl⟩
  · obtain ⟨f, r⟩ := Ok.top e
    simp only [RepT, Rep] at r
    exact r.1
/-! ### a def's promise, by its terms -/
/-- how the table's defs stand in the module -/
def TabM (P : Program) (w : World) (K : PySem.W.Frag) (mg : Str → Option Value) (base : Heap) (k : Nat) (g : Gx) (tb : List Cal) : Prop :=
  ∀ a ∈ tb, ∃ (f : Addr) (j : Nat), j ≤ k ∧ mg a.nm = some (.ref f) ∧ PySem.W.keepIn K (.ref f) = true ∧ FnF P w K mg base j f a.n a.ks (a.sp g)
section
variable {P : Program} {w : World} {K : PySem.W.Frag} {mg : Str → Option Value} {base : Heap} {k : Nat} {g : Gx} {tb : List Cal}
theorem TabM.nil : TabM P w K mg base k g [] := fun _ h => nomatch h
theorem TabM.up {j : Nat} (t : TabM P w K mg base k g tb) (h : k ≤ j) : TabM P w K mg base j g tb := fun a ha => let ⟨f, i, l, r⟩ := t a ha; ⟨f, i, Nat.le_trans l h, r⟩
theorem TabM.snoc (t : TabM P w K mg base k g tb) {a : Cal} {f : Addr} (h1 : mg a.nm = some (.ref f)) (h2 : PySem.W.keepIn K (.ref f) = true) (h3 : FnF P w K mg base (k + 1) f a.n a.ks (a.sp g)) : TabM P w K mg base (k + 1) g (tb ++ [a]) := by
  intro b hb
  rcases List.mem_append.mp hb with hb | hb
  · exact t.up (Nat.le_succ k) b hb
  · obtain rfl := List.mem_singleton.mp hb
    exact ⟨f, k + 1, Nat.le_refl _, h1, h2, h3⟩
theorem bodyT {c : Cxt} {b : Ss} {body : List Stmt} (t : TabM P w K mg base k g tb) (h : mtSs tb b c body = true) : BodyOk P w K mg base k g c (evSs tb b) body := by
  intro X W e1 e2 e3 e4 e5 kc fn tk po rm
  subst e1 e2 e3 e4 e5
  exact sndSs ⟨kc, fn, po, tk, ⟨fun a ha => let ⟨f, j, l, h1, h2, h3⟩ := t a ha; ⟨⟨f, j, h1, h2, h3, rm.mono l⟩⟩⟩⟩ b body h
end
/-- one def of the text: the slots' names, the parameters, the ones that are told at the end -/
structure Df where
  nm : Str
  st : Stmt
  N : List Str
  ps : List Str
  keep : List Nat
  b : Ss
def Df.cx (d : Df) (con : List (Str × D)) : Cxt := ⟨d.N, (defScope d.st).names, con, d.keep, none⟩
noncomputable def Df.F (d : Df) (tb : List Cal) : List T → Option Out := denB (evSs tb d.b) d.ps.length d.N.length d.keep
noncomputable def Df.cal (d : Df) (tb : List Cal) : Cal := ⟨d.nm, d.ps.length, none, [], [], d.F tb⟩
noncomputable def Df.calK (d : Df) (tb : List Cal) (n : Nat) (ks : List Str) (idx : List Nat) : Cal := ⟨d.nm, n, none, ks, idx, d.F tb⟩
noncomputable def Df.calS (d : Df) (tb : List Cal) (n m : Nat) : Cal := ⟨d.nm, n, some m, [], [], d.F tb⟩
abbrev Df.Fun (d : Df) (K : PySem.W.Frag) (f : Addr) : Prop := ∃ fd, L2.Fun K d.nm d.nm d.st f fd
section
variable {P : Program} {w : World} {K : PySem.W.Frag} {mg : Str → Option Value} {base : Heap} {k : Nat} {g : Gx} {tb tb' : List Cal} {d : Df} {f : Addr} {con : List (Str × D)}
abbrev BindB (d : Df) (n : Nat) (ks : List Str) (idx : List Nat) : Prop := ∀ (kV doc pm : Value) (an : Option Addr) (cdv ct : Value) (us ws : List Value), us.length = n → ws.length = ks.length → bindArgs (PySem.W.fnOf d.nm d.nm (defArgs d.st) (defBody d.st) (defScope d.st) .none kV doc pm an cdv ct) ⟨us, ks.zip ws⟩ = pure (d.ps.zip (pickL idx (us ++ ws)))
abbrev BindP (d : Df) : Prop := ∀ (kV doc pm : Value) (an : Option Addr) (cdv ct : Value) (us : List Value), us.length = d.ps.length → bindArgs (PySem.W.fnOf d.nm d.nm (defArgs d.st) (defBody d.st) (defScope d.st) .none kV doc pm an cdv ct) ⟨us, []⟩ = pure (d.ps.zip us)
theorem Df.addP (M : Md g K mg con) (t : TabM P w K mg base k g tb') (F : d.Fun K f) (h1 : mg d.nm = some (.ref f)) (S : FnScope d.N d.ps (defScope d.st)) (t0 : TabM P w K mg base k g tb) (hm : mtSs tb d.b (d.cx con) (defBody d.st) = true) (hb : BindP d) : TabM P w K mg base (k + 1) g (tb' ++ [d.cal tb]) := by
  obtain ⟨fd, F⟩ := F
  exact t.snoc (a := d.cal tb) h1 F.kp (fnF_pl F M S rfl rfl rfl rfl rfl (bodyT t0 hm) hb)
theorem Df.addK {n : Nat} {ks : List Str} {idx : List Nat} {ky : Str} (M : Md g K mg con) (t : TabM P w K mg base k g tb') (F : d.Fun K f) (h1 : mg d.nm = some (.ref f)) (S : FnScope d.N d.ps (defScope d.st)) (t0 : TabM P w K mg base k g tb) (hm : mtSs tb d.b (d.cx con) (defBody d.st) = true)
    (hidx : idx.length = d.ps.length) (hix : ∀ j ∈ idx, j < n + (ky :: ks).length) (hb : BindB d n (ky :: ks) idx) : TabM P w K mg base (k + 1) g (tb' ++ [d.calK tb n (ky :: ks) idx]) := by
  obtain ⟨fd, F⟩ := F
  exact t.snoc (a := d.calK tb n (ky :: ks) idx) h1 F.kp (fnF_kw F M S rfl rfl rfl rfl rfl (bodyT t0 hm) hidx hix hb)
theorem Df.addS {n : Nat} {qs : List Str} {pv : Str} (M : Md g K mg con) (t : TabM P w K mg base k g tb') (F : d.Fun K f) (h1 : mg d.nm = some (.ref f)) (hps : d.ps = qs ++ [pv]) (S : FnScope d.N (qs ++ [pv]) (defScope d.st)) (t0 : TabM P w K mg base k g tb) (hm : mtSs tb d.b (d.cx con) (defBody d.st) = true)
    (hn : qs.length ≤ n) (hb : ∀ (kV doc pm : Value) (an : Option Addr) (cdv ct : Value) (us : List Value), us.length = n → bindArgs (PySem.W.fnOf d.nm d.nm (defArgs d.st) (defBody d.st) (defScope d.st) .none kV doc pm an cdv ct) ⟨us, []⟩ = (newTuple (us.drop qs.length) >>= fun t => pure (qs.zip (us.take qs.length) ++ [(pv, t)]))) :
    TabM P w K mg base (k + 1) g (tb' ++ [d.calS tb n qs.length]) := by
  obtain ⟨fd, F⟩ := F
  refine t.snoc (a := d.calS tb n qs.length) h1 F.kp ?_
  have z := fnF_st F M S rfl rfl rfl rfl rfl (bodyT t0 hm) hn hb
  have e : d.ps.length = qs.length + 1 := by rw [hps, List.length_append]; rfl
  show FnF P w K mg base (k + 1) f n [] (spStar g (denB (evSs tb d.b) d.ps.length d.N.length d.keep) qs.length)
  rw [e]
  exact z
end
end DL
namespace DL
open PySem PySem.Spec PyProof.Rows L2

/-! ### the facts of a head, of defs that stand at the top of one module -/
abbrev Dn := List (Str × Nat)
def topOf (b : List Stmt) (i : Nat) : Stmt := b.getD i (.Pass ⟨0, 0, 0, 0⟩)
def hOne (b : List Stmt) (p : Str × Nat) : He.FnD := ⟨(p.1, none), p.1, p.1, defArgs (topOf b p.2), defBody (topOf b p.2), defScope (topOf b p.2)⟩
def hFn (b : List Stmt) (dn : Dn) : List He.FnD := dn.map (hOne b)
def conFa : Str × D → List He.Fa
  | (x, .int i) => [.int x i]
  | (x, .str z) => [.str x z]
  | _ => []
def hFa (dn : Dn) (con : List (Str × D)) (more : List He.Fa) : List He.Fa := dn.map (fun p => .glo p.1) ++ dn.map (fun p => .keep p.1) ++ builtinNames.map .free ++ con.flatMap conFa ++ more
section
variable {b : List Stmt} {dn : Dn} {con : List (Str × D)} {more : List He.Fa} {K : PySem.W.Frag} {h : Heap} {mg : Str → Option Value} {g : Gx}
theorem says_mem {fa : List He.Fa} {fn : List He.FnD} (c : He.SaysE fa fn K) {f : He.Fa} (m : f ∈ fa) : f.ok K = true := by
  obtain ⟨i, hi⟩ := List.mem_iff_getElem?.mp m
  exact c.fact i hi
theorem hdr_fun (c : He.SaysE (hFa dn con more) (hFn b dn) K) {p : Str × Nat} (m : p ∈ dn) : ∃ fd, Fun K p.1 p.1 (topOf b p.2) (He.ga K p.1) fd := by
  have m2 : hOne b p ∈ hFn b dn := List.mem_map.mpr ⟨p, m, rfl⟩
  obtain ⟨i, hi⟩ := List.mem_iff_getElem?.mp m2
  obtain ⟨oc, od, osl, kV, doc, pm, an, cdv, ct, lk, cd⟩ := c.def_ i hi
  exact ⟨_, ⟨oc, od, kV, doc, pm, an, cdv, ct, osl, rfl, lk, cd⟩, He.keep_ok (x := p.1) (says_mem c (by
    unfold hFa
    simp only [List.mem_append, List.mem_map]
    exact .inl (.inl (.inl (.inr ⟨p, m, rfl⟩)))))⟩
theorem hdr_mg (c : He.SaysE (hFa dn con more) (hFn b dn) K) (X : K.In h) (G : h.Ns mainGlobals mg) {p : Str × Nat} (m : p ∈ dn) : mg p.1 = some (.ref (He.ga K p.1)) :=
  He.glo_ok X G (says_mem c (by
    unfold hFa
    simp only [List.mem_append, List.mem_map]
    exact .inl (.inl (.inl (.inl ⟨p, m, rfl⟩)))))
def conOk (con : List (Str × D)) : Bool := con.all fun p => match p.2 with
  | .int _ => true
  | .str _ => true
  | _ => false
theorem hdr_md (c : He.SaysE (hFa dn con more) (hFn b dn) K) (X : K.In h) (G : h.Ns mainGlobals mg) (hk : g.K = K) (ok : conOk con = true) : Md g K mg con := by
  have cm : ∀ p ∈ con, ∀ f ∈ conFa p, f ∈ hFa dn con more := fun p hp f hf => by
    unfold hFa
    simp only [List.mem_append, List.mem_flatMap]
    exact .inl (.inr ⟨p, hp, hf⟩)
  refine ⟨hk, fun x hx => He.free_ok X G (says_mem c (by
    unfold hFa
    simp only [List.mem_append, List.mem_map]
    exact .inl (.inl (.inr ⟨x, hx, rfl⟩)))), fun p hp => ?_⟩
  have z := (List.all_eq_true.mp ok) p hp
  obtain ⟨x, d⟩ := p
  cases d <;> first | (cases z; done) | skip
  · obtain ⟨t, e⟩ := He.int_ok X G (says_mem c (cm _ hp _ (List.mem_singleton.mpr rfl)))
    exact ⟨rfl, _, e, t, rfl⟩
  · obtain ⟨t, e⟩ := He.str_ok X G (says_mem c (cm _ hp _ (List.mem_singleton.mpr rfl)))
    exact ⟨rfl, _, e, t, rfl⟩
end
section
variable {P : Program} {w : World} {K : PySem.W.Frag} {mg : Str → Option Value} {base : Heap} {k : Nat} {g : Gx} {tb : List Cal} {d : Df} {f : Addr} {con : List (Str × D)}
theorem Df.fn (M : Md g K mg con) (F : d.Fun K f) (S : FnScope d.N d.ps (defScope d.st)) (t0 : TabM P w K mg base k g tb) (hm : mtSs tb d.b (d.cx con) (defBody d.st) = true) (hb : BindP d) : FnF P w K mg base (k + 1) f d.ps.length [] (SpD g (d.F tb)) := by
  obtain ⟨fd, F⟩ := F
  exact fnF_pl F M S rfl rfl rfl rfl rfl (bodyT t0 hm) hb
end
end DL
namespace DL
open PySem PySem.Spec PyProof.Rows L2

/-! ### reckoning with terms -/
abbrev iD' (ns : List Int) : List D := ns.map D.int
theorem evT_lit (d : D) (ρ : Sl) : evT (.lit d) ρ = d.tru := rfl
theorem evT_sl (i : Nat) (ρ : Sl) : evT (.sl i) ρ = (evP (.sl i) ρ).bind fun x => x.d.tru := rfl
theorem evT_gl (x : Str) (d : D) (ρ : Sl) : evT (.gl x d) ρ = d.tru := rfl
theorem evT_op (o : O2) (a b : P) (ρ : Sl) : evT (.op o a b) ρ = (evP (.op o a b) ρ).bind fun x => x.d.tru := rfl
theorem evT_ch (o o' : O2) (a b d : P) (ρ : Sl) : evT (.ch o o' a b d) ρ = (evP (.ch o o' a b d) ρ).bind fun x => x.d.tru := rfl
theorem evT_not (a : P) (ρ : Sl) : evT (.not a) ρ = (evT a ρ).map fun k => !k := rfl
theorem evT_and (a b : P) (ρ : Sl) : evT (.and a b) ρ = (match evT a ρ with
    | some true => evT b ρ
    | some false => some false
    | none => none) := rfl
theorem evT_or (a b : P) (ρ : Sl) : evT (.or a b) ρ = (match evT a ρ with
    | some true => some true
    | some false => evT b ρ
    | none => none) := rfl
theorem evT_ife (t a b : P) (ρ : Sl) : evT (.ife t a b) ρ = (match evT t ρ with
    | some true => evT a ρ
    | some false => evT b ρ
    | none => none) := rfl
theorem evT_neg (a : P) (ρ : Sl) : evT (.neg a) ρ = (evP (.neg a) ρ).bind fun x => x.d.tru := rfl
theorem evT_ix (a b : P) (ρ : Sl) : evT (.ix a b) ρ = (evP (.ix a b) ρ).bind fun x => x.d.tru := rfl
theorem evT_b1 (b : B1) (a : P) (ρ : Sl) : evT (.b1 b a) ρ = (evP (.b1 b a) ρ).bind fun x => x.d.tru := rfl
theorem evT_b2 (b : B2) (a d : P) (ρ : Sl) : evT (.b2 b a d) ρ = (evP (.b2 b a d) ρ).bind fun x => x.d.tru := rfl
theorem evT_isi (a : P) (t : Ty) (ρ : Sl) : evT (.isi a t) ρ = (evP (.isi a t) ρ).bind fun x => x.d.tru := rfl
theorem bR_ok {α β : Type} (a : α) (ρ : Sl) (k : α → Sl → Option (Rs β)) : bindR (some (.ok a ρ)) k = k a ρ := rfl
theorem bR_ex {α β : Type} (c : Nat) (t : T) (ρ : Sl) (k : α → Sl → Option (Rs β)) : bindR (some (.ex c t ρ)) k = some (.ex c t ρ) := rfl
theorem bR_no {α β : Type} (k : α → Sl → Option (Rs β)) : bindR none k = none := rfl
theorem bE_ok {α : Type} (a : α) (ρ : Sl) (k : α → Sl → Option Fl) : bindE (some (.ok a ρ)) k = k a ρ := rfl
theorem bE_ex {α : Type} (c : Nat) (t : T) (ρ : Sl) (k : α → Sl → Option Fl) : bindE (some (Rs.ex (α := α) c t ρ)) k = some (.ex c t ρ) := rfl
theorem bE_no {α : Type} (k : α → Sl → Option Fl) : bindE none k = none := rfl
theorem bF_nx (ρ : Sl) (k : Sl → Option Fl) : bindF (some (.nx ρ)) k = k ρ := rfl
theorem bF_ret (t : T) (ρ : Sl) (k : Sl → Option Fl) : bindF (some (.ret t ρ)) k = some (.ret t ρ) := rfl
theorem bF_bk (ρ : Sl) (k : Sl → Option Fl) : bindF (some (.bk ρ)) k = some (.bk ρ) := rfl
theorem bF_ct (ρ : Sl) (k : Sl → Option Fl) : bindF (some (.ct ρ)) k = some (.ct ρ) := rfl
theorem bF_ex (c : Nat) (t : T) (ρ : Sl) (k : Sl → Option Fl) : bindF (some (.ex c t ρ)) k = some (.ex c t ρ) := rfl
theorem bF_no (k : Sl → Option Fl) : bindF none k = none := rfl
theorem oR_s {α : Type} (a : α) (ρ : Sl) : okR (some a) ρ = some (.ok a ρ) := rfl
theorem oR_n {α : Type} (ρ : Sl) : okR (none : Option α) ρ = none := rfl
theorem d_fz (d : D) : T.d (.fz d) = d := rfl
theorem d_lst (ts : List T) : T.d (.lst ts) = .lst (ts.map T.d) := by rw [T.d, T.ds_map]
theorem d_tup (ts : List T) : T.d (.tup ts) = .tup (ts.map T.d) := by rw [T.d, T.ds_map]
theorem o_add (i j : Int) : o2 .add (.int i) (.int j) = some (.int (i + j)) := rfl
theorem o_adds (i j : Str) : o2 .add (.str i) (.str j) = if i.length + j.length ≤ sizeLine then some (.str (i ++ j)) else none := rfl
theorem o_sub (i j : Int) : o2 .sub (.int i) (.int j) = some (.int (i - j)) := rfl
theorem o_mul (i j : Int) : o2 .mul (.int i) (.int j) = if mulB i j = true then some (.int (i * j)) else none := rfl
theorem o_fdiv (i j : Int) : o2 .fdiv (.int i) (.int j) = if divB j = true then some (.int (i / j)) else none := rfl
theorem o_mod (i j : Int) : o2 .mod (.int i) (.int j) = if 0 < j then some (.int (i % j)) else none := rfl
theorem o_pow (i j : Int) : o2 .pow (.int i) (.int j) = if powB i j = true then some (.int (i ^ j.toNat)) else none := rfl
theorem o_lt (i j : Int) : o2 .lt (.int i) (.int j) = some (.bl (decide (i < j))) := rfl
theorem o_le (i j : Int) : o2 .le (.int i) (.int j) = some (.bl (decide (i ≤ j))) := rfl
theorem o_gt (i j : Int) : o2 .gt (.int i) (.int j) = some (.bl (decide (j < i))) := rfl
theorem o_ge (i j : Int) : o2 .ge (.int i) (.int j) = some (.bl (decide (j ≤ i))) := rfl
theorem eqv_int (i j : Int) : PyData.eqv (.int i) (.int j) = decide (i = j) := by
  simp only [PyData.eqv]
  rfl
theorem cmp_int (i : Int) : D.cmp (.int i) = true := rfl
theorem cmp_bl (i : Bool) : D.cmp (.bl i) = true := rfl
theorem o_eq (i j : Int) : o2 .eq (.int i) (.int j) = some (.bl (decide (i = j))) := by
  show (if (D.int i).cmp = true ∧ (D.int j).cmp = true then some (D.bl (PyData.eqv (.int i) (.int j))) else none) = _
  rw [if_pos ⟨cmp_int i, cmp_int j⟩, eqv_int]
theorem o_ne (i j : Int) : o2 .ne (.int i) (.int j) = some (.bl (!decide (i = j))) := by
  show (if (D.int i).cmp = true ∧ (D.int j).cmp = true then some (D.bl (!PyData.eqv (.int i) (.int j))) else none) = _
  rw [if_pos ⟨cmp_int i, cmp_int j⟩, eqv_int]
theorem o_isN (a : D) : o2 .isN a .non = some (.bl a.isNon) := rfl
theorem o_isnN (a : D) : o2 .isnN a .non = some (.bl (!a.isNon)) := rfl
theorem o_in (a b : D) : o2 .isin a b = (isIn a b).map D.bl := rfl
theorem o_nin (a b : D) : o2 .notin a b = (isIn a b).map fun k => D.bl (!k) := rfl
theorem shaped_ints {ds : List D} : (∀ d ∈ ds, ∃ i, d = .int i) → PyData.canLayAll0 (D.pys ds) = true ∧ PyData.depthAll (D.pys ds) ≤ 1 := by
  induction ds with
  | nil => intro _; exact ⟨rfl, by decide⟩
  | cons d ds ih =>
    intro h
    obtain ⟨i, rfl⟩ := h d (by simp)
    obtain ⟨h1, h2⟩ := ih fun e he => h e (by simp [he])
    refine ⟨by simp [D.pys, D.py, PyData.canLayAll0, PyData.canLay0, h1], ?_⟩
    simp only [D.pys, D.py, PyData.depthAll, PyData.depth]
    omega
theorem any_ints (ns : List Int) (i : Int) : ((iD' ns).any fun z => PyData.eqv z.py (D.int i).py) = decide (i ∈ ns) := by
  induction ns with
  | nil => rfl
  | cons n ns ih =>
    simp only [iD', List.map_cons, List.any_cons] at ih ⊢
    rw [ih]
    show (PyData.eqv (.int n) (.int i) || _) = _
    rw [eqv_int]
    by_cases h : n = i
    · subst h; simp
    · have h' : ¬ i = n := fun e => h e.symm
      simp [h, h']
theorem in_ints (ns : List Int) (i : Int) : isIn (.int i) (.lst (ns.map D.int)) = some (decide (i ∈ ns)) := by
  have z := shaped_ints (ds := ns.map D.int) (fun d hd => by
    obtain ⟨n, _, rfl⟩ := List.mem_map.mp hd
    exact ⟨n, rfl⟩)
  have c : D.cmp (.lst (ns.map D.int)) = true := by
    unfold D.cmp SeqAt.shaped
    simp only [D.py, PyData.canLay0, PyData.depth, z.1, Bool.true_and, decide_eq_true_eq]
    have := z.2
    omega
  show (if (D.int i).cmp = true ∧ (D.lst (ns.map D.int)).cmp = true then some ((ns.map D.int).any fun z => PyData.eqv z.py (D.int i).py) else none) = _
  rw [if_pos ⟨cmp_int i, c⟩]
  exact congrArg some (any_ints ns i)
theorem in_intsT (ns : List Int) (i : Int) : isIn (.int i) (.tup (ns.map D.int)) = some (decide (i ∈ ns)) := by
  have z := shaped_ints (ds := ns.map D.int) (fun d hd => by
    obtain ⟨n, _, rfl⟩ := List.mem_map.mp hd
    exact ⟨n, rfl⟩)
  have c : D.cmp (.tup (ns.map D.int)) = true := by
    unfold D.cmp SeqAt.shaped
    simp only [D.py, PyData.canLay0, PyData.depth, z.1, Bool.true_and, decide_eq_true_eq]
    have := z.2
    omega
  show (if (D.int i).cmp = true ∧ (D.tup (ns.map D.int)).cmp = true then some ((ns.map D.int).any fun z => PyData.eqv z.py (D.int i).py) else none) = _
  rw [if_pos ⟨cmp_int i, c⟩]
  exact congrArg some (any_ints ns i)
theorem x_fl (ds : List D) (i : Int) : ixT (.fz (.lst ds)) (.int i) = (atI ds i).map T.fz := rfl
theorem x_ft (ds : List D) (i : Int) : ixT (.fz (.tup ds)) (.int i) = (atI ds i).map T.fz := rfl
theorem x_fs (ds : List Int) (i : Int) : ixT (.fz (.scr ds)) (.int i) = (atI ds i).map fun n => T.fz (.int n) := rfl
theorem x_l (ts : List T) (i : Int) : ixT (.lst ts) (.int i) = atI ts i := rfl
theorem x_t (ts : List T) (i : Int) : ixT (.tup ts) (.int i) = atI ts i := rfl
theorem b_lens (s : Str) : b1D .len (.str s) = if s.length ≤ sizeLine then some (.int s.length) else none := rfl
theorem b_lenl (xs : List D) : b1D .len (.lst xs) = some (.int xs.length) := rfl
theorem b_lent (xs : List D) : b1D .len (.tup xs) = some (.int xs.length) := rfl
theorem b_lenr (xs : List Int) : b1D .len (.scr xs) = some (.int xs.length) := rfl
theorem b_int (i : Int) : b1D .int (.int i) = some (.int i) := rfl
theorem b_intb (b : Bool) : b1D .int (.bl b) = some (.int (if b then 1 else 0)) := rfl
def absZ (i : Int) : Int := if i < 0 then -i else i
def minZ (i j : Int) : Int := if j < i then j else i
def maxZ (i j : Int) : Int := if j > i then j else i
theorem absZ_nn (i : Int) : 0 ≤ absZ i := by unfold absZ; split <;> omega
theorem minZ_le (i j : Int) : minZ i j ≤ i ∧ minZ i j ≤ j ∧ (minZ i j = i ∨ minZ i j = j) := by unfold minZ; split <;> omega
theorem maxZ_le (i j : Int) : i ≤ maxZ i j ∧ j ≤ maxZ i j ∧ (maxZ i j = i ∨ maxZ i j = j) := by unfold maxZ; split <;> omega
theorem b_abs (i : Int) : b1D .abs (.int i) = some (.int (absZ i)) := rfl
theorem b_min (i j : Int) : b2D .min (.int i) (.int j) = some (.int (minZ i j)) := rfl
theorem b_max (i j : Int) : b2D .max (.int i) (.int j) = some (.int (maxZ i j)) := rfl
theorem t_bl (b : Bool) : D.tru (.bl b) = some b := rfl
theorem t_int (i : Int) : D.tru (.int i) = some (i != 0) := rfl
theorem t_lst (xs : List D) : D.tru (.lst xs) = some (!xs.isEmpty) := rfl
theorem t_tup (xs : List D) : D.tru (.tup xs) = some (!xs.isEmpty) := rfl
theorem t_non : D.tru .non = some false := rfl
theorem n_int (i : Int) : negD (.int i) = some (.int (-i)) := rfl
theorem z_fz (d : D) : fzD (.fz d) = some d := rfl
theorem i_ii (i : Int) : isiD .int (.int i) = some true := rfl
theorem i_bi (i : Int) : isiD .bool (.int i) = some false := rfl
theorem i_bb (b : Bool) : isiD .bool (.bl b) = some true := rfl
theorem i_ib (b : Bool) : isiD .int (.bl b) = some true := rfl
theorem nn_int (i : Int) : D.isNon (.int i) = false := rfl
theorem nn_non : D.isNon .non = true := rfl
theorem o_neb (a b : Bool) : o2 .ne (.bl a) (.bl b) = some (.bl (!decide (a = b))) := by
  show (if (D.bl a).cmp = true ∧ (D.bl b).cmp = true then some (D.bl (!PyData.eqv (.bool a) (.bool b))) else none) = _
  rw [if_pos ⟨cmp_bl a, cmp_bl b⟩]
  cases a <;> cases b <;> rfl
theorem o_eqb (a b : Bool) : o2 .eq (.bl a) (.bl b) = some (.bl (decide (a = b))) := by
  show (if (D.bl a).cmp = true ∧ (D.bl b).cmp = true then some (D.bl (PyData.eqv (.bool a) (.bool b))) else none) = _
  rw [if_pos ⟨cmp_bl a, cmp_bl b⟩]
  cases a <;> cases b <;> rfl
theorem l_lst (ds : List D) : lstD (.lst ds) = some ds := rfl
theorem l_tup (ds : List D) : tupD (.tup ds) = some ds := rfl
theorem l_int (i : Int) : intD (.int i) = some i := rfl
theorem k_ft (ds : List D) : kidsT (.fz (.tup ds)) = some (ds.map T.fz) := rfl
theorem k_t (ts : List T) : kidsT (.tup ts) = some ts := rfl
theorem y_fl (ds : List D) : lstItems (.fz (.lst ds)) = some (ds.map T.fz) := rfl
theorem y_l (ts : List T) : lstItems (.lst ts) = some ts := rfl
theorem a_ints (i j : Int) : addT (.fz (.int i)) (.fz (.int j)) = some (.fz (.int (i + j))) := rfl
theorem a_ll (x y : List T) : addT (.lst x) (.lst y) = if x.length + y.length ≤ sizeLine then some (.lst (x ++ y)) else none := rfl
theorem a_fl (x : List D) (y : List T) : addT (.fz (.lst x)) (.lst y) = if (x.map T.fz).length + y.length ≤ sizeLine then some (.lst (x.map T.fz ++ y)) else none := rfl
theorem a_lf (x : List T) (y : List D) : addT (.lst x) (.fz (.lst y)) = if x.length + (y.map T.fz).length ≤ sizeLine then some (.lst (x ++ y.map T.fz)) else none := rfl
theorem a_ff (x y : List D) : addT (.fz (.lst x)) (.fz (.lst y)) = if (x.map T.fz).length + (y.map T.fz).length ≤ sizeLine then some (.lst (x.map T.fz ++ y.map T.fz)) else none := rfl
theorem m_app (ts : List T) (u : T) : mmT .append (.lst ts) [u] = if ts.length < sizeLine then some (.lst (ts ++ [u]), .fz .non) else none := rfl
theorem m_ext (ts us : List T) : mmT .extend (.lst ts) [.lst us] = if ts.length + us.length ≤ sizeLine then some (.lst (ts ++ us), .fz .non) else none := rfl
theorem s_lst (ts : List T) (i : Int) (u : T) : setT (.lst ts) (.int i) u = (ixN ts.length i).map fun j => .lst (ts.set j u) := rfl
theorem st_n (i : Nat) (t : T) (ρ : Sl) : stT (.n i) t ρ = if i < ρ.length then some (ρ.set i (some t)) else none := rfl
theorem st_t (ts : Tgs) (t : T) (ρ : Sl) : stT (.t ts) t ρ = (match kidsT t with
    | some us => stTs ts us ρ
    | none => none) := rfl
theorem sts_n (ρ : Sl) : stTs .nil [] ρ = some ρ := rfl
theorem sts_c (a : Tg) (r : Tgs) (t : T) (ts : List T) (ρ : Sl) : stTs (.cons a r) (t :: ts) ρ = (match stT a t ρ with
    | some ρ' => stTs r ts ρ'
    | none => none) := rfl
theorem r_own (t : T) (r : List AV) : lendA (.own t :: r) = lendA r := rfl
theorem isFz_fz (d : D) : isFz (.fz d) = true := rfl
/-! data that are lists of ints -/
abbrev iD (ns : List Int) : List D := ns.map D.int
abbrev iT (ns : List Int) : List T := ns.map fun n => T.fz (.int n)
theorem ds_iT (ns : List Int) : T.ds (iT ns) = iD ns := by
  rw [T.ds_map]
  simp [iT, iD, Function.comp, T.d]
/-! bounds of bits -/
theorem bits_of {x : Int} {m : Nat} (h : x.natAbs < 2 ^ m) : Builtin.Int.intBits x ≤ m := intBits_le_iff.mpr h
theorem mulB_of {i j : Int} {m n : Nat} (hi : i.natAbs < 2 ^ m) (hj : j.natAbs < 2 ^ n) (h : m + n ≤ 134217728) : mulB i j = true := by
  have h1 := bits_of hi
  have h2 := bits_of hj
  unfold mulB
  rw [decide_eq_true_eq]
  omega
theorem powB_of {i : Int} {j m : Nat} (hi : i.natAbs < 2 ^ m) (h : m * j ≤ 134217728) : powB i (j : Int) = true := by
  have h1 := bits_of hi
  unfold powB
  rw [Bool.and_eq_true, decide_eq_true_eq, decide_eq_true_eq]
  refine ⟨Int.natCast_nonneg _, ?_⟩
  have h2 : Builtin.Int.intBits i * j ≤ m * j := Nat.mul_le_mul_right j h1
  have h3 : ((Builtin.Int.intBits i * j : Nat) : Int) ≤ ((134217728 : Nat) : Int) := Int.ofNat_le.mpr (Nat.le_trans h2 h)
  rw [Int.natCast_mul] at h3
  exact h3
theorem divB_of {j : Int} (h0 : 0 < j) (h : j.natAbs < 2 ^ 9000) : divB j = true := by
  unfold divB
  rw [Bool.and_eq_true, decide_eq_true_eq, decide_eq_true_eq]
  refine ⟨h0, ?_⟩
  exact (Nat.log2_lt (by omega)).mpr h
theorem divB_le {j : Int} (h0 : 0 < j) (h : j ≤ 10000000000000000000000000000000) : divB j = true := by
  have h1 : j.natAbs < 2 ^ 120 := by omega
  unfold divB
  rw [Bool.and_eq_true, decide_eq_true_eq, decide_eq_true_eq]
  refine ⟨h0, ?_⟩
  have h2 : j.natAbs.log2 < 120 := (Nat.log2_lt (by omega)).mpr h1
  omega
end DL
namespace DL
open PySem PySem.Spec PyProof.Rows L2

/-! ### loops, reckoned -/
/-- a for with an invariant that tells what is done and what is left -/
theorem for_inv {st : T → Sl → Option Sl} {fb : Sl → Option Fl} {ds : List D} {ρ : Sl} (I : List D → List D → Sl → Prop) (h0 : I [] ds ρ)
    (step : ∀ done d r ρ, ds = done ++ d :: r → I done (d :: r) ρ → ∃ ρ1, st (.fz d) ρ = some ρ1 ∧ ∃ ρ2, (fb ρ1 = some (.nx ρ2) ∨ fb ρ1 = some (.ct ρ2)) ∧ I (done ++ [d]) r ρ2) :
    ∃ ρ', forF st fb ds ρ = some (.nx ρ') ∧ I ds [] ρ' := by
  have go : ∀ (rest done : List D) (ρ : Sl), ds = done ++ rest → I done rest ρ → ∃ ρ', forF st fb rest ρ = some (.nx ρ') ∧ I ds [] ρ' := by
    intro rest
    induction rest with
    | nil =>
      intro done ρ e i
      rw [List.append_nil] at e
      subst e
      exact ⟨ρ, rfl, i⟩
    | cons d r ih =>
      intro done ρ e i
      obtain ⟨ρ1, h1, ρ2, h2, i2⟩ := step done d r ρ e i
      obtain ⟨ρ', h3, i3⟩ := ih (done ++ [d]) ρ2 (by rw [e]; simp) i2
      refine ⟨ρ', ?_, i3⟩
      unfold forF
      rw [h1]
      rcases h2 with h2 | h2 <;> simp only [h2] <;> exact h3
  exact go ds [] ρ rfl h0
/-- the same over ints -/
theorem for_ints {st : T → Sl → Option Sl} {fb : Sl → Option Fl} {ns : List Int} {ρ : Sl} (I : List Int → List Int → Sl → Prop) (h0 : I [] ns ρ)
    (step : ∀ done n r ρ, ns = done ++ n :: r → I done (n :: r) ρ → ∃ ρ1, st (.fz (.int n)) ρ = some ρ1 ∧ ∃ ρ2, (fb ρ1 = some (.nx ρ2) ∨ fb ρ1 = some (.ct ρ2)) ∧ I (done ++ [n]) r ρ2) :
    ∃ ρ', forF st fb (ns.map D.int) ρ = some (.nx ρ') ∧ I ns [] ρ' := by
  have go : ∀ (rest done : List Int) (ρ : Sl), ns = done ++ rest → I done rest ρ → ∃ ρ', forF st fb (rest.map D.int) ρ = some (.nx ρ') ∧ I ns [] ρ' := by
    intro rest
    induction rest with
    | nil =>
      intro done ρ e i
      rw [List.append_nil] at e
      subst e
      exact ⟨ρ, rfl, i⟩
    | cons d r ih =>
      intro done ρ e i
      obtain ⟨ρ1, h1, ρ2, h2, i2⟩ := step done d r ρ e i
      obtain ⟨ρ', h3, i3⟩ := ih (done ++ [d]) ρ2 (by rw [e]; simp) i2
      refine ⟨ρ', ?_, i3⟩
      rw [List.map_cons]
      unfold forF
      rw [h1]
      rcases h2 with h2 | h2 <;> simp only [h2] <;> exact h3
  exact go ns [] ρ rfl h0
/-- a comprehension that changes nothing -/
theorem lc_pure {α : Type} {st : T → Sl → Option Sl} {ft : Sl → Option (Rs Bool)} {fe : Sl → Option (Rs T)} {vs : List Nat} {ρ0 : Sl} {em : α → D} (P : α → Bool) (f : α → T) (hw : wipeT ρ0 vs = ρ0) : ∀ (xs : List α) (acc : List T), acc.length + xs.length ≤ sizeLine →
    (∀ x ∈ xs, ∃ ρ1 ρ2, st (.fz (em x)) ρ0 = some ρ1 ∧ ft ρ1 = some (.ok (P x) ρ2) ∧ wipeT ρ2 vs = ρ0 ∧ (P x = true → ∃ ρ3, fe ρ2 = some (.ok (f x) ρ3) ∧ wipeT ρ3 vs = ρ0)) →
    lcF st ft fe vs (xs.map em) ρ0 acc = some (.ok (acc ++ (xs.filter P).map f) ρ0)
  | [], acc, _, _ => by
    rw [List.map_nil, lcF, hw]
    simp
  | x :: xs, acc, hl, h => by
    obtain ⟨ρ1, ρ2, h1, h2, h3, h4⟩ := h x (by simp)
    have ih := fun acc hl => lc_pure P f hw xs acc hl fun y hy => h y (by simp [hy])
    rw [List.length_cons] at hl
    rw [List.map_cons]
    unfold lcF
    rw [h1]
    simp only [h2]
    cases hp : P x with
    | false =>
      simp only [h3]
      rw [ih acc (by omega), List.filter_cons, hp]
      rfl
    | true =>
      obtain ⟨ρ3, h5, h6⟩ := h4 hp
      simp only [h5, h6]
      rw [if_pos (by omega), ih (acc ++ [f x]) (by rw [List.length_append, List.length_singleton]; omega), List.filter_cons, hp]
      simp
theorem filtT {α : Type} (xs : List α) : (xs.filter fun _ => true) = xs := by simp
theorem lc_p {α : Type} {st : T → Sl → Option Sl} {ft : Sl → Option (Rs Bool)} {fe : Sl → Option (Rs T)} {vs : List Nat} {ρ0 : Sl} {em : α → D} (P : α → Bool) (f : α → T) (hw : wipeT ρ0 vs = ρ0) (xs : List α) (hl : xs.length ≤ 16777216)
    (h : ∀ x ∈ xs, ∃ ρ1, st (.fz (em x)) ρ0 = some ρ1 ∧ wipeT ρ1 vs = ρ0 ∧ ft ρ1 = some (.ok (P x) ρ1) ∧ (P x = true → fe ρ1 = some (.ok (f x) ρ1))) :
    lcF st ft fe vs (xs.map em) ρ0 [] = some (.ok ((xs.filter P).map f) ρ0) := by
  have z := lc_pure (st := st) (ft := ft) (fe := fe) (em := em) P f hw xs [] (by rw [PySem.sizeLine_eq]; simpa using hl) fun x hx => let ⟨ρ1, h1, h2, h3, h4⟩ := h x hx; ⟨ρ1, ρ1, h1, h3, h2, fun hp => ⟨ρ1, h4 hp, h2⟩⟩
  rw [z, List.nil_append]
theorem lc_m {α : Type} {st : T → Sl → Option Sl} {ft : Sl → Option (Rs Bool)} {fe : Sl → Option (Rs T)} {vs : List Nat} {ρ0 : Sl} {em : α → D} (f : α → T) (hw : wipeT ρ0 vs = ρ0) (xs : List α) (hl : xs.length ≤ 16777216)
    (h : ∀ x ∈ xs, ∃ ρ1, st (.fz (em x)) ρ0 = some ρ1 ∧ wipeT ρ1 vs = ρ0 ∧ ft ρ1 = some (.ok true ρ1) ∧ fe ρ1 = some (.ok (f x) ρ1)) :
    lcF st ft fe vs (xs.map em) ρ0 [] = some (.ok (xs.map f) ρ0) := by
  have z := lc_p (st := st) (ft := ft) (fe := fe) (em := em) (fun _ => true) f hw xs hl fun x hx => let ⟨ρ1, h1, h2, h3, h4⟩ := h x hx; ⟨ρ1, h1, h2, h3, fun _ => h4⟩
  rw [z, filtT]
/-- a comprehension with an invariant -/
theorem lc_inv {st : T → Sl → Option Sl} {ft : Sl → Option (Rs Bool)} {fe : Sl → Option (Rs T)} {vs : List Nat} (I : List D → Sl → List T → Prop)
    (step : ∀ d r ρ acc, I (d :: r) ρ acc → ∃ ρ1 ρ2 b, st (.fz d) ρ = some ρ1 ∧ ft ρ1 = some (.ok b ρ2) ∧ (b = false → I r (wipeT ρ2 vs) acc) ∧ (b = true → ∃ t ρ3, fe ρ2 = some (.ok t ρ3) ∧ acc.length < sizeLine ∧ I r (wipeT ρ3 vs) (acc ++ [t]))) :
    ∀ (ds : List D) (ρ : Sl) (acc : List T), I ds ρ acc → ∃ acc' ρ', lcF st ft fe vs ds ρ acc = some (.ok acc' (wipeT ρ' vs)) ∧ I [] ρ' acc'
  | [], ρ, acc, i => ⟨acc, ρ, rfl, i⟩
  | d :: ds, ρ, acc, i => by
    obtain ⟨ρ1, ρ2, b, h1, h2, h3, h4⟩ := step d ds ρ acc i
    unfold lcF
    rw [h1]
    simp only [h2]
    cases b with
    | false => exact lc_inv I step ds _ _ (h3 rfl)
    | true =>
      obtain ⟨t, ρ3, h5, h6, h7⟩ := h4 rfl
      simp only [h5]
      rw [if_pos h6]
      exact lc_inv I step ds _ _ h7
/-! ranges -/
def rg (a : Int) (n : Nat) : List Int := (List.range n).map fun (i : Nat) => a + (i : Int)
theorem rngL_rg (a : Int) : ∀ n, rngL a 1 n = (rg a n).map D.int := by
  intro n
  induction n generalizing a with
  | zero => rfl
  | succ n ih =>
    rw [rngL, ih (a + 1)]
    unfold rg
    rw [List.range_succ_eq_map, List.map_cons, List.map_cons, List.map_map, List.map_map, List.map_map]
    congr 1
    · simp
    · refine List.map_congr_left fun j _ => ?_
      simp only [Function.comp]
      congr 1
      omega
theorem mem_rg {a x : Int} {n : Nat} : x ∈ rg a n ↔ a ≤ x ∧ x < a + n := by
  unfold rg
  simp only [List.mem_map, List.mem_range]
  constructor
  · rintro ⟨i, hi, rfl⟩
    omega
  · rintro ⟨h1, h2⟩
    exact ⟨(x - a).toNat, by omega, by omega⟩
theorem rg_asc (a : Int) (n : Nat) : (rg a n).Pairwise (· < ·) := by
  unfold rg
  rw [List.pairwise_map]
  exact List.pairwise_lt_range.imp fun h => by omega
theorem rg_len (a : Int) (n : Nat) : (rg a n).length = n := by simp [rg]
theorem small_of {j : Int} (h0 : 0 ≤ j) (h : j < 2 ^ 62) : smallI j = true := by
  unfold smallI
  rw [Bool.and_eq_true, decide_eq_true_eq, decide_eq_true_eq]
  omega
theorem r1 {j : Int} (h0 : 0 ≤ j) (h : j < 2 ^ 62) : rng1D (.int j) = some ((rg 0 j.toNat).map D.int) := by
  show (if smallI j = true then some (rngL 0 1 j.toNat) else none) = _
  rw [if_pos (small_of h0 h), rngL_rg]
theorem r2 {i j : Int} (i0 : 0 ≤ i) (i1 : i < 2 ^ 62) (h0 : 0 ≤ j) (h : j < 2 ^ 62) : rng2D (.int i) (.int j) = some ((rg i (j - i).toNat).map D.int) := by
  show (if smallI i = true ∧ smallI j = true then some (rngL i 1 (j - i).toNat) else none) = _
  rw [if_pos ⟨small_of i0 i1, small_of h0 h⟩, rngL_rg]
theorem lrg {i j : Int} (i0 : 0 ≤ i) (h0 : 0 ≤ j) (h : j ≤ 16777216) (i1 : i ≤ 16777216) : rgD i j = some (.lst (iT (rg i (j - i).toNat))) := by
  unfold rgD
  rw [if_pos ⟨by omega, by omega, by omega, by omega, by omega⟩, rngL_rg, List.map_map]
  rfl
/-! lists of ints as they are read -/
theorem d_iT (ns : List Int) : (iT ns).map T.d = ns.map D.int := by
  rw [← T.ds_map]
  exact ds_iT ns
theorem intsD_i (ns : List Int) : intsD (ns.map D.int) = some ns := by
  induction ns with
  | nil => rfl
  | cons n ns ih => rw [List.map_cons, intsD, ih]; rfl
theorem blsD_b (bs : List Bool) : blsD (bs.map D.bl) = some bs := by
  induction bs with
  | nil => rfl
  | cons n ns ih => rw [List.map_cons, blsD, ih]; rfl
theorem ld_f (ds : List D) : lstDs (.fz (.lst ds)) = some ds := rfl
theorem ld_l (ts : List T) : lstDs (.lst ts) = some (ts.map T.d) := by
  unfold lstDs
  rw [d_lst]
  rfl
theorem bf_sortL (ns : List Int) : bfT .sorted [.lst (iT ns)] = some (.lst (iT (sortI ns))) := by
  show ((lstDs _).bind intsD).map _ = _
  rw [ld_l, d_iT]
  show (intsD _).map _ = _
  rw [intsD_i]
  rfl
theorem bf_sortF (ns : List Int) : bfT .sorted [.fz (.lst (ns.map D.int))] = some (.lst (iT (sortI ns))) := by
  show ((lstDs _).bind intsD).map _ = _
  rw [ld_f]
  show (intsD _).map _ = _
  rw [intsD_i]
  rfl
abbrev bT (bs : List Bool) : List T := bs.map fun b => T.fz (.bl b)
theorem d_bT (bs : List Bool) : (bT bs).map T.d = bs.map D.bl := by
  simp [bT, Function.comp, T.d]
theorem bf_allL (bs : List Bool) : bfT .all [.lst (bT bs)] = some (.fz (.bl (bs.all id))) := by
  show ((lstDs _).bind blsD).map _ = _
  rw [ld_l, d_bT]
  show (blsD _).map _ = _
  rw [blsD_b]
  rfl
theorem bf_anyL (bs : List Bool) : bfT .any [.lst (bT bs)] = some (.fz (.bl (bs.any id))) := by
  show ((lstDs _).bind blsD).map _ = _
  rw [ld_l, d_bT]
  show (blsD _).map _ = _
  rw [blsD_b]
  rfl
theorem bf_minL (n : Int) (ns : List Int) : bfT .min [.lst (T.fz (.int n) :: iT ns)] = some (.fz (.int (minI n ns))) := by
  have z : (lstDs (.lst (T.fz (.int n) :: iT ns))).bind intsD = some (n :: ns) := by
    rw [ld_l]
    have e : (T.fz (.int n) :: iT ns).map T.d = (n :: ns).map D.int := d_iT (n :: ns)
    rw [e]
    exact intsD_i (n :: ns)
  show (match (lstDs (.lst (T.fz (.int n) :: iT ns))).bind intsD with
    | some (n :: ns) => some (T.fz (.int (minI n ns)))
    | _ => none) = _
  rw [z]
theorem minI_le : ∀ (ns : List Int) (m : Int), minI m ns ≤ m ∧ (∀ x ∈ ns, minI m ns ≤ x) ∧ (minI m ns = m ∨ minI m ns ∈ ns)
  | [], m => ⟨Int.le_refl _, (fun _ h => nomatch h), .inl rfl⟩
  | n :: ns, m => by
    obtain ⟨h1, h2, h3⟩ := minI_le ns (if n < m then n else m)
    have e : minI m (n :: ns) = minI (if n < m then n else m) ns := rfl
    rw [e]
    refine ⟨?_, ?_, ?_⟩
    · split at h1 <;> split <;> omega
    · intro x hx
      rcases List.mem_cons.mp hx with rfl | hx
      · split at h1 <;> split <;> omega
      · exact h2 x hx
    · rcases h3 with h3 | h3
      · rw [h3]
        split
        · exact .inr (by simp)
        · exact .inl rfl
      · exact .inr (List.mem_cons_of_mem _ h3)
theorem bf_len (t : T) : bfT .len [t] = (b1D .len t.d).map T.fz := rfl
theorem bf_repr (t : T) : bfT .repr [t] = (reprD t.d).map T.fz := rfl
theorem bf_min2 (i j : Int) : bfT .min2 [.fz (.int i), .fz (.int j)] = some (.fz (.int (minZ i j))) := rfl
theorem bf_max2 (i j : Int) : bfT .max2 [.fz (.int i), .fz (.int j)] = some (.fz (.int (maxZ i j))) := rfl
theorem bf_divmod {i j : Int} (h0 : 0 < j) (h : j < 1073741824) : bfT .divmod [.fz (.int i), .fz (.int j)] = some (.fz (.tup [.int (i / j), .int (i % j)])) := by
  show (if 0 < j ∧ j < 1073741824 then some (T.fz (.tup [.int (i / j), .int (i % j)])) else none) = _
  rw [if_pos ⟨h0, h⟩]
theorem sset_l {ns : List Int} (h : ns.length < 4095) : ssetT (.lst (iT ns)) = some (.lst (iT (setI ns))) := by
  unfold ssetT
  rw [ld_l, d_iT]
  show (intsD _).bind _ = _
  rw [intsD_i]
  show (if ns.length + 1 < scanBound then _ else none) = _
  have sb : scanBound = 4096 := by decide
  rw [if_pos (by omega)]
theorem atI_nat {α : Type} {xs : List α} {i : Int} (h0 : 0 ≤ i) (h : i < xs.length) : atI xs i = xs[i.toNat]? := by
  unfold atI ixN
  rw [if_pos h0, if_pos h]
  rfl
theorem atI_in {α : Type} {xs : List α} {i : Int} (h0 : 0 ≤ i) (h : i < xs.length) : ∃ x, atI xs i = some x ∧ x ∈ xs := by
  rw [atI_nat h0 h]
  have hl : i.toNat < xs.length := by omega
  exact ⟨xs[i.toNat], List.getElem?_eq_getElem hl, List.getElem_mem hl⟩
theorem sIx_1 (n : Nat) : HT.sIx n 0 (some 1) = min 1 n := HT.sIx_nat n 0 1
theorem cut_1 {α : Type} (xs : List α) : cutG xs (some 1) none = xs.tail := by
  unfold cutG
  rw [HT.sIx_none, sIx_1]
  cases xs with
  | nil => rfl
  | cons x xs => simp [Nat.min_eq_left]
theorem sl_f (ds : List D) (lo hi : Option Int) : sliceT (.fz (.lst ds)) lo hi = some (.lst (cutG (ds.map T.fz) lo hi)) := rfl
theorem sl_l (ts : List T) (lo hi : Option Int) : sliceT (.lst ts) lo hi = some (.lst (cutG ts lo hi)) := rfl
theorem zip_l (ds es : List D) : zipD (.lst ds) (.lst es) = some (zipL ds es) := rfl
theorem zip_i : ∀ (ns ms : List Int), zipL (ns.map D.int) (ms.map D.int) = (ns.zip ms).map fun p => D.tup [.int p.1, .int p.2]
  | [], _ => by simp [zipL]
  | _ :: _, [] => by simp [zipL]
  | n :: ns, m :: ms => by
    rw [List.map_cons, List.map_cons, zipL, zip_i ns ms, List.zip_cons_cons, List.map_cons]
theorem asc_adj : ∀ {ns : List Int}, ns.Pairwise (· < ·) → ∀ p ∈ ns.zip ns.tail, p.1 < p.2
  | [], _, p, h => by simp at h
  | [_], _, p, h => by simp at h
  | a :: b :: r, h, p, hp => by
    simp only [List.tail_cons, List.zip_cons_cons, List.mem_cons] at hp
    rcases hp with rfl | hp
    · exact (List.pairwise_cons.mp h).1 b (by simp)
    · exact asc_adj (List.pairwise_cons.mp h).2 p hp
theorem len_lt {ns : List Int} {b : Int} (h0 : 0 ≤ b) (asc : ns.Pairwise (· < ·)) (h : ∀ x ∈ ns, 0 ≤ x ∧ x < b) : (ns.length : Int) ≤ b := by
  have nd : ns.Nodup := asc.imp fun h => by omega
  have sub : ns ⊆ rg 0 b.toNat := fun x hx => mem_rg.mpr ⟨(h x hx).1, by have := (h x hx).2; omega⟩
  have := nd.length_le_of_subset sub
  rw [rg_len] at this
  omega
theorem sort_asc {ns : List Int} (nd : ns.Nodup) : (sortI ns).Pairwise (· < ·) := by
  have h1 := sortI_le ns
  have h2 : (sortI ns).Nodup := (sortI_perm ns).nodup_iff.mpr nd
  exact (h1.and h2).imp fun ⟨a, b⟩ => by omega
theorem sort_mem {ns : List Int} {x : Int} : x ∈ sortI ns ↔ x ∈ ns := (sortI_perm ns).mem_iff
theorem at_g {ns : List Int} {r : Int} (h0 : 0 ≤ r) (h : r < ns.length) : atI (ns.map fun n => T.fz (.int n)) r = some (.fz (.int (ns.getD r.toNat 0))) := by
  have hl : r.toNat < ns.length := by omega
  rw [atI_nat h0 (by rw [List.length_map]; exact h), List.getElem?_map, List.getElem?_eq_getElem hl, List.getD_eq_getElem?_getD, List.getElem?_eq_getElem hl]
  rfl
theorem eq_nil (ns : List Int) : o2 .eq (.lst (ns.map D.int)) (.lst []) = some (.bl (decide (ns = []))) := by
  have z := shaped_ints (ds := ns.map D.int) (fun d hd => by
    obtain ⟨n, _, rfl⟩ := List.mem_map.mp hd
    exact ⟨n, rfl⟩)
  have c : D.cmp (.lst (ns.map D.int)) = true := by
    unfold D.cmp SeqAt.shaped
    simp only [D.py, PyData.canLay0, PyData.depth, z.1, Bool.true_and, decide_eq_true_eq]
    have := z.2
    omega
  show (if (D.lst (ns.map D.int)).cmp = true ∧ (D.lst []).cmp = true then some (D.bl (PyData.eqv (D.lst (ns.map D.int)).py (D.lst []).py)) else none) = _
  rw [if_pos ⟨c, rfl⟩]
  congr 2
  cases ns with
  | nil => rfl
  | cons n ns => rfl
end DL
namespace DL
open PySem PySem.Spec PyProof.Rows L2

/-! ### texts of numbers and lots -/
theorem okS_app (a b : Str) : PyData.strOk (a ++ b) = (PyData.strOk a && PyData.strOk b) := by
  show (a.cps ++ b.cps).all _ = _
  rw [Array.all_append]
  rfl
theorem okS_text : ∀ (ts : List Str) (k : Nat) (acc : Str), PyData.strOk acc = true → (∀ t ∈ ts, PyData.strOk t = true) → PyData.strOk (textFrom k acc ts) = true
  | [], k, acc, h, _ => h
  | t :: r, k, acc, h, ht => by
    have e : PyData.strOk (acc ++ (if k > 0 then ", " else "" : String) ++ t) = true := by
      rw [okS_app, okS_app, h, ht t (by simp)]
      have : PyData.strOk ((if k > 0 then ", " else "" : String) : Str) = true := by
        split <;> decide +kernel
      rw [this]
      rfl
    exact okS_text r (k + 1) _ e fun u hu => ht u (by simp [hu])
theorem okS_of (s : String) : PyData.strOk (Str.ofString s) = true := by
  rw [Str.ofString_eq_toList]
  unfold PyData.strOk
  rw [Array.all_eq_true_iff_forall_mem]
  intro c hc
  simp only [Array.mem_map, List.mem_toArray, List.mem_map] at hc
  obtain ⟨x, _, rfl⟩ := hc
  have := x.valid
  rw [decide_eq_true_eq]
  rcases this with h | h
  · exact Nat.lt_trans h (by decide)
  · exact h.2
theorem small_int {i : Int} (h0 : 0 ≤ i) (h1 : i ≤ 5040) : (PyData.shown (.int i)).length ≤ 13 ∧ PyData.strOk (PyData.shown (.int i)) = true ∧ i.natAbs.log2 < 1920 := by
  refine ⟨PyData.shown_int_le (by omega), ?_, ?_⟩
  · show PyData.strOk (Str.ofString (toString i)) = true
    exact okS_of _
  · by_cases hz : i.natAbs = 0
    · rw [hz]; decide
    · have : i.natAbs.log2 < 13 := (Nat.log2_lt hz).mpr (by omega)
      omega
theorem okS_join : ∀ (ts : List Str), (∀ t ∈ ts, PyData.strOk t = true) → PyData.strOk (Str.join ", " ts) = true
  | [], _ => by decide +kernel
  | [t], h => h t (by simp)
  | t :: u :: r, h => by
    have ih := okS_join (u :: r) fun x hx => h x (by simp [hx])
    show PyData.strOk (t ++ ", " ++ Str.join ", " (u :: r)) = true
    rw [okS_app, okS_app, h t (by simp), ih]
    decide +kernel
theorem ints_facts : ∀ (ns : List Int), (∀ x ∈ ns, 0 ≤ x ∧ x ≤ 5040) → PyData.leavesShortAll 13 (D.pys (ns.map D.int)) = true ∧ PyData.showableAll (D.pys (ns.map D.int)) = true ∧ PyData.weightAll (D.pys (ns.map D.int)) ≤ 14 * ns.length ∧ PyData.hasDictAll (D.pys (ns.map D.int)) = false ∧ ∀ t ∈ PyData.shownAll (D.pys (ns.map D.int)), PyData.strOk t = true
  | [], _ => ⟨rfl, rfl, by decide, rfl, fun _ h => nomatch h⟩
  | n :: ns, h => by
    obtain ⟨i1, i2, i3, i4, i5⟩ := ints_facts ns fun x hx => h x (by simp [hx])
    obtain ⟨h0, h1⟩ := h n (by simp)
    obtain ⟨s1, s2, s3⟩ := small_int h0 h1
    have w : PyData.weight (.int n) ≤ 13 := by
      show (if n == 0 then 0 else n.natAbs.log2 + 1) ≤ 13
      split
      · omega
      · have : n.natAbs.log2 < 13 := (Nat.log2_lt (by rename_i z; simp at z; omega)).mpr (by omega)
        omega
    refine ⟨?_, ?_, ?_, ?_, ?_⟩
    · simp only [List.map_cons, D.pys, D.py, PyData.leavesShortAll, i1, Bool.and_true, PyData.leavesShort, decide_eq_true_eq]
      exact s1
    · simp only [List.map_cons, D.pys, D.py, PyData.showableAll, i2, Bool.and_true, PyData.showable, decide_eq_true_eq]
      exact s3
    · simp only [List.map_cons, D.pys, D.py, PyData.weightAll, List.length_cons]
      omega
    · simp only [List.map_cons, D.pys, D.py, PyData.hasDictAll, i4, Bool.or_false, PyData.hasDict]
    · intro t ht
      simp only [List.map_cons, D.pys, D.py, PyData.shownAll, List.mem_cons] at ht
      rcases ht with rfl | ht
      · exact s2
      · exact i5 t ht
theorem repr_lot {e : Int} {ns : List Int} (e0 : 0 ≤ e) (e1 : e ≤ 5040) (h : ∀ x ∈ ns, 0 ≤ x ∧ x ≤ 5040) (hl : ns.length ≤ 5040) : ∃ s : Str, reprD (.tup [.int e, .lst (ns.map D.int)]) = some (.str s) ∧ PyData.strOk s = true := by
  obtain ⟨i1, i2, i3, i4, i5⟩ := ints_facts ns h
  obtain ⟨j1, j2, j3, j4, j5⟩ := ints_facts [e] (by simpa using ⟨e0, e1⟩)
  obtain ⟨s1, s2, s3⟩ := small_int e0 e1
  have z := shaped_ints (ds := ns.map D.int) (fun d hd => by
    obtain ⟨n, _, rfl⟩ := List.mem_map.mp hd
    exact ⟨n, rfl⟩)
  have hpy : (D.tup [.int e, .lst (ns.map D.int)]).py = .tuple [.int e, .list (D.pys (ns.map D.int))] := rfl
  have w1 : PyData.weight (.int e) ≤ 13 := by
    have q : PyData.weightAll (D.pys ([e].map D.int)) = PyData.weight (.int e) + 1 + 0 := rfl
    rw [q] at j3
    simp only [List.length_singleton] at j3
    omega
  have g1 : PyData.canLay0 (.tuple [.int e, .list (D.pys (ns.map D.int))]) = true := by
    simp only [PyData.canLay0, PyData.canLayAll0, z.1, Bool.and_true]
  have g2 : PyData.showable (.tuple [.int e, .list (D.pys (ns.map D.int))]) = true := by
    simp only [PyData.showable, PyData.showableAll, i2, Bool.and_true, decide_eq_true_eq]
    exact s3
  have g3 : PyData.depth (.tuple [.int e, .list (D.pys (ns.map D.int))]) ≤ 60 := by
    simp only [PyData.depth, PyData.depthAll]
    have := z.2
    omega
  have g4 : PyData.hasDict (.tuple [.int e, .list (D.pys (ns.map D.int))]) = false := by
    simp only [PyData.hasDict, PyData.hasDictAll, i4, Bool.or_false]
  have g5 : (PyData.shown (.tuple [.int e, .list (D.pys (ns.map D.int))])).length ≤ sizeLine := by
    refine PyData.shown_fits (B := 13) (by decide) (by decide) ?_ ?_
    · simp only [PyData.leavesShort, PyData.leavesShortAll, i1, Bool.and_true, decide_eq_true_eq]
      exact s1
    · simp only [PyData.weight, PyData.weightAll]
      have w2 : (if e == 0 then 0 else e.natAbs.log2 + 1) ≤ 13 := w1
      omega
  refine ⟨PyData.shown (.tuple [.int e, .list (D.pys (ns.map D.int))]), ?_, ?_⟩
  · unfold reprD
    rw [hpy, if_pos ⟨g1, g2, g3, g4, g5⟩]
  · simp only [PyData.shown, PyData.shownAll]
    unfold tupleText
    rw [okS_app, okS_app, okS_join _ (by
      intro t ht
      simp only [List.mem_cons, List.not_mem_nil, or_false] at ht
      rcases ht with rfl | rfl
      · exact s2
      · unfold listText
        rw [okS_app, okS_text _ _ _ (by decide +kernel) i5]
        decide +kernel)]
    have : PyData.strOk ("(" : Str) = true := by decide +kernel
    rw [this]
    have : ∀ b : Bool, PyData.strOk ((if b = true then ",)" else ")" : String) : Str) = true := by decide +kernel
    rw [this]
    rfl
theorem ne_str {s : Str} (h : PyData.strOk s = true) : o2 .ne (.str s) (.str s) = some (.bl false) := by
  have c : D.cmp (.str s) = true := by
    unfold D.cmp SeqAt.shaped
    simp only [D.py, PyData.canLay0, h, Bool.true_and, decide_eq_true_eq, PyData.depth]
    omega
  show (if (D.str s).cmp = true ∧ (D.str s).cmp = true then some (D.bl (!PyData.eqv (.str s) (.str s))) else none) = _
  rw [if_pos ⟨c, c⟩]
  have : PyData.eqv (.str s) (.str s) = true := by
    simp [PyData.eqv]
  rw [this]
  rfl
theorem log_of {i : Int} {m : Nat} (hm : 0 < m) (h : i.natAbs < 2 ^ m) : i.natAbs.log2 < m := by
  by_cases hz : i.natAbs = 0
  · rw [hz]; exact Nat.lt_of_le_of_lt (by decide) hm
  · exact (Nat.log2_lt hz).mpr h
/-- [i] as a text -/
theorem repr_one {i : Int} (h : i.natAbs < 2 ^ 1920) : ∃ s : Str, reprD (.lst [.int i]) = some (.str s) ∧ PyData.strOk s = true := by
  have hl := log_of (by decide) h
  have g1 : PyData.canLay0 (.list [.int i]) = true := rfl
  have g2 : PyData.showable (.list [.int i]) = true := by
    simp only [PyData.showable, PyData.showableAll, Bool.and_true, decide_eq_true_eq]
    exact hl
  have g3 : PyData.depth (.list [.int i]) ≤ 60 := by
    simp only [PyData.depth, PyData.depthAll]
    omega
  have ln := int_text_len_1921 hl
  have e1 : PyData.shown (.list [.int i]) = ("[" : Str) ++ ("" : Str) ++ Str.ofString (toString i) ++ ("]" : Str) := rfl
  have g5 : (PyData.shown (.list [.int i])).length ≤ sizeLine := by
    rw [e1, strLen_append, strLen_append, strLen_append, PySem.sizeLine_eq]
    have a1 : ("[" : Str).length = 1 := by decide +kernel
    have a2 : ("" : Str).length = 0 := by decide +kernel
    have a3 : ("]" : Str).length = 1 := by decide +kernel
    omega
  refine ⟨PyData.shown (.list [.int i]), ?_, ?_⟩
  · unfold reprD
    have hpy : (D.lst [.int i]).py = .list [.int i] := rfl
    rw [hpy, if_pos ⟨g1, g2, g3, rfl, g5⟩]
  · rw [e1, okS_app, okS_app, okS_app, okS_of, okS_of, okS_of, okS_of]
    rfl
end DL
namespace Lw
open PySem PySem.Spec PyProof.Rows L2 DL
abbrev bd : List Stmt := PySem.Challenge.pw_marketdays_k04_days_of_lots.main.body
abbrev R : PySem.W.OpenRow := PySem.W.OpenLaw.row PySem.Challenge.rw_marketdays_k04_days_of_lots
def names0 : List PySem.Str := ["MarketError", "InvalidDay", "InvalidLot", "check_lots", "check_days", "has", "next_day", "_law_purse", "_law_coin", "_law_mk_is_integer", "_law_mk_base", "_law_mk_part", "_law_mk_leaves", "_law_mk_spread", "_law_mk_marks", "_law_mk_primes", "_law_mk_moment", "_law_mk_next", "_law_mk_day_right", "_law_right"]
def names : List PySem.Str := names0
def dn0 : Dn := [("check_lots", 5), ("check_days", 6), ("has", 7), ("next_day", 8), ("_law_purse", 10), ("_law_coin", 11), ("_law_mk_is_integer", 12), ("_law_mk_base", 13), ("_law_mk_part", 14), ("_law_mk_leaves", 15), ("_law_mk_spread", 16), ("_law_mk_marks", 17), ("_law_mk_primes", 18), ("_law_mk_moment", 19), ("_law_mk_next", 20), ("_law_mk_day_right", 21), ("_law_right", 22), ("law", 23)]
def dn : Dn := dn0
def con : List (Str × D) := []
def fa : List He.Fa := hFa dn con []
def fn : List He.FnD := hFn bd dn
abbrev hk : PySem.W.Hook := He.hookE 4 fa fn
def ob (s : PySem.W.SharedT) : He.Al := He.obsG 4 fa fn (HandSHeadRun.getT s)
theorem ob_eq (s : PySem.W.SharedT) : ob s = hk.obs s.abs := He.obsG_eq (HandSHeadRun.getT_eq s)
theorem run (w : World) : HandSHeadRun.RunEq R (PySem.W.view R.prog [23]) hk ob 3000 names w := by
  intro os
  kernel_rfl
noncomputable def tb0 : List Cal := []
def CT_check_lots_1 : Bs := .nil
def CE_check_lots_1 : E := (.p (.op .lt (.sl 4) (.sl 5)))
def CT_check_lots_2 : Bs := .nil
def CE_check_lots_2 : E := (.p (.ch .le .lt (.lit (.int 0)) (.sl 6) (.sl 1)))
def B_check_lots_1 : Ss := (.cons (.asg 3 (.bf .all (.cons (.lc [("low", 4), ("high", 5)] (.t (.cons (.n 4) (.cons (.n 5) .nil))) (.zip (.fzs 2) (.slice (.fzs 2) (.some (.p (.lit (.int 1)))) .none)) CT_check_lots_1 CE_check_lots_1) .nil))) (.cons (.ife (.or (.p (.op .lt (.sl 1) (.lit (.int 1)))) (.or (.p (.not (.sl 3))) (.not (.val (.bf .all (.cons (.lc [("rest", 6)] (.n 6) (.lst (.fzs 2)) CT_check_lots_2 CE_check_lots_2) .nil)))))) (.cons .nev .nil) .nil) .nil))
def d_check_lots : Df := ⟨"check_lots", topOf bd 5, ["asked", "every", "rests", "ascending", "low", "high", "rest"], ["asked"], [],
  (.cons (.for_ (.t (.cons (.n 1) (.cons (.n 2) .nil))) (.tup (.mv 0)) B_check_lots_1) .nil)⟩
noncomputable def tb1 : List Cal := tb0 ++ [d_check_lots.calS tb0 1 0]
noncomputable def F_check_lots : List T → Option Out := d_check_lots.F tb0
theorem F_check_lots_eq (ts : List T) : F_check_lots ts = denB (evSs tb0 d_check_lots.b) 1 7 [] ts := rfl
def B_check_days_1 : Ss := (.cons (.ife (.p (.op .lt (.sl 1) (.lit (.int 0)))) (.cons .nev .nil) .nil) .nil)
def d_check_days : Df := ⟨"check_days", topOf bd 6, ["asked", "day"], ["asked"], [],
  (.cons (.for_ (.n 1) (.tup (.mv 0)) B_check_days_1) .nil)⟩
noncomputable def tb2 : List Cal := tb1 ++ [d_check_days.calS tb1 1 0]
noncomputable def F_check_days : List T → Option Out := d_check_days.F tb1
theorem F_check_days_eq (ts : List T) : F_check_days ts = denB (evSs tb1 d_check_days.b) 1 2 [] ts := rfl
def d_has : Df := ⟨"has", topOf bd 7, ["one", "day"], ["one", "day"], [],
  (.cons (.ex (.callS 0 (.c (.fzs 0) (.q [])))) (.cons (.ex (.callS 1 (.c (.fzs 1) (.q [])))) (.cons (.ret (.p (.op .isin (.op .mod (.sl 1) (.ix (.sl 0) (.lit (.int 0)))) (.ix (.sl 0) (.lit (.int 1)))))) .nil)))⟩
noncomputable def tb3 : List Cal := tb2 ++ [d_has.cal tb2]
noncomputable def tb4 : List Cal := tb3 ++ [d_has.calK tb2 0 ["day", "one"] [1, 0]]
noncomputable def F_has : List T → Option Out := d_has.F tb2
theorem F_has_eq (ts : List T) : F_has ts = denB (evSs tb2 d_has.b) 2 2 [] ts := rfl
theorem at_2_0 : tb2[0]? = some ⟨"check_lots", 1, (some 0), [], [], F_check_lots⟩ := rfl
theorem at_2_1 : tb2[1]? = some ⟨"check_days", 1, (some 0), [], [], F_check_days⟩ := rfl
def CT_next_day_1 : Bs := .nil
def CE_next_day_1 : E := (.p (.op .mod (.op .sub (.sl 4) (.sl 1)) (.sl 2)))
def d_next_day : Df := ⟨"next_day", topOf bd 8, ["one", "day", "every", "rests", "rest"], ["one", "day"], [],
  (.cons (.ex (.callS 0 (.c (.fzs 0) (.q [])))) (.cons (.ex (.callS 1 (.c (.fzs 1) (.q [])))) (.cons (.tgt (.t (.cons (.n 2) (.cons (.n 3) .nil))) (.mv 0)) (.cons (.ret (.ife (.p (.op .gt (.b1 .len (.sl 3)) (.lit (.int 0)))) (.add (.fzs 1) (.bf .min (.cons (.lc [("rest", 4)] (.n 4) (.lst (.mv 3)) CT_next_day_1 CE_next_day_1) .nil))) (.p (.lit .non)))) .nil))))⟩
noncomputable def tb5 : List Cal := tb4 ++ [d_next_day.cal tb4]
noncomputable def tb6 : List Cal := tb5 ++ [d_next_day.calK tb4 0 ["day", "one"] [1, 0]]
noncomputable def F_next_day : List T → Option Out := d_next_day.F tb4
theorem F_next_day_eq (ts : List T) : F_next_day ts = denB (evSs tb4 d_next_day.b) 2 5 [] ts := rfl
theorem at_4_0 : tb4[0]? = some ⟨"check_lots", 1, (some 0), [], [], F_check_lots⟩ := rfl
theorem at_4_1 : tb4[1]? = some ⟨"check_days", 1, (some 0), [], [], F_check_days⟩ := rfl
def d_law_purse : Df := ⟨"_law_purse", topOf bd 10, ["script", "place", "cell"], ["script", "place"], [],
  (.cons (.asg 2 (.p (.ife (.op .lt (.sl 1) (.b1 .len (.sl 0))) (.ix (.sl 0) (.sl 1)) (.lit (.int 0))))) (.cons (.ret (.lst (.cons (.p (.b2 .max (.lit (.int 0)) (.op .sub (.b1 .abs (.sl 2)) (.op .pow (.lit (.int 10)) (.lit (.int 18)))))) (.cons (.p (.op .mod (.b1 .int (.op .add (.op .add (.op .mul (.sl 2) (.lit (.int 30011))) (.op .mul (.sl 1) (.lit (.int 7368787)))) (.lit (.int 104729)))) (.op .add (.op .pow (.lit (.int 10)) (.lit (.int 24))) (.lit (.int 7))))) (.cons (.p (.lit (.int 0))) .nil))))) .nil))⟩
noncomputable def tb7 : List Cal := tb6 ++ [d_law_purse.cal tb6]
noncomputable def F_law_purse : List T → Option Out := d_law_purse.F tb6
theorem F_law_purse_eq (ts : List T) : F_law_purse ts = denB (evSs tb6 d_law_purse.b) 2 3 [] ts := rfl
def d_law_coin : Df := ⟨"_law_coin", topOf bd 11, ["purse", "many", "stirred", "drawn"], ["purse", "many"], [0],
  (.cons (.ife (.p (.op .gt (.ix (.sl 0) (.lit (.int 0))) (.lit (.int 0)))) (.cons (.asg 3 (.p (.op .mod (.b1 .int (.ix (.sl 0) (.lit (.int 0)))) (.sl 1)))) (.cons (.set (.s 0) (.lit (.int 0)) (.p (.op .fdiv (.ix (.sl 0) (.lit (.int 0))) (.sl 1)))) (.cons (.ret (.p (.sl 3))) .nil))) .nil) (.cons (.set (.s 0) (.lit (.int 2)) (.p (.op .add (.ix (.sl 0) (.lit (.int 2))) (.lit (.int 1))))) (.cons (.asg 2 (.p (.op .mod (.op .pow (.b1 .int (.op .add (.ix (.sl 0) (.lit (.int 1))) (.op .mul (.lit (.int 2038074743)) (.ix (.sl 0) (.lit (.int 2)))))) (.lit (.int 3))) (.op .add (.op .pow (.lit (.int 10)) (.lit (.int 25))) (.lit (.int 13)))))) (.cons (.asg 2 (.p (.op .mod (.op .pow (.b1 .int (.op .add (.sl 2) (.op .mul (.lit (.int 982451653)) (.ix (.sl 0) (.lit (.int 2)))))) (.lit (.int 2))) (.op .add (.op .pow (.lit (.int 10)) (.lit (.int 24))) (.lit (.int 7)))))) (.cons (.ret (.p (.op .mod (.b1 .int (.op .fdiv (.sl 2) (.lit (.int 1024)))) (.sl 1)))) .nil)))))⟩
noncomputable def tb8 : List Cal := tb7 ++ [d_law_coin.cal tb7]
noncomputable def F_law_coin : List T → Option Out := d_law_coin.F tb7
theorem F_law_coin_eq (ts : List T) : F_law_coin ts = denB (evSs tb7 d_law_coin.b) 2 4 [0] ts := rfl
def d_law_mk_is_integer : Df := ⟨"_law_mk_is_integer", topOf bd 12, ["thing"], ["thing"], [],
  (.cons (.ret (.p (.and (.isi (.sl 0) .int) (.not (.isi (.sl 0) .bool))))) .nil)⟩
noncomputable def tb9 : List Cal := tb8 ++ [d_law_mk_is_integer.cal tb8]
noncomputable def F_law_mk_is_integer : List T → Option Out := d_law_mk_is_integer.F tb8
theorem F_law_mk_is_integer_eq (ts : List T) : F_law_mk_is_integer ts = denB (evSs tb8 d_law_mk_is_integer.b) 1 1 [] ts := rfl
def d_law_mk_base : Df := ⟨"_law_mk_base", topOf bd 13, ["purse", "menu", "way"], ["purse"], [0],
  (.cons (.asg 1 (.lst (.cons (.p (.lit (.int 12))) (.cons (.p (.lit (.int 30))) (.cons (.p (.lit (.int 60))) (.cons (.p (.lit (.int 72))) (.cons (.p (.lit (.int 210))) (.cons (.p (.lit (.int 420))) (.cons (.p (.lit (.int 840))) (.cons (.p (.lit (.int 2520))) (.cons (.p (.lit (.int 5040))) (.cons (.p (.lit (.int 4620))) (.cons (.p (.lit (.int 4199))) (.cons (.p (.lit (.int 4970))) (.cons (.p (.lit (.int 5039))) (.cons (.p (.lit (.int 4900))) (.cons (.p (.lit (.int 3125))) (.cons (.p (.lit (.int 4489))) (.cons (.p (.lit (.int 4802))) .nil))))))))))))))))))) (.cons (.asg 2 (.call 7 (.q [.io 0, .b (.lit (.int 4))]))) (.cons (.ife (.p (.op .lt (.sl 2) (.lit (.int 2)))) (.cons (.ret (.add (.p (.lit (.int 1))) (.call 7 (.io 0 (.c (.ix (.lst (.cons (.p (.lit (.int 40))) (.cons (.p (.lit (.int 5040))) .nil))) (.p (.sl 2))) (.q [])))))) .nil) .nil) (.cons (.ret (.ix (.mv 1) (.call 7 (.io 0 (.c (.ix (.lst (.cons (.p (.lit (.int 7))) (.cons (.p (.lit (.int 17))) .nil))) (.p (.op .sub (.sl 2) (.lit (.int 2))))) (.q [])))))) .nil))))⟩
noncomputable def tb10 : List Cal := tb9 ++ [d_law_mk_base.cal tb9]
noncomputable def F_law_mk_base : List T → Option Out := d_law_mk_base.F tb9
theorem F_law_mk_base_eq (ts : List T) : F_law_mk_base ts = denB (evSs tb9 d_law_mk_base.b) 1 3 [0] ts := rfl
theorem at_9_7 : tb9[7]? = some ⟨"_law_coin", 2, none, [], [], F_law_coin⟩ := rfl
def B_law_mk_primes_1 : Ss := (.cons (.ife (.p (.op .eq (.op .mod (.b1 .int (.sl 0)) (.sl 2)) (.lit (.int 0)))) (.cons (.asg 0 (.p (.op .fdiv (.sl 0) (.sl 2)))) .nil) .nil) .nil)
def B_law_mk_primes_2 : Ss := (.cons (.ife (.p (.op .eq (.op .mod (.b1 .int (.sl 0)) (.sl 2)) (.lit (.int 0)))) (.cons (.ex (.mm1 .append (.s 1) (.sl 2))) (.cons (.for_ (.n 3) (.rng1 (.p (.lit (.int 13)))) B_law_mk_primes_1) .nil)) .nil) .nil)
def d_law_mk_primes : Df := ⟨"_law_mk_primes", topOf bd 18, ["base", "found", "part", "turn"], ["base"], [],
  (.cons (.asg 1 (.lst .nil)) (.cons (.for_ (.n 2) (.rng2 (.p (.lit (.int 2))) (.p (.lit (.int 72)))) B_law_mk_primes_2) (.cons (.ret (.ife (.p (.op .gt (.sl 0) (.lit (.int 1)))) (.add (.mv 1) (.lst (.cons (.p (.sl 0)) .nil))) (.mv 1))) .nil)))⟩
noncomputable def tb11 : List Cal := tb10 ++ [d_law_mk_primes.cal tb10]
noncomputable def F_law_mk_primes : List T → Option Out := d_law_mk_primes.F tb10
theorem F_law_mk_primes_eq (ts : List T) : F_law_mk_primes ts = denB (evSs tb10 d_law_mk_primes.b) 1 4 [] ts := rfl
def B_law_mk_part_1 : Ss := (.cons (.ife (.and (.p (.op .eq (.op .mod (.b1 .int (.sl 2)) (.sl 3)) (.lit (.int 0)))) (.cmp .eq (.call 7 (.q [.io 0, .b (.lit (.int 2))])) (.p (.lit (.int 0))))) (.cons (.asg 2 (.p (.op .fdiv (.sl 2) (.sl 3)))) .nil) .nil) .nil)
def B_law_mk_part_2 : Ss := (.cons (.for_ (.n 4) (.rng1 (.p (.lit (.int 12)))) B_law_mk_part_1) .nil)
def d_law_mk_part : Df := ⟨"_law_mk_part", topOf bd 14, ["purse", "base", "found", "prime", "turn"], ["purse", "base"], [0],
  (.cons (.asg 2 (.p (.sl 1))) (.cons (.for_ (.n 3) (.lst (.call 10 (.q [.b (.sl 1)]))) B_law_mk_part_2) (.cons (.ret (.p (.sl 2))) .nil)))⟩
noncomputable def tb12 : List Cal := tb11 ++ [d_law_mk_part.cal tb11]
noncomputable def F_law_mk_part : List T → Option Out := d_law_mk_part.F tb11
theorem F_law_mk_part_eq (ts : List T) : F_law_mk_part ts = denB (evSs tb11 d_law_mk_part.b) 2 5 [0] ts := rfl
theorem at_11_7 : tb11[7]? = some ⟨"_law_coin", 2, none, [], [], F_law_coin⟩ := rfl
theorem at_11_10 : tb11[10]? = some ⟨"_law_mk_primes", 1, none, [], [], F_law_mk_primes⟩ := rfl
def CT_law_mk_leaves_1 : Bs := .nil
def CE_law_mk_leaves_1 : E := (.call 7 (.q [.io 0, .b (.lit (.int 2))]))
def CT_law_mk_leaves_2 : Bs := .nil
def CE_law_mk_leaves_2 : E := (.call 7 (.q [.io 0, .b (.sl 1)]))
def CT_law_mk_leaves_3 : Bs := (.one (.p (.op .notin (.sl 8) (.sl 2))))
def CE_law_mk_leaves_3 : E := (.p (.sl 8))
def CT_law_mk_leaves_4 : Bs := (.one (.p (.op .eq (.ix (.sl 4) (.op .mod (.op .mod (.b1 .int (.sl 8)) (.sl 5)) (.lit (.int 13)))) (.lit (.int 1)))))
def CE_law_mk_leaves_4 : E := (.p (.sl 8))
def CT_law_mk_leaves_5 : Bs := (.one (.p (.op .ne (.sl 8) (.ix (.sl 2) (.lit (.int 0))))))
def CE_law_mk_leaves_5 : E := (.p (.sl 8))
def CT_law_mk_leaves_6 : Bs := (.one (.p (.op .eq (.ix (.sl 4) (.op .mod (.b1 .int (.sl 8)) (.lit (.int 13)))) (.lit (.int 1)))))
def CE_law_mk_leaves_6 : E := (.p (.sl 8))
def d_law_mk_leaves : Df := ⟨"_law_mk_leaves", topOf bd 15, ["purse", "base", "few", "way", "mask", "step", "some", "turn", "leaf"], ["purse", "base"], [0],
  (.cons (.tgt (.t (.cons (.n 3) (.cons (.n 4) .nil))) (.tup (.cons (.call 7 (.q [.io 0, .b (.lit (.int 6))])) (.cons (.lc [("turn", 7)] (.n 7) (.rng1 (.p (.lit (.int 13)))) CT_law_mk_leaves_1 CE_law_mk_leaves_1) .nil)))) (.cons (.asg 2 (.sset (.lc [("turn", 7)] (.n 7) (.rng1 (.call 7 (.q [.io 0, .b (.lit (.int 5))]))) CT_law_mk_leaves_2 CE_law_mk_leaves_2))) (.cons (.ife (.p (.op .eq (.sl 3) (.lit (.int 0)))) (.cons (.ret (.mv 2)) .nil) .nil) (.cons (.ife (.p (.op .eq (.sl 3) (.lit (.int 1)))) (.cons (.ret (.lc [("leaf", 8)] (.n 8) (.rng1 (.p (.sl 1))) CT_law_mk_leaves_3 CE_law_mk_leaves_3)) .nil) .nil) (.cons (.ife (.cmp .isin (.p (.sl 3)) (.tup (.cons (.p (.lit (.int 2))) (.cons (.p (.lit (.int 3))) .nil)))) (.cons (.asg 5 (.call 11 (.q [.io 0, .b (.sl 1)]))) (.cons (.asgLc 6 [("leaf", 8)] (.n 8) (.rng1 (.p (.sl 1))) CT_law_mk_leaves_4 CE_law_mk_leaves_4) (.cons (.ife (.or (.p (.op .eq (.sl 3) (.lit (.int 2)))) (.cmp .eq (.fzs 2) (.lst .nil))) (.cons (.ret (.mv 6)) .nil) .nil) (.cons (.ret (.ife (.p (.op .isin (.ix (.sl 2) (.lit (.int 0))) (.sl 6))) (.lc [("leaf", 8)] (.n 8) (.lst (.mv 6)) CT_law_mk_leaves_5 CE_law_mk_leaves_5) (.bf .sorted (.cons (.add (.mv 6) (.lst (.cons (.p (.ix (.sl 2) (.lit (.int 0)))) .nil))) .nil)))) .nil)))) .nil) (.cons (.ife (.p (.op .eq (.sl 3) (.lit (.int 4)))) (.cons (.ret (.lc [("leaf", 8)] (.n 8) (.rng1 (.p (.sl 1))) CT_law_mk_leaves_6 CE_law_mk_leaves_6)) .nil) .nil) (.cons (.ret (.ife (.p (.op .eq (.ix (.sl 4) (.lit (.int 0))) (.lit (.int 1)))) (.lrng1 (.p (.sl 1))) (.lst .nil))) .nil)))))))⟩
noncomputable def tb13 : List Cal := tb12 ++ [d_law_mk_leaves.cal tb12]
noncomputable def F_law_mk_leaves : List T → Option Out := d_law_mk_leaves.F tb12
theorem F_law_mk_leaves_eq (ts : List T) : F_law_mk_leaves ts = denB (evSs tb12 d_law_mk_leaves.b) 2 9 [0] ts := rfl
theorem at_12_7 : tb12[7]? = some ⟨"_law_coin", 2, none, [], [], F_law_coin⟩ := rfl
theorem at_12_11 : tb12[11]? = some ⟨"_law_mk_part", 2, none, [], [], F_law_mk_part⟩ := rfl
def CT_law_mk_spread_1 : Bs := .nil
def CE_law_mk_spread_1 : E := (.p (.op .add (.sl 3) (.sl 4)))
def B_law_mk_spread_1 : Ss := (.cons (.ex (.mm .extend 2 (.cons (.lc [("leaf", 4)] (.n 4) (.lst (.p (.ix (.sl 0) (.lit (.int 1))))) CT_law_mk_spread_1 CE_law_mk_spread_1) .nil))) .nil)
def d_law_mk_spread : Df := ⟨"_law_mk_spread", topOf bd 16, ["lot_here", "base", "found", "start", "leaf"], ["lot_here", "base"], [],
  (.cons (.asg 2 (.lst .nil)) (.cons (.for_ (.n 3) (.rng3 (.p (.lit (.int 0))) (.p (.sl 1)) (.p (.ix (.sl 0) (.lit (.int 0))))) B_law_mk_spread_1) (.cons (.ret (.mv 2)) .nil)))⟩
noncomputable def tb14 : List Cal := tb13 ++ [d_law_mk_spread.cal tb13]
noncomputable def F_law_mk_spread : List T → Option Out := d_law_mk_spread.F tb13
theorem F_law_mk_spread_eq (ts : List T) : F_law_mk_spread ts = denB (evSs tb13 d_law_mk_spread.b) 2 5 [] ts := rfl
def CT_law_mk_marks_1 : Bs := .nil
def CE_law_mk_marks_1 : E := (.p (.lit (.bl false)))
def B_law_mk_marks_1 : Ss := (.cons (.set (.s 2) (.sl 3) (.p (.lit (.bl true)))) .nil)
def d_law_mk_marks : Df := ⟨"_law_mk_marks", topOf bd 17, ["lot_here", "base", "marks", "spot", "turn"], ["lot_here", "base"], [],
  (.cons (.asgLc 2 [("turn", 4)] (.n 4) (.rng1 (.p (.sl 1))) CT_law_mk_marks_1 CE_law_mk_marks_1) (.cons (.for_ (.n 3) (.lst (.call 13 (.c (.mv 0) (.bf (.sl 1) (.q []))))) B_law_mk_marks_1) (.cons (.ret (.mv 2)) .nil)))⟩
noncomputable def tb15 : List Cal := tb14 ++ [d_law_mk_marks.cal tb14]
noncomputable def F_law_mk_marks : List T → Option Out := d_law_mk_marks.F tb14
theorem F_law_mk_marks_eq (ts : List T) : F_law_mk_marks ts = denB (evSs tb14 d_law_mk_marks.b) 2 5 [] ts := rfl
theorem at_14_13 : tb14[13]? = some ⟨"_law_mk_spread", 2, none, [], [], F_law_mk_spread⟩ := rfl
def d_law_mk_moment : Df := ⟨"_law_mk_moment", topOf bd 19, ["purse", "way"], ["purse"], [0],
  (.cons (.asg 1 (.call 7 (.q [.io 0, .b (.lit (.int 5))]))) (.cons (.ife (.p (.op .eq (.sl 1) (.lit (.int 4)))) (.cons (.ret (.bin .sub (.p (.op .pow (.lit (.int 10)) (.lit (.int 30)))) (.call 7 (.q [.io 0, .b (.lit (.int 900))])))) .nil) .nil) (.cons (.ret (.call 7 (.io 0 (.c (.ix (.lst (.cons (.p (.lit (.int 9))) (.cons (.p (.lit (.int 40))) (.cons (.p (.lit (.int 1700))) (.cons (.p (.op .add (.op .pow (.lit (.int 10)) (.lit (.int 30))) (.lit (.int 1)))) .nil))))) (.p (.sl 1))) (.q []))))) .nil)))⟩
noncomputable def tb16 : List Cal := tb15 ++ [d_law_mk_moment.cal tb15]
noncomputable def F_law_mk_moment : List T → Option Out := d_law_mk_moment.F tb15
theorem F_law_mk_moment_eq (ts : List T) : F_law_mk_moment ts = denB (evSs tb15 d_law_mk_moment.b) 1 2 [0] ts := rfl
theorem at_15_7 : tb15[7]? = some ⟨"_law_coin", 2, none, [], [], F_law_coin⟩ := rfl
def B_law_mk_next_1 : Ss := (.cons (.ife (.p (.ix (.sl 0) (.op .mod (.b1 .int (.op .add (.sl 3) (.sl 4))) (.sl 2)))) (.cons (.ret (.lst (.cons (.add (.mv 1) (.p (.sl 4))) .nil))) .nil) .nil) .nil)
def d_law_mk_next : Df := ⟨"_law_mk_next", topOf bd 20, ["marks", "moment", "base", "start", "step"], ["marks", "moment"], [],
  (.cons (.asg 2 (.p (.b1 .len (.sl 0)))) (.cons (.asg 3 (.p (.op .mod (.b1 .int (.sl 1)) (.sl 2)))) (.cons (.for_ (.n 4) (.rng1 (.p (.sl 2))) B_law_mk_next_1) (.cons (.ret (.lst .nil)) .nil))))⟩
noncomputable def tb17 : List Cal := tb16 ++ [d_law_mk_next.cal tb16]
noncomputable def F_law_mk_next : List T → Option Out := d_law_mk_next.F tb16
theorem F_law_mk_next_eq (ts : List T) : F_law_mk_next ts = denB (evSs tb16 d_law_mk_next.b) 2 5 [] ts := rfl
def d_law_mk_day_right : Df := ⟨"_law_mk_day_right", topOf bd 21, ["item", "marks", "moment", "way", "here", "told", "due", "later"], ["item", "marks", "moment", "way"], [],
  (.cons (.asg 4 (.p (.ix (.sl 1) (.op .mod (.b1 .int (.sl 2)) (.b1 .len (.sl 1)))))) (.cons (.asg 5 (.ife (.p (.op .eq (.sl 3) (.lit (.int 0)))) (.call 2 (.c (.fzs 0) (.c (.fzs 2) (.q [])))) (.callK0 3 [(.sl 2), (.sl 0)]))) (.cons (.ife (.p (.or (.not (.isi (.sl 5) .bool)) (.op .ne (.sl 5) (.sl 4)))) (.cons (.ret (.p (.lit (.bl false)))) .nil) .nil) (.cons (.asg 6 (.call 16 (.c (.mv 1) (.c (.fzs 2) (.q []))))) (.cons (.asg 7 (.ife (.p (.op .eq (.sl 3) (.lit (.int 0)))) (.call 4 (.c (.mv 0) (.c (.mv 2) (.q [])))) (.callK0 5 [(.sl 2), (.sl 0)]))) (.cons (.ife (.cmp .eq (.fzs 6) (.lst .nil)) (.cons (.ret (.p (.op .isN (.sl 7) (.lit .non)))) .nil) .nil) (.cons (.ret (.and (.call 8 (.c (.fzs 7) (.q []))) (.p (.op .eq (.sl 7) (.ix (.sl 6) (.lit (.int 0))))))) .nil)))))))⟩
noncomputable def tb18 : List Cal := tb17 ++ [d_law_mk_day_right.cal tb17]
noncomputable def F_law_mk_day_right : List T → Option Out := d_law_mk_day_right.F tb17
theorem F_law_mk_day_right_eq (ts : List T) : F_law_mk_day_right ts = denB (evSs tb17 d_law_mk_day_right.b) 4 8 [] ts := rfl
theorem at_17_2 : tb17[2]? = some ⟨"has", 2, none, [], [], F_has⟩ := rfl
theorem at_17_3 : tb17[3]? = some ⟨"has", 0, none, ["day", "one"], [1, 0], F_has⟩ := rfl
theorem at_17_4 : tb17[4]? = some ⟨"next_day", 2, none, [], [], F_next_day⟩ := rfl
theorem at_17_5 : tb17[5]? = some ⟨"next_day", 0, none, ["day", "one"], [1, 0], F_next_day⟩ := rfl
theorem at_17_8 : tb17[8]? = some ⟨"_law_mk_is_integer", 1, none, [], [], F_law_mk_is_integer⟩ := rfl
theorem at_17_16 : tb17[16]? = some ⟨"_law_mk_next", 2, none, [], [], F_law_mk_next⟩ := rfl
def CT_law_right_1 : Bs := .nil
def CE_law_right_1 : E := (.call 15 (.q [.io 0]))
def CT_law_right_2 : Bs := .nil
def CE_law_right_2 : E := (.p (.b2 .min (.op .pow (.lit (.int 10)) (.lit (.int 30))) (.sl 14)))
def B_law_right_1 : Ss := (.cons (.ife (.not (.val (.call 17 (.c (.fzs 2) (.c (.fzs 8) (.c (.mv 5) (.bf (.sl 4) (.q [])))))))) (.cons (.ret (.p (.lit (.bl false)))) .nil) .nil) .nil)
def B_law_right_2 : Ss := (.cons (.forB 3 (.n 5) B_law_right_1) (.cons (.ex (.mm0 .reverse (.s 3))) .nil))
def B_law_right_3 : Ss := (.cons (.asg 12 (.call 4 (.c (.fzs 2) (.c (.fzs 5) (.q []))))) (.cons (.ife (.p (.op .isN (.sl 12) (.lit .non))) (.cons (.ret (.and (.cmp .eq (.p (.ix (.sl 2) (.lit (.int 1)))) (.lst .nil)) (.cmp .eq (.bf .repr (.cons (.mv 2) .nil)) (.p (.sl 7))))) .nil) .nil) (.cons (.asg 13 (.call 16 (.c (.fzs 8) (.c (.mv 5) (.q []))))) (.cons (.ife (.or (.cmp .ne (.bf .repr (.cons (.lst (.cons (.fzs 12) .nil)) .nil)) (.bf .repr (.cons (.fzs 13) .nil))) (.p (.op .gt (.sl 12) (.op .pow (.lit (.int 10)) (.lit (.int 30)))))) (.cons (.ret (.cmp .eq (.bf .repr (.cons (.lst (.cons (.mv 12) .nil)) .nil)) (.bf .repr (.cons (.mv 13) .nil)))) .nil) .nil) (.cons (.asg 5 (.bf .min2 (.cons (.p (.op .pow (.lit (.int 10)) (.lit (.int 30)))) (.cons (.add (.mv 12) (.p (.lit (.int 1)))) .nil)))) .nil)))))
def d_law_right : Df := ⟨"_law_right", topOf bd 22, ["purse", "base", "item", "moments", "way", "moment", "turn", "kept", "marks", "leaf", "far", "near", "later", "due", "spot"], ["purse"], [0],
  (.cons (.asg 1 (.call 9 (.q [.io 0]))) (.cons (.asg 2 (.tup (.cons (.p (.sl 1)) (.cons (.call 12 (.q [.io 0, .b (.sl 1)])) .nil)))) (.cons (.par2 7 8 (.cons (.bf .repr (.cons (.fzs 2) .nil)) (.cons (.call 14 (.c (.fzs 2) (.bf (.sl 1) (.q [])))) .nil))) (.cons (.asg 3 (.add (.lc [("turn", 6)] (.n 6) (.rng1 (.p (.lit (.int 3)))) CT_law_right_1 CE_law_right_1) (.lst (.cons (.p (.lit (.int 0))) .nil)))) (.cons (.ife (.cmp .ne (.p (.ix (.sl 2) (.lit (.int 1)))) (.lst .nil)) (.cons (.asg 9 (.ix (.p (.ix (.sl 2) (.lit (.int 1)))) (.call 7 (.q [.io 0, .b (.b1 .len (.ix (.sl 2) (.lit (.int 1))))])))) (.cons (.asg 10 (.bin .mul (.bin .fdiv (.call 15 (.q [.io 0])) (.p (.sl 1))) (.p (.sl 1)))) (.cons (.asg 11 (.lst (.cons (.p (.op .add (.sl 10) (.sl 9))) (.cons (.p (.op .add (.op .add (.sl 10) (.sl 9)) (.lit (.int 1)))) (.cons (.p (.b2 .max (.lit (.int 0)) (.op .sub (.op .add (.sl 10) (.sl 9)) (.lit (.int 1))))) .nil))))) (.cons (.asg 3 (.add (.mv 3) (.lc [("spot", 14)] (.n 14) (.lst (.mv 11)) CT_law_right_2 CE_law_right_2))) .nil)))) .nil) (.cons (.for_ (.n 4) (.tup (.tup (.cons (.p (.lit (.int 0))) (.cons (.p (.lit (.int 1))) (.cons (.p (.lit (.int 0))) .nil))))) B_law_right_2) (.cons (.asg 5 (.p (.ix (.sl 3) (.lit (.int 0))))) (.cons (.for_ (.n 6) (.rng1 (.p (.lit (.int 4)))) B_law_right_3) (.cons (.ret (.cmp .eq (.bf .repr (.cons (.mv 2) .nil)) (.p (.sl 7)))) .nil)))))))))⟩
noncomputable def tb19 : List Cal := tb18 ++ [d_law_right.cal tb18]
noncomputable def F_law_right : List T → Option Out := d_law_right.F tb18
theorem F_law_right_eq (ts : List T) : F_law_right ts = denB (evSs tb18 d_law_right.b) 1 15 [0] ts := rfl
theorem at_18_4 : tb18[4]? = some ⟨"next_day", 2, none, [], [], F_next_day⟩ := rfl
theorem at_18_7 : tb18[7]? = some ⟨"_law_coin", 2, none, [], [], F_law_coin⟩ := rfl
theorem at_18_9 : tb18[9]? = some ⟨"_law_mk_base", 1, none, [], [], F_law_mk_base⟩ := rfl
theorem at_18_12 : tb18[12]? = some ⟨"_law_mk_leaves", 2, none, [], [], F_law_mk_leaves⟩ := rfl
theorem at_18_14 : tb18[14]? = some ⟨"_law_mk_marks", 2, none, [], [], F_law_mk_marks⟩ := rfl
theorem at_18_15 : tb18[15]? = some ⟨"_law_mk_moment", 1, none, [], [], F_law_mk_moment⟩ := rfl
theorem at_18_16 : tb18[16]? = some ⟨"_law_mk_next", 2, none, [], [], F_law_mk_next⟩ := rfl
theorem at_18_17 : tb18[17]? = some ⟨"_law_mk_day_right", 4, none, [], [], F_law_mk_day_right⟩ := rfl
def B_law_1 : Ss := (.cons (.asg 2 (.call 6 (.c (.fzs 0) (.bf (.sl 1) (.q []))))) (.cons (.ife (.not (.val (.call 18 (.q [.io 2])))) (.cons (.ret (.p (.lit (.bl false)))) .nil) .nil) .nil))
def d_law : Df := ⟨"law", topOf bd 23, ["script", "spot", "purse"], ["script"], [],
  (.cons (.for_ (.n 1) (.rng1 (.p (.b2 .max (.lit (.int 1)) (.b2 .min (.lit (.int 6)) (.b1 .len (.sl 0)))))) B_law_1) (.cons (.ret (.p (.lit (.bl true)))) .nil))⟩
noncomputable def F_law : List T → Option Out := d_law.F tb19
theorem F_law_eq (ts : List T) : F_law ts = denB (evSs tb19 d_law.b) 1 3 [] ts := rfl
theorem at_19_6 : tb19[6]? = some ⟨"_law_purse", 2, none, [], [], F_law_purse⟩ := rfl
theorem at_19_18 : tb19[18]? = some ⟨"_law_right", 1, none, [], [], F_law_right⟩ := rfl
theorem sc_d_check_lots : FnScope d_check_lots.N d_check_lots.ps (defScope d_check_lots.st) := ⟨by kernel_rfl, by kernel_rfl, by kernel_rfl, by decide +kernel, by kernel_rfl, by decide +kernel, by decide +kernel⟩
theorem mt_d_check_lots : mtSs tb0 d_check_lots.b (d_check_lots.cx con) (defBody d_check_lots.st) = true := by decide +kernel
theorem sc_d_check_days : FnScope d_check_days.N d_check_days.ps (defScope d_check_days.st) := ⟨by kernel_rfl, by kernel_rfl, by kernel_rfl, by decide +kernel, by kernel_rfl, by decide +kernel, by decide +kernel⟩
theorem mt_d_check_days : mtSs tb1 d_check_days.b (d_check_days.cx con) (defBody d_check_days.st) = true := by decide +kernel
theorem sc_d_has : FnScope d_has.N d_has.ps (defScope d_has.st) := ⟨by kernel_rfl, by kernel_rfl, by kernel_rfl, by decide +kernel, by kernel_rfl, by decide +kernel, by decide +kernel⟩
theorem mt_d_has : mtSs tb2 d_has.b (d_has.cx con) (defBody d_has.st) = true := by decide +kernel
theorem sc_d_next_day : FnScope d_next_day.N d_next_day.ps (defScope d_next_day.st) := ⟨by kernel_rfl, by kernel_rfl, by kernel_rfl, by decide +kernel, by kernel_rfl, by decide +kernel, by decide +kernel⟩
theorem mt_d_next_day : mtSs tb4 d_next_day.b (d_next_day.cx con) (defBody d_next_day.st) = true := by decide +kernel
theorem sc_d_law_purse : FnScope d_law_purse.N d_law_purse.ps (defScope d_law_purse.st) := ⟨by kernel_rfl, by kernel_rfl, by kernel_rfl, by decide +kernel, by kernel_rfl, by decide +kernel, by decide +kernel⟩
theorem mt_d_law_purse : mtSs tb6 d_law_purse.b (d_law_purse.cx con) (defBody d_law_purse.st) = true := by decide +kernel
theorem sc_d_law_coin : FnScope d_law_coin.N d_law_coin.ps (defScope d_law_coin.st) := ⟨by kernel_rfl, by kernel_rfl, by kernel_rfl, by decide +kernel, by kernel_rfl, by decide +kernel, by decide +kernel⟩
theorem mt_d_law_coin : mtSs tb7 d_law_coin.b (d_law_coin.cx con) (defBody d_law_coin.st) = true := by decide +kernel
theorem sc_d_law_mk_is_integer : FnScope d_law_mk_is_integer.N d_law_mk_is_integer.ps (defScope d_law_mk_is_integer.st) := ⟨by kernel_rfl, by kernel_rfl, by kernel_rfl, by decide +kernel, by kernel_rfl, by decide +kernel, by decide +kernel⟩
theorem mt_d_law_mk_is_integer : mtSs tb8 d_law_mk_is_integer.b (d_law_mk_is_integer.cx con) (defBody d_law_mk_is_integer.st) = true := by decide +kernel
theorem sc_d_law_mk_base : FnScope d_law_mk_base.N d_law_mk_base.ps (defScope d_law_mk_base.st) := ⟨by kernel_rfl, by kernel_rfl, by kernel_rfl, by decide +kernel, by kernel_rfl, by decide +kernel, by decide +kernel⟩
theorem mt_d_law_mk_base : mtSs tb9 d_law_mk_base.b (d_law_mk_base.cx con) (defBody d_law_mk_base.st) = true := by decide +kernel
theorem sc_d_law_mk_primes : FnScope d_law_mk_primes.N d_law_mk_primes.ps (defScope d_law_mk_primes.st) := ⟨by kernel_rfl, by kernel_rfl, by kernel_rfl, by decide +kernel, by kernel_rfl, by decide +kernel, by decide +kernel⟩
theorem mt_d_law_mk_primes : mtSs tb10 d_law_mk_primes.b (d_law_mk_primes.cx con) (defBody d_law_mk_primes.st) = true := by decide +kernel
theorem sc_d_law_mk_part : FnScope d_law_mk_part.N d_law_mk_part.ps (defScope d_law_mk_part.st) := ⟨by kernel_rfl, by kernel_rfl, by kernel_rfl, by decide +kernel, by kernel_rfl, by decide +kernel, by decide +kernel⟩
theorem mt_d_law_mk_part : mtSs tb11 d_law_mk_part.b (d_law_mk_part.cx con) (defBody d_law_mk_part.st) = true := by decide +kernel
theorem sc_d_law_mk_leaves : FnScope d_law_mk_leaves.N d_law_mk_leaves.ps (defScope d_law_mk_leaves.st) := ⟨by kernel_rfl, by kernel_rfl, by kernel_rfl, by decide +kernel, by kernel_rfl, by decide +kernel, by decide +kernel⟩
theorem mt_d_law_mk_leaves : mtSs tb12 d_law_mk_leaves.b (d_law_mk_leaves.cx con) (defBody d_law_mk_leaves.st) = true := by decide +kernel
theorem sc_d_law_mk_spread : FnScope d_law_mk_spread.N d_law_mk_spread.ps (defScope d_law_mk_spread.st) := ⟨by kernel_rfl, by kernel_rfl, by kernel_rfl, by decide +kernel, by kernel_rfl, by decide +kernel, by decide +kernel⟩
theorem mt_d_law_mk_spread : mtSs tb13 d_law_mk_spread.b (d_law_mk_spread.cx con) (defBody d_law_mk_spread.st) = true := by decide +kernel
theorem sc_d_law_mk_marks : FnScope d_law_mk_marks.N d_law_mk_marks.ps (defScope d_law_mk_marks.st) := ⟨by kernel_rfl, by kernel_rfl, by kernel_rfl, by decide +kernel, by kernel_rfl, by decide +kernel, by decide +kernel⟩
theorem mt_d_law_mk_marks : mtSs tb14 d_law_mk_marks.b (d_law_mk_marks.cx con) (defBody d_law_mk_marks.st) = true := by decide +kernel
theorem sc_d_law_mk_moment : FnScope d_law_mk_moment.N d_law_mk_moment.ps (defScope d_law_mk_moment.st) := ⟨by kernel_rfl, by kernel_rfl, by kernel_rfl, by decide +kernel, by kernel_rfl, by decide +kernel, by decide +kernel⟩
theorem mt_d_law_mk_moment : mtSs tb15 d_law_mk_moment.b (d_law_mk_moment.cx con) (defBody d_law_mk_moment.st) = true := by decide +kernel
theorem sc_d_law_mk_next : FnScope d_law_mk_next.N d_law_mk_next.ps (defScope d_law_mk_next.st) := ⟨by kernel_rfl, by kernel_rfl, by kernel_rfl, by decide +kernel, by kernel_rfl, by decide +kernel, by decide +kernel⟩
theorem mt_d_law_mk_next : mtSs tb16 d_law_mk_next.b (d_law_mk_next.cx con) (defBody d_law_mk_next.st) = true := by decide +kernel
theorem sc_d_law_mk_day_right : FnScope d_law_mk_day_right.N d_law_mk_day_right.ps (defScope d_law_mk_day_right.st) := ⟨by kernel_rfl, by kernel_rfl, by kernel_rfl, by decide +kernel, by kernel_rfl, by decide +kernel, by decide +kernel⟩
theorem mt_d_law_mk_day_right : mtSs tb17 d_law_mk_day_right.b (d_law_mk_day_right.cx con) (defBody d_law_mk_day_right.st) = true := by decide +kernel
theorem sc_d_law_right : FnScope d_law_right.N d_law_right.ps (defScope d_law_right.st) := ⟨by kernel_rfl, by kernel_rfl, by kernel_rfl, by decide +kernel, by kernel_rfl, by decide +kernel, by decide +kernel⟩
theorem mt_d_law_right : mtSs tb18 d_law_right.b (d_law_right.cx con) (defBody d_law_right.st) = true := by decide +kernel
theorem sc_d_law : FnScope d_law.N d_law.ps (defScope d_law.st) := ⟨by kernel_rfl, by kernel_rfl, by kernel_rfl, by decide +kernel, by kernel_rfl, by decide +kernel, by decide +kernel⟩
theorem mt_d_law : mtSs tb19 d_law.b (d_law.cx con) (defBody d_law.st) = true := by decide +kernel
section
variable {P : Program} {w : World} {K : PySem.W.Frag} {mg : Str → Option Value} {base h : Heap}
theorem chain (c : He.SaysE fa fn K) (X : K.In h) (G : h.Ns mainGlobals mg) : TabM P w K mg base 19 ⟨K, fun _ => 0⟩ tb19 := by
  have M : Md ⟨K, fun _ => 0⟩ K mg con := hdr_md c X G rfl (by decide)
  have T0 : TabM P w K mg base 0 ⟨K, fun _ => 0⟩ tb0 := TabM.nil
  have T1 : TabM P w K mg base 1 ⟨K, fun _ => 0⟩ tb1 := Df.addS (d := d_check_lots) (n := 1) (qs := []) (pv := "asked") M T0 (hdr_fun c (p := ("check_lots", 5)) (by decide)) (hdr_mg c X G (p := ("check_lots", 5)) (by decide)) rfl sc_d_check_lots (T0.up (by decide)) mt_d_check_lots (by decide) fun kV doc pm an cdv ct us hl => match us, hl with | [_], _ => rfl
  have T2 : TabM P w K mg base 2 ⟨K, fun _ => 0⟩ tb2 := Df.addS (d := d_check_days) (n := 1) (qs := []) (pv := "asked") M T1 (hdr_fun c (p := ("check_days", 6)) (by decide)) (hdr_mg c X G (p := ("check_days", 6)) (by decide)) rfl sc_d_check_days (T1.up (by decide)) mt_d_check_days (by decide) fun kV doc pm an cdv ct us hl => match us, hl with | [_], _ => rfl
  have T3 : TabM P w K mg base 3 ⟨K, fun _ => 0⟩ tb3 := Df.addP (d := d_has) M T2 (hdr_fun c (p := ("has", 7)) (by decide)) (hdr_mg c X G (p := ("has", 7)) (by decide)) sc_d_has (T2.up (by decide)) mt_d_has fun kV doc pm an cdv ct us hl => match us, hl with | [_, _], _ => rfl
  have T4 : TabM P w K mg base 4 ⟨K, fun _ => 0⟩ tb4 := Df.addK (d := d_has) (n := 0) (ks := ["one"]) (idx := [1, 0]) (ky := "day") M T3 (hdr_fun c (p := ("has", 7)) (by decide)) (hdr_mg c X G (p := ("has", 7)) (by decide)) sc_d_has (T2.up (by decide)) mt_d_has (by decide) (by decide) fun kV doc pm an cdv ct us ws hl hw => match us, ws, hl, hw with | [], [_, _], _, _ => rfl
  have T5 : TabM P w K mg base 5 ⟨K, fun _ => 0⟩ tb5 := Df.addP (d := d_next_day) M T4 (hdr_fun c (p := ("next_day", 8)) (by decide)) (hdr_mg c X G (p := ("next_day", 8)) (by decide)) sc_d_next_day (T4.up (by decide)) mt_d_next_day fun kV doc pm an cdv ct us hl => match us, hl with | [_, _], _ => rfl
  have T6 : TabM P w K mg base 6 ⟨K, fun _ => 0⟩ tb6 := Df.addK (d := d_next_day) (n := 0) (ks := ["one"]) (idx := [1, 0]) (ky := "day") M T5 (hdr_fun c (p := ("next_day", 8)) (by decide)) (hdr_mg c X G (p := ("next_day", 8)) (by decide)) sc_d_next_day (T4.up (by decide)) mt_d_next_day (by decide) (by decide) fun kV doc pm an cdv ct us ws hl hw => match us, ws, hl, hw with | [], [_, _], _, _ => rfl
  have T7 : TabM P w K mg base 7 ⟨K, fun _ => 0⟩ tb7 := Df.addP (d := d_law_purse) M T6 (hdr_fun c (p := ("_law_purse", 10)) (by decide)) (hdr_mg c X G (p := ("_law_purse", 10)) (by decide)) sc_d_law_purse (T6.up (by decide)) mt_d_law_purse fun kV doc pm an cdv ct us hl => match us, hl with | [_, _], _ => rfl
  have T8 : TabM P w K mg base 8 ⟨K, fun _ => 0⟩ tb8 := Df.addP (d := d_law_coin) M T7 (hdr_fun c (p := ("_law_coin", 11)) (by decide)) (hdr_mg c X G (p := ("_law_coin", 11)) (by decide)) sc_d_law_coin (T7.up (by decide)) mt_d_law_coin fun kV doc pm an cdv ct us hl => match us, hl with | [_, _], _ => rfl
  have T9 : TabM P w K mg base 9 ⟨K, fun _ => 0⟩ tb9 := Df.addP (d := d_law_mk_is_integer) M T8 (hdr_fun c (p := ("_law_mk_is_integer", 12)) (by decide)) (hdr_mg c X G (p := ("_law_mk_is_integer", 12)) (by decide)) sc_d_law_mk_is_integer (T8.up (by decide)) mt_d_law_mk_is_integer fun kV doc pm an cdv ct us hl => match us, hl with | [_], _ => rfl
  have T10 : TabM P w K mg base 10 ⟨K, fun _ => 0⟩ tb10 := Df.addP (d := d_law_mk_base) M T9 (hdr_fun c (p := ("_law_mk_base", 13)) (by decide)) (hdr_mg c X G (p := ("_law_mk_base", 13)) (by decide)) sc_d_law_mk_base (T9.up (by decide)) mt_d_law_mk_base fun kV doc pm an cdv ct us hl => match us, hl with | [_], _ => rfl
  have T11 : TabM P w K mg base 11 ⟨K, fun _ => 0⟩ tb11 := Df.addP (d := d_law_mk_primes) M T10 (hdr_fun c (p := ("_law_mk_primes", 18)) (by decide)) (hdr_mg c X G (p := ("_law_mk_primes", 18)) (by decide)) sc_d_law_mk_primes (T10.up (by decide)) mt_d_law_mk_primes fun kV doc pm an cdv ct us hl => match us, hl with | [_], _ => rfl
  have T12 : TabM P w K mg base 12 ⟨K, fun _ => 0⟩ tb12 := Df.addP (d := d_law_mk_part) M T11 (hdr_fun c (p := ("_law_mk_part", 14)) (by decide)) (hdr_mg c X G (p := ("_law_mk_part", 14)) (by decide)) sc_d_law_mk_part (T11.up (by decide)) mt_d_law_mk_part fun kV doc pm an cdv ct us hl => match us, hl with | [_, _], _ => rfl
  have T13 : TabM P w K mg base 13 ⟨K, fun _ => 0⟩ tb13 := Df.addP (d := d_law_mk_leaves) M T12 (hdr_fun c (p := ("_law_mk_leaves", 15)) (by decide)) (hdr_mg c X G (p := ("_law_mk_leaves", 15)) (by decide)) sc_d_law_mk_leaves (T12.up (by decide)) mt_d_law_mk_leaves fun kV doc pm an cdv ct us hl => match us, hl with | [_, _], _ => rfl
  have T14 : TabM P w K mg base 14 ⟨K, fun _ => 0⟩ tb14 := Df.addP (d := d_law_mk_spread) M T13 (hdr_fun c (p := ("_law_mk_spread", 16)) (by decide)) (hdr_mg c X G (p := ("_law_mk_spread", 16)) (by decide)) sc_d_law_mk_spread (T13.up (by decide)) mt_d_law_mk_spread fun kV doc pm an cdv ct us hl => match us, hl with | [_, _], _ => rfl
  have T15 : TabM P w K mg base 15 ⟨K, fun _ => 0⟩ tb15 := Df.addP (d := d_law_mk_marks) M T14 (hdr_fun c (p := ("_law_mk_marks", 17)) (by decide)) (hdr_mg c X G (p := ("_law_mk_marks", 17)) (by decide)) sc_d_law_mk_marks (T14.up (by decide)) mt_d_law_mk_marks fun kV doc pm an cdv ct us hl => match us, hl with | [_, _], _ => rfl
  have T16 : TabM P w K mg base 16 ⟨K, fun _ => 0⟩ tb16 := Df.addP (d := d_law_mk_moment) M T15 (hdr_fun c (p := ("_law_mk_moment", 19)) (by decide)) (hdr_mg c X G (p := ("_law_mk_moment", 19)) (by decide)) sc_d_law_mk_moment (T15.up (by decide)) mt_d_law_mk_moment fun kV doc pm an cdv ct us hl => match us, hl with | [_], _ => rfl
  have T17 : TabM P w K mg base 17 ⟨K, fun _ => 0⟩ tb17 := Df.addP (d := d_law_mk_next) M T16 (hdr_fun c (p := ("_law_mk_next", 20)) (by decide)) (hdr_mg c X G (p := ("_law_mk_next", 20)) (by decide)) sc_d_law_mk_next (T16.up (by decide)) mt_d_law_mk_next fun kV doc pm an cdv ct us hl => match us, hl with | [_, _], _ => rfl
  have T18 : TabM P w K mg base 18 ⟨K, fun _ => 0⟩ tb18 := Df.addP (d := d_law_mk_day_right) M T17 (hdr_fun c (p := ("_law_mk_day_right", 21)) (by decide)) (hdr_mg c X G (p := ("_law_mk_day_right", 21)) (by decide)) sc_d_law_mk_day_right (T17.up (by decide)) mt_d_law_mk_day_right fun kV doc pm an cdv ct us hl => match us, hl with | [_, _, _, _], _ => rfl
  have T19 : TabM P w K mg base 19 ⟨K, fun _ => 0⟩ tb19 := Df.addP (d := d_law_right) M T18 (hdr_fun c (p := ("_law_right", 22)) (by decide)) (hdr_mg c X G (p := ("_law_right", 22)) (by decide)) sc_d_law_right (T18.up (by decide)) mt_d_law_right fun kV doc pm an cdv ct us hl => match us, hl with | [_], _ => rfl
  exact T19
end
end Lw
section
open PySem PySem.W PySem.Calls PyProof.Rows
theorem Lw.holds (good : ∀ ns : List Int, ns.length ≤ 63 → (∀ i ∈ ns, Builtin.Int.intBits i ≤ 1048576) → ∃ fin, Lw.d_law.F Lw.tb19 [.fz (.scr ns)] = some (.ret (.fz (.bl true)) fin)) : PySem.Challenge.rw_marketdays_k04_days_of_lots.Holds := by
  w_on; o_law
  refine HandSHeadRun.head_any (r := OpenLaw.row PySem.Challenge.rw_marketdays_k04_days_of_lots) (q := view (PySem.W.OpenLaw.row PySem.Challenge.rw_marketdays_k04_days_of_lots).prog [23]) (H := Lw.hk) (ob := Lw.ob) (M := 3000) (loose := Lw.names) (d := HandSHeadRun.topDef (PySem.W.OpenLaw.row PySem.Challenge.rw_marketdays_k04_days_of_lots).prog 23) (kwd := []) Lw.ob_eq
    (by kernel_rfl) (fun s => by kernel_rfl) Lw.run (by kernel_rfl) (by kernel_rfl) (by kernel_rfl) (by rfl) (by first | assumption | decide +kernel) (by decide +kernel) ⟨rfl, rfl, rfl, rfl, rfl, by decide +kernel⟩ ?hw ?hc
  case hw => w_witness2
  case hc =>
    refine DL.walkF (l := PySem.Challenge.rw_marketdays_k04_days_of_lots) (n := 63) (k := 20) (sp := fun g => DL.SpD g (Lw.d_law.F Lw.tb19)) rfl (by decide) (by kernel_rfl) ⟨rfl, by decide, by decide⟩ ?F fun g H a ns l b on sq => ?L
    case L =>
      obtain ⟨fin, e⟩ := good ns l b
      exact DL.spD_law on sq e
    case F =>
      intro w mg fa h Y G hmg0
      obtain ⟨K, KX, c⟩ := Y
      refine ⟨⟨K, fun _ => 0⟩, KX, fun base _ _ => ?_⟩
      have m : (("law" : PySem.Str), 23) ∈ Lw.dn := by decide
      have e2 : mg ("law" : PySem.Str) = some (.ref fa) := by
        have e : (HandSHeadRun.topDef (PySem.W.OpenLaw.row PySem.Challenge.rw_marketdays_k04_days_of_lots).prog 23).name = ("law" : PySem.Str) := by kernel_rfl
        rw [← e]
        exact hmg0
      have e3 := DL.hdr_mg c KX G m
      have e4 : He.ga K ("law" : PySem.Str) = fa := by
        have z := e3.symm.trans e2
        cases z
        rfl
      subst e4
      exact DL.Df.fn (d := Lw.d_law) (DL.hdr_md c KX G rfl (by decide)) (DL.hdr_fun c m) Lw.sc_d_law (Lw.chain c KX G) Lw.mt_d_law fun kV doc pm an cdv ct us hl => match us, hl with | [_], _ => rfl
end
namespace Lw
open PySem DL
/-! ### the purse -/
theorem pw18 : powB 10 18 = true := by decide +kernel
theorem pw24 : powB 10 24 = true := by decide +kernel
theorem pw25 : powB 10 25 = true := by decide +kernel
theorem pw30 : powB 10 30 = true := by decide +kernel
def pur (a b c : Int) : T := .lst [.fz (.int a), .fz (.int b), .fz (.int c)]
structure Pu (k : Nat) (p : T) : Prop where
  ex : ∃ a b c : Int, p = pur a b c ∧ 0 ≤ a ∧ 0 ≤ b ∧ b < 1000000000000000000000007 ∧ 0 ≤ c ∧ c ≤ k
theorem Pu.up {k j : Nat} {p : T} (h : Pu k p) (l : k ≤ j) : Pu j p := let ⟨a, b, c, h1, h2, h3, h4, h5, h6⟩ := h.ex; ⟨a, b, c, h1, h2, h3, h4, h5, by omega⟩
theorem coin_ok {k : Nat} {p : T} (h : Pu k p) (hk : k ≤ 2 ^ 60) {n : Int} (hn : 0 < n) (hb : n ≤ 10000000000000000000000000000000) : ∃ p' r, Pu (k + 1) p' ∧ 0 ≤ r ∧ r < n ∧ F_law_coin [p, .fz (.int n)] = some (.ret (.fz (.int r)) [some p', none]) := by
  obtain ⟨a, b, c, rfl, ha, hb0, hb1, hc0, hc1⟩ := h.ex
  have dv : divB n = true := divB_le hn hb
  by_cases h0 : 0 < a
  · refine ⟨pur (a / n) b c, a % n, ⟨_, _, _, rfl, Int.ediv_nonneg ha (Int.le_of_lt hn), hb0, hb1, hc0, by omega⟩, Int.emod_nonneg _ (by omega), Int.emod_lt_of_pos _ hn, ?_⟩
    rw [F_law_coin_eq]
    simp -implicitDefEqProofs [denB, finS, d_law_coin, pur, h0, hn, dv, L2.atI, L2.ixN, List.range, List.range.loop, evV1, evKs, pR, fzsR, mvR, callR, callSR, callK0R, callKR, lcR, DL.augR, mm1R, bfR, ioR, evE, evOe, evEs, evVs, evB, evBs, evI, evS, evSs, andR, orR, bR_ok, bR_ex, bR_no, bE_ok, bE_ex, bE_no, bF_nx, bF_ret, bF_bk, bF_ct, bF_ex, bF_no, oR_s, oR_n, evP, d_fz, d_lst, d_tup, o_add, o_adds, o_sub, o_mul, o_fdiv, o_mod, o_pow, o_lt, o_le, o_gt, o_ge, o_eq, o_ne, o_isN, o_isnN, o_in, o_nin, x_fl, x_ft, x_fs, x_l, x_t, b_lens, b_lenl, b_lent, b_lenr, b_int, b_intb, b_abs, b_min, b_max, t_bl, t_int, t_lst, t_tup, t_non, n_int, z_fz, i_ii, i_bi, i_bb, i_ib, nn_int, nn_non, o_neb, o_eqb, l_lst, l_tup, l_int, k_ft, k_t, y_fl, y_l, a_ints, a_ll, a_fl, a_lf, a_ff, m_app, m_ext, s_lst, callD, takeA, putA, retOk, lendA, ioA, isFz, T.sh, T.shs, shE, D.imm, D.imms, rsvPt, evSet, subT, putT, storeG, st_n, st_t, sts_n, sts_c, allFz, allFzA, tupT, evMmP, evMm, lstAt, wipeT, ownsA, pickL, callSt, evT_lit, evT_sl, evT_gl, evT_op, evT_ch, evT_not, evT_and, evT_or, evT_ife, evT_neg, evT_ix, evT_b1, evT_b2, evT_isi, sizeLine_eq, Function.comp_def]
  · have m1 : mulB 2038074743 (c + 1) = true := mulB_of (m := 31) (n := 61) (by decide) (by omega) (by decide)
    have m2 : mulB 982451653 (c + 1) = true := mulB_of (m := 31) (n := 61) (by decide) (by omega) (by decide)
    have p1 : powB (b + 2038074743 * (c + 1)) 3 = true := powB_of (j := 3) (m := 100) (by omega) (by decide)
    have s0 := Int.emod_nonneg ((b + 2038074743 * (c + 1)) ^ 3) (b := 10000000000000000000000013) (by decide)
    have s1 := Int.emod_lt_of_pos ((b + 2038074743 * (c + 1)) ^ 3) (b := 10000000000000000000000013) (by decide)
    have p2 : powB ((b + 2038074743 * (c + 1)) ^ 3 % 10000000000000000000000013 + 982451653 * (c + 1)) 2 = true := powB_of (j := 2) (m := 100) (by omega) (by decide)
    have d1 : divB 1024 = true := by decide +kernel
    refine ⟨pur a b (c + 1), (((b + 2038074743 * (c + 1)) ^ 3 % 10000000000000000000000013 + 982451653 * (c + 1)) ^ 2 % 1000000000000000000000007) / 1024 % n, ⟨_, _, _, rfl, ha, hb0, hb1, by omega, by omega⟩, Int.emod_nonneg _ (by omega), Int.emod_lt_of_pos _ hn, ?_⟩
    rw [F_law_coin_eq]
    simp -implicitDefEqProofs [denB, finS, d_law_coin, pur, h0, hn, L2.atI, L2.ixN, List.range, List.range.loop, pw24, pw25, m1, m2, p1, p2, d1, evV1, evKs, pR, fzsR, mvR, callR, callSR, callK0R, callKR, lcR, DL.augR, mm1R, bfR, ioR, evE, evOe, evEs, evVs, evB, evBs, evI, evS, evSs, andR, orR, bR_ok, bR_ex, bR_no, bE_ok, bE_ex, bE_no, bF_nx, bF_ret, bF_bk, bF_ct, bF_ex, bF_no, oR_s, oR_n, evP, d_fz, d_lst, d_tup, o_add, o_adds, o_sub, o_mul, o_fdiv, o_mod, o_pow, o_lt, o_le, o_gt, o_ge, o_eq, o_ne, o_isN, o_isnN, o_in, o_nin, x_fl, x_ft, x_fs, x_l, x_t, b_lens, b_lenl, b_lent, b_lenr, b_int, b_intb, b_abs, b_min, b_max, t_bl, t_int, t_lst, t_tup, t_non, n_int, z_fz, i_ii, i_bi, i_bb, i_ib, nn_int, nn_non, o_neb, o_eqb, l_lst, l_tup, l_int, k_ft, k_t, y_fl, y_l, a_ints, a_ll, a_fl, a_lf, a_ff, m_app, m_ext, s_lst, callD, takeA, putA, retOk, lendA, ioA, isFz, T.sh, T.shs, shE, D.imm, D.imms, rsvPt, evSet, subT, putT, storeG, st_n, st_t, sts_n, sts_c, allFz, allFzA, tupT, evMmP, evMm, lstAt, wipeT, ownsA, pickL, callSt, evT_lit, evT_sl, evT_gl, evT_op, evT_ch, evT_not, evT_and, evT_or, evT_ife, evT_neg, evT_ix, evT_b1, evT_b2, evT_isi, sizeLine_eq, Function.comp_def]
theorem at_i {ns : List Int} {r : Int} (h0 : 0 ≤ r) (h : r < ns.length) : ∃ x ∈ ns, L2.atI (iT ns) r = some (.fz (.int x)) := by
  have hl : r.toNat < ns.length := by omega
  refine ⟨ns[r.toNat], List.getElem_mem hl, ?_⟩
  rw [atI_nat h0 (by rw [List.length_map]; exact h), List.getElem?_map, List.getElem?_eq_getElem hl]
  rfl
theorem purse_go {ns : List Int} {q cell : Int} (h0 : 0 ≤ q) (h1 : q < 64) (hc : Builtin.Int.intBits cell ≤ 1048576) {r : Option Fl} (tb : List Cal) (e : r = some (.nx [some (.fz (.scr ns)), some (.fz (.int q)), some (.fz (.int cell))])) :
    bindF r (evSs tb (.cons (.ret (.lst (.cons (.p (.b2 .max (.lit (.int 0)) (.op .sub (.b1 .abs (.sl 2)) (.op .pow (.lit (.int 10)) (.lit (.int 18)))))) (.cons (.p (.op .mod (.b1 .int (.op .add (.op .add (.op .mul (.sl 2) (.lit (.int 30011))) (.op .mul (.sl 1) (.lit (.int 7368787)))) (.lit (.int 104729)))) (.op .add (.op .pow (.lit (.int 10)) (.lit (.int 24))) (.lit (.int 7))))) (.cons (.p (.lit (.int 0))) .nil))))) .nil)) = some (.ret (pur (maxZ 0 (absZ cell - 1000000000000000000)) ((cell * 30011 + q * 7368787 + 104729) % 1000000000000000000000007) 0) [some (.fz (.scr ns)), some (.fz (.int q)), some (.fz (.int cell))]) := by
  have g2 : mulB cell 30011 = true := by
    unfold mulB
    rw [decide_eq_true_eq]
    have : Builtin.Int.intBits 30011 = 15 := by decide
    rw [this]
    omega
  have m2 : mulB q 7368787 = true := mulB_of (m := 6) (n := 23) (by omega) (by decide) (by decide)
  subst e
  simp -implicitDefEqProofs [pur, pw18, pw24, g2, m2, sizeLine_eq, evV1, evKs, pR, fzsR, mvR, callR, callSR, callK0R, callKR, lcR, DL.augR, mm1R, bfR, ioR, evE, evOe, evEs, evVs, evB, evBs, evI, evS, evSs, andR, orR, bR_ok, bR_ex, bR_no, bE_ok, bE_ex, bE_no, bF_nx, bF_ret, bF_bk, bF_ct, bF_ex, bF_no, oR_s, oR_n, evP, d_fz, d_lst, d_tup, o_add, o_adds, o_sub, o_mul, o_fdiv, o_mod, o_pow, o_lt, o_le, o_gt, o_ge, o_eq, o_ne, o_isN, o_isnN, o_in, o_nin, x_fl, x_ft, x_fs, x_l, x_t, b_lens, b_lenl, b_lent, b_lenr, b_int, b_intb, b_abs, b_min, b_max, t_bl, t_int, t_lst, t_tup, t_non, n_int, z_fz, i_ii, i_bi, i_bb, i_ib, nn_int, nn_non, o_neb, o_eqb, l_lst, l_tup, l_int, k_ft, k_t, y_fl, y_l, a_ints, a_ll, a_fl, a_lf, a_ff, m_app, m_ext, s_lst, callD, takeA, putA, retOk, lendA, ioA, isFz, T.sh, T.shs, shE, D.imm, D.imms, rsvPt, evSet, subT, putT, storeG, st_n, st_t, sts_n, sts_c, allFz, allFzA, tupT, evMmP, evMm, lstAt, wipeT, ownsA, pickL, callSt, evT_lit, evT_sl, evT_gl, evT_op, evT_ch, evT_not, evT_and, evT_or, evT_ife, evT_neg, evT_ix, evT_b1, evT_b2, evT_isi, sizeLine_eq, Function.comp_def]
theorem purse_ok {ns : List Int} (hb : ∀ i ∈ ns, Builtin.Int.intBits i ≤ 1048576) {q : Int} (h0 : 0 ≤ q) (h1 : q < 64) : ∃ p, Pu 0 p ∧ F_law_purse [.fz (.scr ns), .fz (.int q)] = some (.ret p [none, none]) := by
  have go : ∀ cell : Int, Pu 0 (pur (maxZ 0 (absZ cell - 1000000000000000000)) ((cell * 30011 + q * 7368787 + 104729) % 1000000000000000000000007) 0) := fun cell =>
    ⟨_, _, _, rfl, (maxZ_le _ _).1, Int.emod_nonneg _ (by decide), Int.emod_lt_of_pos _ (by decide), by decide, by decide⟩
  have st : ∀ tb, ∃ cell : Int, Builtin.Int.intBits cell ≤ 1048576 ∧ evS tb (.asg 2 (.p (.ife (.op .lt (.sl 1) (.b1 .len (.sl 0))) (.ix (.sl 0) (.sl 1)) (.lit (.int 0))))) [some (.fz (.scr ns)), some (.fz (.int q)), none] = some (.nx [some (.fz (.scr ns)), some (.fz (.int q)), some (.fz (.int cell))]) := by
    intro tb
    by_cases hq : q < ns.length
    · have hl : q.toNat < ns.length := by omega
      exact ⟨ns[q.toNat], hb _ (List.getElem_mem hl), by simp -implicitDefEqProofs [hq, atI_nat h0 hq, List.getElem?_eq_getElem hl, evV1, evKs, pR, fzsR, mvR, callR, callSR, callK0R, callKR, lcR, DL.augR, mm1R, bfR, ioR, evE, evOe, evEs, evVs, evB, evBs, evI, evS, evSs, andR, orR, bR_ok, bR_ex, bR_no, bE_ok, bE_ex, bE_no, bF_nx, bF_ret, bF_bk, bF_ct, bF_ex, bF_no, oR_s, oR_n, evP, d_fz, d_lst, d_tup, o_add, o_adds, o_sub, o_mul, o_fdiv, o_mod, o_pow, o_lt, o_le, o_gt, o_ge, o_eq, o_ne, o_isN, o_isnN, o_in, o_nin, x_fl, x_ft, x_fs, x_l, x_t, b_lens, b_lenl, b_lent, b_lenr, b_int, b_intb, b_abs, b_min, b_max, t_bl, t_int, t_lst, t_tup, t_non, n_int, z_fz, i_ii, i_bi, i_bb, i_ib, nn_int, nn_non, o_neb, o_eqb, l_lst, l_tup, l_int, k_ft, k_t, y_fl, y_l, a_ints, a_ll, a_fl, a_lf, a_ff, m_app, m_ext, s_lst, callD, takeA, putA, retOk, lendA, ioA, isFz, T.sh, T.shs, shE, D.imm, D.imms, rsvPt, evSet, subT, putT, storeG, st_n, st_t, sts_n, sts_c, allFz, allFzA, tupT, evMmP, evMm, lstAt, wipeT, ownsA, pickL, callSt, evT_lit, evT_sl, evT_gl, evT_op, evT_ch, evT_not, evT_and, evT_or, evT_ife, evT_neg, evT_ix, evT_b1, evT_b2, evT_isi, sizeLine_eq, Function.comp_def]⟩
    · exact ⟨0, by decide, by simp -implicitDefEqProofs [hq, evV1, evKs, pR, fzsR, mvR, callR, callSR, callK0R, callKR, lcR, DL.augR, mm1R, bfR, ioR, evE, evOe, evEs, evVs, evB, evBs, evI, evS, evSs, andR, orR, bR_ok, bR_ex, bR_no, bE_ok, bE_ex, bE_no, bF_nx, bF_ret, bF_bk, bF_ct, bF_ex, bF_no, oR_s, oR_n, evP, d_fz, d_lst, d_tup, o_add, o_adds, o_sub, o_mul, o_fdiv, o_mod, o_pow, o_lt, o_le, o_gt, o_ge, o_eq, o_ne, o_isN, o_isnN, o_in, o_nin, x_fl, x_ft, x_fs, x_l, x_t, b_lens, b_lenl, b_lent, b_lenr, b_int, b_intb, b_abs, b_min, b_max, t_bl, t_int, t_lst, t_tup, t_non, n_int, z_fz, i_ii, i_bi, i_bb, i_ib, nn_int, nn_non, o_neb, o_eqb, l_lst, l_tup, l_int, k_ft, k_t, y_fl, y_l, a_ints, a_ll, a_fl, a_lf, a_ff, m_app, m_ext, s_lst, callD, takeA, putA, retOk, lendA, ioA, isFz, T.sh, T.shs, shE, D.imm, D.imms, rsvPt, evSet, subT, putT, storeG, st_n, st_t, sts_n, sts_c, allFz, allFzA, tupT, evMmP, evMm, lstAt, wipeT, ownsA, pickL, callSt, evT_lit, evT_sl, evT_gl, evT_op, evT_ch, evT_not, evT_and, evT_or, evT_ife, evT_neg, evT_ix, evT_b1, evT_b2, evT_isi, sizeLine_eq, Function.comp_def]⟩
  obtain ⟨cell, hc, e⟩ := st tb6
  refine ⟨_, go cell, ?_⟩
  rw [F_law_purse_eq]
  have z := purse_go h0 h1 hc tb6 e
  have z2 : evSs tb6 d_law_purse.b [some (.fz (.scr ns)), some (.fz (.int q)), none] = some (.ret (pur (maxZ 0 (absZ cell - 1000000000000000000)) ((cell * 30011 + q * 7368787 + 104729) % 1000000000000000000000007) 0) [some (.fz (.scr ns)), some (.fz (.int q)), some (.fz (.int cell))]) := z
  simp [denB, finS, List.range, List.range.loop, z2]
abbrev menu : List Int := [12, 30, 60, 72, 210, 420, 840, 2520, 5040, 4620, 4199, 4970, 5039, 4900, 3125, 4489, 4802]
theorem base_ok {k : Nat} {p : T} (h : Pu k p) (hk : k + 1 ≤ 2 ^ 60) : ∃ p' b, Pu (k + 2) p' ∧ 1 ≤ b ∧ b ≤ 5040 ∧ F_law_mk_base [p] = some (.ret (.fz (.int b)) [some p']) := by
  obtain ⟨p1, w, u1, w0, w1, e1⟩ := coin_ok h (by omega) (n := 4) (by decide) (by decide)
  rw [F_law_mk_base_eq]
  by_cases hw : w < 2
  · obtain ⟨m, hm0, hm1, em⟩ : ∃ m : Int, 0 < m ∧ m ≤ 5040 ∧ L2.atI [T.fz (.int 40), T.fz (.int 5040)] w = some (.fz (.int m)) := by
      obtain ⟨x, hx, e⟩ := at_i (ns := [40, 5040]) w0 hw
      refine ⟨x, ?_, ?_, e⟩ <;> (simp at hx; omega)
    obtain ⟨p2, r, u2, r0, r1, e2⟩ := coin_ok u1 (by omega) (n := m) hm0 (by omega)
    refine ⟨p2, 1 + r, u2, by omega, by omega, ?_⟩
    simp -implicitDefEqProofs [denB, finS, d_law_mk_base, Lw.at_2_0, Lw.at_2_1, Lw.at_4_0, Lw.at_4_1, Lw.at_9_7, Lw.at_11_7, Lw.at_11_10, Lw.at_12_7, Lw.at_12_11, Lw.at_14_13, Lw.at_15_7, Lw.at_17_2, Lw.at_17_3, Lw.at_17_4, Lw.at_17_5, Lw.at_17_8, Lw.at_17_16, Lw.at_18_4, Lw.at_18_7, Lw.at_18_9, Lw.at_18_12, Lw.at_18_14, Lw.at_18_15, Lw.at_18_16, Lw.at_18_17, Lw.at_19_6, Lw.at_19_18, e1, e2, hw, em, sizeLine_eq, List.range, List.range.loop, evV1, evKs, pR, fzsR, mvR, callR, callSR, callK0R, callKR, lcR, DL.augR, mm1R, bfR, ioR, evE, evOe, evEs, evVs, evB, evBs, evI, evS, evSs, andR, orR, bR_ok, bR_ex, bR_no, bE_ok, bE_ex, bE_no, bF_nx, bF_ret, bF_bk, bF_ct, bF_ex, bF_no, oR_s, oR_n, evP, d_fz, d_lst, d_tup, o_add, o_adds, o_sub, o_mul, o_fdiv, o_mod, o_pow, o_lt, o_le, o_gt, o_ge, o_eq, o_ne, o_isN, o_isnN, o_in, o_nin, x_fl, x_ft, x_fs, x_l, x_t, b_lens, b_lenl, b_lent, b_lenr, b_int, b_intb, b_abs, b_min, b_max, t_bl, t_int, t_lst, t_tup, t_non, n_int, z_fz, i_ii, i_bi, i_bb, i_ib, nn_int, nn_non, o_neb, o_eqb, l_lst, l_tup, l_int, k_ft, k_t, y_fl, y_l, a_ints, a_ll, a_fl, a_lf, a_ff, m_app, m_ext, s_lst, callD, takeA, putA, retOk, lendA, ioA, isFz, T.sh, T.shs, shE, D.imm, D.imms, rsvPt, evSet, subT, putT, storeG, st_n, st_t, sts_n, sts_c, allFz, allFzA, tupT, evMmP, evMm, lstAt, wipeT, ownsA, pickL, callSt, evT_lit, evT_sl, evT_gl, evT_op, evT_ch, evT_not, evT_and, evT_or, evT_ife, evT_neg, evT_ix, evT_b1, evT_b2, evT_isi, sizeLine_eq, Function.comp_def]
  · obtain ⟨m, hm0, hm1, em⟩ : ∃ m : Int, 0 < m ∧ m ≤ 17 ∧ L2.atI [T.fz (.int 7), T.fz (.int 17)] (w - 2) = some (.fz (.int m)) := by
      obtain ⟨x, hx, e⟩ := at_i (ns := [7, 17]) (r := w - 2) (by omega) (by simp; omega)
      refine ⟨x, ?_, ?_, e⟩ <;> (simp at hx; omega)
    obtain ⟨p2, r, u2, r0, r1, e2⟩ := coin_ok u1 (by omega) (n := m) hm0 (by omega)
    obtain ⟨x, hx, e3⟩ := at_i (ns := menu) (r := r) r0 (by show r < 17; omega)
    have hx2 : 1 ≤ x ∧ x ≤ 5040 := (by decide : ∀ x ∈ menu, 1 ≤ x ∧ x ≤ 5040) x hx
    simp only [iT, menu, List.map] at e3
    refine ⟨p2, x, u2, hx2.1, hx2.2, ?_⟩
    simp -implicitDefEqProofs [denB, finS, d_law_mk_base, Lw.at_2_0, Lw.at_2_1, Lw.at_4_0, Lw.at_4_1, Lw.at_9_7, Lw.at_11_7, Lw.at_11_10, Lw.at_12_7, Lw.at_12_11, Lw.at_14_13, Lw.at_15_7, Lw.at_17_2, Lw.at_17_3, Lw.at_17_4, Lw.at_17_5, Lw.at_17_8, Lw.at_17_16, Lw.at_18_4, Lw.at_18_7, Lw.at_18_9, Lw.at_18_12, Lw.at_18_14, Lw.at_18_15, Lw.at_18_16, Lw.at_18_17, Lw.at_19_6, Lw.at_19_18, e1, e2, e3, hw, em, sizeLine_eq, List.range, List.range.loop, evV1, evKs, pR, fzsR, mvR, callR, callSR, callK0R, callKR, lcR, DL.augR, mm1R, bfR, ioR, evE, evOe, evEs, evVs, evB, evBs, evI, evS, evSs, andR, orR, bR_ok, bR_ex, bR_no, bE_ok, bE_ex, bE_no, bF_nx, bF_ret, bF_bk, bF_ct, bF_ex, bF_no, oR_s, oR_n, evP, d_fz, d_lst, d_tup, o_add, o_adds, o_sub, o_mul, o_fdiv, o_mod, o_pow, o_lt, o_le, o_gt, o_ge, o_eq, o_ne, o_isN, o_isnN, o_in, o_nin, x_fl, x_ft, x_fs, x_l, x_t, b_lens, b_lenl, b_lent, b_lenr, b_int, b_intb, b_abs, b_min, b_max, t_bl, t_int, t_lst, t_tup, t_non, n_int, z_fz, i_ii, i_bi, i_bb, i_ib, nn_int, nn_non, o_neb, o_eqb, l_lst, l_tup, l_int, k_ft, k_t, y_fl, y_l, a_ints, a_ll, a_fl, a_lf, a_ff, m_app, m_ext, s_lst, callD, takeA, putA, retOk, lendA, ioA, isFz, T.sh, T.shs, shE, D.imm, D.imms, rsvPt, evSet, subT, putT, storeG, st_n, st_t, sts_n, sts_c, allFz, allFzA, tupT, evMmP, evMm, lstAt, wipeT, ownsA, pickL, callSt, evT_lit, evT_sl, evT_gl, evT_op, evT_ch, evT_not, evT_and, evT_or, evT_ife, evT_neg, evT_ix, evT_b1, evT_b2, evT_isi, sizeLine_eq, Function.comp_def]
theorem ediv_pos' {a b : Int} (ha : 1 ≤ a) (hb : 2 ≤ b) (hm : a % b = 0) : 1 ≤ a / b ∧ a / b ≤ a := by
  have h1 := Int.emod_add_mul_ediv a b
  rw [hm] at h1
  constructor
  · apply Classical.byContradiction
    intro h
    have h2 : a / b ≤ 0 := by omega
    have h3 : b * (a / b) ≤ 0 := Int.mul_nonpos_of_nonneg_of_nonpos (by omega) h2
    omega
  · exact Int.ediv_le_self b (by omega)
theorem primes_in {tb : List Cal} {b part : Int} {ts : T} {o : Option T} (b1 : 1 ≤ b) (b2 : b ≤ 5040) (p1 : 2 ≤ part) (p2 : part < 72) (n : Nat) :
    ∃ ρ', forF (stT (.n 3)) (evSs tb B_law_mk_primes_1) ((rg 0 n).map D.int) [some (.fz (.int b)), some ts, some (.fz (.int part)), o] = some (.nx ρ') ∧ ∃ b' o', 1 ≤ b' ∧ b' ≤ 5040 ∧ ρ' = [some (.fz (.int b')), some ts, some (.fz (.int part)), o'] := by
  refine for_ints (fun _ _ ρ' => ∃ b' o', 1 ≤ b' ∧ b' ≤ 5040 ∧ ρ' = [some (.fz (.int b')), some ts, some (.fz (.int part)), o']) ⟨b, o, b1, b2, rfl⟩ ?_
  rintro done n r ρ _ ⟨b', o', c1, c2, rfl⟩
  refine ⟨_, rfl, ?_⟩
  have dv : divB part = true := divB_le (by omega) (by omega)
  have pp : 0 < part := by omega
  by_cases h : b' % part = 0
  · obtain ⟨d1, d2⟩ := ediv_pos' c1 p1 h
    refine ⟨[some (.fz (.int (b' / part))), some ts, some (.fz (.int part)), some (.fz (.int n))], .inl ?_, _, _, d1, by omega, rfl⟩
    simp -implicitDefEqProofs [B_law_mk_primes_1, h, dv, pp, evV1, evKs, pR, fzsR, mvR, callR, callSR, callK0R, callKR, lcR, DL.augR, mm1R, bfR, ioR, evE, evOe, evEs, evVs, evB, evBs, evI, evS, evSs, andR, orR, bR_ok, bR_ex, bR_no, bE_ok, bE_ex, bE_no, bF_nx, bF_ret, bF_bk, bF_ct, bF_ex, bF_no, oR_s, oR_n, evP, d_fz, d_lst, d_tup, o_add, o_adds, o_sub, o_mul, o_fdiv, o_mod, o_pow, o_lt, o_le, o_gt, o_ge, o_eq, o_ne, o_isN, o_isnN, o_in, o_nin, x_fl, x_ft, x_fs, x_l, x_t, b_lens, b_lenl, b_lent, b_lenr, b_int, b_intb, b_abs, b_min, b_max, t_bl, t_int, t_lst, t_tup, t_non, n_int, z_fz, i_ii, i_bi, i_bb, i_ib, nn_int, nn_non, o_neb, o_eqb, l_lst, l_tup, l_int, k_ft, k_t, y_fl, y_l, a_ints, a_ll, a_fl, a_lf, a_ff, m_app, m_ext, s_lst, callD, takeA, putA, retOk, lendA, ioA, isFz, T.sh, T.shs, shE, D.imm, D.imms, rsvPt, evSet, subT, putT, storeG, st_n, st_t, sts_n, sts_c, allFz, allFzA, tupT, evMmP, evMm, lstAt, wipeT, ownsA, pickL, callSt, evT_lit, evT_sl, evT_gl, evT_op, evT_ch, evT_not, evT_and, evT_or, evT_ife, evT_neg, evT_ix, evT_b1, evT_b2, evT_isi, sizeLine_eq, Function.comp_def]
  · refine ⟨[some (.fz (.int b')), some ts, some (.fz (.int part)), some (.fz (.int n))], .inl ?_, _, _, c1, c2, rfl⟩
    simp -implicitDefEqProofs [B_law_mk_primes_1, h, dv, pp, evV1, evKs, pR, fzsR, mvR, callR, callSR, callK0R, callKR, lcR, DL.augR, mm1R, bfR, ioR, evE, evOe, evEs, evVs, evB, evBs, evI, evS, evSs, andR, orR, bR_ok, bR_ex, bR_no, bE_ok, bE_ex, bE_no, bF_nx, bF_ret, bF_bk, bF_ct, bF_ex, bF_no, oR_s, oR_n, evP, d_fz, d_lst, d_tup, o_add, o_adds, o_sub, o_mul, o_fdiv, o_mod, o_pow, o_lt, o_le, o_gt, o_ge, o_eq, o_ne, o_isN, o_isnN, o_in, o_nin, x_fl, x_ft, x_fs, x_l, x_t, b_lens, b_lenl, b_lent, b_lenr, b_int, b_intb, b_abs, b_min, b_max, t_bl, t_int, t_lst, t_tup, t_non, n_int, z_fz, i_ii, i_bi, i_bb, i_ib, nn_int, nn_non, o_neb, o_eqb, l_lst, l_tup, l_int, k_ft, k_t, y_fl, y_l, a_ints, a_ll, a_fl, a_lf, a_ff, m_app, m_ext, s_lst, callD, takeA, putA, retOk, lendA, ioA, isFz, T.sh, T.shs, shE, D.imm, D.imms, rsvPt, evSet, subT, putT, storeG, st_n, st_t, sts_n, sts_c, allFz, allFzA, tupT, evMmP, evMm, lstAt, wipeT, ownsA, pickL, callSt, evT_lit, evT_sl, evT_gl, evT_op, evT_ch, evT_not, evT_and, evT_or, evT_ife, evT_neg, evT_ix, evT_b1, evT_b2, evT_isi, sizeLine_eq, Function.comp_def]
theorem primes_ok {b : Int} (b1 : 1 ≤ b) (b2 : b ≤ 5040) : ∃ ns : List Int, (∀ x ∈ ns, 2 ≤ x ∧ x ≤ 5040) ∧ ns.length ≤ 71 ∧ F_law_mk_primes [.fz (.int b)] = some (.ret (.lst (iT ns)) [none]) := by
  have L : ∃ ρ', forF (stT (.n 2)) (evSs tb10 B_law_mk_primes_2) ((rg 2 70).map D.int) [some (.fz (.int b)), some (.lst []), none, none] = some (.nx ρ') ∧ ∃ b' ns o o', 1 ≤ b' ∧ b' ≤ 5040 ∧ (∀ x ∈ ns, 2 ≤ x ∧ x ≤ 5040) ∧ ns.length ≤ (rg 2 70).length ∧ ρ' = [some (.fz (.int b')), some (.lst (iT ns)), o, o'] := by
    refine for_ints (fun done _ ρ' => ∃ b' ns o o', 1 ≤ b' ∧ b' ≤ 5040 ∧ (∀ x ∈ ns, 2 ≤ x ∧ x ≤ 5040) ∧ ns.length ≤ done.length ∧ ρ' = [some (.fz (.int b')), some (.lst (iT ns)), o, o']) ⟨b, [], none, none, b1, b2, by simp, by simp, rfl⟩ ?_
    rintro done part r ρ e ⟨b', ns, o, o', c1, c2, c3, c4, rfl⟩
    have hp : part ∈ rg 2 70 := by rw [e]; simp
    obtain ⟨p1, p2⟩ := mem_rg.mp hp
    have hd : done.length ≤ 70 := by
      have := congrArg List.length e
      rw [rg_len, List.length_append] at this
      omega
    refine ⟨_, rfl, ?_⟩
    have pp : 0 < part := by omega
    by_cases h : b' % part = 0
    · obtain ⟨ρ', e1, b'', o'', d1, d2, rfl⟩ := primes_in (tb := tb10) (ts := .lst (iT (ns ++ [part]))) (o := o') c1 c2 p1 (by omega) 13
      refine ⟨_, .inl ?_, b'', ns ++ [part], some (.fz (.int part)), o'', d1, d2, ?_, ?_, rfl⟩
      · have r := r1 (j := 13) (by decide) (by decide)
        have sz : ns.length < 16777216 := by omega
        simp only [iT, List.map_append, List.map_cons, List.map_nil] at e1
        simp -implicitDefEqProofs [B_law_mk_primes_2, Mm, h, pp, r, sz, e1, evV1, evKs, pR, fzsR, mvR, callR, callSR, callK0R, callKR, lcR, DL.augR, mm1R, bfR, ioR, evE, evOe, evEs, evVs, evB, evBs, evI, evS, evSs, andR, orR, bR_ok, bR_ex, bR_no, bE_ok, bE_ex, bE_no, bF_nx, bF_ret, bF_bk, bF_ct, bF_ex, bF_no, oR_s, oR_n, evP, d_fz, d_lst, d_tup, o_add, o_adds, o_sub, o_mul, o_fdiv, o_mod, o_pow, o_lt, o_le, o_gt, o_ge, o_eq, o_ne, o_isN, o_isnN, o_in, o_nin, x_fl, x_ft, x_fs, x_l, x_t, b_lens, b_lenl, b_lent, b_lenr, b_int, b_intb, b_abs, b_min, b_max, t_bl, t_int, t_lst, t_tup, t_non, n_int, z_fz, i_ii, i_bi, i_bb, i_ib, nn_int, nn_non, o_neb, o_eqb, l_lst, l_tup, l_int, k_ft, k_t, y_fl, y_l, a_ints, a_ll, a_fl, a_lf, a_ff, m_app, m_ext, s_lst, callD, takeA, putA, retOk, lendA, ioA, isFz, T.sh, T.shs, shE, D.imm, D.imms, rsvPt, evSet, subT, putT, storeG, st_n, st_t, sts_n, sts_c, allFz, allFzA, tupT, evMmP, evMm, lstAt, wipeT, ownsA, pickL, callSt, evT_lit, evT_sl, evT_gl, evT_op, evT_ch, evT_not, evT_and, evT_or, evT_ife, evT_neg, evT_ix, evT_b1, evT_b2, evT_isi, sizeLine_eq, Function.comp_def]
      · intro x hx
        rcases List.mem_append.mp hx with hx | hx
        · exact c3 x hx
        · rw [List.mem_singleton] at hx
          omega
      · rw [List.length_append, List.length_append]
        simp only [List.length_singleton]
        omega
    · refine ⟨[some (.fz (.int b')), some (.lst (iT ns)), some (.fz (.int part)), o'], .inl ?_, b', ns, _, o', c1, c2, c3, by rw [List.length_append]; omega, rfl⟩
      simp -implicitDefEqProofs [B_law_mk_primes_2, h, pp, evV1, evKs, pR, fzsR, mvR, callR, callSR, callK0R, callKR, lcR, DL.augR, mm1R, bfR, ioR, evE, evOe, evEs, evVs, evB, evBs, evI, evS, evSs, andR, orR, bR_ok, bR_ex, bR_no, bE_ok, bE_ex, bE_no, bF_nx, bF_ret, bF_bk, bF_ct, bF_ex, bF_no, oR_s, oR_n, evP, d_fz, d_lst, d_tup, o_add, o_adds, o_sub, o_mul, o_fdiv, o_mod, o_pow, o_lt, o_le, o_gt, o_ge, o_eq, o_ne, o_isN, o_isnN, o_in, o_nin, x_fl, x_ft, x_fs, x_l, x_t, b_lens, b_lenl, b_lent, b_lenr, b_int, b_intb, b_abs, b_min, b_max, t_bl, t_int, t_lst, t_tup, t_non, n_int, z_fz, i_ii, i_bi, i_bb, i_ib, nn_int, nn_non, o_neb, o_eqb, l_lst, l_tup, l_int, k_ft, k_t, y_fl, y_l, a_ints, a_ll, a_fl, a_lf, a_ff, m_app, m_ext, s_lst, callD, takeA, putA, retOk, lendA, ioA, isFz, T.sh, T.shs, shE, D.imm, D.imms, rsvPt, evSet, subT, putT, storeG, st_n, st_t, sts_n, sts_c, allFz, allFzA, tupT, evMmP, evMm, lstAt, wipeT, ownsA, pickL, callSt, evT_lit, evT_sl, evT_gl, evT_op, evT_ch, evT_not, evT_and, evT_or, evT_ife, evT_neg, evT_ix, evT_b1, evT_b2, evT_isi, sizeLine_eq, Function.comp_def]
  obtain ⟨ρ', e1, b', ns, o, o', c1, c2, c3, c4, rfl⟩ := L
  rw [rg_len] at c4
  have r := r2 (i := 2) (j := 72) (by decide) (by decide) (by decide) (by decide)
  rw [F_law_mk_primes_eq]
  by_cases h : 1 < b'
  · refine ⟨ns ++ [b'], ?_, by rw [List.length_append, List.length_singleton]; omega, ?_⟩
    · intro x hx
      rcases List.mem_append.mp hx with hx | hx
      · exact c3 x hx
      · rw [List.mem_singleton] at hx
        omega
    · have sz : ns.length + 1 ≤ 16777216 := by omega
      simp -implicitDefEqProofs [denB, finS, d_law_mk_primes, List.range, List.range.loop, r, e1, h, sz, evV1, evKs, pR, fzsR, mvR, callR, callSR, callK0R, callKR, lcR, DL.augR, mm1R, bfR, ioR, evE, evOe, evEs, evVs, evB, evBs, evI, evS, evSs, andR, orR, bR_ok, bR_ex, bR_no, bE_ok, bE_ex, bE_no, bF_nx, bF_ret, bF_bk, bF_ct, bF_ex, bF_no, oR_s, oR_n, evP, d_fz, d_lst, d_tup, o_add, o_adds, o_sub, o_mul, o_fdiv, o_mod, o_pow, o_lt, o_le, o_gt, o_ge, o_eq, o_ne, o_isN, o_isnN, o_in, o_nin, x_fl, x_ft, x_fs, x_l, x_t, b_lens, b_lenl, b_lent, b_lenr, b_int, b_intb, b_abs, b_min, b_max, t_bl, t_int, t_lst, t_tup, t_non, n_int, z_fz, i_ii, i_bi, i_bb, i_ib, nn_int, nn_non, o_neb, o_eqb, l_lst, l_tup, l_int, k_ft, k_t, y_fl, y_l, a_ints, a_ll, a_fl, a_lf, a_ff, m_app, m_ext, s_lst, callD, takeA, putA, retOk, lendA, ioA, isFz, T.sh, T.shs, shE, D.imm, D.imms, rsvPt, evSet, subT, putT, storeG, st_n, st_t, sts_n, sts_c, allFz, allFzA, tupT, evMmP, evMm, lstAt, wipeT, ownsA, pickL, callSt, evT_lit, evT_sl, evT_gl, evT_op, evT_ch, evT_not, evT_and, evT_or, evT_ife, evT_neg, evT_ix, evT_b1, evT_b2, evT_isi, sizeLine_eq, Function.comp_def]
  · refine ⟨ns, c3, by omega, ?_⟩
    simp -implicitDefEqProofs [denB, finS, d_law_mk_primes, List.range, List.range.loop, r, e1, h, evV1, evKs, pR, fzsR, mvR, callR, callSR, callK0R, callKR, lcR, DL.augR, mm1R, bfR, ioR, evE, evOe, evEs, evVs, evB, evBs, evI, evS, evSs, andR, orR, bR_ok, bR_ex, bR_no, bE_ok, bE_ex, bE_no, bF_nx, bF_ret, bF_bk, bF_ct, bF_ex, bF_no, oR_s, oR_n, evP, d_fz, d_lst, d_tup, o_add, o_adds, o_sub, o_mul, o_fdiv, o_mod, o_pow, o_lt, o_le, o_gt, o_ge, o_eq, o_ne, o_isN, o_isnN, o_in, o_nin, x_fl, x_ft, x_fs, x_l, x_t, b_lens, b_lenl, b_lent, b_lenr, b_int, b_intb, b_abs, b_min, b_max, t_bl, t_int, t_lst, t_tup, t_non, n_int, z_fz, i_ii, i_bi, i_bb, i_ib, nn_int, nn_non, o_neb, o_eqb, l_lst, l_tup, l_int, k_ft, k_t, y_fl, y_l, a_ints, a_ll, a_fl, a_lf, a_ff, m_app, m_ext, s_lst, callD, takeA, putA, retOk, lendA, ioA, isFz, T.sh, T.shs, shE, D.imm, D.imms, rsvPt, evSet, subT, putT, storeG, st_n, st_t, sts_n, sts_c, allFz, allFzA, tupT, evMmP, evMm, lstAt, wipeT, ownsA, pickL, callSt, evT_lit, evT_sl, evT_gl, evT_op, evT_ch, evT_not, evT_and, evT_or, evT_ife, evT_neg, evT_ix, evT_b1, evT_b2, evT_isi, sizeLine_eq, Function.comp_def]
theorem part_in {k : Nat} {p : T} {ob : Option T} {f pr : Int} {o : Option T} (h : Pu k p) (hk : k + 12 ≤ 2 ^ 60) (f1 : 1 ≤ f) (f2 : f ≤ 5040) (p1 : 2 ≤ pr) (p2 : pr ≤ 5040) :
    ∃ ρ', forF (stT (.n 4)) (evSs tb11 B_law_mk_part_1) ((rg 0 12).map D.int) [some p, ob, some (.fz (.int f)), some (.fz (.int pr)), o] = some (.nx ρ') ∧
      ∃ p' f' o', Pu (k + (rg 0 12).length) p' ∧ 1 ≤ f' ∧ f' ≤ f ∧ ρ' = [some p', ob, some (.fz (.int f')), some (.fz (.int pr)), o'] := by
  refine for_ints (fun done _ ρ' => ∃ p' f' o', Pu (k + done.length) p' ∧ 1 ≤ f' ∧ f' ≤ f ∧ ρ' = [some p', ob, some (.fz (.int f')), some (.fz (.int pr)), o']) ⟨p, f, o, h, f1, Int.le_refl _, rfl⟩ ?_
  rintro done n r ρ e ⟨p', f', o', u, g1, g2, rfl⟩
  have hd : done.length + 1 ≤ 12 := by
    have := congrArg List.length e
    rw [rg_len, List.length_append, List.length_cons] at this
    omega
  refine ⟨_, rfl, ?_⟩
  have dv : divB pr = true := divB_le (by omega) (by omega)
  have pp : 0 < pr := by omega
  by_cases hm : f' % pr = 0
  · obtain ⟨p'', w, u2, w0, w1, e1⟩ := coin_ok u (by omega) (n := 2) (by decide) (by decide)
    have u3 : Pu (k + (done ++ [n]).length) p'' := u2.up (by rw [List.length_append, List.length_singleton]; omega)
    obtain ⟨d1, d2⟩ := ediv_pos' g1 p1 hm
    by_cases hw : w = 0
    · refine ⟨[some p'', ob, some (.fz (.int (f' / pr))), some (.fz (.int pr)), some (.fz (.int n))], .inl ?_, _, _, _, u3, d1, by omega, rfl⟩
      subst hw
      simp -implicitDefEqProofs [B_law_mk_part_1, hm, dv, pp, Lw.at_2_0, Lw.at_2_1, Lw.at_4_0, Lw.at_4_1, Lw.at_9_7, Lw.at_11_7, Lw.at_11_10, Lw.at_12_7, Lw.at_12_11, Lw.at_14_13, Lw.at_15_7, Lw.at_17_2, Lw.at_17_3, Lw.at_17_4, Lw.at_17_5, Lw.at_17_8, Lw.at_17_16, Lw.at_18_4, Lw.at_18_7, Lw.at_18_9, Lw.at_18_12, Lw.at_18_14, Lw.at_18_15, Lw.at_18_16, Lw.at_18_17, Lw.at_19_6, Lw.at_19_18, e1, evV1, evKs, pR, fzsR, mvR, callR, callSR, callK0R, callKR, lcR, DL.augR, mm1R, bfR, ioR, evE, evOe, evEs, evVs, evB, evBs, evI, evS, evSs, andR, orR, bR_ok, bR_ex, bR_no, bE_ok, bE_ex, bE_no, bF_nx, bF_ret, bF_bk, bF_ct, bF_ex, bF_no, oR_s, oR_n, evP, d_fz, d_lst, d_tup, o_add, o_adds, o_sub, o_mul, o_fdiv, o_mod, o_pow, o_lt, o_le, o_gt, o_ge, o_eq, o_ne, o_isN, o_isnN, o_in, o_nin, x_fl, x_ft, x_fs, x_l, x_t, b_lens, b_lenl, b_lent, b_lenr, b_int, b_intb, b_abs, b_min, b_max, t_bl, t_int, t_lst, t_tup, t_non, n_int, z_fz, i_ii, i_bi, i_bb, i_ib, nn_int, nn_non, o_neb, o_eqb, l_lst, l_tup, l_int, k_ft, k_t, y_fl, y_l, a_ints, a_ll, a_fl, a_lf, a_ff, m_app, m_ext, s_lst, callD, takeA, putA, retOk, lendA, ioA, isFz, T.sh, T.shs, shE, D.imm, D.imms, rsvPt, evSet, subT, putT, storeG, st_n, st_t, sts_n, sts_c, allFz, allFzA, tupT, evMmP, evMm, lstAt, wipeT, ownsA, pickL, callSt, evT_lit, evT_sl, evT_gl, evT_op, evT_ch, evT_not, evT_and, evT_or, evT_ife, evT_neg, evT_ix, evT_b1, evT_b2, evT_isi, sizeLine_eq, Function.comp_def]
    · refine ⟨[some p'', ob, some (.fz (.int f')), some (.fz (.int pr)), some (.fz (.int n))], .inl ?_, _, _, _, u3, g1, g2, rfl⟩
      simp -implicitDefEqProofs [B_law_mk_part_1, hm, dv, pp, Lw.at_2_0, Lw.at_2_1, Lw.at_4_0, Lw.at_4_1, Lw.at_9_7, Lw.at_11_7, Lw.at_11_10, Lw.at_12_7, Lw.at_12_11, Lw.at_14_13, Lw.at_15_7, Lw.at_17_2, Lw.at_17_3, Lw.at_17_4, Lw.at_17_5, Lw.at_17_8, Lw.at_17_16, Lw.at_18_4, Lw.at_18_7, Lw.at_18_9, Lw.at_18_12, Lw.at_18_14, Lw.at_18_15, Lw.at_18_16, Lw.at_18_17, Lw.at_19_6, Lw.at_19_18, e1, hw, evV1, evKs, pR, fzsR, mvR, callR, callSR, callK0R, callKR, lcR, DL.augR, mm1R, bfR, ioR, evE, evOe, evEs, evVs, evB, evBs, evI, evS, evSs, andR, orR, bR_ok, bR_ex, bR_no, bE_ok, bE_ex, bE_no, bF_nx, bF_ret, bF_bk, bF_ct, bF_ex, bF_no, oR_s, oR_n, evP, d_fz, d_lst, d_tup, o_add, o_adds, o_sub, o_mul, o_fdiv, o_mod, o_pow, o_lt, o_le, o_gt, o_ge, o_eq, o_ne, o_isN, o_isnN, o_in, o_nin, x_fl, x_ft, x_fs, x_l, x_t, b_lens, b_lenl, b_lent, b_lenr, b_int, b_intb, b_abs, b_min, b_max, t_bl, t_int, t_lst, t_tup, t_non, n_int, z_fz, i_ii, i_bi, i_bb, i_ib, nn_int, nn_non, o_neb, o_eqb, l_lst, l_tup, l_int, k_ft, k_t, y_fl, y_l, a_ints, a_ll, a_fl, a_lf, a_ff, m_app, m_ext, s_lst, callD, takeA, putA, retOk, lendA, ioA, isFz, T.sh, T.shs, shE, D.imm, D.imms, rsvPt, evSet, subT, putT, storeG, st_n, st_t, sts_n, sts_c, allFz, allFzA, tupT, evMmP, evMm, lstAt, wipeT, ownsA, pickL, callSt, evT_lit, evT_sl, evT_gl, evT_op, evT_ch, evT_not, evT_and, evT_or, evT_ife, evT_neg, evT_ix, evT_b1, evT_b2, evT_isi, sizeLine_eq, Function.comp_def]
  · refine ⟨[some p', ob, some (.fz (.int f')), some (.fz (.int pr)), some (.fz (.int n))], .inl ?_, _, _, _, u.up (by rw [List.length_append, List.length_singleton]; omega), g1, g2, rfl⟩
    simp -implicitDefEqProofs [B_law_mk_part_1, hm, dv, pp, evV1, evKs, pR, fzsR, mvR, callR, callSR, callK0R, callKR, lcR, DL.augR, mm1R, bfR, ioR, evE, evOe, evEs, evVs, evB, evBs, evI, evS, evSs, andR, orR, bR_ok, bR_ex, bR_no, bE_ok, bE_ex, bE_no, bF_nx, bF_ret, bF_bk, bF_ct, bF_ex, bF_no, oR_s, oR_n, evP, d_fz, d_lst, d_tup, o_add, o_adds, o_sub, o_mul, o_fdiv, o_mod, o_pow, o_lt, o_le, o_gt, o_ge, o_eq, o_ne, o_isN, o_isnN, o_in, o_nin, x_fl, x_ft, x_fs, x_l, x_t, b_lens, b_lenl, b_lent, b_lenr, b_int, b_intb, b_abs, b_min, b_max, t_bl, t_int, t_lst, t_tup, t_non, n_int, z_fz, i_ii, i_bi, i_bb, i_ib, nn_int, nn_non, o_neb, o_eqb, l_lst, l_tup, l_int, k_ft, k_t, y_fl, y_l, a_ints, a_ll, a_fl, a_lf, a_ff, m_app, m_ext, s_lst, callD, takeA, putA, retOk, lendA, ioA, isFz, T.sh, T.shs, shE, D.imm, D.imms, rsvPt, evSet, subT, putT, storeG, st_n, st_t, sts_n, sts_c, allFz, allFzA, tupT, evMmP, evMm, lstAt, wipeT, ownsA, pickL, callSt, evT_lit, evT_sl, evT_gl, evT_op, evT_ch, evT_not, evT_and, evT_or, evT_ife, evT_neg, evT_ix, evT_b1, evT_b2, evT_isi, sizeLine_eq, Function.comp_def]
theorem part_ok {k : Nat} {p : T} {b : Int} (h : Pu k p) (hk : k + 900 ≤ 2 ^ 60) (b1 : 1 ≤ b) (b2 : b ≤ 5040) : ∃ p' s, Pu (k + 900) p' ∧ 1 ≤ s ∧ s ≤ b ∧ F_law_mk_part [p, .fz (.int b)] = some (.ret (.fz (.int s)) [some p', none]) := by
  obtain ⟨ns, hn, hl, e0⟩ := primes_ok b1 b2
  have L : ∃ ρ', forF (stT (.n 3)) (evSs tb11 B_law_mk_part_2) (ns.map D.int) [some p, some (.fz (.int b)), some (.fz (.int b)), none, none] = some (.nx ρ') ∧
      ∃ p' f' o o', Pu (k + 12 * ns.length) p' ∧ 1 ≤ f' ∧ f' ≤ b ∧ ρ' = [some p', some (.fz (.int b)), some (.fz (.int f')), o, o'] := by
    refine for_ints (fun done _ ρ' => ∃ p' f' o o', Pu (k + 12 * done.length) p' ∧ 1 ≤ f' ∧ f' ≤ b ∧ ρ' = [some p', some (.fz (.int b)), some (.fz (.int f')), o, o']) ⟨p, b, none, none, h, b1, Int.le_refl _, rfl⟩ ?_
    rintro done n r ρ e ⟨p', f', o, o', u, g1, g2, rfl⟩
    have hd : done.length + 1 ≤ ns.length := by
      have := congrArg List.length e
      rw [List.length_append, List.length_cons] at this
      omega
    have hn2 := hn n (by rw [e]; simp)
    refine ⟨_, rfl, ?_⟩
    obtain ⟨ρ', e1, p'', f'', o'', u2, c1, c2, rfl⟩ := part_in (ob := some (.fz (.int b))) (o := o') u (by omega) g1 (by omega) hn2.1 hn2.2
    rw [rg_len] at u2
    refine ⟨_, .inl ?_, p'', f'', some (.fz (.int n)), o'', u2.up (by rw [List.length_append, List.length_singleton]; omega), c1, by omega, rfl⟩
    have r := r1 (j := 12) (by decide) (by decide)
    simp -implicitDefEqProofs [B_law_mk_part_2, r, e1, evV1, evKs, pR, fzsR, mvR, callR, callSR, callK0R, callKR, lcR, DL.augR, mm1R, bfR, ioR, evE, evOe, evEs, evVs, evB, evBs, evI, evS, evSs, andR, orR, bR_ok, bR_ex, bR_no, bE_ok, bE_ex, bE_no, bF_nx, bF_ret, bF_bk, bF_ct, bF_ex, bF_no, oR_s, oR_n, evP, d_fz, d_lst, d_tup, o_add, o_adds, o_sub, o_mul, o_fdiv, o_mod, o_pow, o_lt, o_le, o_gt, o_ge, o_eq, o_ne, o_isN, o_isnN, o_in, o_nin, x_fl, x_ft, x_fs, x_l, x_t, b_lens, b_lenl, b_lent, b_lenr, b_int, b_intb, b_abs, b_min, b_max, t_bl, t_int, t_lst, t_tup, t_non, n_int, z_fz, i_ii, i_bi, i_bb, i_ib, nn_int, nn_non, o_neb, o_eqb, l_lst, l_tup, l_int, k_ft, k_t, y_fl, y_l, a_ints, a_ll, a_fl, a_lf, a_ff, m_app, m_ext, s_lst, callD, takeA, putA, retOk, lendA, ioA, isFz, T.sh, T.shs, shE, D.imm, D.imms, rsvPt, evSet, subT, putT, storeG, st_n, st_t, sts_n, sts_c, allFz, allFzA, tupT, evMmP, evMm, lstAt, wipeT, ownsA, pickL, callSt, evT_lit, evT_sl, evT_gl, evT_op, evT_ch, evT_not, evT_and, evT_or, evT_ife, evT_neg, evT_ix, evT_b1, evT_b2, evT_isi, sizeLine_eq, Function.comp_def]
  obtain ⟨ρ', e1, p', f', o, o', u, c1, c2, rfl⟩ := L
  refine ⟨p', f', u.up (by omega), c1, c2, ?_⟩
  rw [F_law_mk_part_eq]
  simp -implicitDefEqProofs [denB, finS, d_law_mk_part, List.range, List.range.loop, Lw.at_2_0, Lw.at_2_1, Lw.at_4_0, Lw.at_4_1, Lw.at_9_7, Lw.at_11_7, Lw.at_11_10, Lw.at_12_7, Lw.at_12_11, Lw.at_14_13, Lw.at_15_7, Lw.at_17_2, Lw.at_17_3, Lw.at_17_4, Lw.at_17_5, Lw.at_17_8, Lw.at_17_16, Lw.at_18_4, Lw.at_18_7, Lw.at_18_9, Lw.at_18_12, Lw.at_18_14, Lw.at_18_15, Lw.at_18_16, Lw.at_18_17, Lw.at_19_6, Lw.at_19_18, e0, e1, evV1, evKs, pR, fzsR, mvR, callR, callSR, callK0R, callKR, lcR, DL.augR, mm1R, bfR, ioR, evE, evOe, evEs, evVs, evB, evBs, evI, evS, evSs, andR, orR, bR_ok, bR_ex, bR_no, bE_ok, bE_ex, bE_no, bF_nx, bF_ret, bF_bk, bF_ct, bF_ex, bF_no, oR_s, oR_n, evP, d_fz, d_lst, d_tup, o_add, o_adds, o_sub, o_mul, o_fdiv, o_mod, o_pow, o_lt, o_le, o_gt, o_ge, o_eq, o_ne, o_isN, o_isnN, o_in, o_nin, x_fl, x_ft, x_fs, x_l, x_t, b_lens, b_lenl, b_lent, b_lenr, b_int, b_intb, b_abs, b_min, b_max, t_bl, t_int, t_lst, t_tup, t_non, n_int, z_fz, i_ii, i_bi, i_bb, i_ib, nn_int, nn_non, o_neb, o_eqb, l_lst, l_tup, l_int, k_ft, k_t, y_fl, y_l, a_ints, a_ll, a_fl, a_lf, a_ff, m_app, m_ext, s_lst, callD, takeA, putA, retOk, lendA, ioA, isFz, T.sh, T.shs, shE, D.imm, D.imms, rsvPt, evSet, subT, putT, storeG, st_n, st_t, sts_n, sts_c, allFz, allFzA, tupT, evMmP, evMm, lstAt, wipeT, ownsA, pickL, callSt, evT_lit, evT_sl, evT_gl, evT_op, evT_ch, evT_not, evT_and, evT_or, evT_ife, evT_neg, evT_ix, evT_b1, evT_b2, evT_isi, sizeLine_eq, Function.comp_def]
end Lw
namespace Lw
open PySem DL
/-! ### lots -/
abbrev lotD (e : Int) (ns : List Int) : D := .tup [.int e, .lst (ns.map D.int)]
structure Lot (e : Int) (ns : List Int) : Prop where
  e1 : 1 ≤ e
  e2 : e ≤ 5040
  asc : ns.Pairwise (· < ·)
  rng : ∀ x ∈ ns, 0 ≤ x ∧ x < e
theorem Lot.len {e : Int} {ns : List Int} (l : Lot e ns) : ns.length ≤ 5040 := by
  have := len_lt (by have := l.e1; omega) l.asc l.rng
  have := l.e2
  omega
theorem check_lots_ok {e : Int} {ns : List Int} (l : Lot e ns) : F_check_lots [.fz (.tup [lotD e ns])] = some (.ret (.fz .non) [none]) := by
  have l1 := l.e1
  have ln := l.len
  have C1 : lcF (stT (.t (.cons (.n 4) (.cons (.n 5) .nil)))) (evBs tb0 CT_check_lots_1) (evE tb0 CE_check_lots_1) [4, 5] ((ns.zip ns.tail).map fun p => D.tup [.int p.1, .int p.2]) [none, some (.fz (.int e)), some (.fz (.lst (ns.map D.int))), none, none, none, none] [] =
      some (.ok ((ns.zip ns.tail).map fun p => .fz (.bl (decide (p.1 < p.2)))) [none, some (.fz (.int e)), some (.fz (.lst (ns.map D.int))), none, none, none, none]) :=
    lc_m (em := fun p : Int × Int => D.tup [.int p.1, .int p.2]) _ rfl _ (by rw [List.length_zip]; omega) fun x _ => ⟨[none, some (.fz (.int e)), some (.fz (.lst (ns.map D.int))), none, some (.fz (.int x.1)), some (.fz (.int x.2)), none], rfl, rfl, rfl, rfl⟩
  have C2 : lcF (stT (.n 6)) (evBs tb0 CT_check_lots_2) (evE tb0 CE_check_lots_2) [6] (ns.map D.int) [none, some (.fz (.int e)), some (.fz (.lst (ns.map D.int))), some (.fz (.bl true)), none, none, none] [] =
      some (.ok (ns.map fun x => .fz (.bl true)) [none, some (.fz (.int e)), some (.fz (.lst (ns.map D.int))), some (.fz (.bl true)), none, none, none]) :=
    lc_m (em := D.int) _ rfl ns (by omega) fun x hx => ⟨[none, some (.fz (.int e)), some (.fz (.lst (ns.map D.int))), some (.fz (.bl true)), none, none, some (.fz (.int x))], rfl, rfl, rfl, by
      obtain ⟨x0, x1⟩ := l.rng x hx
      simp -implicitDefEqProofs [CE_check_lots_2, x0, x1, evV1, evKs, pR, fzsR, mvR, callR, callSR, callK0R, callKR, lcR, DL.augR, mm1R, bfR, ioR, evE, evOe, evEs, evVs, evB, evBs, evI, evS, evSs, andR, orR, bR_ok, bR_ex, bR_no, bE_ok, bE_ex, bE_no, bF_nx, bF_ret, bF_bk, bF_ct, bF_ex, bF_no, oR_s, oR_n, evP, d_fz, d_lst, d_tup, o_add, o_adds, o_sub, o_mul, o_fdiv, o_mod, o_pow, o_lt, o_le, o_gt, o_ge, o_eq, o_ne, o_isN, o_isnN, o_in, o_nin, x_fl, x_ft, x_fs, x_l, x_t, b_lens, b_lenl, b_lent, b_lenr, b_int, b_intb, b_abs, b_min, b_max, t_bl, t_int, t_lst, t_tup, t_non, n_int, z_fz, i_ii, i_bi, i_bb, i_ib, nn_int, nn_non, o_neb, o_eqb, l_lst, l_tup, l_int, k_ft, k_t, y_fl, y_l, a_ints, a_ll, a_fl, a_lf, a_ff, m_app, m_ext, s_lst, callD, takeA, putA, retOk, lendA, ioA, isFz, T.sh, T.shs, shE, D.imm, D.imms, rsvPt, evSet, subT, putT, storeG, st_n, st_t, sts_n, sts_c, allFz, allFzA, tupT, evMmP, evMm, lstAt, wipeT, ownsA, pickL, callSt, evT_lit, evT_sl, evT_gl, evT_op, evT_ch, evT_not, evT_and, evT_or, evT_ife, evT_neg, evT_ix, evT_b1, evT_b2, evT_isi, sizeLine_eq, Function.comp_def]⟩
  have A1 : bfT .all [.lst ((ns.zip ns.tail).map fun p => T.fz (.bl (decide (p.1 < p.2))))] = some (.fz (.bl true)) := by
    have z := bf_allL ((ns.zip ns.tail).map fun p => decide (p.1 < p.2))
    simp only [bT, List.map_map, Function.comp_def] at z
    rw [z]
    congr 3
    rw [List.all_map, List.all_eq_true]
    intro p hp
    simpa using asc_adj l.asc p hp
  have A2 : bfT .all [.lst (ns.map fun _ => T.fz (.bl true))] = some (.fz (.bl true)) := by
    have z := bf_allL (ns.map fun _ => true)
    simp only [bT, List.map_map, Function.comp_def] at z
    rw [z]
    congr 3
    rw [List.all_map, List.all_eq_true]
    intro p hp
    rfl
  have Z : zipL (ns.map fun x => D.int x) (ns.map fun x => D.int x).tail = (ns.zip ns.tail).map fun p => D.tup [.int p.1, .int p.2] := by
    rw [← List.map_tail]
    exact zip_i ns ns.tail
  have sl : ∀ x, sliceT (.fz (.lst (ns.map D.int))) (some 1) none = x ↔ some (.lst (ns.tail.map fun n => T.fz (.int n))) = x := by
    intro x
    rw [sl_f, cut_1]
    simp [Function.comp_def]
  have sl2 : sliceT (.fz (.lst (ns.map D.int))) (some 1) none = some (.lst (ns.tail.map fun n => T.fz (.int n))) := ((sl _).mpr rfl)
  rw [F_check_lots_eq]
  have e1 : ¬ e < 1 := by omega
  simp -implicitDefEqProofs [denB, finS, d_check_lots, List.range, List.range.loop, forF, B_check_lots_1, sl2, zip_l, Z, C1, C2, A1, A2, e1, evV1, evKs, pR, fzsR, mvR, callR, callSR, callK0R, callKR, lcR, DL.augR, mm1R, bfR, ioR, evE, evOe, evEs, evVs, evB, evBs, evI, evS, evSs, andR, orR, bR_ok, bR_ex, bR_no, bE_ok, bE_ex, bE_no, bF_nx, bF_ret, bF_bk, bF_ct, bF_ex, bF_no, oR_s, oR_n, evP, d_fz, d_lst, d_tup, o_add, o_adds, o_sub, o_mul, o_fdiv, o_mod, o_pow, o_lt, o_le, o_gt, o_ge, o_eq, o_ne, o_isN, o_isnN, o_in, o_nin, x_fl, x_ft, x_fs, x_l, x_t, b_lens, b_lenl, b_lent, b_lenr, b_int, b_intb, b_abs, b_min, b_max, t_bl, t_int, t_lst, t_tup, t_non, n_int, z_fz, i_ii, i_bi, i_bb, i_ib, nn_int, nn_non, o_neb, o_eqb, l_lst, l_tup, l_int, k_ft, k_t, y_fl, y_l, a_ints, a_ll, a_fl, a_lf, a_ff, m_app, m_ext, s_lst, callD, takeA, putA, retOk, lendA, ioA, isFz, T.sh, T.shs, shE, D.imm, D.imms, rsvPt, evSet, subT, putT, storeG, st_n, st_t, sts_n, sts_c, allFz, allFzA, tupT, evMmP, evMm, lstAt, wipeT, ownsA, pickL, callSt, evT_lit, evT_sl, evT_gl, evT_op, evT_ch, evT_not, evT_and, evT_or, evT_ife, evT_neg, evT_ix, evT_b1, evT_b2, evT_isi, sizeLine_eq, Function.comp_def]
theorem isint_ok (i : Int) : F_law_mk_is_integer [.fz (.int i)] = some (.ret (.fz (.bl true)) [none]) := by
  rw [F_law_mk_is_integer_eq]
  simp -implicitDefEqProofs [denB, finS, d_law_mk_is_integer, List.range, List.range.loop, evV1, evKs, pR, fzsR, mvR, callR, callSR, callK0R, callKR, lcR, DL.augR, mm1R, bfR, ioR, evE, evOe, evEs, evVs, evB, evBs, evI, evS, evSs, andR, orR, bR_ok, bR_ex, bR_no, bE_ok, bE_ex, bE_no, bF_nx, bF_ret, bF_bk, bF_ct, bF_ex, bF_no, oR_s, oR_n, evP, d_fz, d_lst, d_tup, o_add, o_adds, o_sub, o_mul, o_fdiv, o_mod, o_pow, o_lt, o_le, o_gt, o_ge, o_eq, o_ne, o_isN, o_isnN, o_in, o_nin, x_fl, x_ft, x_fs, x_l, x_t, b_lens, b_lenl, b_lent, b_lenr, b_int, b_intb, b_abs, b_min, b_max, t_bl, t_int, t_lst, t_tup, t_non, n_int, z_fz, i_ii, i_bi, i_bb, i_ib, nn_int, nn_non, o_neb, o_eqb, l_lst, l_tup, l_int, k_ft, k_t, y_fl, y_l, a_ints, a_ll, a_fl, a_lf, a_ff, m_app, m_ext, s_lst, callD, takeA, putA, retOk, lendA, ioA, isFz, T.sh, T.shs, shE, D.imm, D.imms, rsvPt, evSet, subT, putT, storeG, st_n, st_t, sts_n, sts_c, allFz, allFzA, tupT, evMmP, evMm, lstAt, wipeT, ownsA, pickL, callSt, evT_lit, evT_sl, evT_gl, evT_op, evT_ch, evT_not, evT_and, evT_or, evT_ife, evT_neg, evT_ix, evT_b1, evT_b2, evT_isi, sizeLine_eq, Function.comp_def]
end Lw
namespace Lw
open PySem DL
/-- draws in a comprehension -/
theorem draws1 {k : Nat} {p : T} {b : Int} {w : Option T} (h : Pu k p) (hk : k + 13 ≤ 2 ^ 60) : ∃ (p' : T) (ms : List Int), Pu (k + 13) p' ∧ (∀ m ∈ ms, 0 ≤ m ∧ m < 2) ∧ ms.length = 13 ∧
    lcF (stT (.n 7)) (evBs tb12 CT_law_mk_leaves_1) (evE tb12 CE_law_mk_leaves_1) [7] ((rg 0 13).map D.int) [some p, some (.fz (.int b)), none, none, none, none, none, none, none] [] = some (.ok (ms.map fun n => .fz (.int n)) [some p', some (.fz (.int b)), none, none, none, none, none, none, none]) := by
  have Q := lc_inv (st := stT (.n 7)) (ft := evBs tb12 CT_law_mk_leaves_1) (fe := evE tb12 CE_law_mk_leaves_1) (vs := [7])
    (fun ds ρ acc => ∃ (p' : T) (ms : List Int), Pu (k + ms.length) p' ∧ ρ = [some p', some (.fz (.int b)), none, none, none, none, none, none, none] ∧ acc = ms.map (fun n : Int => T.fz (.int n)) ∧ (∀ m ∈ ms, 0 ≤ m ∧ m < 2) ∧ ms.length + ds.length = 13) ?st ((rg 0 13).map D.int) [some p, some (.fz (.int b)), none, none, none, none, none, none, none] [] ⟨p, [], h, rfl, rfl, by simp, by simp [rg_len]⟩
  case st =>
    rintro d r ρ acc ⟨p', ms, u, rfl, rfl, hm, hl⟩
    rw [List.length_cons] at hl
    obtain ⟨p'', x, u2, x0, x1, e1⟩ := coin_ok u (by omega) (n := 2) (by decide) (by decide)
    refine ⟨[some p', some (.fz (.int b)), none, none, none, none, none, some (.fz d), none], [some p', some (.fz (.int b)), none, none, none, none, none, some (.fz d), none], true, rfl, rfl, (fun z => nomatch z), fun _ => ⟨.fz (.int x), [some p'', some (.fz (.int b)), none, none, none, none, none, some (.fz d), none], ?_, by rw [sizeLine_eq, List.length_map]; omega, p'', ms ++ [x], by rw [List.length_append]; exact u2, rfl, by simp, ?_, by simp; omega⟩⟩
    · simp -implicitDefEqProofs [CE_law_mk_leaves_1, Lw.at_2_0, Lw.at_2_1, Lw.at_4_0, Lw.at_4_1, Lw.at_9_7, Lw.at_11_7, Lw.at_11_10, Lw.at_12_7, Lw.at_12_11, Lw.at_14_13, Lw.at_15_7, Lw.at_17_2, Lw.at_17_3, Lw.at_17_4, Lw.at_17_5, Lw.at_17_8, Lw.at_17_16, Lw.at_18_4, Lw.at_18_7, Lw.at_18_9, Lw.at_18_12, Lw.at_18_14, Lw.at_18_15, Lw.at_18_16, Lw.at_18_17, Lw.at_19_6, Lw.at_19_18, e1, evV1, evKs, pR, fzsR, mvR, callR, callSR, callK0R, callKR, lcR, DL.augR, mm1R, bfR, ioR, evE, evOe, evEs, evVs, evB, evBs, evI, evS, evSs, andR, orR, bR_ok, bR_ex, bR_no, bE_ok, bE_ex, bE_no, bF_nx, bF_ret, bF_bk, bF_ct, bF_ex, bF_no, oR_s, oR_n, evP, d_fz, d_lst, d_tup, o_add, o_adds, o_sub, o_mul, o_fdiv, o_mod, o_pow, o_lt, o_le, o_gt, o_ge, o_eq, o_ne, o_isN, o_isnN, o_in, o_nin, x_fl, x_ft, x_fs, x_l, x_t, b_lens, b_lenl, b_lent, b_lenr, b_int, b_intb, b_abs, b_min, b_max, t_bl, t_int, t_lst, t_tup, t_non, n_int, z_fz, i_ii, i_bi, i_bb, i_ib, nn_int, nn_non, o_neb, o_eqb, l_lst, l_tup, l_int, k_ft, k_t, y_fl, y_l, a_ints, a_ll, a_fl, a_lf, a_ff, m_app, m_ext, s_lst, callD, takeA, putA, retOk, lendA, ioA, isFz, T.sh, T.shs, shE, D.imm, D.imms, rsvPt, evSet, subT, putT, storeG, st_n, st_t, sts_n, sts_c, allFz, allFzA, tupT, evMmP, evMm, lstAt, wipeT, ownsA, pickL, callSt, evT_lit, evT_sl, evT_gl, evT_op, evT_ch, evT_not, evT_and, evT_or, evT_ife, evT_neg, evT_ix, evT_b1, evT_b2, evT_isi, sizeLine_eq, Function.comp_def]
    · intro m hm'
      rcases List.mem_append.mp hm' with hm' | hm'
      · exact hm m hm'
      · rw [List.mem_singleton] at hm'
        omega
  obtain ⟨acc', ρ', e, p', ms, u, rfl, rfl, hm, hl⟩ := Q
  · have hl' : ms.length = 13 := by simpa using hl
    exact ⟨p', ms, by rw [← hl']; exact u, hm, hl', e⟩
theorem draws2 {k : Nat} {p : T} {b : Int} {w y : Option T} (b1 : 1 ≤ b) (b2 : b ≤ 5040) (h : Pu k p) (n : Nat) (hk : k + n ≤ 2 ^ 60) (hn : n ≤ 16777216) : ∃ (p' : T) (ms : List Int), Pu (k + n) p' ∧ (∀ m ∈ ms, 0 ≤ m ∧ m < b) ∧ ms.length = n ∧
    lcF (stT (.n 7)) (evBs tb12 CT_law_mk_leaves_2) (evE tb12 CE_law_mk_leaves_2) [7] ((rg 0 n).map D.int) [some p, some (.fz (.int b)), none, w, y, none, none, none, none] [] = some (.ok (ms.map fun n => .fz (.int n)) [some p', some (.fz (.int b)), none, w, y, none, none, none, none]) := by
  have Q := lc_inv (st := stT (.n 7)) (ft := evBs tb12 CT_law_mk_leaves_2) (fe := evE tb12 CE_law_mk_leaves_2) (vs := [7])
    (fun ds ρ acc => ∃ (p' : T) (ms : List Int), Pu (k + ms.length) p' ∧ ρ = [some p', some (.fz (.int b)), none, w, y, none, none, none, none] ∧ acc = ms.map (fun n : Int => T.fz (.int n)) ∧ (∀ m ∈ ms, 0 ≤ m ∧ m < b) ∧ ms.length + ds.length = n) ?st ((rg 0 n).map D.int) [some p, some (.fz (.int b)), none, w, y, none, none, none, none] [] ⟨p, [], h, rfl, rfl, by simp, by simp [rg_len]⟩
  case st =>
    rintro d r ρ acc ⟨p', ms, u, rfl, rfl, hm, hl⟩
    rw [List.length_cons] at hl
    obtain ⟨p'', x, u2, x0, x1, e1⟩ := coin_ok u (by omega) (n := b) (by omega) (by omega)
    refine ⟨[some p', some (.fz (.int b)), none, w, y, none, none, some (.fz d), none], [some p', some (.fz (.int b)), none, w, y, none, none, some (.fz d), none], true, rfl, rfl, (fun z => nomatch z), fun _ => ⟨.fz (.int x), [some p'', some (.fz (.int b)), none, w, y, none, none, some (.fz d), none], ?_, by rw [sizeLine_eq, List.length_map]; omega, p'', ms ++ [x], by rw [List.length_append]; exact u2, rfl, by simp, ?_, by simp; omega⟩⟩
    · simp -implicitDefEqProofs [CE_law_mk_leaves_2, Lw.at_2_0, Lw.at_2_1, Lw.at_4_0, Lw.at_4_1, Lw.at_9_7, Lw.at_11_7, Lw.at_11_10, Lw.at_12_7, Lw.at_12_11, Lw.at_14_13, Lw.at_15_7, Lw.at_17_2, Lw.at_17_3, Lw.at_17_4, Lw.at_17_5, Lw.at_17_8, Lw.at_17_16, Lw.at_18_4, Lw.at_18_7, Lw.at_18_9, Lw.at_18_12, Lw.at_18_14, Lw.at_18_15, Lw.at_18_16, Lw.at_18_17, Lw.at_19_6, Lw.at_19_18, e1, evV1, evKs, pR, fzsR, mvR, callR, callSR, callK0R, callKR, lcR, DL.augR, mm1R, bfR, ioR, evE, evOe, evEs, evVs, evB, evBs, evI, evS, evSs, andR, orR, bR_ok, bR_ex, bR_no, bE_ok, bE_ex, bE_no, bF_nx, bF_ret, bF_bk, bF_ct, bF_ex, bF_no, oR_s, oR_n, evP, d_fz, d_lst, d_tup, o_add, o_adds, o_sub, o_mul, o_fdiv, o_mod, o_pow, o_lt, o_le, o_gt, o_ge, o_eq, o_ne, o_isN, o_isnN, o_in, o_nin, x_fl, x_ft, x_fs, x_l, x_t, b_lens, b_lenl, b_lent, b_lenr, b_int, b_intb, b_abs, b_min, b_max, t_bl, t_int, t_lst, t_tup, t_non, n_int, z_fz, i_ii, i_bi, i_bb, i_ib, nn_int, nn_non, o_neb, o_eqb, l_lst, l_tup, l_int, k_ft, k_t, y_fl, y_l, a_ints, a_ll, a_fl, a_lf, a_ff, m_app, m_ext, s_lst, callD, takeA, putA, retOk, lendA, ioA, isFz, T.sh, T.shs, shE, D.imm, D.imms, rsvPt, evSet, subT, putT, storeG, st_n, st_t, sts_n, sts_c, allFz, allFzA, tupT, evMmP, evMm, lstAt, wipeT, ownsA, pickL, callSt, evT_lit, evT_sl, evT_gl, evT_op, evT_ch, evT_not, evT_and, evT_or, evT_ife, evT_neg, evT_ix, evT_b1, evT_b2, evT_isi, sizeLine_eq, Function.comp_def]
    · intro m hm'
      rcases List.mem_append.mp hm' with hm' | hm'
      · exact hm m hm'
      · rw [List.mem_singleton] at hm'
        omega
  obtain ⟨acc', ρ', e, p', ms, u, rfl, rfl, hm, hl⟩ := Q
  · have hl' : ms.length = n := by simpa using hl
    exact ⟨p', ms, by rw [← hl']; exact u, hm, hl', e⟩
theorem flt_rg {b : Int} (P : Int → Bool) : ((rg 0 b.toNat).filter P).Pairwise (· < ·) ∧ ∀ x ∈ (rg 0 b.toNat).filter P, 0 ≤ x ∧ x < b := by
  refine ⟨(rg_asc 0 _).filter _, fun x hx => ?_⟩
  have := mem_rg.mp (List.mem_filter.mp hx).1
  omega
theorem comp4 {p : T} {b st w : Int} {few ms : List Int} (hml : ms.length = 13) (b1 : 1 ≤ b) (b2 : b ≤ 5040) (s1 : 1 ≤ st) :
    lcF (stT (.n 8)) (evBs tb12 CT_law_mk_leaves_4) (evE tb12 CE_law_mk_leaves_4) [8] ((rg 0 b.toNat).map D.int) [some p, some (.fz (.int b)), some (.lst (few.map fun n => .fz (.int n))), some (.fz (.int w)), some (.lst (ms.map fun n => .fz (.int n))), some (.fz (.int st)), none, none, none] [] =
      some (.ok (((rg 0 b.toNat).filter fun x => decide (ms.getD (x % st % 13).toNat 0 = 1)).map fun x => .fz (.int x)) [some p, some (.fz (.int b)), some (.lst (few.map fun n => .fz (.int n))), some (.fz (.int w)), some (.lst (ms.map fun n => .fz (.int n))), some (.fz (.int st)), none, none, none]) :=
  lc_p (em := D.int) _ _ rfl _ (by rw [rg_len]; omega) fun x _ => ⟨[some p, some (.fz (.int b)), some (.lst (few.map fun n => .fz (.int n))), some (.fz (.int w)), some (.lst (ms.map fun n => .fz (.int n))), some (.fz (.int st)), none, none, some (.fz (.int x))], rfl, rfl, by
    have a := at_g (ns := ms) (r := x % st % 13) (Int.emod_nonneg _ (by decide)) (by rw [hml]; exact Int.emod_lt_of_pos _ (by decide))
    have s0 : 0 < st := by omega
    simp -implicitDefEqProofs [CT_law_mk_leaves_4, a, s0, evV1, evKs, pR, fzsR, mvR, callR, callSR, callK0R, callKR, lcR, DL.augR, mm1R, bfR, ioR, evE, evOe, evEs, evVs, evB, evBs, evI, evS, evSs, andR, orR, bR_ok, bR_ex, bR_no, bE_ok, bE_ex, bE_no, bF_nx, bF_ret, bF_bk, bF_ct, bF_ex, bF_no, oR_s, oR_n, evP, d_fz, d_lst, d_tup, o_add, o_adds, o_sub, o_mul, o_fdiv, o_mod, o_pow, o_lt, o_le, o_gt, o_ge, o_eq, o_ne, o_isN, o_isnN, o_in, o_nin, x_fl, x_ft, x_fs, x_l, x_t, b_lens, b_lenl, b_lent, b_lenr, b_int, b_intb, b_abs, b_min, b_max, t_bl, t_int, t_lst, t_tup, t_non, n_int, z_fz, i_ii, i_bi, i_bb, i_ib, nn_int, nn_non, o_neb, o_eqb, l_lst, l_tup, l_int, k_ft, k_t, y_fl, y_l, a_ints, a_ll, a_fl, a_lf, a_ff, m_app, m_ext, s_lst, callD, takeA, putA, retOk, lendA, ioA, isFz, T.sh, T.shs, shE, D.imm, D.imms, rsvPt, evSet, subT, putT, storeG, st_n, st_t, sts_n, sts_c, allFz, allFzA, tupT, evMmP, evMm, lstAt, wipeT, ownsA, pickL, callSt, evT_lit, evT_sl, evT_gl, evT_op, evT_ch, evT_not, evT_and, evT_or, evT_ife, evT_neg, evT_ix, evT_b1, evT_b2, evT_isi, sizeLine_eq, Function.comp_def], fun _ => rfl⟩
theorem comp5 {p : T} {b f0 : Int} {fs xs : List Int} {w mk sp : Option T} (hl : xs.length ≤ 16777216) :
    lcF (stT (.n 8)) (evBs tb12 CT_law_mk_leaves_5) (evE tb12 CE_law_mk_leaves_5) [8] (xs.map D.int) [some p, some (.fz (.int b)), some (.fz (.lst (D.int f0 :: fs.map D.int))), w, mk, sp, none, none, none] [] =
      some (.ok ((xs.filter fun x => !decide (x = f0)).map fun x => .fz (.int x)) [some p, some (.fz (.int b)), some (.fz (.lst (D.int f0 :: fs.map D.int))), w, mk, sp, none, none, none]) :=
  lc_p (em := D.int) _ _ rfl _ hl fun x _ => ⟨[some p, some (.fz (.int b)), some (.fz (.lst (D.int f0 :: fs.map D.int))), w, mk, sp, none, none, some (.fz (.int x))], rfl, rfl, by
    have a0 : L2.atI (D.int f0 :: fs.map D.int) 0 = some (.int f0) := by
      rw [atI_nat (by decide) (by simp only [List.length_cons]; omega)]
      rfl
    simp -implicitDefEqProofs [CT_law_mk_leaves_5, a0, evV1, evKs, pR, fzsR, mvR, callR, callSR, callK0R, callKR, lcR, DL.augR, mm1R, bfR, ioR, evE, evOe, evEs, evVs, evB, evBs, evI, evS, evSs, andR, orR, bR_ok, bR_ex, bR_no, bE_ok, bE_ex, bE_no, bF_nx, bF_ret, bF_bk, bF_ct, bF_ex, bF_no, oR_s, oR_n, evP, d_fz, d_lst, d_tup, o_add, o_adds, o_sub, o_mul, o_fdiv, o_mod, o_pow, o_lt, o_le, o_gt, o_ge, o_eq, o_ne, o_isN, o_isnN, o_in, o_nin, x_fl, x_ft, x_fs, x_l, x_t, b_lens, b_lenl, b_lent, b_lenr, b_int, b_intb, b_abs, b_min, b_max, t_bl, t_int, t_lst, t_tup, t_non, n_int, z_fz, i_ii, i_bi, i_bb, i_ib, nn_int, nn_non, o_neb, o_eqb, l_lst, l_tup, l_int, k_ft, k_t, y_fl, y_l, a_ints, a_ll, a_fl, a_lf, a_ff, m_app, m_ext, s_lst, callD, takeA, putA, retOk, lendA, ioA, isFz, T.sh, T.shs, shE, D.imm, D.imms, rsvPt, evSet, subT, putT, storeG, st_n, st_t, sts_n, sts_c, allFz, allFzA, tupT, evMmP, evMm, lstAt, wipeT, ownsA, pickL, callSt, evT_lit, evT_sl, evT_gl, evT_op, evT_ch, evT_not, evT_and, evT_or, evT_ife, evT_neg, evT_ix, evT_b1, evT_b2, evT_isi, sizeLine_eq, Function.comp_def], fun _ => rfl⟩
theorem leaves_ok {k : Nat} {p : T} {b : Int} (h : Pu k p) (hk : k + 1000 ≤ 2 ^ 60) (b1 : 1 ≤ b) (b2 : b ≤ 5040) :
    ∃ p' ns, Pu (k + 1000) p' ∧ ns.Pairwise (· < ·) ∧ (∀ x ∈ ns, 0 ≤ x ∧ x < b) ∧ F_law_mk_leaves [p, .fz (.int b)] = some (.ret (.lst (iT ns)) [some p', none]) := by
  obtain ⟨p1, w, u1, w0, w1, e1⟩ := coin_ok h (by omega) (n := 6) (by decide) (by decide)
  obtain ⟨p2, ms, u2, hms, hml, e2⟩ := draws1 (b := b) (w := none) u1 (by omega)
  obtain ⟨p3, n, u3, n0, n1, e3⟩ := coin_ok u2 (by omega) (n := 5) (by decide) (by decide)
  obtain ⟨p4, fs, u4, hfs, hfl, e4⟩ := draws2 (w := some (.fz (.int w))) (y := some (.lst (ms.map fun n => .fz (.int n)))) b1 b2 u3 n.toNat (by omega) (by omega)
  have u5 : Pu (k + 20) p4 := u4.up (by omega)
  have r13 := r1 (j := 13) (by decide) (by decide)
  have rn := r1 (j := n) n0 (by omega)
  have rb := r1 (j := b) (by omega) (by omega)
  have ss := sset_l (ns := fs) (by omega)
  have q0 : ∀ x ∈ setI fs, 0 ≤ x ∧ x < b := fun x hx => hfs x ((setI_mem x fs).mp hx)
  have qa := setI_asc fs
  rw [F_law_mk_leaves_eq]
  generalize setI fs = few at *
  have fin : ∀ (ns : List Int) (p' : T), Pu (k + 1000) p' → ns.Pairwise (· < ·) → (∀ x ∈ ns, 0 ≤ x ∧ x < b) → denB (evSs tb12 d_law_mk_leaves.b) 2 9 [0] [p, .fz (.int b)] = some (.ret (.lst (iT ns)) [some p', none]) →
      ∃ p' ns, Pu (k + 1000) p' ∧ ns.Pairwise (· < ·) ∧ (∀ x ∈ ns, 0 ≤ x ∧ x < b) ∧ denB (evSs tb12 d_law_mk_leaves.b) 2 9 [0] [p, .fz (.int b)] = some (.ret (.lst (iT ns)) [some p', none]) := fun ns p' a1 a2 a3 a4 => ⟨p', ns, a1, a2, a3, a4⟩
  have hw : w = 0 ∨ w = 1 ∨ w = 2 ∨ w = 3 ∨ w = 4 ∨ w = 5 := by omega
  have lb : (rg 0 b.toNat).length ≤ 16777216 := by rw [rg_len]; omega
  rcases hw with rfl | rfl | rfl | rfl | rfl | rfl
  · refine fin few p4 (u5.up (by omega)) qa q0 ?_
    simp -implicitDefEqProofs [denB, finS, d_law_mk_leaves, List.range, List.range.loop, Lw.at_2_0, Lw.at_2_1, Lw.at_4_0, Lw.at_4_1, Lw.at_9_7, Lw.at_11_7, Lw.at_11_10, Lw.at_12_7, Lw.at_12_11, Lw.at_14_13, Lw.at_15_7, Lw.at_17_2, Lw.at_17_3, Lw.at_17_4, Lw.at_17_5, Lw.at_17_8, Lw.at_17_16, Lw.at_18_4, Lw.at_18_7, Lw.at_18_9, Lw.at_18_12, Lw.at_18_14, Lw.at_18_15, Lw.at_18_16, Lw.at_18_17, Lw.at_19_6, Lw.at_19_18, e1, e2, e3, e4, r13, rn, ss, evV1, evKs, pR, fzsR, mvR, callR, callSR, callK0R, callKR, lcR, DL.augR, mm1R, bfR, ioR, evE, evOe, evEs, evVs, evB, evBs, evI, evS, evSs, andR, orR, bR_ok, bR_ex, bR_no, bE_ok, bE_ex, bE_no, bF_nx, bF_ret, bF_bk, bF_ct, bF_ex, bF_no, oR_s, oR_n, evP, d_fz, d_lst, d_tup, o_add, o_adds, o_sub, o_mul, o_fdiv, o_mod, o_pow, o_lt, o_le, o_gt, o_ge, o_eq, o_ne, o_isN, o_isnN, o_in, o_nin, x_fl, x_ft, x_fs, x_l, x_t, b_lens, b_lenl, b_lent, b_lenr, b_int, b_intb, b_abs, b_min, b_max, t_bl, t_int, t_lst, t_tup, t_non, n_int, z_fz, i_ii, i_bi, i_bb, i_ib, nn_int, nn_non, o_neb, o_eqb, l_lst, l_tup, l_int, k_ft, k_t, y_fl, y_l, a_ints, a_ll, a_fl, a_lf, a_ff, m_app, m_ext, s_lst, callD, takeA, putA, retOk, lendA, ioA, isFz, T.sh, T.shs, shE, D.imm, D.imms, rsvPt, evSet, subT, putT, storeG, st_n, st_t, sts_n, sts_c, allFz, allFzA, tupT, evMmP, evMm, lstAt, wipeT, ownsA, pickL, callSt, evT_lit, evT_sl, evT_gl, evT_op, evT_ch, evT_not, evT_and, evT_or, evT_ife, evT_neg, evT_ix, evT_b1, evT_b2, evT_isi, sizeLine_eq, Function.comp_def]
  · have C : lcF (stT (.n 8)) (evBs tb12 CT_law_mk_leaves_3) (evE tb12 CE_law_mk_leaves_3) [8] ((rg 0 b.toNat).map D.int) [some p4, some (.fz (.int b)), some (.lst (few.map fun n => .fz (.int n))), some (.fz (.int 1)), some (.lst (ms.map fun n => .fz (.int n))), none, none, none, none] [] =
        some (.ok (((rg 0 b.toNat).filter fun x => !decide (x ∈ few)).map fun x => .fz (.int x)) [some p4, some (.fz (.int b)), some (.lst (few.map fun n => .fz (.int n))), some (.fz (.int 1)), some (.lst (ms.map fun n => .fz (.int n))), none, none, none, none]) :=
      lc_p (em := D.int) _ _ rfl _ lb fun x _ => ⟨[some p4, some (.fz (.int b)), some (.lst (few.map fun n => .fz (.int n))), some (.fz (.int 1)), some (.lst (ms.map fun n => .fz (.int n))), none, none, none, some (.fz (.int x))], rfl, rfl, by simp -implicitDefEqProofs [CT_law_mk_leaves_3, in_ints, evV1, evKs, pR, fzsR, mvR, callR, callSR, callK0R, callKR, lcR, DL.augR, mm1R, bfR, ioR, evE, evOe, evEs, evVs, evB, evBs, evI, evS, evSs, andR, orR, bR_ok, bR_ex, bR_no, bE_ok, bE_ex, bE_no, bF_nx, bF_ret, bF_bk, bF_ct, bF_ex, bF_no, oR_s, oR_n, evP, d_fz, d_lst, d_tup, o_add, o_adds, o_sub, o_mul, o_fdiv, o_mod, o_pow, o_lt, o_le, o_gt, o_ge, o_eq, o_ne, o_isN, o_isnN, o_in, o_nin, x_fl, x_ft, x_fs, x_l, x_t, b_lens, b_lenl, b_lent, b_lenr, b_int, b_intb, b_abs, b_min, b_max, t_bl, t_int, t_lst, t_tup, t_non, n_int, z_fz, i_ii, i_bi, i_bb, i_ib, nn_int, nn_non, o_neb, o_eqb, l_lst, l_tup, l_int, k_ft, k_t, y_fl, y_l, a_ints, a_ll, a_fl, a_lf, a_ff, m_app, m_ext, s_lst, callD, takeA, putA, retOk, lendA, ioA, isFz, T.sh, T.shs, shE, D.imm, D.imms, rsvPt, evSet, subT, putT, storeG, st_n, st_t, sts_n, sts_c, allFz, allFzA, tupT, evMmP, evMm, lstAt, wipeT, ownsA, pickL, callSt, evT_lit, evT_sl, evT_gl, evT_op, evT_ch, evT_not, evT_and, evT_or, evT_ife, evT_neg, evT_ix, evT_b1, evT_b2, evT_isi, sizeLine_eq, Function.comp_def], fun _ => rfl⟩
    obtain ⟨f1, f2⟩ := flt_rg (b := b) fun x => !decide (x ∈ few)
    refine fin _ p4 (u5.up (by omega)) f1 f2 ?_
    simp -implicitDefEqProofs [denB, finS, d_law_mk_leaves, List.range, List.range.loop, Lw.at_2_0, Lw.at_2_1, Lw.at_4_0, Lw.at_4_1, Lw.at_9_7, Lw.at_11_7, Lw.at_11_10, Lw.at_12_7, Lw.at_12_11, Lw.at_14_13, Lw.at_15_7, Lw.at_17_2, Lw.at_17_3, Lw.at_17_4, Lw.at_17_5, Lw.at_17_8, Lw.at_17_16, Lw.at_18_4, Lw.at_18_7, Lw.at_18_9, Lw.at_18_12, Lw.at_18_14, Lw.at_18_15, Lw.at_18_16, Lw.at_18_17, Lw.at_19_6, Lw.at_19_18, e1, e2, e3, e4, r13, rn, rb, ss, C, evV1, evKs, pR, fzsR, mvR, callR, callSR, callK0R, callKR, lcR, DL.augR, mm1R, bfR, ioR, evE, evOe, evEs, evVs, evB, evBs, evI, evS, evSs, andR, orR, bR_ok, bR_ex, bR_no, bE_ok, bE_ex, bE_no, bF_nx, bF_ret, bF_bk, bF_ct, bF_ex, bF_no, oR_s, oR_n, evP, d_fz, d_lst, d_tup, o_add, o_adds, o_sub, o_mul, o_fdiv, o_mod, o_pow, o_lt, o_le, o_gt, o_ge, o_eq, o_ne, o_isN, o_isnN, o_in, o_nin, x_fl, x_ft, x_fs, x_l, x_t, b_lens, b_lenl, b_lent, b_lenr, b_int, b_intb, b_abs, b_min, b_max, t_bl, t_int, t_lst, t_tup, t_non, n_int, z_fz, i_ii, i_bi, i_bb, i_ib, nn_int, nn_non, o_neb, o_eqb, l_lst, l_tup, l_int, k_ft, k_t, y_fl, y_l, a_ints, a_ll, a_fl, a_lf, a_ff, m_app, m_ext, s_lst, callD, takeA, putA, retOk, lendA, ioA, isFz, T.sh, T.shs, shE, D.imm, D.imms, rsvPt, evSet, subT, putT, storeG, st_n, st_t, sts_n, sts_c, allFz, allFzA, tupT, evMmP, evMm, lstAt, wipeT, ownsA, pickL, callSt, evT_lit, evT_sl, evT_gl, evT_op, evT_ch, evT_not, evT_and, evT_or, evT_ife, evT_neg, evT_ix, evT_b1, evT_b2, evT_isi, sizeLine_eq, Function.comp_def]
  · obtain ⟨p5, st, u6, st1, st2, e5⟩ := part_ok u5 (by omega) b1 b2
    have C := comp4 (few := few) (w := 2) (p := p5) hml b1 b2 st1
    obtain ⟨f1, f2⟩ := flt_rg (b := b) fun x => decide (ms.getD (x % st % 13).toNat 0 = 1)
    have i23 := in_intsT [2, 3] 2
    simp only [List.map] at i23
    refine fin _ p5 (u6.up (by omega)) f1 f2 ?_
    simp -implicitDefEqProofs [denB, finS, d_law_mk_leaves, List.range, List.range.loop, Lw.at_2_0, Lw.at_2_1, Lw.at_4_0, Lw.at_4_1, Lw.at_9_7, Lw.at_11_7, Lw.at_11_10, Lw.at_12_7, Lw.at_12_11, Lw.at_14_13, Lw.at_15_7, Lw.at_17_2, Lw.at_17_3, Lw.at_17_4, Lw.at_17_5, Lw.at_17_8, Lw.at_17_16, Lw.at_18_4, Lw.at_18_7, Lw.at_18_9, Lw.at_18_12, Lw.at_18_14, Lw.at_18_15, Lw.at_18_16, Lw.at_18_17, Lw.at_19_6, Lw.at_19_18, e1, e2, e3, e4, e5, r13, rn, rb, ss, C, i23, evV1, evKs, pR, fzsR, mvR, callR, callSR, callK0R, callKR, lcR, DL.augR, mm1R, bfR, ioR, evE, evOe, evEs, evVs, evB, evBs, evI, evS, evSs, andR, orR, bR_ok, bR_ex, bR_no, bE_ok, bE_ex, bE_no, bF_nx, bF_ret, bF_bk, bF_ct, bF_ex, bF_no, oR_s, oR_n, evP, d_fz, d_lst, d_tup, o_add, o_adds, o_sub, o_mul, o_fdiv, o_mod, o_pow, o_lt, o_le, o_gt, o_ge, o_eq, o_ne, o_isN, o_isnN, o_in, o_nin, x_fl, x_ft, x_fs, x_l, x_t, b_lens, b_lenl, b_lent, b_lenr, b_int, b_intb, b_abs, b_min, b_max, t_bl, t_int, t_lst, t_tup, t_non, n_int, z_fz, i_ii, i_bi, i_bb, i_ib, nn_int, nn_non, o_neb, o_eqb, l_lst, l_tup, l_int, k_ft, k_t, y_fl, y_l, a_ints, a_ll, a_fl, a_lf, a_ff, m_app, m_ext, s_lst, callD, takeA, putA, retOk, lendA, ioA, isFz, T.sh, T.shs, shE, D.imm, D.imms, rsvPt, evSet, subT, putT, storeG, st_n, st_t, sts_n, sts_c, allFz, allFzA, tupT, evMmP, evMm, lstAt, wipeT, ownsA, pickL, callSt, evT_lit, evT_sl, evT_gl, evT_op, evT_ch, evT_not, evT_and, evT_or, evT_ife, evT_neg, evT_ix, evT_b1, evT_b2, evT_isi, sizeLine_eq, Function.comp_def]
  · obtain ⟨p5, st, u6, st1, st2, e5⟩ := part_ok u5 (by omega) b1 b2
    have C := comp4 (few := few) (w := 3) (p := p5) hml b1 b2 st1
    obtain ⟨f1, f2⟩ := flt_rg (b := b) fun x => decide (ms.getD (x % st % 13).toNat 0 = 1)
    have i23 := in_intsT [2, 3] 3
    simp only [List.map] at i23
    have sl2 : ((rg 0 b.toNat).filter fun x => decide (ms.getD (x % st % 13).toNat 0 = 1)).length ≤ 5040 := by
      have := List.length_filter_le (fun x => decide (ms.getD (x % st % 13).toNat 0 = 1)) (rg 0 b.toNat)
      rw [rg_len] at this
      omega
    generalize ((rg 0 b.toNat).filter fun x => decide (ms.getD (x % st % 13).toNat 0 = 1)) = some_ at *
    cases few with
    | nil =>
      refine fin _ p5 (u6.up (by omega)) f1 f2 ?_
      have en : o2 .eq (.lst []) (.lst []) = some (.bl true) := eq_nil []
      simp only [List.map_nil] at C ss
      simp -implicitDefEqProofs [denB, finS, d_law_mk_leaves, List.range, List.range.loop, Lw.at_2_0, Lw.at_2_1, Lw.at_4_0, Lw.at_4_1, Lw.at_9_7, Lw.at_11_7, Lw.at_11_10, Lw.at_12_7, Lw.at_12_11, Lw.at_14_13, Lw.at_15_7, Lw.at_17_2, Lw.at_17_3, Lw.at_17_4, Lw.at_17_5, Lw.at_17_8, Lw.at_17_16, Lw.at_18_4, Lw.at_18_7, Lw.at_18_9, Lw.at_18_12, Lw.at_18_14, Lw.at_18_15, Lw.at_18_16, Lw.at_18_17, Lw.at_19_6, Lw.at_19_18, e1, e2, e3, e4, e5, r13, rn, rb, ss, C, i23, en, evV1, evKs, pR, fzsR, mvR, callR, callSR, callK0R, callKR, lcR, DL.augR, mm1R, bfR, ioR, evE, evOe, evEs, evVs, evB, evBs, evI, evS, evSs, andR, orR, bR_ok, bR_ex, bR_no, bE_ok, bE_ex, bE_no, bF_nx, bF_ret, bF_bk, bF_ct, bF_ex, bF_no, oR_s, oR_n, evP, d_fz, d_lst, d_tup, o_add, o_adds, o_sub, o_mul, o_fdiv, o_mod, o_pow, o_lt, o_le, o_gt, o_ge, o_eq, o_ne, o_isN, o_isnN, o_in, o_nin, x_fl, x_ft, x_fs, x_l, x_t, b_lens, b_lenl, b_lent, b_lenr, b_int, b_intb, b_abs, b_min, b_max, t_bl, t_int, t_lst, t_tup, t_non, n_int, z_fz, i_ii, i_bi, i_bb, i_ib, nn_int, nn_non, o_neb, o_eqb, l_lst, l_tup, l_int, k_ft, k_t, y_fl, y_l, a_ints, a_ll, a_fl, a_lf, a_ff, m_app, m_ext, s_lst, callD, takeA, putA, retOk, lendA, ioA, isFz, T.sh, T.shs, shE, D.imm, D.imms, rsvPt, evSet, subT, putT, storeG, st_n, st_t, sts_n, sts_c, allFz, allFzA, tupT, evMmP, evMm, lstAt, wipeT, ownsA, pickL, callSt, evT_lit, evT_sl, evT_gl, evT_op, evT_ch, evT_not, evT_and, evT_or, evT_ife, evT_neg, evT_ix, evT_b1, evT_b2, evT_isi, sizeLine_eq, Function.comp_def]
    | cons f0 fs' =>
      have en := eq_nil (f0 :: fs')
      simp only [List.map_cons] at en C ss
      have a0 : L2.atI (D.int f0 :: fs'.map D.int) 0 = some (.int f0) := by
        rw [atI_nat (by decide) (by simp only [List.length_cons]; omega)]
        rfl
      have ii := in_ints some_ f0
      by_cases hf : f0 ∈ some_
      · have C5 := comp5 (p := p5) (b := b) (w := some (.fz (.int 3))) (mk := some (.lst (ms.map fun n => .fz (.int n)))) (sp := some (.fz (.int st))) (f0 := f0) (fs := fs') (xs := some_) (by omega)
        refine fin (some_.filter fun x => !decide (x = f0)) p5 (u6.up (by omega)) (f1.filter _) (fun x hx => f2 x (List.mem_filter.mp hx).1) ?_
        simp -implicitDefEqProofs [denB, finS, d_law_mk_leaves, List.range, List.range.loop, Lw.at_2_0, Lw.at_2_1, Lw.at_4_0, Lw.at_4_1, Lw.at_9_7, Lw.at_11_7, Lw.at_11_10, Lw.at_12_7, Lw.at_12_11, Lw.at_14_13, Lw.at_15_7, Lw.at_17_2, Lw.at_17_3, Lw.at_17_4, Lw.at_17_5, Lw.at_17_8, Lw.at_17_16, Lw.at_18_4, Lw.at_18_7, Lw.at_18_9, Lw.at_18_12, Lw.at_18_14, Lw.at_18_15, Lw.at_18_16, Lw.at_18_17, Lw.at_19_6, Lw.at_19_18, e1, e2, e3, e4, e5, r13, rn, rb, ss, C, C5, i23, en, a0, ii, hf, evV1, evKs, pR, fzsR, mvR, callR, callSR, callK0R, callKR, lcR, DL.augR, mm1R, bfR, ioR, evE, evOe, evEs, evVs, evB, evBs, evI, evS, evSs, andR, orR, bR_ok, bR_ex, bR_no, bE_ok, bE_ex, bE_no, bF_nx, bF_ret, bF_bk, bF_ct, bF_ex, bF_no, oR_s, oR_n, evP, d_fz, d_lst, d_tup, o_add, o_adds, o_sub, o_mul, o_fdiv, o_mod, o_pow, o_lt, o_le, o_gt, o_ge, o_eq, o_ne, o_isN, o_isnN, o_in, o_nin, x_fl, x_ft, x_fs, x_l, x_t, b_lens, b_lenl, b_lent, b_lenr, b_int, b_intb, b_abs, b_min, b_max, t_bl, t_int, t_lst, t_tup, t_non, n_int, z_fz, i_ii, i_bi, i_bb, i_ib, nn_int, nn_non, o_neb, o_eqb, l_lst, l_tup, l_int, k_ft, k_t, y_fl, y_l, a_ints, a_ll, a_fl, a_lf, a_ff, m_app, m_ext, s_lst, callD, takeA, putA, retOk, lendA, ioA, isFz, T.sh, T.shs, shE, D.imm, D.imms, rsvPt, evSet, subT, putT, storeG, st_n, st_t, sts_n, sts_c, allFz, allFzA, tupT, evMmP, evMm, lstAt, wipeT, ownsA, pickL, callSt, evT_lit, evT_sl, evT_gl, evT_op, evT_ch, evT_not, evT_and, evT_or, evT_ife, evT_neg, evT_ix, evT_b1, evT_b2, evT_isi, sizeLine_eq, Function.comp_def]
      · have so := bf_sortL (some_ ++ [f0])
        have nd : (some_ ++ [f0]).Nodup := by
          rw [List.nodup_append]
          refine ⟨f1.imp fun h => by omega, by simp, fun x hx y hy => ?_⟩
          rw [List.mem_singleton] at hy
          subst hy
          intro e
          subst e
          exact hf hx
        simp only [iT, List.map_append, List.map_cons, List.map_nil] at so
        have sz : some_.length + 1 ≤ 16777216 := by omega
        refine fin (sortI (some_ ++ [f0])) p5 (u6.up (by omega)) (sort_asc nd) (fun x hx => ?_) ?_
        · rcases List.mem_append.mp (sort_mem.mp hx) with hx | hx
          · exact f2 x hx
          · rw [List.mem_singleton] at hx
            subst hx
            exact q0 _ (by simp)
        · simp -implicitDefEqProofs [denB, finS, d_law_mk_leaves, List.range, List.range.loop, Lw.at_2_0, Lw.at_2_1, Lw.at_4_0, Lw.at_4_1, Lw.at_9_7, Lw.at_11_7, Lw.at_11_10, Lw.at_12_7, Lw.at_12_11, Lw.at_14_13, Lw.at_15_7, Lw.at_17_2, Lw.at_17_3, Lw.at_17_4, Lw.at_17_5, Lw.at_17_8, Lw.at_17_16, Lw.at_18_4, Lw.at_18_7, Lw.at_18_9, Lw.at_18_12, Lw.at_18_14, Lw.at_18_15, Lw.at_18_16, Lw.at_18_17, Lw.at_19_6, Lw.at_19_18, e1, e2, e3, e4, e5, r13, rn, rb, ss, C, i23, en, a0, ii, hf, so, sz, evV1, evKs, pR, fzsR, mvR, callR, callSR, callK0R, callKR, lcR, DL.augR, mm1R, bfR, ioR, evE, evOe, evEs, evVs, evB, evBs, evI, evS, evSs, andR, orR, bR_ok, bR_ex, bR_no, bE_ok, bE_ex, bE_no, bF_nx, bF_ret, bF_bk, bF_ct, bF_ex, bF_no, oR_s, oR_n, evP, d_fz, d_lst, d_tup, o_add, o_adds, o_sub, o_mul, o_fdiv, o_mod, o_pow, o_lt, o_le, o_gt, o_ge, o_eq, o_ne, o_isN, o_isnN, o_in, o_nin, x_fl, x_ft, x_fs, x_l, x_t, b_lens, b_lenl, b_lent, b_lenr, b_int, b_intb, b_abs, b_min, b_max, t_bl, t_int, t_lst, t_tup, t_non, n_int, z_fz, i_ii, i_bi, i_bb, i_ib, nn_int, nn_non, o_neb, o_eqb, l_lst, l_tup, l_int, k_ft, k_t, y_fl, y_l, a_ints, a_ll, a_fl, a_lf, a_ff, m_app, m_ext, s_lst, callD, takeA, putA, retOk, lendA, ioA, isFz, T.sh, T.shs, shE, D.imm, D.imms, rsvPt, evSet, subT, putT, storeG, st_n, st_t, sts_n, sts_c, allFz, allFzA, tupT, evMmP, evMm, lstAt, wipeT, ownsA, pickL, callSt, evT_lit, evT_sl, evT_gl, evT_op, evT_ch, evT_not, evT_and, evT_or, evT_ife, evT_neg, evT_ix, evT_b1, evT_b2, evT_isi, sizeLine_eq, Function.comp_def]
  · have C : lcF (stT (.n 8)) (evBs tb12 CT_law_mk_leaves_6) (evE tb12 CE_law_mk_leaves_6) [8] ((rg 0 b.toNat).map D.int) [some p4, some (.fz (.int b)), some (.lst (few.map fun n => .fz (.int n))), some (.fz (.int 4)), some (.lst (ms.map fun n => .fz (.int n))), none, none, none, none] [] =
        some (.ok (((rg 0 b.toNat).filter fun x => decide (ms.getD (x % 13).toNat 0 = 1)).map fun x => .fz (.int x)) [some p4, some (.fz (.int b)), some (.lst (few.map fun n => .fz (.int n))), some (.fz (.int 4)), some (.lst (ms.map fun n => .fz (.int n))), none, none, none, none]) :=
      lc_p (em := D.int) _ _ rfl _ lb fun x _ => ⟨[some p4, some (.fz (.int b)), some (.lst (few.map fun n => .fz (.int n))), some (.fz (.int 4)), some (.lst (ms.map fun n => .fz (.int n))), none, none, none, some (.fz (.int x))], rfl, rfl, by
        have a := at_g (ns := ms) (r := x % 13) (Int.emod_nonneg _ (by decide)) (by rw [hml]; exact Int.emod_lt_of_pos _ (by decide))
        simp -implicitDefEqProofs [CT_law_mk_leaves_6, a, evV1, evKs, pR, fzsR, mvR, callR, callSR, callK0R, callKR, lcR, DL.augR, mm1R, bfR, ioR, evE, evOe, evEs, evVs, evB, evBs, evI, evS, evSs, andR, orR, bR_ok, bR_ex, bR_no, bE_ok, bE_ex, bE_no, bF_nx, bF_ret, bF_bk, bF_ct, bF_ex, bF_no, oR_s, oR_n, evP, d_fz, d_lst, d_tup, o_add, o_adds, o_sub, o_mul, o_fdiv, o_mod, o_pow, o_lt, o_le, o_gt, o_ge, o_eq, o_ne, o_isN, o_isnN, o_in, o_nin, x_fl, x_ft, x_fs, x_l, x_t, b_lens, b_lenl, b_lent, b_lenr, b_int, b_intb, b_abs, b_min, b_max, t_bl, t_int, t_lst, t_tup, t_non, n_int, z_fz, i_ii, i_bi, i_bb, i_ib, nn_int, nn_non, o_neb, o_eqb, l_lst, l_tup, l_int, k_ft, k_t, y_fl, y_l, a_ints, a_ll, a_fl, a_lf, a_ff, m_app, m_ext, s_lst, callD, takeA, putA, retOk, lendA, ioA, isFz, T.sh, T.shs, shE, D.imm, D.imms, rsvPt, evSet, subT, putT, storeG, st_n, st_t, sts_n, sts_c, allFz, allFzA, tupT, evMmP, evMm, lstAt, wipeT, ownsA, pickL, callSt, evT_lit, evT_sl, evT_gl, evT_op, evT_ch, evT_not, evT_and, evT_or, evT_ife, evT_neg, evT_ix, evT_b1, evT_b2, evT_isi, sizeLine_eq, Function.comp_def], fun _ => rfl⟩
    obtain ⟨f1, f2⟩ := flt_rg (b := b) fun x => decide (ms.getD (x % 13).toNat 0 = 1)
    have i23 := in_intsT [2, 3] 4
    simp only [List.map] at i23
    refine fin _ p4 (u5.up (by omega)) f1 f2 ?_
    simp -implicitDefEqProofs [denB, finS, d_law_mk_leaves, List.range, List.range.loop, Lw.at_2_0, Lw.at_2_1, Lw.at_4_0, Lw.at_4_1, Lw.at_9_7, Lw.at_11_7, Lw.at_11_10, Lw.at_12_7, Lw.at_12_11, Lw.at_14_13, Lw.at_15_7, Lw.at_17_2, Lw.at_17_3, Lw.at_17_4, Lw.at_17_5, Lw.at_17_8, Lw.at_17_16, Lw.at_18_4, Lw.at_18_7, Lw.at_18_9, Lw.at_18_12, Lw.at_18_14, Lw.at_18_15, Lw.at_18_16, Lw.at_18_17, Lw.at_19_6, Lw.at_19_18, e1, e2, e3, e4, r13, rn, rb, ss, C, i23, evV1, evKs, pR, fzsR, mvR, callR, callSR, callK0R, callKR, lcR, DL.augR, mm1R, bfR, ioR, evE, evOe, evEs, evVs, evB, evBs, evI, evS, evSs, andR, orR, bR_ok, bR_ex, bR_no, bE_ok, bE_ex, bE_no, bF_nx, bF_ret, bF_bk, bF_ct, bF_ex, bF_no, oR_s, oR_n, evP, d_fz, d_lst, d_tup, o_add, o_adds, o_sub, o_mul, o_fdiv, o_mod, o_pow, o_lt, o_le, o_gt, o_ge, o_eq, o_ne, o_isN, o_isnN, o_in, o_nin, x_fl, x_ft, x_fs, x_l, x_t, b_lens, b_lenl, b_lent, b_lenr, b_int, b_intb, b_abs, b_min, b_max, t_bl, t_int, t_lst, t_tup, t_non, n_int, z_fz, i_ii, i_bi, i_bb, i_ib, nn_int, nn_non, o_neb, o_eqb, l_lst, l_tup, l_int, k_ft, k_t, y_fl, y_l, a_ints, a_ll, a_fl, a_lf, a_ff, m_app, m_ext, s_lst, callD, takeA, putA, retOk, lendA, ioA, isFz, T.sh, T.shs, shE, D.imm, D.imms, rsvPt, evSet, subT, putT, storeG, st_n, st_t, sts_n, sts_c, allFz, allFzA, tupT, evMmP, evMm, lstAt, wipeT, ownsA, pickL, callSt, evT_lit, evT_sl, evT_gl, evT_op, evT_ch, evT_not, evT_and, evT_or, evT_ife, evT_neg, evT_ix, evT_b1, evT_b2, evT_isi, sizeLine_eq, Function.comp_def]
  · obtain ⟨v, _, a⟩ := at_i (ns := ms) (r := 0) (by decide) (by rw [hml]; decide)
    have i23 := in_intsT [2, 3] 5
    simp only [List.map] at i23
    have lr := lrg (i := 0) (j := b) (by decide) (by omega) (by omega) (by decide)
    by_cases hm : v = 1
    · refine fin (rg 0 b.toNat) p4 (u5.up (by omega)) (rg_asc 0 _) (fun x hx => by have := mem_rg.mp hx; omega) ?_
      have e9 : (b - 0).toNat = b.toNat := by omega
      rw [e9] at lr
      simp -implicitDefEqProofs [denB, finS, d_law_mk_leaves, List.range, List.range.loop, Lw.at_2_0, Lw.at_2_1, Lw.at_4_0, Lw.at_4_1, Lw.at_9_7, Lw.at_11_7, Lw.at_11_10, Lw.at_12_7, Lw.at_12_11, Lw.at_14_13, Lw.at_15_7, Lw.at_17_2, Lw.at_17_3, Lw.at_17_4, Lw.at_17_5, Lw.at_17_8, Lw.at_17_16, Lw.at_18_4, Lw.at_18_7, Lw.at_18_9, Lw.at_18_12, Lw.at_18_14, Lw.at_18_15, Lw.at_18_16, Lw.at_18_17, Lw.at_19_6, Lw.at_19_18, e1, e2, e3, e4, r13, rn, rb, ss, a, hm, lr, i23, evV1, evKs, pR, fzsR, mvR, callR, callSR, callK0R, callKR, lcR, DL.augR, mm1R, bfR, ioR, evE, evOe, evEs, evVs, evB, evBs, evI, evS, evSs, andR, orR, bR_ok, bR_ex, bR_no, bE_ok, bE_ex, bE_no, bF_nx, bF_ret, bF_bk, bF_ct, bF_ex, bF_no, oR_s, oR_n, evP, d_fz, d_lst, d_tup, o_add, o_adds, o_sub, o_mul, o_fdiv, o_mod, o_pow, o_lt, o_le, o_gt, o_ge, o_eq, o_ne, o_isN, o_isnN, o_in, o_nin, x_fl, x_ft, x_fs, x_l, x_t, b_lens, b_lenl, b_lent, b_lenr, b_int, b_intb, b_abs, b_min, b_max, t_bl, t_int, t_lst, t_tup, t_non, n_int, z_fz, i_ii, i_bi, i_bb, i_ib, nn_int, nn_non, o_neb, o_eqb, l_lst, l_tup, l_int, k_ft, k_t, y_fl, y_l, a_ints, a_ll, a_fl, a_lf, a_ff, m_app, m_ext, s_lst, callD, takeA, putA, retOk, lendA, ioA, isFz, T.sh, T.shs, shE, D.imm, D.imms, rsvPt, evSet, subT, putT, storeG, st_n, st_t, sts_n, sts_c, allFz, allFzA, tupT, evMmP, evMm, lstAt, wipeT, ownsA, pickL, callSt, evT_lit, evT_sl, evT_gl, evT_op, evT_ch, evT_not, evT_and, evT_or, evT_ife, evT_neg, evT_ix, evT_b1, evT_b2, evT_isi, sizeLine_eq, Function.comp_def]
    · refine fin [] p4 (u5.up (by omega)) List.Pairwise.nil (fun x hx => nomatch hx) ?_
      simp -implicitDefEqProofs [denB, finS, d_law_mk_leaves, List.range, List.range.loop, Lw.at_2_0, Lw.at_2_1, Lw.at_4_0, Lw.at_4_1, Lw.at_9_7, Lw.at_11_7, Lw.at_11_10, Lw.at_12_7, Lw.at_12_11, Lw.at_14_13, Lw.at_15_7, Lw.at_17_2, Lw.at_17_3, Lw.at_17_4, Lw.at_17_5, Lw.at_17_8, Lw.at_17_16, Lw.at_18_4, Lw.at_18_7, Lw.at_18_9, Lw.at_18_12, Lw.at_18_14, Lw.at_18_15, Lw.at_18_16, Lw.at_18_17, Lw.at_19_6, Lw.at_19_18, e1, e2, e3, e4, r13, rn, rb, ss, a, hm, i23, evV1, evKs, pR, fzsR, mvR, callR, callSR, callK0R, callKR, lcR, DL.augR, mm1R, bfR, ioR, evE, evOe, evEs, evVs, evB, evBs, evI, evS, evSs, andR, orR, bR_ok, bR_ex, bR_no, bE_ok, bE_ex, bE_no, bF_nx, bF_ret, bF_bk, bF_ct, bF_ex, bF_no, oR_s, oR_n, evP, d_fz, d_lst, d_tup, o_add, o_adds, o_sub, o_mul, o_fdiv, o_mod, o_pow, o_lt, o_le, o_gt, o_ge, o_eq, o_ne, o_isN, o_isnN, o_in, o_nin, x_fl, x_ft, x_fs, x_l, x_t, b_lens, b_lenl, b_lent, b_lenr, b_int, b_intb, b_abs, b_min, b_max, t_bl, t_int, t_lst, t_tup, t_non, n_int, z_fz, i_ii, i_bi, i_bb, i_ib, nn_int, nn_non, o_neb, o_eqb, l_lst, l_tup, l_int, k_ft, k_t, y_fl, y_l, a_ints, a_ll, a_fl, a_lf, a_ff, m_app, m_ext, s_lst, callD, takeA, putA, retOk, lendA, ioA, isFz, T.sh, T.shs, shE, D.imm, D.imms, rsvPt, evSet, subT, putT, storeG, st_n, st_t, sts_n, sts_c, allFz, allFzA, tupT, evMmP, evMm, lstAt, wipeT, ownsA, pickL, callSt, evT_lit, evT_sl, evT_gl, evT_op, evT_ch, evT_not, evT_and, evT_or, evT_ife, evT_neg, evT_ix, evT_b1, evT_b2, evT_isi, sizeLine_eq, Function.comp_def]
end Lw
namespace Lw
open PySem DL
theorem spread_ok {e : Int} {ns : List Int} (l : Lot e ns) : F_law_mk_spread [.fz (lotD e ns), .fz (.int e)] = some (.ret (.lst (iT ns)) [none, none]) := by
  have l1 := l.e1
  have l2 := l.e2
  have ln := l.len
  have r3 : rng3D (.int 0) (.int e) (.int e) = some [.int 0] := by
    have sz : Builtin.Range.rangeSize 0 e e = 1 := by
      unfold Builtin.Range.rangeSize
      rw [if_pos (by omega), if_pos (by omega), Int.ediv_eq_zero_of_lt (by omega) (by omega)]
      rfl
    have sm : Builtin.Range.small 0 e e = true := by
      unfold Builtin.Range.small
      rw [sz]
      have c0 : e > 0 := by omega
      simp only [Builtin.Range.rangeFitsLong, Bool.and_eq_true, Bool.or_eq_true, decide_eq_true_eq, beq_iff_eq, c0, if_true]
      omega
    show (if e ≠ 0 ∧ e.natAbs < 1073741824 ∧ Builtin.Range.small 0 e e = true ∧ 0 ≤ Builtin.Range.rangeSize 0 e e then some (rngL 0 e (Builtin.Range.rangeSize 0 e e).toNat) else none) = _
    rw [if_pos ⟨by omega, by omega, sm, by rw [sz]; decide⟩, sz]
    rfl
  have C : lcF (stT (.n 4)) (evBs tb13 CT_law_mk_spread_1) (evE tb13 CE_law_mk_spread_1) [4] (ns.map D.int) [some (.fz (lotD e ns)), some (.fz (.int e)), some (.lst []), some (.fz (.int 0)), none] [] =
      some (.ok (ns.map fun x => .fz (.int x)) [some (.fz (lotD e ns)), some (.fz (.int e)), some (.lst []), some (.fz (.int 0)), none]) :=
    lc_m (em := D.int) _ rfl ns (by omega) fun x hx => ⟨[some (.fz (lotD e ns)), some (.fz (.int e)), some (.lst []), some (.fz (.int 0)), some (.fz (.int x))], rfl, rfl, rfl, by simp -implicitDefEqProofs [CE_law_mk_spread_1, evV1, evKs, pR, fzsR, mvR, callR, callSR, callK0R, callKR, lcR, DL.augR, mm1R, bfR, ioR, evE, evOe, evEs, evVs, evB, evBs, evI, evS, evSs, andR, orR, bR_ok, bR_ex, bR_no, bE_ok, bE_ex, bE_no, bF_nx, bF_ret, bF_bk, bF_ct, bF_ex, bF_no, oR_s, oR_n, evP, d_fz, d_lst, d_tup, o_add, o_adds, o_sub, o_mul, o_fdiv, o_mod, o_pow, o_lt, o_le, o_gt, o_ge, o_eq, o_ne, o_isN, o_isnN, o_in, o_nin, x_fl, x_ft, x_fs, x_l, x_t, b_lens, b_lenl, b_lent, b_lenr, b_int, b_intb, b_abs, b_min, b_max, t_bl, t_int, t_lst, t_tup, t_non, n_int, z_fz, i_ii, i_bi, i_bb, i_ib, nn_int, nn_non, o_neb, o_eqb, l_lst, l_tup, l_int, k_ft, k_t, y_fl, y_l, a_ints, a_ll, a_fl, a_lf, a_ff, m_app, m_ext, s_lst, callD, takeA, putA, retOk, lendA, ioA, isFz, T.sh, T.shs, shE, D.imm, D.imms, rsvPt, evSet, subT, putT, storeG, st_n, st_t, sts_n, sts_c, allFz, allFzA, tupT, evMmP, evMm, lstAt, wipeT, ownsA, pickL, callSt, evT_lit, evT_sl, evT_gl, evT_op, evT_ch, evT_not, evT_and, evT_or, evT_ife, evT_neg, evT_ix, evT_b1, evT_b2, evT_isi, sizeLine_eq, Function.comp_def]⟩
  have a1 : L2.atI [D.int e, D.lst (ns.map D.int)] 1 = some (.lst (ns.map D.int)) := rfl
  have a0 : L2.atI [D.int e, D.lst (ns.map D.int)] 0 = some (.int e) := rfl
  have sz : ns.length ≤ 16777216 := by omega
  rw [F_law_mk_spread_eq]
  simp -implicitDefEqProofs [denB, finS, d_law_mk_spread, List.range, List.range.loop, B_law_mk_spread_1, forF, Mm, r3, C, a0, a1, sz, evV1, evKs, pR, fzsR, mvR, callR, callSR, callK0R, callKR, lcR, DL.augR, mm1R, bfR, ioR, evE, evOe, evEs, evVs, evB, evBs, evI, evS, evSs, andR, orR, bR_ok, bR_ex, bR_no, bE_ok, bE_ex, bE_no, bF_nx, bF_ret, bF_bk, bF_ct, bF_ex, bF_no, oR_s, oR_n, evP, d_fz, d_lst, d_tup, o_add, o_adds, o_sub, o_mul, o_fdiv, o_mod, o_pow, o_lt, o_le, o_gt, o_ge, o_eq, o_ne, o_isN, o_isnN, o_in, o_nin, x_fl, x_ft, x_fs, x_l, x_t, b_lens, b_lenl, b_lent, b_lenr, b_int, b_intb, b_abs, b_min, b_max, t_bl, t_int, t_lst, t_tup, t_non, n_int, z_fz, i_ii, i_bi, i_bb, i_ib, nn_int, nn_non, o_neb, o_eqb, l_lst, l_tup, l_int, k_ft, k_t, y_fl, y_l, a_ints, a_ll, a_fl, a_lf, a_ff, m_app, m_ext, s_lst, callD, takeA, putA, retOk, lendA, ioA, isFz, T.sh, T.shs, shE, D.imm, D.imms, rsvPt, evSet, subT, putT, storeG, st_n, st_t, sts_n, sts_c, allFz, allFzA, tupT, evMmP, evMm, lstAt, wipeT, ownsA, pickL, callSt, evT_lit, evT_sl, evT_gl, evT_op, evT_ch, evT_not, evT_and, evT_or, evT_ife, evT_neg, evT_ix, evT_b1, evT_b2, evT_isi, sizeLine_eq, Function.comp_def]
theorem rg_set {b : Nat} {i : Int} {f : Int → T} {v : T} (h0 : 0 ≤ i) : ((rg 0 b).map f).set i.toNat v = (rg 0 b).map fun x => if x = i then v else f x := by
  refine List.ext_getElem? fun j => ?_
  rw [List.getElem?_set]
  simp only [List.getElem?_map, List.length_map, rg_len]
  unfold rg
  simp only [List.getElem?_map]
  by_cases hj : j < b
  · rw [List.getElem?_range hj]
    simp only [Option.map_some]
    by_cases e : i.toNat = j
    · rw [if_pos e, if_pos (by omega), if_pos (by omega)]
    · rw [if_neg e, if_neg (by omega)]
  · rw [List.getElem?_eq_none (by simpa using hj)]
    simp only [Option.map_none]
    split
    · rw [if_neg (by omega)]
    · rfl
def mkT (b : Int) (ns : List Int) : List T := (rg 0 b.toNat).map fun i => .fz (.bl (decide (i ∈ ns)))
theorem marks_ok {e : Int} {ns : List Int} (l : Lot e ns) : F_law_mk_marks [.fz (lotD e ns), .fz (.int e)] = some (.ret (.lst (mkT e ns)) [none, none]) := by
  have l1 := l.e1
  have l2 := l.e2
  have ln := l.len
  have sp := spread_ok l
  have rb := r1 (j := e) (by omega) (by omega)
  have C : lcF (stT (.n 4)) (evBs tb14 CT_law_mk_marks_1) (evE tb14 CE_law_mk_marks_1) [4] ((rg 0 e.toNat).map D.int) [some (.fz (lotD e ns)), some (.fz (.int e)), none, none, none] [] =
      some (.ok ((rg 0 e.toNat).map fun x => .fz (.bl false)) [some (.fz (lotD e ns)), some (.fz (.int e)), none, none, none]) :=
    lc_m (em := D.int) _ rfl _ (by rw [rg_len]; omega) fun x hx => ⟨[some (.fz (lotD e ns)), some (.fz (.int e)), none, none, some (.fz (.int x))], rfl, rfl, rfl, rfl⟩
  have L : ∃ ρ', forF (stT (.n 3)) (evSs tb14 B_law_mk_marks_1) (ns.map D.int) [none, some (.fz (.int e)), some (.lst ((rg 0 e.toNat).map fun x => .fz (.bl false))), none, none] = some (.nx ρ') ∧ ∃ o, ρ' = [none, some (.fz (.int e)), some (.lst (mkT e ns)), o, none] := by
    refine for_ints (fun done _ ρ' => ∃ o, ρ' = [none, some (.fz (.int e)), some (.lst (mkT e done)), o, none]) ⟨none, by simp [mkT]⟩ ?_
    rintro done x r ρ ed ⟨o, rfl⟩
    obtain ⟨x0, x1⟩ := l.rng x (by rw [ed]; simp)
    refine ⟨_, rfl, _, .inl ?_, some (.fz (.int x)), rfl⟩
    have ix : L2.ixN (mkT e done).length x = some x.toNat := by
      unfold L2.ixN mkT
      rw [List.length_map, rg_len, if_pos x0, if_pos (by omega)]
    have st : (mkT e done).set x.toNat (.fz (.bl true)) = mkT e (done ++ [x]) := by
      unfold mkT
      rw [rg_set x0]
      refine List.map_congr_left fun i _ => ?_
      by_cases h : i = x
      · subst h; simp
      · simp [h]
    simp -implicitDefEqProofs [B_law_mk_marks_1, ix, st, evV1, evKs, pR, fzsR, mvR, callR, callSR, callK0R, callKR, lcR, DL.augR, mm1R, bfR, ioR, evE, evOe, evEs, evVs, evB, evBs, evI, evS, evSs, andR, orR, bR_ok, bR_ex, bR_no, bE_ok, bE_ex, bE_no, bF_nx, bF_ret, bF_bk, bF_ct, bF_ex, bF_no, oR_s, oR_n, evP, d_fz, d_lst, d_tup, o_add, o_adds, o_sub, o_mul, o_fdiv, o_mod, o_pow, o_lt, o_le, o_gt, o_ge, o_eq, o_ne, o_isN, o_isnN, o_in, o_nin, x_fl, x_ft, x_fs, x_l, x_t, b_lens, b_lenl, b_lent, b_lenr, b_int, b_intb, b_abs, b_min, b_max, t_bl, t_int, t_lst, t_tup, t_non, n_int, z_fz, i_ii, i_bi, i_bb, i_ib, nn_int, nn_non, o_neb, o_eqb, l_lst, l_tup, l_int, k_ft, k_t, y_fl, y_l, a_ints, a_ll, a_fl, a_lf, a_ff, m_app, m_ext, s_lst, callD, takeA, putA, retOk, lendA, ioA, isFz, T.sh, T.shs, shE, D.imm, D.imms, rsvPt, evSet, subT, putT, storeG, st_n, st_t, sts_n, sts_c, allFz, allFzA, tupT, evMmP, evMm, lstAt, wipeT, ownsA, pickL, callSt, evT_lit, evT_sl, evT_gl, evT_op, evT_ch, evT_not, evT_and, evT_or, evT_ife, evT_neg, evT_ix, evT_b1, evT_b2, evT_isi, sizeLine_eq, Function.comp_def]
  obtain ⟨ρ', e1, o, rfl⟩ := L
  rw [F_law_mk_marks_eq]
  simp -implicitDefEqProofs [denB, finS, d_law_mk_marks, List.range, List.range.loop, Lw.at_2_0, Lw.at_2_1, Lw.at_4_0, Lw.at_4_1, Lw.at_9_7, Lw.at_11_7, Lw.at_11_10, Lw.at_12_7, Lw.at_12_11, Lw.at_14_13, Lw.at_15_7, Lw.at_17_2, Lw.at_17_3, Lw.at_17_4, Lw.at_17_5, Lw.at_17_8, Lw.at_17_16, Lw.at_18_4, Lw.at_18_7, Lw.at_18_9, Lw.at_18_12, Lw.at_18_14, Lw.at_18_15, Lw.at_18_16, Lw.at_18_17, Lw.at_19_6, Lw.at_19_18, rb, C, sp, e1, evV1, evKs, pR, fzsR, mvR, callR, callSR, callK0R, callKR, lcR, DL.augR, mm1R, bfR, ioR, evE, evOe, evEs, evVs, evB, evBs, evI, evS, evSs, andR, orR, bR_ok, bR_ex, bR_no, bE_ok, bE_ex, bE_no, bF_nx, bF_ret, bF_bk, bF_ct, bF_ex, bF_no, oR_s, oR_n, evP, d_fz, d_lst, d_tup, o_add, o_adds, o_sub, o_mul, o_fdiv, o_mod, o_pow, o_lt, o_le, o_gt, o_ge, o_eq, o_ne, o_isN, o_isnN, o_in, o_nin, x_fl, x_ft, x_fs, x_l, x_t, b_lens, b_lenl, b_lent, b_lenr, b_int, b_intb, b_abs, b_min, b_max, t_bl, t_int, t_lst, t_tup, t_non, n_int, z_fz, i_ii, i_bi, i_bb, i_ib, nn_int, nn_non, o_neb, o_eqb, l_lst, l_tup, l_int, k_ft, k_t, y_fl, y_l, a_ints, a_ll, a_fl, a_lf, a_ff, m_app, m_ext, s_lst, callD, takeA, putA, retOk, lendA, ioA, isFz, T.sh, T.shs, shE, D.imm, D.imms, rsvPt, evSet, subT, putT, storeG, st_n, st_t, sts_n, sts_c, allFz, allFzA, tupT, evMmP, evMm, lstAt, wipeT, ownsA, pickL, callSt, evT_lit, evT_sl, evT_gl, evT_op, evT_ch, evT_not, evT_and, evT_or, evT_ife, evT_neg, evT_ix, evT_b1, evT_b2, evT_isi, sizeLine_eq, Function.comp_def]
def mkD (b : Int) (ns : List Int) : List D := (rg 0 b.toNat).map fun i => .bl (decide (i ∈ ns))
theorem d_mkT (b : Int) (ns : List Int) : (mkT b ns).map T.d = mkD b ns := by
  unfold mkT mkD
  rw [List.map_map]
  rfl
theorem at_mk {b i : Int} {ns : List Int} (h0 : 0 ≤ i) (h1 : i < b) : L2.atI (mkD b ns) i = some (.bl (decide (i ∈ ns))) := by
  have hl : (mkD b ns).length = b.toNat := by unfold mkD; rw [List.length_map, rg_len]
  rw [atI_nat h0 (by rw [hl]; omega)]
  unfold mkD rg
  rw [List.getElem?_map, List.getElem?_map, List.getElem?_range (by omega)]
  simp only [Option.map_some]
  have : (0 + (i.toNat : Int)) = i := by omega
  rw [this]
theorem rg_lot {e : Int} {ns : List Int} (l : Lot e ns) : ((rg 0 e.toNat).filter fun s => decide (s ∈ ns)) = ns := by
  have l1 := l.e1
  refine asc_uniq ((rg_asc 0 _).filter _) l.asc fun k => ?_
  rw [List.mem_filter, mem_rg]
  constructor
  · intro h
    simpa using h.2
  · intro h
    have := l.rng k h
    exact ⟨by omega, by simpa using h⟩
end Lw
namespace Lw
open PySem DL
theorem moment_ok {k : Nat} {p : T} (h : Pu k p) (hk : k + 1 ≤ 2 ^ 60) : ∃ p' m, Pu (k + 2) p' ∧ 0 ≤ m ∧ m ≤ 1000000000000000000000000000000 ∧ F_law_mk_moment [p] = some (.ret (.fz (.int m)) [some p']) := by
  obtain ⟨p1, w, u1, w0, w1, e1⟩ := coin_ok h (by omega) (n := 5) (by decide) (by decide)
  rw [F_law_mk_moment_eq]
  by_cases hw : w = 4
  · subst hw
    obtain ⟨p2, r, u2, r0, r1, e2⟩ := coin_ok u1 (by omega) (n := 900) (by decide) (by decide)
    refine ⟨p2, 1000000000000000000000000000000 - r, u2, by omega, by omega, ?_⟩
    simp -implicitDefEqProofs [denB, finS, d_law_mk_moment, List.range, List.range.loop, Lw.at_2_0, Lw.at_2_1, Lw.at_4_0, Lw.at_4_1, Lw.at_9_7, Lw.at_11_7, Lw.at_11_10, Lw.at_12_7, Lw.at_12_11, Lw.at_14_13, Lw.at_15_7, Lw.at_17_2, Lw.at_17_3, Lw.at_17_4, Lw.at_17_5, Lw.at_17_8, Lw.at_17_16, Lw.at_18_4, Lw.at_18_7, Lw.at_18_9, Lw.at_18_12, Lw.at_18_14, Lw.at_18_15, Lw.at_18_16, Lw.at_18_17, Lw.at_19_6, Lw.at_19_18, e1, e2, pw30, evV1, evKs, pR, fzsR, mvR, callR, callSR, callK0R, callKR, lcR, DL.augR, mm1R, bfR, ioR, evE, evOe, evEs, evVs, evB, evBs, evI, evS, evSs, andR, orR, bR_ok, bR_ex, bR_no, bE_ok, bE_ex, bE_no, bF_nx, bF_ret, bF_bk, bF_ct, bF_ex, bF_no, oR_s, oR_n, evP, d_fz, d_lst, d_tup, o_add, o_adds, o_sub, o_mul, o_fdiv, o_mod, o_pow, o_lt, o_le, o_gt, o_ge, o_eq, o_ne, o_isN, o_isnN, o_in, o_nin, x_fl, x_ft, x_fs, x_l, x_t, b_lens, b_lenl, b_lent, b_lenr, b_int, b_intb, b_abs, b_min, b_max, t_bl, t_int, t_lst, t_tup, t_non, n_int, z_fz, i_ii, i_bi, i_bb, i_ib, nn_int, nn_non, o_neb, o_eqb, l_lst, l_tup, l_int, k_ft, k_t, y_fl, y_l, a_ints, a_ll, a_fl, a_lf, a_ff, m_app, m_ext, s_lst, callD, takeA, putA, retOk, lendA, ioA, isFz, T.sh, T.shs, shE, D.imm, D.imms, rsvPt, evSet, subT, putT, storeG, st_n, st_t, sts_n, sts_c, allFz, allFzA, tupT, evMmP, evMm, lstAt, wipeT, ownsA, pickL, callSt, evT_lit, evT_sl, evT_gl, evT_op, evT_ch, evT_not, evT_and, evT_or, evT_ife, evT_neg, evT_ix, evT_b1, evT_b2, evT_isi, sizeLine_eq, Function.comp_def]
  · obtain ⟨x, hx, em⟩ := at_i (ns := [9, 40, 1700, 1000000000000000000000000000001]) (r := w) w0 (by simp; omega)
    have hx2 : 0 < x ∧ x ≤ 1000000000000000000000000000001 := by
      simp at hx
      omega
    simp only [iT, List.map] at em
    obtain ⟨p2, r, u2, r0, r1, e2⟩ := coin_ok u1 (by omega) (n := x) hx2.1 (by omega)
    refine ⟨p2, r, u2, r0, by omega, ?_⟩
    simp -implicitDefEqProofs [denB, finS, d_law_mk_moment, List.range, List.range.loop, Lw.at_2_0, Lw.at_2_1, Lw.at_4_0, Lw.at_4_1, Lw.at_9_7, Lw.at_11_7, Lw.at_11_10, Lw.at_12_7, Lw.at_12_11, Lw.at_14_13, Lw.at_15_7, Lw.at_17_2, Lw.at_17_3, Lw.at_17_4, Lw.at_17_5, Lw.at_17_8, Lw.at_17_16, Lw.at_18_4, Lw.at_18_7, Lw.at_18_9, Lw.at_18_12, Lw.at_18_14, Lw.at_18_15, Lw.at_18_16, Lw.at_18_17, Lw.at_19_6, Lw.at_19_18, e1, hw, pw30, em, e2, evV1, evKs, pR, fzsR, mvR, callR, callSR, callK0R, callKR, lcR, DL.augR, mm1R, bfR, ioR, evE, evOe, evEs, evVs, evB, evBs, evI, evS, evSs, andR, orR, bR_ok, bR_ex, bR_no, bE_ok, bE_ex, bE_no, bF_nx, bF_ret, bF_bk, bF_ct, bF_ex, bF_no, oR_s, oR_n, evP, d_fz, d_lst, d_tup, o_add, o_adds, o_sub, o_mul, o_fdiv, o_mod, o_pow, o_lt, o_le, o_gt, o_ge, o_eq, o_ne, o_isN, o_isnN, o_in, o_nin, x_fl, x_ft, x_fs, x_l, x_t, b_lens, b_lenl, b_lent, b_lenr, b_int, b_intb, b_abs, b_min, b_max, t_bl, t_int, t_lst, t_tup, t_non, n_int, z_fz, i_ii, i_bi, i_bb, i_ib, nn_int, nn_non, o_neb, o_eqb, l_lst, l_tup, l_int, k_ft, k_t, y_fl, y_l, a_ints, a_ll, a_fl, a_lf, a_ff, m_app, m_ext, s_lst, callD, takeA, putA, retOk, lendA, ioA, isFz, T.sh, T.shs, shE, D.imm, D.imms, rsvPt, evSet, subT, putT, storeG, st_n, st_t, sts_n, sts_c, allFz, allFzA, tupT, evMmP, evMm, lstAt, wipeT, ownsA, pickL, callSt, evT_lit, evT_sl, evT_gl, evT_op, evT_ch, evT_not, evT_and, evT_or, evT_ife, evT_neg, evT_ix, evT_b1, evT_b2, evT_isi, sizeLine_eq, Function.comp_def]
end Lw
namespace Lw
open PySem DL
/-! ### a day and the next one -/
theorem days_ok {a : Int} (a0 : 0 ≤ a) : F_check_days [.fz (.tup [.int a])] = some (.ret (.fz .non) [none]) := by
  rw [F_check_days_eq]
  simp -implicitDefEqProofs [denB, finS, d_check_days, List.range, List.range.loop, forF, B_check_days_1, Int.not_lt.mpr a0, evV1, evKs, pR, fzsR, mvR, callR, callSR, callK0R, callKR, lcR, DL.augR, mm1R, bfR, ioR, evE, evOe, evEs, evVs, evB, evBs, evI, evS, evSs, andR, orR, bR_ok, bR_ex, bR_no, bE_ok, bE_ex, bE_no, bF_nx, bF_ret, bF_bk, bF_ct, bF_ex, bF_no, oR_s, oR_n, evP, d_fz, d_lst, d_tup, o_add, o_adds, o_sub, o_mul, o_fdiv, o_mod, o_pow, o_lt, o_le, o_gt, o_ge, o_eq, o_ne, o_isN, o_isnN, o_in, o_nin, x_fl, x_ft, x_fs, x_l, x_t, b_lens, b_lenl, b_lent, b_lenr, b_int, b_intb, b_abs, b_min, b_max, t_bl, t_int, t_lst, t_tup, t_non, n_int, z_fz, i_ii, i_bi, i_bb, i_ib, nn_int, nn_non, o_neb, o_eqb, l_lst, l_tup, l_int, k_ft, k_t, y_fl, y_l, a_ints, a_ll, a_fl, a_lf, a_ff, m_app, m_ext, s_lst, callD, takeA, putA, retOk, lendA, ioA, isFz, T.sh, T.shs, shE, D.imm, D.imms, rsvPt, evSet, subT, putT, storeG, st_n, st_t, sts_n, sts_c, allFz, allFzA, tupT, evMmP, evMm, lstAt, wipeT, ownsA, pickL, callSt, evT_lit, evT_sl, evT_gl, evT_op, evT_ch, evT_not, evT_and, evT_or, evT_ife, evT_neg, evT_ix, evT_b1, evT_b2, evT_isi, sizeLine_eq, Function.comp_def]
theorem lot_0 (e : Int) (ns : List Int) : L2.atI [D.int e, D.lst (ns.map D.int)] 0 = some (.int e) := rfl
theorem lot_1 (e : Int) (ns : List Int) : L2.atI [D.int e, D.lst (ns.map D.int)] 1 = some (.lst (ns.map D.int)) := rfl
theorem has_ok {e d : Int} {ns : List Int} (l : Lot e ns) (d0 : 0 ≤ d) : F_has [.fz (lotD e ns), .fz (.int d)] = some (.ret (.fz (.bl (decide (d % e ∈ ns)))) [none, none]) := by
  have c1 := check_lots_ok l
  have c2 := days_ok d0
  have ii := in_ints ns (d % e)
  have e0 : 0 < e := by have := l.e1; omega
  rw [F_has_eq]
  simp -implicitDefEqProofs [denB, finS, d_has, List.range, List.range.loop, Lw.at_2_0, Lw.at_2_1, Lw.at_4_0, Lw.at_4_1, Lw.at_9_7, Lw.at_11_7, Lw.at_11_10, Lw.at_12_7, Lw.at_12_11, Lw.at_14_13, Lw.at_15_7, Lw.at_17_2, Lw.at_17_3, Lw.at_17_4, Lw.at_17_5, Lw.at_17_8, Lw.at_17_16, Lw.at_18_4, Lw.at_18_7, Lw.at_18_9, Lw.at_18_12, Lw.at_18_14, Lw.at_18_15, Lw.at_18_16, Lw.at_18_17, Lw.at_19_6, Lw.at_19_18, c1, c2, lot_0, lot_1, ii, e0, evV1, evKs, pR, fzsR, mvR, callR, callSR, callK0R, callKR, lcR, DL.augR, mm1R, bfR, ioR, evE, evOe, evEs, evVs, evB, evBs, evI, evS, evSs, andR, orR, bR_ok, bR_ex, bR_no, bE_ok, bE_ex, bE_no, bF_nx, bF_ret, bF_bk, bF_ct, bF_ex, bF_no, oR_s, oR_n, evP, d_fz, d_lst, d_tup, o_add, o_adds, o_sub, o_mul, o_fdiv, o_mod, o_pow, o_lt, o_le, o_gt, o_ge, o_eq, o_ne, o_isN, o_isnN, o_in, o_nin, x_fl, x_ft, x_fs, x_l, x_t, b_lens, b_lenl, b_lent, b_lenr, b_int, b_intb, b_abs, b_min, b_max, t_bl, t_int, t_lst, t_tup, t_non, n_int, z_fz, i_ii, i_bi, i_bb, i_ib, nn_int, nn_non, o_neb, o_eqb, l_lst, l_tup, l_int, k_ft, k_t, y_fl, y_l, a_ints, a_ll, a_fl, a_lf, a_ff, m_app, m_ext, s_lst, callD, takeA, putA, retOk, lendA, ioA, isFz, T.sh, T.shs, shE, D.imm, D.imms, rsvPt, evSet, subT, putT, storeG, st_n, st_t, sts_n, sts_c, allFz, allFzA, tupT, evMmP, evMm, lstAt, wipeT, ownsA, pickL, callSt, evT_lit, evT_sl, evT_gl, evT_op, evT_ch, evT_not, evT_and, evT_or, evT_ife, evT_neg, evT_ix, evT_b1, evT_b2, evT_isi, sizeLine_eq, Function.comp_def]
def nextD (e : Int) (ns : List Int) (d : Int) : D := match ns with
  | [] => .non
  | n :: r => .int (d + minI ((n - d) % e) (r.map fun x => (x - d) % e))
theorem next_ok {e d : Int} {ns : List Int} (l : Lot e ns) (d0 : 0 ≤ d) : F_next_day [.fz (lotD e ns), .fz (.int d)] = some (.ret (.fz (nextD e ns d)) [none, none]) := by
  have c1 := check_lots_ok l
  have c2 := days_ok d0
  have ln := l.len
  have e0 : 0 < e := by have := l.e1; omega
  rw [F_next_day_eq]
  cases ns with
  | nil =>
    simp -implicitDefEqProofs [denB, finS, d_next_day, List.range, List.range.loop, Lw.at_2_0, Lw.at_2_1, Lw.at_4_0, Lw.at_4_1, Lw.at_9_7, Lw.at_11_7, Lw.at_11_10, Lw.at_12_7, Lw.at_12_11, Lw.at_14_13, Lw.at_15_7, Lw.at_17_2, Lw.at_17_3, Lw.at_17_4, Lw.at_17_5, Lw.at_17_8, Lw.at_17_16, Lw.at_18_4, Lw.at_18_7, Lw.at_18_9, Lw.at_18_12, Lw.at_18_14, Lw.at_18_15, Lw.at_18_16, Lw.at_18_17, Lw.at_19_6, Lw.at_19_18, c1, c2, nextD, evV1, evKs, pR, fzsR, mvR, callR, callSR, callK0R, callKR, lcR, DL.augR, mm1R, bfR, ioR, evE, evOe, evEs, evVs, evB, evBs, evI, evS, evSs, andR, orR, bR_ok, bR_ex, bR_no, bE_ok, bE_ex, bE_no, bF_nx, bF_ret, bF_bk, bF_ct, bF_ex, bF_no, oR_s, oR_n, evP, d_fz, d_lst, d_tup, o_add, o_adds, o_sub, o_mul, o_fdiv, o_mod, o_pow, o_lt, o_le, o_gt, o_ge, o_eq, o_ne, o_isN, o_isnN, o_in, o_nin, x_fl, x_ft, x_fs, x_l, x_t, b_lens, b_lenl, b_lent, b_lenr, b_int, b_intb, b_abs, b_min, b_max, t_bl, t_int, t_lst, t_tup, t_non, n_int, z_fz, i_ii, i_bi, i_bb, i_ib, nn_int, nn_non, o_neb, o_eqb, l_lst, l_tup, l_int, k_ft, k_t, y_fl, y_l, a_ints, a_ll, a_fl, a_lf, a_ff, m_app, m_ext, s_lst, callD, takeA, putA, retOk, lendA, ioA, isFz, T.sh, T.shs, shE, D.imm, D.imms, rsvPt, evSet, subT, putT, storeG, st_n, st_t, sts_n, sts_c, allFz, allFzA, tupT, evMmP, evMm, lstAt, wipeT, ownsA, pickL, callSt, evT_lit, evT_sl, evT_gl, evT_op, evT_ch, evT_not, evT_and, evT_or, evT_ife, evT_neg, evT_ix, evT_b1, evT_b2, evT_isi, sizeLine_eq, Function.comp_def]
  | cons n r =>
    have C : lcF (stT (.n 4)) (evBs tb4 CT_next_day_1) (evE tb4 CE_next_day_1) [4] ((n :: r).map D.int) [none, some (.fz (.int d)), some (.fz (.int e)), none, none] [] =
        some (.ok ((n :: r).map fun x => .fz (.int ((x - d) % e))) [none, some (.fz (.int d)), some (.fz (.int e)), none, none]) :=
      lc_m (em := D.int) _ rfl _ (by omega) fun x hx => ⟨[none, some (.fz (.int d)), some (.fz (.int e)), none, some (.fz (.int x))], rfl, rfl, rfl, by simp -implicitDefEqProofs [CE_next_day_1, e0, evV1, evKs, pR, fzsR, mvR, callR, callSR, callK0R, callKR, lcR, DL.augR, mm1R, bfR, ioR, evE, evOe, evEs, evVs, evB, evBs, evI, evS, evSs, andR, orR, bR_ok, bR_ex, bR_no, bE_ok, bE_ex, bE_no, bF_nx, bF_ret, bF_bk, bF_ct, bF_ex, bF_no, oR_s, oR_n, evP, d_fz, d_lst, d_tup, o_add, o_adds, o_sub, o_mul, o_fdiv, o_mod, o_pow, o_lt, o_le, o_gt, o_ge, o_eq, o_ne, o_isN, o_isnN, o_in, o_nin, x_fl, x_ft, x_fs, x_l, x_t, b_lens, b_lenl, b_lent, b_lenr, b_int, b_intb, b_abs, b_min, b_max, t_bl, t_int, t_lst, t_tup, t_non, n_int, z_fz, i_ii, i_bi, i_bb, i_ib, nn_int, nn_non, o_neb, o_eqb, l_lst, l_tup, l_int, k_ft, k_t, y_fl, y_l, a_ints, a_ll, a_fl, a_lf, a_ff, m_app, m_ext, s_lst, callD, takeA, putA, retOk, lendA, ioA, isFz, T.sh, T.shs, shE, D.imm, D.imms, rsvPt, evSet, subT, putT, storeG, st_n, st_t, sts_n, sts_c, allFz, allFzA, tupT, evMmP, evMm, lstAt, wipeT, ownsA, pickL, callSt, evT_lit, evT_sl, evT_gl, evT_op, evT_ch, evT_not, evT_and, evT_or, evT_ife, evT_neg, evT_ix, evT_b1, evT_b2, evT_isi, sizeLine_eq, Function.comp_def]⟩
    have mn := bf_minL ((n - d) % e) (r.map fun x => (x - d) % e)
    have ei : iT (r.map fun x => (x - d) % e) = r.map fun x => T.fz (.int ((x - d) % e)) := by
      show List.map _ (List.map _ r) = _
      rw [List.map_map]
      rfl
    rw [ei] at mn
    simp only [List.map_cons] at C
    have lp : (0 : Int) < ((r.length + 1 : Nat) : Int) := by omega
    simp -implicitDefEqProofs [denB, finS, d_next_day, List.range, List.range.loop, Lw.at_2_0, Lw.at_2_1, Lw.at_4_0, Lw.at_4_1, Lw.at_9_7, Lw.at_11_7, Lw.at_11_10, Lw.at_12_7, Lw.at_12_11, Lw.at_14_13, Lw.at_15_7, Lw.at_17_2, Lw.at_17_3, Lw.at_17_4, Lw.at_17_5, Lw.at_17_8, Lw.at_17_16, Lw.at_18_4, Lw.at_18_7, Lw.at_18_9, Lw.at_18_12, Lw.at_18_14, Lw.at_18_15, Lw.at_18_16, Lw.at_18_17, Lw.at_19_6, Lw.at_19_18, c1, c2, C, mn, nextD, lp, evV1, evKs, pR, fzsR, mvR, callR, callSR, callK0R, callKR, lcR, DL.augR, mm1R, bfR, ioR, evE, evOe, evEs, evVs, evB, evBs, evI, evS, evSs, andR, orR, bR_ok, bR_ex, bR_no, bE_ok, bE_ex, bE_no, bF_nx, bF_ret, bF_bk, bF_ct, bF_ex, bF_no, oR_s, oR_n, evP, d_fz, d_lst, d_tup, o_add, o_adds, o_sub, o_mul, o_fdiv, o_mod, o_pow, o_lt, o_le, o_gt, o_ge, o_eq, o_ne, o_isN, o_isnN, o_in, o_nin, x_fl, x_ft, x_fs, x_l, x_t, b_lens, b_lenl, b_lent, b_lenr, b_int, b_intb, b_abs, b_min, b_max, t_bl, t_int, t_lst, t_tup, t_non, n_int, z_fz, i_ii, i_bi, i_bb, i_ib, nn_int, nn_non, o_neb, o_eqb, l_lst, l_tup, l_int, k_ft, k_t, y_fl, y_l, a_ints, a_ll, a_fl, a_lf, a_ff, m_app, m_ext, s_lst, callD, takeA, putA, retOk, lendA, ioA, isFz, T.sh, T.shs, shE, D.imm, D.imms, rsvPt, evSet, subT, putT, storeG, st_n, st_t, sts_n, sts_c, allFz, allFzA, tupT, evMmP, evMm, lstAt, wipeT, ownsA, pickL, callSt, evT_lit, evT_sl, evT_gl, evT_op, evT_ch, evT_not, evT_and, evT_or, evT_ife, evT_neg, evT_ix, evT_b1, evT_b2, evT_isi, sizeLine_eq, Function.comp_def]
/-! ### the first day from one on, by walking -/
def firstS (e : Int) (ns : List Int) (d : Int) : Option Int := (rg 0 e.toNat).find? fun s => decide ((d + s) % e ∈ ns)
theorem rg_cons (a : Int) (n : Nat) : rg a (n + 1) = a :: rg (a + 1) n := by
  unfold rg
  rw [List.range_succ_eq_map, List.map_cons, List.map_map]
  congr 1
  · simp
  · refine List.map_congr_left fun j _ => ?_
    simp only [Function.comp]
    omega
theorem rg_find {P : Int → Bool} {m : Int} : ∀ (n : Nat) (a : Int), a ≤ m → m < a + n → P m = true → (∀ s, a ≤ s → s < m → P s = false) → (rg a n).find? P = some m
  | 0, a, h1, h2, _, _ => by omega
  | n + 1, a, h1, h2, h3, h4 => by
    rw [rg_cons, List.find?_cons]
    by_cases h : a = m
    · subst h
      rw [h3]
    · rw [h4 a (Int.le_refl _) (by omega)]
      exact rg_find n (a + 1) (by omega) (by omega) h3 fun s s1 s2 => h4 s (by omega) s2
theorem first_eq {e d : Int} {ns : List Int} (l : Lot e ns) : nextD e ns d = match firstS e ns d with
    | some s => .int (d + s)
    | none => .non := by
  have l1 := l.e1
  have en : e ≠ 0 := by omega
  have e0 : 0 < e := by omega
  cases ns with
  | nil =>
    have : firstS e [] d = none := by
      unfold firstS
      rw [List.find?_eq_none]
      simp
    rw [this]
    rfl
  | cons n r =>
    obtain ⟨m1, m2, m3⟩ := minI_le (r.map fun x => (x - d) % e) ((n - d) % e)
    have all : ∀ x ∈ n :: r, minI ((n - d) % e) (r.map fun x => (x - d) % e) ≤ (x - d) % e := by
      intro x hx
      rcases List.mem_cons.mp hx with rfl | hx
      · exact m1
      · exact m2 _ (List.mem_map.mpr ⟨x, hx, rfl⟩)
    have one : ∃ x ∈ n :: r, minI ((n - d) % e) (r.map fun x => (x - d) % e) = (x - d) % e := by
      rcases m3 with h | h
      · exact ⟨n, by simp, h⟩
      · obtain ⟨x, hx, hh⟩ := List.mem_map.mp h
        exact ⟨x, by simp [hx], hh.symm⟩
    show D.int (d + minI ((n - d) % e) (r.map fun x => (x - d) % e)) = _
    generalize minI ((n - d) % e) (r.map fun x => (x - d) % e) = m at *
    obtain ⟨x, hx, rfl⟩ := one
    have x01 := l.rng x hx
    have n0 := Int.emod_nonneg (x - d) en
    have n1 := Int.emod_lt_of_pos (x - d) e0
    have hit : (d + (x - d) % e) % e = x := by
      rw [Int.add_emod_emod]
      have : d + (x - d) = x := by omega
      rw [this]
      exact Int.emod_eq_of_lt x01.1 x01.2
    have : firstS e (n :: r) d = some ((x - d) % e) := by
      refine rg_find _ 0 n0 (by omega) ?_ fun s s0 s1 => ?_
      · rw [hit]
        simpa using hx
      · rw [decide_eq_false_iff_not]
        intro hs
        have := all _ hs
        have e2 : ((d + s) % e - d) % e = s := by
          rw [Int.emod_sub_emod]
          have : d + s - d = s := by omega
          rw [this]
          exact Int.emod_eq_of_lt s0 (by omega)
        omega
    rw [this]
/-- a for that gives an answer at the first hit -/
theorem for_find {st : T → Sl → Option Sl} {fb : Sl → Option Fl} (P : Int → Bool) (f : Int → T) (I J : Sl → Prop) : ∀ (ns : List Int) (ρ : Sl), I ρ →
    (∀ n ∈ ns, ∀ ρ, I ρ → ∃ ρ1, st (.fz (.int n)) ρ = some ρ1 ∧ (P n = false → ∃ ρ2, fb ρ1 = some (.nx ρ2) ∧ I ρ2) ∧ (P n = true → ∃ ρ2, fb ρ1 = some (.ret (f n) ρ2) ∧ J ρ2)) →
    match ns.find? P with
    | some n => ∃ ρ', forF st fb (ns.map D.int) ρ = some (.ret (f n) ρ') ∧ J ρ'
    | none => ∃ ρ', forF st fb (ns.map D.int) ρ = some (.nx ρ') ∧ I ρ'
  | [], ρ, i, _ => ⟨ρ, rfl, i⟩
  | n :: ns, ρ, i, h => by
    obtain ⟨ρ1, h1, h2, h3⟩ := h n (by simp) ρ i
    rw [List.find?_cons]
    cases hp : P n with
    | true =>
      obtain ⟨ρ2, e, j⟩ := h3 hp
      refine ⟨ρ2, ?_, j⟩
      rw [List.map_cons]
      unfold forF
      rw [h1]
      simp only [e]
    | false =>
      obtain ⟨ρ2, e, i2⟩ := h2 hp
      have ih := for_find P f I J ns ρ2 i2 fun m hm => h m (by simp [hm])
      have e2 : forF st fb ((n :: ns).map D.int) ρ = forF st fb (ns.map D.int) ρ2 := by
        rw [List.map_cons]
        conv => lhs; unfold forF
        rw [h1]
        simp only [e]
      simp only [e2]
      exact ih
def nextT (e : Int) (ns : List Int) (d : Int) : T := match firstS e ns d with
  | some s => .lst [.fz (.int (d + s))]
  | none => .lst []
theorem mknext_ok {e d : Int} {ns : List Int} (l : Lot e ns) (d0 : 0 ≤ d) : F_law_mk_next [.fz (.lst (mkD e ns)), .fz (.int d)] = some (.ret (nextT e ns d) [none, none]) := by
  have l1 := l.e1
  have l2 := l.e2
  have e0 : 0 < e := by omega
  have hl : (mkD e ns).length = e.toNat := by unfold mkD; rw [List.length_map, rg_len]
  have hl2 : ((e.toNat : Nat) : Int) = e := by omega
  have rb := r1 (j := e) (by omega) (by omega)
  have Q := for_find (st := stT (.n 4)) (fb := evSs tb16 B_law_mk_next_1) (fun s => decide ((d + s) % e ∈ ns)) (fun s => .lst [.fz (.int (d + s))]) (fun ρ => ∃ o, ρ = [some (.fz (.lst (mkD e ns))), some (.fz (.int d)), some (.fz (.int e)), some (.fz (.int (d % e))), o]) (fun ρ => ∃ o, ρ = [some (.fz (.lst (mkD e ns))), none, some (.fz (.int e)), some (.fz (.int (d % e))), o]) (rg 0 e.toNat) _ ⟨none, rfl⟩ (by
    rintro s hs ρ ⟨o, rfl⟩
    refine ⟨_, rfl, ?_, ?_⟩
    · intro h
      have at_ := at_mk (ns := ns) (Int.emod_nonneg (d % e + s) (show e ≠ 0 by omega)) (Int.emod_lt_of_pos (d % e + s) e0)
      rw [Int.emod_add_emod] at at_
      rw [decide_eq_false_iff_not] at h
      refine ⟨_, ?_, some (.fz (.int s)), rfl⟩
      simp -implicitDefEqProofs [B_law_mk_next_1, at_, h, e0, Int.emod_add_emod, evV1, evKs, pR, fzsR, mvR, callR, callSR, callK0R, callKR, lcR, DL.augR, mm1R, bfR, ioR, evE, evOe, evEs, evVs, evB, evBs, evI, evS, evSs, andR, orR, bR_ok, bR_ex, bR_no, bE_ok, bE_ex, bE_no, bF_nx, bF_ret, bF_bk, bF_ct, bF_ex, bF_no, oR_s, oR_n, evP, d_fz, d_lst, d_tup, o_add, o_adds, o_sub, o_mul, o_fdiv, o_mod, o_pow, o_lt, o_le, o_gt, o_ge, o_eq, o_ne, o_isN, o_isnN, o_in, o_nin, x_fl, x_ft, x_fs, x_l, x_t, b_lens, b_lenl, b_lent, b_lenr, b_int, b_intb, b_abs, b_min, b_max, t_bl, t_int, t_lst, t_tup, t_non, n_int, z_fz, i_ii, i_bi, i_bb, i_ib, nn_int, nn_non, o_neb, o_eqb, l_lst, l_tup, l_int, k_ft, k_t, y_fl, y_l, a_ints, a_ll, a_fl, a_lf, a_ff, m_app, m_ext, s_lst, callD, takeA, putA, retOk, lendA, ioA, isFz, T.sh, T.shs, shE, D.imm, D.imms, rsvPt, evSet, subT, putT, storeG, st_n, st_t, sts_n, sts_c, allFz, allFzA, tupT, evMmP, evMm, lstAt, wipeT, ownsA, pickL, callSt, evT_lit, evT_sl, evT_gl, evT_op, evT_ch, evT_not, evT_and, evT_or, evT_ife, evT_neg, evT_ix, evT_b1, evT_b2, evT_isi, sizeLine_eq, Function.comp_def]
    · intro h
      have at_ := at_mk (ns := ns) (Int.emod_nonneg (d % e + s) (show e ≠ 0 by omega)) (Int.emod_lt_of_pos (d % e + s) e0)
      rw [Int.emod_add_emod] at at_
      rw [decide_eq_true_eq] at h
      refine ⟨_, ?_, some (.fz (.int s)), rfl⟩
      simp -implicitDefEqProofs [B_law_mk_next_1, at_, h, e0, Int.emod_add_emod, evV1, evKs, pR, fzsR, mvR, callR, callSR, callK0R, callKR, lcR, DL.augR, mm1R, bfR, ioR, evE, evOe, evEs, evVs, evB, evBs, evI, evS, evSs, andR, orR, bR_ok, bR_ex, bR_no, bE_ok, bE_ex, bE_no, bF_nx, bF_ret, bF_bk, bF_ct, bF_ex, bF_no, oR_s, oR_n, evP, d_fz, d_lst, d_tup, o_add, o_adds, o_sub, o_mul, o_fdiv, o_mod, o_pow, o_lt, o_le, o_gt, o_ge, o_eq, o_ne, o_isN, o_isnN, o_in, o_nin, x_fl, x_ft, x_fs, x_l, x_t, b_lens, b_lenl, b_lent, b_lenr, b_int, b_intb, b_abs, b_min, b_max, t_bl, t_int, t_lst, t_tup, t_non, n_int, z_fz, i_ii, i_bi, i_bb, i_ib, nn_int, nn_non, o_neb, o_eqb, l_lst, l_tup, l_int, k_ft, k_t, y_fl, y_l, a_ints, a_ll, a_fl, a_lf, a_ff, m_app, m_ext, s_lst, callD, takeA, putA, retOk, lendA, ioA, isFz, T.sh, T.shs, shE, D.imm, D.imms, rsvPt, evSet, subT, putT, storeG, st_n, st_t, sts_n, sts_c, allFz, allFzA, tupT, evMmP, evMm, lstAt, wipeT, ownsA, pickL, callSt, evT_lit, evT_sl, evT_gl, evT_op, evT_ch, evT_not, evT_and, evT_or, evT_ife, evT_neg, evT_ix, evT_b1, evT_b2, evT_isi, sizeLine_eq, Function.comp_def])
  rw [F_law_mk_next_eq]
  unfold nextT
  change (match firstS e ns d with | some n => _ | none => _) at Q
  cases hf : firstS e ns d with
  | none =>
    rw [hf] at Q
    obtain ⟨ρ', e1, o, rfl⟩ := Q
    simp -implicitDefEqProofs [denB, finS, d_law_mk_next, List.range, List.range.loop, hl, hl2, e0, rb, e1, evV1, evKs, pR, fzsR, mvR, callR, callSR, callK0R, callKR, lcR, DL.augR, mm1R, bfR, ioR, evE, evOe, evEs, evVs, evB, evBs, evI, evS, evSs, andR, orR, bR_ok, bR_ex, bR_no, bE_ok, bE_ex, bE_no, bF_nx, bF_ret, bF_bk, bF_ct, bF_ex, bF_no, oR_s, oR_n, evP, d_fz, d_lst, d_tup, o_add, o_adds, o_sub, o_mul, o_fdiv, o_mod, o_pow, o_lt, o_le, o_gt, o_ge, o_eq, o_ne, o_isN, o_isnN, o_in, o_nin, x_fl, x_ft, x_fs, x_l, x_t, b_lens, b_lenl, b_lent, b_lenr, b_int, b_intb, b_abs, b_min, b_max, t_bl, t_int, t_lst, t_tup, t_non, n_int, z_fz, i_ii, i_bi, i_bb, i_ib, nn_int, nn_non, o_neb, o_eqb, l_lst, l_tup, l_int, k_ft, k_t, y_fl, y_l, a_ints, a_ll, a_fl, a_lf, a_ff, m_app, m_ext, s_lst, callD, takeA, putA, retOk, lendA, ioA, isFz, T.sh, T.shs, shE, D.imm, D.imms, rsvPt, evSet, subT, putT, storeG, st_n, st_t, sts_n, sts_c, allFz, allFzA, tupT, evMmP, evMm, lstAt, wipeT, ownsA, pickL, callSt, evT_lit, evT_sl, evT_gl, evT_op, evT_ch, evT_not, evT_and, evT_or, evT_ife, evT_neg, evT_ix, evT_b1, evT_b2, evT_isi, sizeLine_eq, Function.comp_def]
  | some s =>
    rw [hf] at Q
    obtain ⟨ρ', e1, o, rfl⟩ := Q
    simp -implicitDefEqProofs [denB, finS, d_law_mk_next, List.range, List.range.loop, hl, hl2, e0, rb, e1, evV1, evKs, pR, fzsR, mvR, callR, callSR, callK0R, callKR, lcR, DL.augR, mm1R, bfR, ioR, evE, evOe, evEs, evVs, evB, evBs, evI, evS, evSs, andR, orR, bR_ok, bR_ex, bR_no, bE_ok, bE_ex, bE_no, bF_nx, bF_ret, bF_bk, bF_ct, bF_ex, bF_no, oR_s, oR_n, evP, d_fz, d_lst, d_tup, o_add, o_adds, o_sub, o_mul, o_fdiv, o_mod, o_pow, o_lt, o_le, o_gt, o_ge, o_eq, o_ne, o_isN, o_isnN, o_in, o_nin, x_fl, x_ft, x_fs, x_l, x_t, b_lens, b_lenl, b_lent, b_lenr, b_int, b_intb, b_abs, b_min, b_max, t_bl, t_int, t_lst, t_tup, t_non, n_int, z_fz, i_ii, i_bi, i_bb, i_ib, nn_int, nn_non, o_neb, o_eqb, l_lst, l_tup, l_int, k_ft, k_t, y_fl, y_l, a_ints, a_ll, a_fl, a_lf, a_ff, m_app, m_ext, s_lst, callD, takeA, putA, retOk, lendA, ioA, isFz, T.sh, T.shs, shE, D.imm, D.imms, rsvPt, evSet, subT, putT, storeG, st_n, st_t, sts_n, sts_c, allFz, allFzA, tupT, evMmP, evMm, lstAt, wipeT, ownsA, pickL, callSt, evT_lit, evT_sl, evT_gl, evT_op, evT_ch, evT_not, evT_and, evT_or, evT_ife, evT_neg, evT_ix, evT_b1, evT_b2, evT_isi, sizeLine_eq, Function.comp_def]
end Lw
namespace Lw
open PySem DL
theorem dayright_ok {e d w : Int} {ns : List Int} (l : Lot e ns) (d0 : 0 ≤ d) : F_law_mk_day_right [.fz (lotD e ns), .fz (.lst (mkD e ns)), .fz (.int d), .fz (.int w)] = some (.ret (.fz (.bl true)) [none, none, none, none]) := by
  have l1 := l.e1
  have e0 : 0 < e := by omega
  have hl : (mkD e ns).length = e.toNat := by unfold mkD; rw [List.length_map, rg_len]
  have hl2 : ((e.toNat : Nat) : Int) = e := by omega
  have hs := has_ok l d0
  have nx := next_ok l d0
  rw [first_eq l] at nx
  have mn := mknext_ok l d0
  unfold nextT at mn
  have at_ := at_mk (ns := ns) (Int.emod_nonneg d (show e ≠ 0 by omega)) (Int.emod_lt_of_pos d e0)
  rw [F_law_mk_day_right_eq]
  cases hf : firstS e ns d with
  | none =>
    rw [hf] at nx mn
    have en : o2 .eq (.lst []) (.lst []) = some (.bl true) := eq_nil []
    by_cases hw : w = 0 <;>
    simp -implicitDefEqProofs [denB, finS, d_law_mk_day_right, List.range, List.range.loop, Lw.at_2_0, Lw.at_2_1, Lw.at_4_0, Lw.at_4_1, Lw.at_9_7, Lw.at_11_7, Lw.at_11_10, Lw.at_12_7, Lw.at_12_11, Lw.at_14_13, Lw.at_15_7, Lw.at_17_2, Lw.at_17_3, Lw.at_17_4, Lw.at_17_5, Lw.at_17_8, Lw.at_17_16, Lw.at_18_4, Lw.at_18_7, Lw.at_18_9, Lw.at_18_12, Lw.at_18_14, Lw.at_18_15, Lw.at_18_16, Lw.at_18_17, Lw.at_19_6, Lw.at_19_18, hl, hl2, hs, nx, mn, at_, e0, en, hw, evV1, evKs, pR, fzsR, mvR, callR, callSR, callK0R, callKR, lcR, DL.augR, mm1R, bfR, ioR, evE, evOe, evEs, evVs, evB, evBs, evI, evS, evSs, andR, orR, bR_ok, bR_ex, bR_no, bE_ok, bE_ex, bE_no, bF_nx, bF_ret, bF_bk, bF_ct, bF_ex, bF_no, oR_s, oR_n, evP, d_fz, d_lst, d_tup, o_add, o_adds, o_sub, o_mul, o_fdiv, o_mod, o_pow, o_lt, o_le, o_gt, o_ge, o_eq, o_ne, o_isN, o_isnN, o_in, o_nin, x_fl, x_ft, x_fs, x_l, x_t, b_lens, b_lenl, b_lent, b_lenr, b_int, b_intb, b_abs, b_min, b_max, t_bl, t_int, t_lst, t_tup, t_non, n_int, z_fz, i_ii, i_bi, i_bb, i_ib, nn_int, nn_non, o_neb, o_eqb, l_lst, l_tup, l_int, k_ft, k_t, y_fl, y_l, a_ints, a_ll, a_fl, a_lf, a_ff, m_app, m_ext, s_lst, callD, takeA, putA, retOk, lendA, ioA, isFz, T.sh, T.shs, shE, D.imm, D.imms, rsvPt, evSet, subT, putT, storeG, st_n, st_t, sts_n, sts_c, allFz, allFzA, tupT, evMmP, evMm, lstAt, wipeT, ownsA, pickL, callSt, evT_lit, evT_sl, evT_gl, evT_op, evT_ch, evT_not, evT_and, evT_or, evT_ife, evT_neg, evT_ix, evT_b1, evT_b2, evT_isi, sizeLine_eq, Function.comp_def]
  | some s =>
    rw [hf] at nx mn
    have en : o2 .eq (.lst [.int (d + s)]) (.lst []) = some (.bl false) := eq_nil [d + s]
    have ii := isint_ok (d + s)
    have a0 : L2.atI [T.fz (.int (d + s))] 0 = some (.fz (.int (d + s))) := rfl
    have a1 : L2.atI [D.int (d + s)] 0 = some (.int (d + s)) := rfl
    by_cases hw : w = 0 <;>
    simp -implicitDefEqProofs [denB, finS, d_law_mk_day_right, List.range, List.range.loop, Lw.at_2_0, Lw.at_2_1, Lw.at_4_0, Lw.at_4_1, Lw.at_9_7, Lw.at_11_7, Lw.at_11_10, Lw.at_12_7, Lw.at_12_11, Lw.at_14_13, Lw.at_15_7, Lw.at_17_2, Lw.at_17_3, Lw.at_17_4, Lw.at_17_5, Lw.at_17_8, Lw.at_17_16, Lw.at_18_4, Lw.at_18_7, Lw.at_18_9, Lw.at_18_12, Lw.at_18_14, Lw.at_18_15, Lw.at_18_16, Lw.at_18_17, Lw.at_19_6, Lw.at_19_18, hl, hl2, hs, nx, mn, at_, e0, en, hw, ii, a0, a1, evV1, evKs, pR, fzsR, mvR, callR, callSR, callK0R, callKR, lcR, DL.augR, mm1R, bfR, ioR, evE, evOe, evEs, evVs, evB, evBs, evI, evS, evSs, andR, orR, bR_ok, bR_ex, bR_no, bE_ok, bE_ex, bE_no, bF_nx, bF_ret, bF_bk, bF_ct, bF_ex, bF_no, oR_s, oR_n, evP, d_fz, d_lst, d_tup, o_add, o_adds, o_sub, o_mul, o_fdiv, o_mod, o_pow, o_lt, o_le, o_gt, o_ge, o_eq, o_ne, o_isN, o_isnN, o_in, o_nin, x_fl, x_ft, x_fs, x_l, x_t, b_lens, b_lenl, b_lent, b_lenr, b_int, b_intb, b_abs, b_min, b_max, t_bl, t_int, t_lst, t_tup, t_non, n_int, z_fz, i_ii, i_bi, i_bb, i_ib, nn_int, nn_non, o_neb, o_eqb, l_lst, l_tup, l_int, k_ft, k_t, y_fl, y_l, a_ints, a_ll, a_fl, a_lf, a_ff, m_app, m_ext, s_lst, callD, takeA, putA, retOk, lendA, ioA, isFz, T.sh, T.shs, shE, D.imm, D.imms, rsvPt, evSet, subT, putT, storeG, st_n, st_t, sts_n, sts_c, allFz, allFzA, tupT, evMmP, evMm, lstAt, wipeT, ownsA, pickL, callSt, evT_lit, evT_sl, evT_gl, evT_op, evT_ch, evT_not, evT_and, evT_or, evT_ife, evT_neg, evT_ix, evT_b1, evT_b2, evT_isi, sizeLine_eq, Function.comp_def]
end Lw
namespace Lw
open PySem DL
theorem allFz_i : ∀ ms : List Int, allFz (ms.map fun n => T.fz (.int n)) = some (ms.map D.int)
  | [] => rfl
  | m :: ms => by
    rw [List.map_cons, allFz, allFz_i ms]
    rfl
/-- a for that may end by an answer -/
theorem for_or {st : T → Sl → Option Sl} {fb : Sl → Option Fl} (I : Sl → Prop) (J : T → Sl → Prop) : ∀ (ns : List Int) (ρ : Sl), I ρ →
    (∀ n ∈ ns, ∀ ρ, I ρ → ∃ ρ1, st (.fz (.int n)) ρ = some ρ1 ∧ ((∃ ρ2, fb ρ1 = some (.nx ρ2) ∧ I ρ2) ∨ ∃ t ρ2, fb ρ1 = some (.ret t ρ2) ∧ J t ρ2)) →
    (∃ ρ', forF st fb (ns.map D.int) ρ = some (.nx ρ') ∧ I ρ') ∨ ∃ t ρ', forF st fb (ns.map D.int) ρ = some (.ret t ρ') ∧ J t ρ'
  | [], ρ, i, _ => .inl ⟨ρ, rfl, i⟩
  | n :: ns, ρ, i, h => by
    obtain ⟨ρ1, h1, h2⟩ := h n (by simp) ρ i
    rcases h2 with ⟨ρ2, e, i2⟩ | ⟨t, ρ2, e, j⟩
    · have ih := for_or I J ns ρ2 i2 fun m hm => h m (by simp [hm])
      have e2 : forF st fb ((n :: ns).map D.int) ρ = forF st fb (ns.map D.int) ρ2 := by
        rw [List.map_cons]
        conv => lhs; unfold forF
        rw [h1]
        simp only [e]
      rw [e2]
      exact ih
    · refine .inr ⟨t, ρ2, ?_, j⟩
      rw [List.map_cons]
      unfold forF
      rw [h1]
      simp only [e]
abbrev big : Int := 1000000000000000000000000000000
def Ms (ms : List Int) : Prop := ms ≠ [] ∧ ms.length ≤ 10 ∧ ∀ m ∈ ms, 0 ≤ m ∧ m ≤ 1000000000000000000000000000000
/-- the days of one way -/
theorem days_in {e w : Int} {ns ms : List Int} {p0 o5 o6 o7 o9 o10 o11 o12 o13 o14 : Option T} {m : T} (l : Lot e ns) (hm : m.d = .lst (mkD e ns)) (h : Ms ms) :
    ∃ o5' m', m'.d = .lst (mkD e ns) ∧ evSs tb18 B_law_right_2 [p0, some (.fz (.int e)), some (.fz (lotD e ns)), some (.lst (ms.map fun n => .fz (.int n))), some (.fz (.int w)), o5, o6, o7, some m, o9, o10, o11, o12, o13, o14] =
      some (.nx [p0, some (.fz (.int e)), some (.fz (lotD e ns)), some (.lst (ms.reverse.map fun n => .fz (.int n))), some (.fz (.int w)), o5', o6, o7, some m', o9, o10, o11, o12, o13, o14]) := by
  have L : ∃ ρ', forF (stT (.n 5)) (evSs tb18 B_law_right_1) (ms.map D.int) [p0, some (.fz (.int e)), some (.fz (lotD e ns)), none, some (.fz (.int w)), o5, o6, o7, some m, o9, o10, o11, o12, o13, o14] = some (.nx ρ') ∧
      ∃ o5' m', m'.d = .lst (mkD e ns) ∧ ρ' = [p0, some (.fz (.int e)), some (.fz (lotD e ns)), none, some (.fz (.int w)), o5', o6, o7, some m', o9, o10, o11, o12, o13, o14] := by
    refine for_ints (fun _ _ ρ' => ∃ o5' m', m'.d = .lst (mkD e ns) ∧ ρ' = [p0, some (.fz (.int e)), some (.fz (lotD e ns)), none, some (.fz (.int w)), o5', o6, o7, some m', o9, o10, o11, o12, o13, o14]) ⟨o5, m, hm, rfl⟩ ?_
    rintro done x r ρ ed ⟨o5', m', hm', rfl⟩
    have hx := h.2.2 x (by rw [ed]; simp)
    have dr := dayright_ok (w := w) l hx.1
    refine ⟨_, rfl, [p0, some (.fz (.int e)), some (.fz (lotD e ns)), none, some (.fz (.int w)), none, o6, o7, some (.fz (.lst (mkD e ns))), o9, o10, o11, o12, o13, o14], .inl ?_, none, .fz (.lst (mkD e ns)), rfl, rfl⟩
    simp -implicitDefEqProofs [B_law_right_1, Lw.at_2_0, Lw.at_2_1, Lw.at_4_0, Lw.at_4_1, Lw.at_9_7, Lw.at_11_7, Lw.at_11_10, Lw.at_12_7, Lw.at_12_11, Lw.at_14_13, Lw.at_15_7, Lw.at_17_2, Lw.at_17_3, Lw.at_17_4, Lw.at_17_5, Lw.at_17_8, Lw.at_17_16, Lw.at_18_4, Lw.at_18_7, Lw.at_18_9, Lw.at_18_12, Lw.at_18_14, Lw.at_18_15, Lw.at_18_16, Lw.at_18_17, Lw.at_19_6, Lw.at_19_18, hm', dr, evV1, evKs, pR, fzsR, mvR, callR, callSR, callK0R, callKR, lcR, DL.augR, mm1R, bfR, ioR, evE, evOe, evEs, evVs, evB, evBs, evI, evS, evSs, andR, orR, bR_ok, bR_ex, bR_no, bE_ok, bE_ex, bE_no, bF_nx, bF_ret, bF_bk, bF_ct, bF_ex, bF_no, oR_s, oR_n, evP, d_fz, d_lst, d_tup, o_add, o_adds, o_sub, o_mul, o_fdiv, o_mod, o_pow, o_lt, o_le, o_gt, o_ge, o_eq, o_ne, o_isN, o_isnN, o_in, o_nin, x_fl, x_ft, x_fs, x_l, x_t, b_lens, b_lenl, b_lent, b_lenr, b_int, b_intb, b_abs, b_min, b_max, t_bl, t_int, t_lst, t_tup, t_non, n_int, z_fz, i_ii, i_bi, i_bb, i_ib, nn_int, nn_non, o_neb, o_eqb, l_lst, l_tup, l_int, k_ft, k_t, y_fl, y_l, a_ints, a_ll, a_fl, a_lf, a_ff, m_app, m_ext, s_lst, callD, takeA, putA, retOk, lendA, ioA, isFz, T.sh, T.shs, shE, D.imm, D.imms, rsvPt, evSet, subT, putT, storeG, st_n, st_t, sts_n, sts_c, allFz, allFzA, tupT, evMmP, evMm, lstAt, wipeT, ownsA, pickL, callSt, evT_lit, evT_sl, evT_gl, evT_op, evT_ch, evT_not, evT_and, evT_or, evT_ife, evT_neg, evT_ix, evT_b1, evT_b2, evT_isi, sizeLine_eq, Function.comp_def]
  obtain ⟨ρ', e1, o5', m', hm', rfl⟩ := L
  refine ⟨o5', m', hm', ?_⟩
  have af := allFz_i ms
  have rv : mmT .reverse (.lst (ms.map fun n => T.fz (.int n))) [] = some (.lst (ms.reverse.map fun n => T.fz (.int n)), .fz .non) := by
    rw [List.map_reverse]
    rfl
  simp -implicitDefEqProofs [B_law_right_2, Mm, forBF, af, e1, endB, rv, -List.map_reverse, evV1, evKs, pR, fzsR, mvR, callR, callSR, callK0R, callKR, lcR, DL.augR, mm1R, bfR, ioR, evE, evOe, evEs, evVs, evB, evBs, evI, evS, evSs, andR, orR, bR_ok, bR_ex, bR_no, bE_ok, bE_ex, bE_no, bF_nx, bF_ret, bF_bk, bF_ct, bF_ex, bF_no, oR_s, oR_n, evP, d_fz, d_lst, d_tup, o_add, o_adds, o_sub, o_mul, o_fdiv, o_mod, o_pow, o_lt, o_le, o_gt, o_ge, o_eq, o_ne, o_isN, o_isnN, o_in, o_nin, x_fl, x_ft, x_fs, x_l, x_t, b_lens, b_lenl, b_lent, b_lenr, b_int, b_intb, b_abs, b_min, b_max, t_bl, t_int, t_lst, t_tup, t_non, n_int, z_fz, i_ii, i_bi, i_bb, i_ib, nn_int, nn_non, o_neb, o_eqb, l_lst, l_tup, l_int, k_ft, k_t, y_fl, y_l, a_ints, a_ll, a_fl, a_lf, a_ff, m_app, m_ext, s_lst, callD, takeA, putA, retOk, lendA, ioA, isFz, T.sh, T.shs, shE, D.imm, D.imms, rsvPt, evSet, subT, putT, storeG, st_n, st_t, sts_n, sts_c, allFz, allFzA, tupT, evMmP, evMm, lstAt, wipeT, ownsA, pickL, callSt, evT_lit, evT_sl, evT_gl, evT_op, evT_ch, evT_not, evT_and, evT_or, evT_ife, evT_neg, evT_ix, evT_b1, evT_b2, evT_isi, sizeLine_eq, Function.comp_def]
end Lw
namespace Lw
open PySem DL
theorem eq_str {s : Str} (h : PyData.strOk s = true) : o2 .eq (.str s) (.str s) = some (.bl true) := by
  have z := ne_str h
  have c : D.cmp (.str s) = true := by
    cases hc : D.cmp (.str s) with
    | true => rfl
    | false =>
      have e : o2 .ne (.str s) (.str s) = if (D.str s).cmp = true ∧ (D.str s).cmp = true then some (D.bl (!PyData.eqv (.str s) (.str s))) else none := rfl
      rw [e, hc] at z
      simp at z
  show (if (D.str s).cmp = true ∧ (D.str s).cmp = true then some (D.bl (PyData.eqv (.str s) (.str s))) else none) = _
  rw [if_pos ⟨c, c⟩]
  have : PyData.eqv (.str s) (.str s) = true := by simp [PyData.eqv]
  rw [this]
def StK (p : T) (e : Int) (ns : List Int) (kept : Str) (ρ : Sl) : Prop := ∃ (d : Int) (m : T) (o3 o4 o6 o9 o10 o11 o12 o13 o14 : Option T), 0 ≤ d ∧ d ≤ 1000000000000000000000000000000 ∧ m.d = .lst (mkD e ns) ∧
  ρ = [some p, some (.fz (.int e)), some (.fz (lotD e ns)), o3, o4, some (.fz (.int d)), o6, some (.fz (.str kept)), some m, o9, o10, o11, o12, o13, o14]
theorem step_ok {e d t : Int} {ns : List Int} {p m : T} {kept : Str} {o3 o4 o9 o10 o11 o12 o13 o14 : Option T} (l : Lot e ns) (hr : reprD (lotD e ns) = some (.str kept)) (hk : PyData.strOk kept = true) (d0 : 0 ≤ d) (d1 : d ≤ 1000000000000000000000000000000) (hm : m.d = .lst (mkD e ns)) :
    (∃ ρ2, evSs tb18 B_law_right_3 [some p, some (.fz (.int e)), some (.fz (lotD e ns)), o3, o4, some (.fz (.int d)), some (.fz (.int t)), some (.fz (.str kept)), some m, o9, o10, o11, o12, o13, o14] = some (.nx ρ2) ∧ StK p e ns kept ρ2) ∨
    ∃ r ρ2, evSs tb18 B_law_right_3 [some p, some (.fz (.int e)), some (.fz (lotD e ns)), o3, o4, some (.fz (.int d)), some (.fz (.int t)), some (.fz (.str kept)), some m, o9, o10, o11, o12, o13, o14] = some (.ret r ρ2) ∧ r = .fz (.bl true) ∧ ρ2[0]? = some (some p) := by
  have l1 := l.e1
  have nx := next_ok l d0
  have mn := mknext_ok l d0
  have ek := eq_str hk
  cases ns with
  | nil =>
    have nx' : F_next_day [.fz (lotD e []), .fz (.int d)] = some (.ret (.fz .non) [none, none]) := nx
    have en : o2 .eq (.lst []) (.lst []) = some (.bl true) := eq_nil []
    have a1 : L2.atI [D.int e, D.lst []] 1 = some (.lst []) := rfl
    refine .inr ⟨.fz (.bl true), [some p, some (.fz (.int e)), none, o3, o4, some (.fz (.int d)), some (.fz (.int t)), some (.fz (.str kept)), some m, o9, o10, o11, some (.fz .non), o13, o14], ?_, rfl, rfl⟩
    simp -implicitDefEqProofs [B_law_right_3, Lw.at_2_0, Lw.at_2_1, Lw.at_4_0, Lw.at_4_1, Lw.at_9_7, Lw.at_11_7, Lw.at_11_10, Lw.at_12_7, Lw.at_12_11, Lw.at_14_13, Lw.at_15_7, Lw.at_17_2, Lw.at_17_3, Lw.at_17_4, Lw.at_17_5, Lw.at_17_8, Lw.at_17_16, Lw.at_18_4, Lw.at_18_7, Lw.at_18_9, Lw.at_18_12, Lw.at_18_14, Lw.at_18_15, Lw.at_18_16, Lw.at_18_17, Lw.at_19_6, Lw.at_19_18, nx', en, a1, hr, ek, bf_repr, evV1, evKs, pR, fzsR, mvR, callR, callSR, callK0R, callKR, lcR, DL.augR, mm1R, bfR, ioR, evE, evOe, evEs, evVs, evB, evBs, evI, evS, evSs, andR, orR, bR_ok, bR_ex, bR_no, bE_ok, bE_ex, bE_no, bF_nx, bF_ret, bF_bk, bF_ct, bF_ex, bF_no, oR_s, oR_n, evP, d_fz, d_lst, d_tup, o_add, o_adds, o_sub, o_mul, o_fdiv, o_mod, o_pow, o_lt, o_le, o_gt, o_ge, o_eq, o_ne, o_isN, o_isnN, o_in, o_nin, x_fl, x_ft, x_fs, x_l, x_t, b_lens, b_lenl, b_lent, b_lenr, b_int, b_intb, b_abs, b_min, b_max, t_bl, t_int, t_lst, t_tup, t_non, n_int, z_fz, i_ii, i_bi, i_bb, i_ib, nn_int, nn_non, o_neb, o_eqb, l_lst, l_tup, l_int, k_ft, k_t, y_fl, y_l, a_ints, a_ll, a_fl, a_lf, a_ff, m_app, m_ext, s_lst, callD, takeA, putA, retOk, lendA, ioA, isFz, T.sh, T.shs, shE, D.imm, D.imms, rsvPt, evSet, subT, putT, storeG, st_n, st_t, sts_n, sts_c, allFz, allFzA, tupT, evMmP, evMm, lstAt, wipeT, ownsA, pickL, callSt, evT_lit, evT_sl, evT_gl, evT_op, evT_ch, evT_not, evT_and, evT_or, evT_ife, evT_neg, evT_ix, evT_b1, evT_b2, evT_isi, sizeLine_eq, Function.comp_def]
  | cons n r =>
    have fe := first_eq (d := d) l
    unfold nextT at mn
    cases hf : firstS e (n :: r) d with
    | none =>
      rw [hf] at fe
      cases fe
    | some s =>
      rw [hf] at fe mn
      rw [fe] at nx
      have hs := List.mem_of_find?_eq_some hf
      have s01 := mem_rg.mp hs
      have e2 := l.e2
      obtain ⟨tx, r1, ok⟩ := repr_one (i := d + s) (by
        have : (d + s).natAbs < 2 ^ 128 := by omega
        exact Nat.lt_of_lt_of_le this (Nat.pow_le_pow_right (by decide) (by decide)))
      have ns1 := ne_str ok
      have es1 := eq_str ok
      by_cases hb : 1000000000000000000000000000000 < d + s
      · refine .inr ⟨.fz (.bl true), [some p, some (.fz (.int e)), some (.fz (lotD e (n :: r))), o3, o4, none, some (.fz (.int t)), some (.fz (.str kept)), some (.fz (.lst (mkD e (n :: r)))), o9, o10, o11, none, none, o14], ?_, rfl, rfl⟩
        simp -implicitDefEqProofs [B_law_right_3, Lw.at_2_0, Lw.at_2_1, Lw.at_4_0, Lw.at_4_1, Lw.at_9_7, Lw.at_11_7, Lw.at_11_10, Lw.at_12_7, Lw.at_12_11, Lw.at_14_13, Lw.at_15_7, Lw.at_17_2, Lw.at_17_3, Lw.at_17_4, Lw.at_17_5, Lw.at_17_8, Lw.at_17_16, Lw.at_18_4, Lw.at_18_7, Lw.at_18_9, Lw.at_18_12, Lw.at_18_14, Lw.at_18_15, Lw.at_18_16, Lw.at_18_17, Lw.at_19_6, Lw.at_19_18, nx, mn, hm, r1, ns1, es1, hb, bf_repr, pw30, evV1, evKs, pR, fzsR, mvR, callR, callSR, callK0R, callKR, lcR, DL.augR, mm1R, bfR, ioR, evE, evOe, evEs, evVs, evB, evBs, evI, evS, evSs, andR, orR, bR_ok, bR_ex, bR_no, bE_ok, bE_ex, bE_no, bF_nx, bF_ret, bF_bk, bF_ct, bF_ex, bF_no, oR_s, oR_n, evP, d_fz, d_lst, d_tup, o_add, o_adds, o_sub, o_mul, o_fdiv, o_mod, o_pow, o_lt, o_le, o_gt, o_ge, o_eq, o_ne, o_isN, o_isnN, o_in, o_nin, x_fl, x_ft, x_fs, x_l, x_t, b_lens, b_lenl, b_lent, b_lenr, b_int, b_intb, b_abs, b_min, b_max, t_bl, t_int, t_lst, t_tup, t_non, n_int, z_fz, i_ii, i_bi, i_bb, i_ib, nn_int, nn_non, o_neb, o_eqb, l_lst, l_tup, l_int, k_ft, k_t, y_fl, y_l, a_ints, a_ll, a_fl, a_lf, a_ff, m_app, m_ext, s_lst, callD, takeA, putA, retOk, lendA, ioA, isFz, T.sh, T.shs, shE, D.imm, D.imms, rsvPt, evSet, subT, putT, storeG, st_n, st_t, sts_n, sts_c, allFz, allFzA, tupT, evMmP, evMm, lstAt, wipeT, ownsA, pickL, callSt, evT_lit, evT_sl, evT_gl, evT_op, evT_ch, evT_not, evT_and, evT_or, evT_ife, evT_neg, evT_ix, evT_b1, evT_b2, evT_isi, sizeLine_eq, Function.comp_def]
      · have mz := minZ_le 1000000000000000000000000000000 (d + s + 1)
        refine .inl ⟨[some p, some (.fz (.int e)), some (.fz (lotD e (n :: r))), o3, o4, some (.fz (.int (minZ 1000000000000000000000000000000 (d + s + 1)))), some (.fz (.int t)), some (.fz (.str kept)), some (.fz (.lst (mkD e (n :: r)))), o9, o10, o11, none, some (.fz (.lst [.int (d + s)])), o14], ?_, _, .fz (.lst (mkD e (n :: r))), _, _, _, _, _, _, _, _, _, by omega, by omega, rfl, rfl⟩
        simp -implicitDefEqProofs [B_law_right_3, Lw.at_2_0, Lw.at_2_1, Lw.at_4_0, Lw.at_4_1, Lw.at_9_7, Lw.at_11_7, Lw.at_11_10, Lw.at_12_7, Lw.at_12_11, Lw.at_14_13, Lw.at_15_7, Lw.at_17_2, Lw.at_17_3, Lw.at_17_4, Lw.at_17_5, Lw.at_17_8, Lw.at_17_16, Lw.at_18_4, Lw.at_18_7, Lw.at_18_9, Lw.at_18_12, Lw.at_18_14, Lw.at_18_15, Lw.at_18_16, Lw.at_18_17, Lw.at_19_6, Lw.at_19_18, nx, mn, hm, r1, ns1, es1, hb, bf_repr, bf_min2, pw30, evV1, evKs, pR, fzsR, mvR, callR, callSR, callK0R, callKR, lcR, DL.augR, mm1R, bfR, ioR, evE, evOe, evEs, evVs, evB, evBs, evI, evS, evSs, andR, orR, bR_ok, bR_ex, bR_no, bE_ok, bE_ex, bE_no, bF_nx, bF_ret, bF_bk, bF_ct, bF_ex, bF_no, oR_s, oR_n, evP, d_fz, d_lst, d_tup, o_add, o_adds, o_sub, o_mul, o_fdiv, o_mod, o_pow, o_lt, o_le, o_gt, o_ge, o_eq, o_ne, o_isN, o_isnN, o_in, o_nin, x_fl, x_ft, x_fs, x_l, x_t, b_lens, b_lenl, b_lent, b_lenr, b_int, b_intb, b_abs, b_min, b_max, t_bl, t_int, t_lst, t_tup, t_non, n_int, z_fz, i_ii, i_bi, i_bb, i_ib, nn_int, nn_non, o_neb, o_eqb, l_lst, l_tup, l_int, k_ft, k_t, y_fl, y_l, a_ints, a_ll, a_fl, a_lf, a_ff, m_app, m_ext, s_lst, callD, takeA, putA, retOk, lendA, ioA, isFz, T.sh, T.shs, shE, D.imm, D.imms, rsvPt, evSet, subT, putT, storeG, st_n, st_t, sts_n, sts_c, allFz, allFzA, tupT, evMmP, evMm, lstAt, wipeT, ownsA, pickL, callSt, evT_lit, evT_sl, evT_gl, evT_op, evT_ch, evT_not, evT_and, evT_or, evT_ife, evT_neg, evT_ix, evT_b1, evT_b2, evT_isi, sizeLine_eq, Function.comp_def]
end Lw
namespace Lw
open PySem DL
def R_law_right : Ss := (.cons (.for_ (.n 4) (.tup (.tup (.cons (.p (.lit (.int 0))) (.cons (.p (.lit (.int 1))) (.cons (.p (.lit (.int 0))) .nil))))) B_law_right_2) (.cons (.asg 5 (.p (.ix (.sl 3) (.lit (.int 0))))) (.cons (.for_ (.n 6) (.rng1 (.p (.lit (.int 4)))) B_law_right_3) (.cons (.ret (.cmp .eq (.bf .repr (.cons (.mv 2) .nil)) (.p (.sl 7)))) .nil))))
theorem R_law_right_eq : d_law_right.b = (.cons (.asg 1 (.call 9 (.q [.io 0]))) (.cons (.asg 2 (.tup (.cons (.p (.sl 1)) (.cons (.call 12 (.q [.io 0, .b (.sl 1)])) .nil)))) (.cons (.par2 7 8 (.cons (.bf .repr (.cons (.fzs 2) .nil)) (.cons (.call 14 (.c (.fzs 2) (.bf (.sl 1) (.q [])))) .nil))) (.cons (.asg 3 (.add (.lc [("turn", 6)] (.n 6) (.rng1 (.p (.lit (.int 3)))) CT_law_right_1 CE_law_right_1) (.lst (.cons (.p (.lit (.int 0))) .nil)))) (.cons (.ife (.cmp .ne (.p (.ix (.sl 2) (.lit (.int 1)))) (.lst .nil)) (.cons (.asg 9 (.ix (.p (.ix (.sl 2) (.lit (.int 1)))) (.call 7 (.q [.io 0, .b (.b1 .len (.ix (.sl 2) (.lit (.int 1))))])))) (.cons (.asg 10 (.bin .mul (.bin .fdiv (.call 15 (.q [.io 0])) (.p (.sl 1))) (.p (.sl 1)))) (.cons (.asg 11 (.lst (.cons (.p (.op .add (.sl 10) (.sl 9))) (.cons (.p (.op .add (.op .add (.sl 10) (.sl 9)) (.lit (.int 1)))) (.cons (.p (.b2 .max (.lit (.int 0)) (.op .sub (.op .add (.sl 10) (.sl 9)) (.lit (.int 1))))) .nil))))) (.cons (.asg 3 (.add (.mv 3) (.lc [("spot", 14)] (.n 14) (.lst (.mv 11)) CT_law_right_2 CE_law_right_2))) .nil)))) .nil) R_law_right))))) := rfl
theorem rest_ok {e : Int} {ns ms : List Int} {p m : T} {kept : Str} {o4 o5 o6 o9 o10 o11 o12 o13 o14 : Option T} (l : Lot e ns) (hr : reprD (lotD e ns) = some (.str kept)) (hk : PyData.strOk kept = true) (hm : m.d = .lst (mkD e ns)) (h : Ms ms) :
    ∃ ρ, evSs tb18 R_law_right [some p, some (.fz (.int e)), some (.fz (lotD e ns)), some (.lst (ms.map fun n => .fz (.int n))), o4, o5, o6, some (.fz (.str kept)), some m, o9, o10, o11, o12, o13, o14] = some (.ret (.fz (.bl true)) ρ) ∧ ρ[0]? = some (some p) := by
  have L : ∃ ρ', forF (stT (.n 4)) (evSs tb18 B_law_right_2) ([0, 1, 0].map D.int) [some p, some (.fz (.int e)), some (.fz (lotD e ns)), some (.lst (ms.map fun n => .fz (.int n))), o4, o5, o6, some (.fz (.str kept)), some m, o9, o10, o11, o12, o13, o14] = some (.nx ρ') ∧
      ∃ ms' m' o4' o5', Ms ms' ∧ m'.d = .lst (mkD e ns) ∧ ρ' = [some p, some (.fz (.int e)), some (.fz (lotD e ns)), some (.lst (ms'.map fun n => .fz (.int n))), o4', o5', o6, some (.fz (.str kept)), some m', o9, o10, o11, o12, o13, o14] := by
    refine for_ints (fun _ _ ρ' => ∃ ms' m' o4' o5', Ms ms' ∧ m'.d = .lst (mkD e ns) ∧ ρ' = [some p, some (.fz (.int e)), some (.fz (lotD e ns)), some (.lst (ms'.map fun n => .fz (.int n))), o4', o5', o6, some (.fz (.str kept)), some m', o9, o10, o11, o12, o13, o14]) ⟨ms, m, o4, o5, h, hm, rfl⟩ ?_
    rintro done w r ρ ed ⟨ms', m', o4', o5', h', hm', rfl⟩
    obtain ⟨o5'', m'', hm'', e1⟩ := days_in (w := w) (p0 := some p) (o5 := o5') (o6 := o6) (o7 := some (.fz (.str kept))) (o9 := o9) (o10 := o10) (o11 := o11) (o12 := o12) (o13 := o13) (o14 := o14) l hm' h'
    exact ⟨_, rfl, _, .inl e1, ms'.reverse, m'', _, o5'', ⟨by simpa using h'.1, by simpa using h'.2.1, fun x hx => h'.2.2 x (by simpa using hx)⟩, hm'', rfl⟩
  obtain ⟨ρ', e1, ms', m', o4', o5', h', hm', rfl⟩ := L
  have e1 : forF (stT (.n 4)) (evSs tb18 B_law_right_2) [.int 0, .int 1, .int 0] _ = _ := e1
  have hl : 0 < ms'.length := List.length_pos_iff.mpr h'.1
  obtain ⟨d, hd, a0⟩ := at_i (ns := ms') (r := 0) (by decide) (by omega)
  have d01 := h'.2.2 d hd
  have r4 := r1 (j := 4) (by decide) (by decide)
  have ek := eq_str hk
  have Q := for_or (st := stT (.n 6)) (fb := evSs tb18 B_law_right_3) (StK p e ns kept) (fun t ρ => t = .fz (.bl true) ∧ ρ[0]? = some (some p)) (rg 0 4) [some p, some (.fz (.int e)), some (.fz (lotD e ns)), some (.lst (ms'.map fun n => .fz (.int n))), o4', some (.fz (.int d)), o6, some (.fz (.str kept)), some m', o9, o10, o11, o12, o13, o14]
    ⟨d, m', _, _, _, _, _, _, _, _, _, d01.1, d01.2, hm', rfl⟩ (by
      rintro t _ ρ ⟨d', m2, q3, q4, q6, q9, q10, q11, q12, q13, q14, b0, b1, hm2, rfl⟩
      refine ⟨_, rfl, ?_⟩
      rcases step_ok (t := t) (o3 := q3) (o4 := q4) (o9 := q9) (o10 := q10) (o11 := q11) (o12 := q12) (o13 := q13) (o14 := q14) l hr hk b0 b1 hm2 with h | ⟨r, ρ2, h1, h2, h3⟩
      · exact .inl h
      · exact .inr ⟨r, ρ2, h1, h2, h3⟩)
  rcases Q with ⟨ρ', e2, d', m2, q3, q4, q6, q9, q10, q11, q12, q13, q14, b0, b1, hm2, rfl⟩ | ⟨t, ρ', e2, rfl, e3⟩
  · refine ⟨[some p, some (.fz (.int e)), none, q3, q4, some (.fz (.int d')), q6, some (.fz (.str kept)), some m2, q9, q10, q11, q12, q13, q14], ?_, rfl⟩
    simp -implicitDefEqProofs [R_law_right, e1, a0, r4, e2, hr, ek, bf_repr, evV1, evKs, pR, fzsR, mvR, callR, callSR, callK0R, callKR, lcR, DL.augR, mm1R, bfR, ioR, evE, evOe, evEs, evVs, evB, evBs, evI, evS, evSs, andR, orR, bR_ok, bR_ex, bR_no, bE_ok, bE_ex, bE_no, bF_nx, bF_ret, bF_bk, bF_ct, bF_ex, bF_no, oR_s, oR_n, evP, d_fz, d_lst, d_tup, o_add, o_adds, o_sub, o_mul, o_fdiv, o_mod, o_pow, o_lt, o_le, o_gt, o_ge, o_eq, o_ne, o_isN, o_isnN, o_in, o_nin, x_fl, x_ft, x_fs, x_l, x_t, b_lens, b_lenl, b_lent, b_lenr, b_int, b_intb, b_abs, b_min, b_max, t_bl, t_int, t_lst, t_tup, t_non, n_int, z_fz, i_ii, i_bi, i_bb, i_ib, nn_int, nn_non, o_neb, o_eqb, l_lst, l_tup, l_int, k_ft, k_t, y_fl, y_l, a_ints, a_ll, a_fl, a_lf, a_ff, m_app, m_ext, s_lst, callD, takeA, putA, retOk, lendA, ioA, isFz, T.sh, T.shs, shE, D.imm, D.imms, rsvPt, evSet, subT, putT, storeG, st_n, st_t, sts_n, sts_c, allFz, allFzA, tupT, evMmP, evMm, lstAt, wipeT, ownsA, pickL, callSt, evT_lit, evT_sl, evT_gl, evT_op, evT_ch, evT_not, evT_and, evT_or, evT_ife, evT_neg, evT_ix, evT_b1, evT_b2, evT_isi, sizeLine_eq, Function.comp_def]
  · refine ⟨ρ', ?_, e3⟩
    simp -implicitDefEqProofs [R_law_right, e1, a0, r4, e2, evV1, evKs, pR, fzsR, mvR, callR, callSR, callK0R, callKR, lcR, DL.augR, mm1R, bfR, ioR, evE, evOe, evEs, evVs, evB, evBs, evI, evS, evSs, andR, orR, bR_ok, bR_ex, bR_no, bE_ok, bE_ex, bE_no, bF_nx, bF_ret, bF_bk, bF_ct, bF_ex, bF_no, oR_s, oR_n, evP, d_fz, d_lst, d_tup, o_add, o_adds, o_sub, o_mul, o_fdiv, o_mod, o_pow, o_lt, o_le, o_gt, o_ge, o_eq, o_ne, o_isN, o_isnN, o_in, o_nin, x_fl, x_ft, x_fs, x_l, x_t, b_lens, b_lenl, b_lent, b_lenr, b_int, b_intb, b_abs, b_min, b_max, t_bl, t_int, t_lst, t_tup, t_non, n_int, z_fz, i_ii, i_bi, i_bb, i_ib, nn_int, nn_non, o_neb, o_eqb, l_lst, l_tup, l_int, k_ft, k_t, y_fl, y_l, a_ints, a_ll, a_fl, a_lf, a_ff, m_app, m_ext, s_lst, callD, takeA, putA, retOk, lendA, ioA, isFz, T.sh, T.shs, shE, D.imm, D.imms, rsvPt, evSet, subT, putT, storeG, st_n, st_t, sts_n, sts_c, allFz, allFzA, tupT, evMmP, evMm, lstAt, wipeT, ownsA, pickL, callSt, evT_lit, evT_sl, evT_gl, evT_op, evT_ch, evT_not, evT_and, evT_or, evT_ife, evT_neg, evT_ix, evT_b1, evT_b2, evT_isi, sizeLine_eq, Function.comp_def]
end Lw
namespace Lw
open PySem DL
abbrev pre (p : T) (e : Int) (ns : List Int) (kept : Str) (m : T) : Sl := [some p, some (.fz (.int e)), some (.fz (lotD e ns)), none, none, none, none, some (.fz (.str kept)), some m, none, none, none, none, none, none]
theorem draw3 {e : Int} {ns : List Int} {k : Nat} {p m : T} {kept : Str} (h : Pu k p) (hk : k + 10 ≤ 2 ^ 60) : ∃ (p' : T) (ms : List Int), Pu (k + 6) p' ∧ (∀ x ∈ ms, 0 ≤ x ∧ x ≤ 1000000000000000000000000000000) ∧ ms.length = 3 ∧
    lcF (stT (.n 6)) (evBs tb18 CT_law_right_1) (evE tb18 CE_law_right_1) [6] ((rg 0 3).map D.int) (pre p e ns kept m) [] = some (.ok (ms.map fun n => .fz (.int n)) (pre p' e ns kept m)) := by
  have Q := lc_inv (st := stT (.n 6)) (ft := evBs tb18 CT_law_right_1) (fe := evE tb18 CE_law_right_1) (vs := [6])
    (fun ds ρ acc => ∃ (p' : T) (ms : List Int), Pu (k + 2 * ms.length) p' ∧ ρ = pre p' e ns kept m ∧ acc = ms.map (fun n : Int => T.fz (.int n)) ∧ (∀ x ∈ ms, 0 ≤ x ∧ x ≤ 1000000000000000000000000000000) ∧ ms.length + ds.length = 3) ?st ((rg 0 3).map D.int) (pre p e ns kept m) [] ⟨p, [], h, rfl, rfl, by simp, by simp [rg_len]⟩
  case st =>
    rintro d r ρ acc ⟨p', ms, u, rfl, rfl, hm, hl⟩
    rw [List.length_cons] at hl
    obtain ⟨p'', x, u2, x0, x1, e1⟩ := moment_ok u (by omega)
    refine ⟨[some p', some (.fz (.int e)), some (.fz (lotD e ns)), none, none, none, some (.fz d), some (.fz (.str kept)), some m, none, none, none, none, none, none], [some p', some (.fz (.int e)), some (.fz (lotD e ns)), none, none, none, some (.fz d), some (.fz (.str kept)), some m, none, none, none, none, none, none], true, rfl, rfl, (fun z => nomatch z), fun _ => ⟨.fz (.int x), [some p'', some (.fz (.int e)), some (.fz (lotD e ns)), none, none, none, some (.fz d), some (.fz (.str kept)), some m, none, none, none, none, none, none], ?_, by rw [sizeLine_eq, List.length_map]; omega, p'', ms ++ [x], u2.up (by rw [List.length_append, List.length_singleton]; omega), rfl, by simp, ?_, by simp; omega⟩⟩
    · simp -implicitDefEqProofs [CE_law_right_1, Lw.at_2_0, Lw.at_2_1, Lw.at_4_0, Lw.at_4_1, Lw.at_9_7, Lw.at_11_7, Lw.at_11_10, Lw.at_12_7, Lw.at_12_11, Lw.at_14_13, Lw.at_15_7, Lw.at_17_2, Lw.at_17_3, Lw.at_17_4, Lw.at_17_5, Lw.at_17_8, Lw.at_17_16, Lw.at_18_4, Lw.at_18_7, Lw.at_18_9, Lw.at_18_12, Lw.at_18_14, Lw.at_18_15, Lw.at_18_16, Lw.at_18_17, Lw.at_19_6, Lw.at_19_18, e1, evV1, evKs, pR, fzsR, mvR, callR, callSR, callK0R, callKR, lcR, DL.augR, mm1R, bfR, ioR, evE, evOe, evEs, evVs, evB, evBs, evI, evS, evSs, andR, orR, bR_ok, bR_ex, bR_no, bE_ok, bE_ex, bE_no, bF_nx, bF_ret, bF_bk, bF_ct, bF_ex, bF_no, oR_s, oR_n, evP, d_fz, d_lst, d_tup, o_add, o_adds, o_sub, o_mul, o_fdiv, o_mod, o_pow, o_lt, o_le, o_gt, o_ge, o_eq, o_ne, o_isN, o_isnN, o_in, o_nin, x_fl, x_ft, x_fs, x_l, x_t, b_lens, b_lenl, b_lent, b_lenr, b_int, b_intb, b_abs, b_min, b_max, t_bl, t_int, t_lst, t_tup, t_non, n_int, z_fz, i_ii, i_bi, i_bb, i_ib, nn_int, nn_non, o_neb, o_eqb, l_lst, l_tup, l_int, k_ft, k_t, y_fl, y_l, a_ints, a_ll, a_fl, a_lf, a_ff, m_app, m_ext, s_lst, callD, takeA, putA, retOk, lendA, ioA, isFz, T.sh, T.shs, shE, D.imm, D.imms, rsvPt, evSet, subT, putT, storeG, st_n, st_t, sts_n, sts_c, allFz, allFzA, tupT, evMmP, evMm, lstAt, wipeT, ownsA, pickL, callSt, evT_lit, evT_sl, evT_gl, evT_op, evT_ch, evT_not, evT_and, evT_or, evT_ife, evT_neg, evT_ix, evT_b1, evT_b2, evT_isi, sizeLine_eq, Function.comp_def]
    · intro y hy
      rcases List.mem_append.mp hy with hy | hy
      · exact hm y hy
      · rw [List.mem_singleton] at hy
        subst hy
        exact ⟨x0, x1⟩
  obtain ⟨acc', ρ', e, p', ms, u, rfl, rfl, hm, hl⟩ := Q
  have hl' : ms.length = 3 := by simpa using hl
  rw [hl'] at u
  exact ⟨p', ms, u, hm, hl', e⟩
theorem ne_nil (ns : List Int) : o2 .ne (.lst (ns.map D.int)) (.lst []) = some (.bl (!decide (ns = []))) := by
  have z := eq_nil ns
  have c : D.cmp (.lst (ns.map D.int)) = true ∧ D.cmp (.lst []) = true := by
    apply Classical.byContradiction
    intro h
    have e : o2 .eq (.lst (ns.map D.int)) (.lst []) = if (D.lst (ns.map D.int)).cmp = true ∧ (D.lst []).cmp = true then some (D.bl (PyData.eqv (D.lst (ns.map D.int)).py (D.lst []).py)) else none := rfl
    rw [e, if_neg h] at z
    cases z
  have e : o2 .eq (.lst (ns.map D.int)) (.lst []) = if (D.lst (ns.map D.int)).cmp = true ∧ (D.lst []).cmp = true then some (D.bl (PyData.eqv (D.lst (ns.map D.int)).py (D.lst []).py)) else none := rfl
  rw [e, if_pos c] at z
  have e2 : o2 .ne (.lst (ns.map D.int)) (.lst []) = if (D.lst (ns.map D.int)).cmp = true ∧ (D.lst []).cmp = true then some (D.bl (!PyData.eqv (D.lst (ns.map D.int)).py (D.lst []).py)) else none := rfl
  rw [e2, if_pos c]
  simp only [Option.some.injEq, D.bl.injEq] at z
  rw [z]
theorem right_ok {p : T} (h : Pu 0 p) : ∃ p', F_law_right [p] = some (.ret (.fz (.bl true)) [some p']) := by
  obtain ⟨p1, e, u1, l1, l2, e1⟩ := base_ok h (by decide)
  obtain ⟨p2, ns, u2, asc, rng, e2⟩ := leaves_ok u1 (by decide) l1 l2
  have l : Lot e ns := ⟨l1, l2, asc, rng⟩
  have ln := l.len
  obtain ⟨s, hr, hs⟩ := repr_lot (e := e) (ns := ns) (by omega) l2 (fun x hx => by have := rng x hx; omega) ln
  have mk := marks_ok l
  obtain ⟨p3, ms, u3, hms, hml, e3⟩ := draw3 (e := e) (ns := ns) (m := .lst (mkT e ns)) (kept := s) u2 (by decide)
  have r3 := r1 (j := 3) (by decide) (by decide)
  have nn := ne_nil ns
  have a1 : L2.atI [D.int e, D.lst (ns.map D.int)] 1 = some (.lst (ns.map D.int)) := rfl
  have dm : T.d (.lst (mkT e ns)) = .lst (mkD e ns) := by rw [d_lst, d_mkT]
  rw [F_law_right_eq]
  by_cases hn : ns = []
  · have M : Ms (ms ++ [0]) := ⟨by simp, by simp; omega, fun x hx => by
      rcases List.mem_append.mp hx with hx | hx
      · exact hms x hx
      · rw [List.mem_singleton] at hx
        omega⟩
    obtain ⟨ρ, e4, e5⟩ := rest_ok (p := p3) (m := .lst (mkT e ns)) (o4 := none) (o5 := none) (o6 := none) (o9 := none) (o10 := none) (o11 := none) (o12 := none) (o13 := none) (o14 := none) l hr hs dm M
    refine ⟨p3, ?_⟩
    simp only [List.map_append, List.map_cons, List.map_nil] at e4
    have sz : ms.length + 1 ≤ 16777216 := by omega
    have nn' : o2 .ne (.lst (ns.map D.int)) (.lst []) = some (.bl false) := by
      rw [nn]
      simp [hn]
    clear nn hn
    simp -implicitDefEqProofs [denB, finS, R_law_right_eq, List.range, List.range.loop, Lw.at_2_0, Lw.at_2_1, Lw.at_4_0, Lw.at_4_1, Lw.at_9_7, Lw.at_11_7, Lw.at_11_10, Lw.at_12_7, Lw.at_12_11, Lw.at_14_13, Lw.at_15_7, Lw.at_17_2, Lw.at_17_3, Lw.at_17_4, Lw.at_17_5, Lw.at_17_8, Lw.at_17_16, Lw.at_18_4, Lw.at_18_7, Lw.at_18_9, Lw.at_18_12, Lw.at_18_14, Lw.at_18_15, Lw.at_18_16, Lw.at_18_17, Lw.at_19_6, Lw.at_19_18, e1, e2, mk, hr, r3, e3, nn', a1, e4, e5, sz, bf_repr, evV1, evKs, pR, fzsR, mvR, callR, callSR, callK0R, callKR, lcR, DL.augR, mm1R, bfR, ioR, evE, evOe, evEs, evVs, evB, evBs, evI, evS, evSs, andR, orR, bR_ok, bR_ex, bR_no, bE_ok, bE_ex, bE_no, bF_nx, bF_ret, bF_bk, bF_ct, bF_ex, bF_no, oR_s, oR_n, evP, d_fz, d_lst, d_tup, o_add, o_adds, o_sub, o_mul, o_fdiv, o_mod, o_pow, o_lt, o_le, o_gt, o_ge, o_eq, o_ne, o_isN, o_isnN, o_in, o_nin, x_fl, x_ft, x_fs, x_l, x_t, b_lens, b_lenl, b_lent, b_lenr, b_int, b_intb, b_abs, b_min, b_max, t_bl, t_int, t_lst, t_tup, t_non, n_int, z_fz, i_ii, i_bi, i_bb, i_ib, nn_int, nn_non, o_neb, o_eqb, l_lst, l_tup, l_int, k_ft, k_t, y_fl, y_l, a_ints, a_ll, a_fl, a_lf, a_ff, m_app, m_ext, s_lst, callD, takeA, putA, retOk, lendA, ioA, isFz, T.sh, T.shs, shE, D.imm, D.imms, rsvPt, evSet, subT, putT, storeG, st_n, st_t, sts_n, sts_c, allFz, allFzA, tupT, evMmP, evMm, lstAt, wipeT, ownsA, pickL, callSt, evT_lit, evT_sl, evT_gl, evT_op, evT_ch, evT_not, evT_and, evT_or, evT_ife, evT_neg, evT_ix, evT_b1, evT_b2, evT_isi, sizeLine_eq, Function.comp_def]
  · have hlen : (0 : Int) < ns.length := by
      have := List.length_pos_iff.mpr hn
      omega
    obtain ⟨p4, q, u4, q0, q1, e4⟩ := coin_ok u3 (by decide) (n := (ns.length : Int)) hlen (by omega)
    obtain ⟨leaf, hleaf, a2⟩ : ∃ x ∈ ns, L2.atI (ns.map D.int) q = some (.int x) := by
      have hl : q.toNat < ns.length := by omega
      refine ⟨ns[q.toNat], List.getElem_mem hl, ?_⟩
      rw [atI_nat q0 (by rw [List.length_map]; exact q1), List.getElem?_map, List.getElem?_eq_getElem hl]
      rfl
    have lf := rng leaf hleaf
    obtain ⟨p5, v, u5, v0, v1, e5⟩ := moment_ok u4 (by decide)
    have e0 : 0 < e := by omega
    have dv : divB e = true := divB_le (by omega) (by omega)
    have w0 : 0 ≤ v / e := Int.ediv_nonneg v0 (by omega)
    have w1 : v / e ≤ v := Int.ediv_le_self e v0
    have mb : mulB (v / e) e = true := mulB_of (m := 100) (n := 13) (by omega) (by omega) (by decide)
    have w2 : 0 ≤ v / e * e := Int.mul_nonneg w0 (by omega)
    have mx := maxZ_le 0 (v / e * e + leaf - 1)
    have C : lcF (stT (.n 14)) (evBs tb18 CT_law_right_2) (evE tb18 CE_law_right_2) [14] ([v / e * e + leaf, v / e * e + leaf + 1, maxZ 0 (v / e * e + leaf - 1)].map D.int) [some p5, some (.fz (.int e)), some (.fz (lotD e ns)), none, none, none, none, some (.fz (.str s)), some (.lst (mkT e ns)), some (.fz (.int leaf)), some (.fz (.int (v / e * e))), none, none, none, none] [] =
        some (.ok ([v / e * e + leaf, v / e * e + leaf + 1, maxZ 0 (v / e * e + leaf - 1)].map fun x => .fz (.int (minZ 1000000000000000000000000000000 x))) [some p5, some (.fz (.int e)), some (.fz (lotD e ns)), none, none, none, none, some (.fz (.str s)), some (.lst (mkT e ns)), some (.fz (.int leaf)), some (.fz (.int (v / e * e))), none, none, none, none]) :=
      lc_m (em := D.int) _ rfl _ (by simp) fun x hx => ⟨[some p5, some (.fz (.int e)), some (.fz (lotD e ns)), none, none, none, none, some (.fz (.str s)), some (.lst (mkT e ns)), some (.fz (.int leaf)), some (.fz (.int (v / e * e))), none, none, none, some (.fz (.int x))], rfl, rfl, rfl, by simp -implicitDefEqProofs [CE_law_right_2, pw30, evV1, evKs, pR, fzsR, mvR, callR, callSR, callK0R, callKR, lcR, DL.augR, mm1R, bfR, ioR, evE, evOe, evEs, evVs, evB, evBs, evI, evS, evSs, andR, orR, bR_ok, bR_ex, bR_no, bE_ok, bE_ex, bE_no, bF_nx, bF_ret, bF_bk, bF_ct, bF_ex, bF_no, oR_s, oR_n, evP, d_fz, d_lst, d_tup, o_add, o_adds, o_sub, o_mul, o_fdiv, o_mod, o_pow, o_lt, o_le, o_gt, o_ge, o_eq, o_ne, o_isN, o_isnN, o_in, o_nin, x_fl, x_ft, x_fs, x_l, x_t, b_lens, b_lenl, b_lent, b_lenr, b_int, b_intb, b_abs, b_min, b_max, t_bl, t_int, t_lst, t_tup, t_non, n_int, z_fz, i_ii, i_bi, i_bb, i_ib, nn_int, nn_non, o_neb, o_eqb, l_lst, l_tup, l_int, k_ft, k_t, y_fl, y_l, a_ints, a_ll, a_fl, a_lf, a_ff, m_app, m_ext, s_lst, callD, takeA, putA, retOk, lendA, ioA, isFz, T.sh, T.shs, shE, D.imm, D.imms, rsvPt, evSet, subT, putT, storeG, st_n, st_t, sts_n, sts_c, allFz, allFzA, tupT, evMmP, evMm, lstAt, wipeT, ownsA, pickL, callSt, evT_lit, evT_sl, evT_gl, evT_op, evT_ch, evT_not, evT_and, evT_or, evT_ife, evT_neg, evT_ix, evT_b1, evT_b2, evT_isi, sizeLine_eq, Function.comp_def]⟩
    have M : Ms (ms ++ [0, minZ 1000000000000000000000000000000 (v / e * e + leaf), minZ 1000000000000000000000000000000 (v / e * e + leaf + 1), minZ 1000000000000000000000000000000 (maxZ 0 (v / e * e + leaf - 1))]) := ⟨by simp, by simp; omega, fun x hx => by
      have z1 := minZ_le 1000000000000000000000000000000 (v / e * e + leaf)
      have z2 := minZ_le 1000000000000000000000000000000 (v / e * e + leaf + 1)
      have z3 := minZ_le 1000000000000000000000000000000 (maxZ 0 (v / e * e + leaf - 1))
      rcases List.mem_append.mp hx with hx | hx
      · exact hms x hx
      · simp only [List.mem_cons, List.not_mem_nil, or_false] at hx
        rcases hx with rfl | rfl | rfl | rfl <;> omega⟩
    obtain ⟨ρ, e6, e7⟩ := rest_ok (p := p5) (m := .lst (mkT e ns)) (o4 := none) (o5 := none) (o6 := none) (o9 := some (.fz (.int leaf))) (o10 := some (.fz (.int (v / e * e)))) (o11 := none) (o12 := none) (o13 := none) (o14 := none) l hr hs dm M
    refine ⟨p5, ?_⟩
    simp only [List.map_append, List.map_cons, List.map_nil] at e6 C
    have sz : ms.length + 1 ≤ 16777216 := by omega
    have sz2 : ms.length + 1 + 3 ≤ 16777216 := by omega
    simp -implicitDefEqProofs [denB, finS, R_law_right_eq, List.range, List.range.loop, Lw.at_2_0, Lw.at_2_1, Lw.at_4_0, Lw.at_4_1, Lw.at_9_7, Lw.at_11_7, Lw.at_11_10, Lw.at_12_7, Lw.at_12_11, Lw.at_14_13, Lw.at_15_7, Lw.at_17_2, Lw.at_17_3, Lw.at_17_4, Lw.at_17_5, Lw.at_17_8, Lw.at_17_16, Lw.at_18_4, Lw.at_18_7, Lw.at_18_9, Lw.at_18_12, Lw.at_18_14, Lw.at_18_15, Lw.at_18_16, Lw.at_18_17, Lw.at_19_6, Lw.at_19_18, e1, e2, mk, hr, r3, e3, nn, hn, a1, e4, a2, e5, e0, dv, mb, C, e6, e7, sz, sz2, bf_repr, evV1, evKs, pR, fzsR, mvR, callR, callSR, callK0R, callKR, lcR, DL.augR, mm1R, bfR, ioR, evE, evOe, evEs, evVs, evB, evBs, evI, evS, evSs, andR, orR, bR_ok, bR_ex, bR_no, bE_ok, bE_ex, bE_no, bF_nx, bF_ret, bF_bk, bF_ct, bF_ex, bF_no, oR_s, oR_n, evP, d_fz, d_lst, d_tup, o_add, o_adds, o_sub, o_mul, o_fdiv, o_mod, o_pow, o_lt, o_le, o_gt, o_ge, o_eq, o_ne, o_isN, o_isnN, o_in, o_nin, x_fl, x_ft, x_fs, x_l, x_t, b_lens, b_lenl, b_lent, b_lenr, b_int, b_intb, b_abs, b_min, b_max, t_bl, t_int, t_lst, t_tup, t_non, n_int, z_fz, i_ii, i_bi, i_bb, i_ib, nn_int, nn_non, o_neb, o_eqb, l_lst, l_tup, l_int, k_ft, k_t, y_fl, y_l, a_ints, a_ll, a_fl, a_lf, a_ff, m_app, m_ext, s_lst, callD, takeA, putA, retOk, lendA, ioA, isFz, T.sh, T.shs, shE, D.imm, D.imms, rsvPt, evSet, subT, putT, storeG, st_n, st_t, sts_n, sts_c, allFz, allFzA, tupT, evMmP, evMm, lstAt, wipeT, ownsA, pickL, callSt, evT_lit, evT_sl, evT_gl, evT_op, evT_ch, evT_not, evT_and, evT_or, evT_ife, evT_neg, evT_ix, evT_b1, evT_b2, evT_isi, sizeLine_eq, Function.comp_def]
theorem good (ns : List Int) (hl : ns.length ≤ 63) (hb : ∀ i ∈ ns, Builtin.Int.intBits i ≤ 1048576) : ∃ fin, d_law.F tb19 [.fz (.scr ns)] = some (.ret (.fz (.bl true)) fin) := by
  have mz := minZ_le 6 (ns.length : Int)
  have mx := maxZ_le 1 (minZ 6 (ns.length : Int))
  have rr := r1 (j := maxZ 1 (minZ 6 (ns.length : Int))) (by omega) (by omega)
  have L : ∃ ρ', forF (stT (.n 1)) (evSs tb19 B_law_1) ((rg 0 (maxZ 1 (minZ 6 (ns.length : Int))).toNat).map D.int) [some (.fz (.scr ns)), none, none] = some (.nx ρ') ∧ ∃ o o', ρ' = [some (.fz (.scr ns)), o, o'] := by
    refine for_ints (fun _ _ ρ' => ∃ o o', ρ' = [some (.fz (.scr ns)), o, o']) ⟨none, none, rfl⟩ ?_
    rintro done x r ρ ed ⟨o, o', rfl⟩
    have hx := mem_rg.mp (show x ∈ rg 0 (maxZ 1 (minZ 6 (ns.length : Int))).toNat by rw [ed]; simp)
    obtain ⟨p, u, e1⟩ := purse_ok hb (q := x) (by omega) (by omega)
    obtain ⟨p', e2⟩ := right_ok u
    refine ⟨_, rfl, [some (.fz (.scr ns)), some (.fz (.int x)), some p'], .inl ?_, _, _, rfl⟩
    simp -implicitDefEqProofs [B_law_1, Lw.at_2_0, Lw.at_2_1, Lw.at_4_0, Lw.at_4_1, Lw.at_9_7, Lw.at_11_7, Lw.at_11_10, Lw.at_12_7, Lw.at_12_11, Lw.at_14_13, Lw.at_15_7, Lw.at_17_2, Lw.at_17_3, Lw.at_17_4, Lw.at_17_5, Lw.at_17_8, Lw.at_17_16, Lw.at_18_4, Lw.at_18_7, Lw.at_18_9, Lw.at_18_12, Lw.at_18_14, Lw.at_18_15, Lw.at_18_16, Lw.at_18_17, Lw.at_19_6, Lw.at_19_18, e1, e2, evV1, evKs, pR, fzsR, mvR, callR, callSR, callK0R, callKR, lcR, DL.augR, mm1R, bfR, ioR, evE, evOe, evEs, evVs, evB, evBs, evI, evS, evSs, andR, orR, bR_ok, bR_ex, bR_no, bE_ok, bE_ex, bE_no, bF_nx, bF_ret, bF_bk, bF_ct, bF_ex, bF_no, oR_s, oR_n, evP, d_fz, d_lst, d_tup, o_add, o_adds, o_sub, o_mul, o_fdiv, o_mod, o_pow, o_lt, o_le, o_gt, o_ge, o_eq, o_ne, o_isN, o_isnN, o_in, o_nin, x_fl, x_ft, x_fs, x_l, x_t, b_lens, b_lenl, b_lent, b_lenr, b_int, b_intb, b_abs, b_min, b_max, t_bl, t_int, t_lst, t_tup, t_non, n_int, z_fz, i_ii, i_bi, i_bb, i_ib, nn_int, nn_non, o_neb, o_eqb, l_lst, l_tup, l_int, k_ft, k_t, y_fl, y_l, a_ints, a_ll, a_fl, a_lf, a_ff, m_app, m_ext, s_lst, callD, takeA, putA, retOk, lendA, ioA, isFz, T.sh, T.shs, shE, D.imm, D.imms, rsvPt, evSet, subT, putT, storeG, st_n, st_t, sts_n, sts_c, allFz, allFzA, tupT, evMmP, evMm, lstAt, wipeT, ownsA, pickL, callSt, evT_lit, evT_sl, evT_gl, evT_op, evT_ch, evT_not, evT_and, evT_or, evT_ife, evT_neg, evT_ix, evT_b1, evT_b2, evT_isi, sizeLine_eq, Function.comp_def]
  obtain ⟨ρ', e1, o, o', rfl⟩ := L
  refine ⟨[none], ?_⟩
  show F_law _ = _
  rw [F_law_eq]
  simp -implicitDefEqProofs [denB, finS, d_law, List.range, List.range.loop, rr, e1, evV1, evKs, pR, fzsR, mvR, callR, callSR, callK0R, callKR, lcR, DL.augR, mm1R, bfR, ioR, evE, evOe, evEs, evVs, evB, evBs, evI, evS, evSs, andR, orR, bR_ok, bR_ex, bR_no, bE_ok, bE_ex, bE_no, bF_nx, bF_ret, bF_bk, bF_ct, bF_ex, bF_no, oR_s, oR_n, evP, d_fz, d_lst, d_tup, o_add, o_adds, o_sub, o_mul, o_fdiv, o_mod, o_pow, o_lt, o_le, o_gt, o_ge, o_eq, o_ne, o_isN, o_isnN, o_in, o_nin, x_fl, x_ft, x_fs, x_l, x_t, b_lens, b_lenl, b_lent, b_lenr, b_int, b_intb, b_abs, b_min, b_max, t_bl, t_int, t_lst, t_tup, t_non, n_int, z_fz, i_ii, i_bi, i_bb, i_ib, nn_int, nn_non, o_neb, o_eqb, l_lst, l_tup, l_int, k_ft, k_t, y_fl, y_l, a_ints, a_ll, a_fl, a_lf, a_ff, m_app, m_ext, s_lst, callD, takeA, putA, retOk, lendA, ioA, isFz, T.sh, T.shs, shE, D.imm, D.imms, rsvPt, evSet, subT, putT, storeG, st_n, st_t, sts_n, sts_c, allFz, allFzA, tupT, evMmP, evMm, lstAt, wipeT, ownsA, pickL, callSt, evT_lit, evT_sl, evT_gl, evT_op, evT_ch, evT_not, evT_and, evT_or, evT_ife, evT_neg, evT_ix, evT_b1, evT_b2, evT_isi, sizeLine_eq, Function.comp_def]
end Lw
theorem PySem.Challenge.cw_marketdays_k04_days_of_lots_holds : PySem.Challenge.rw_marketdays_k04_days_of_lots.Holds := by
  exact Lw.holds Lw.good
