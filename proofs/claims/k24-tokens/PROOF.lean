import PyProof.Rows.All
import Wide.All
import OpenK.AllK
import Wide.FinOn
import PySem.Challenge.RW_standapart_k24_whole_tokens_of_texts
import HandS.ForMost
import HandS.IsInst
import HandS.Lambda
import HandS.Walk
import HandS.Zip
import KE.GoesMore
import KE.GoesEnum
import HandS.Style
import HandS.StrMore
import HandS.Replace
import HandS.Wide
import HandS.WideBits
import HandS.More
import PyProof.StrOps2
import PyProof.ListStr
import PyProof.StrLawsChain
import PyProof.StrLawsTight
import PyProof.StrLawsIn
import PyProof.Rows.StrFromFirst
import KE.IntTextLaws
import HandS.ForExc
import HandS.ExcInit
import HandS.TryMany
import HandS.EndTab
import HandS.Defaults
import HandS.ListItems
set_option Elab.async false
set_option linter.all false
set_option maxRecDepth 100000
set_option maxHeartbeats 2000000
section
namespace Sa
open PySem PySem.Spec PyProof.Rows L2

/-! ### data -/
inductive D where
  | non | bl (b : Bool) | int (i : Int) | str (x : Str) | lst (xs : List D) | tup (xs : List D) | dic (kvs : List (Key × D)) | ob (v : V) | la (a : Addr) (xs : List D)

section
variable (K : PySem.W.Frag) (F : Hp)
mutual
def Rep : D → V → Prop
  | .non, v => v = .non
  | .bl b, v => v = .bl b
  | .int i, v => v = .int i
  | .str x, v => v = .str x
  | .lst ds, v => ∃ a vs, v = .ref a ∧ F a = some (.lst vs) ∧ RepL ds vs
  | .tup ds, v => ∃ a vs, v = .ref a ∧ SqT K F a vs ∧ RepL ds vs
  | .dic kds, v => ∃ a kvs, v = .ref a ∧ F a = some (.dK kvs) ∧ RepK kds kvs
  | .ob u, v => v = u
  | .la a ds, v => v = .ref a ∧ ∃ vs, F a = some (.lst vs) ∧ RepL ds vs
def RepL : List D → List V → Prop
  | [], vs => vs = []
  | d :: ds, vs => ∃ v r, vs = v :: r ∧ Rep d v ∧ RepL ds r
def RepK : List (Key × D) → List (Key × V) → Prop
  | [], kvs => kvs = []
  | (k, d) :: ds, kvs => ∃ v r, kvs = (k, v) :: r ∧ Rep d v ∧ RepK ds r
end
end

section
variable {K : PySem.W.Frag} {B : Bs} {F F' H : Hp}
theorem Same.rd {a : Addr} {u : HO} (e : Same F F') (h : Rd F a u) : Rd F' a u := by
  rcases h with h | ⟨o, h⟩
  · exact .inl (e _ _ h)
  · exact .inr ⟨o, e _ _ h⟩
theorem Same.seqT {a : Addr} {xs : List V} (e : Same F F') (h : SqT K F a xs) : SqT K F' a xs := by
  rcases h with h | h
  · exact .inl (Same.rd e h)
  · exact .inr h
mutual
theorem Rep.mono (e : Same F F') : ∀ {d : D} {v : V}, Rep K F d v → Rep K F' d v
  | .non, _, h => by unfold Rep at h ⊢; exact h
  | .bl _, _, h => by unfold Rep at h ⊢; exact h
  | .int _, _, h => by unfold Rep at h ⊢; exact h
  | .str _, _, h => by unfold Rep at h ⊢; exact h
  | .ob _, _, h => by unfold Rep at h ⊢; exact h
  | .lst ds, v, h => by
    unfold Rep at h ⊢
    obtain ⟨a, vs, h1, h2, h3⟩ := h
    exact ⟨a, vs, h1, e _ _ h2, RepL.mono e h3⟩
  | .tup ds, v, h => by
    unfold Rep at h ⊢
    obtain ⟨a, vs, h1, h2, h3⟩ := h
    exact ⟨a, vs, h1, Same.seqT e h2, RepL.mono e h3⟩
  | .dic ds, v, h => by
    unfold Rep at h ⊢
    obtain ⟨a, vs, h1, h2, h3⟩ := h
    exact ⟨a, vs, h1, e _ _ h2, RepK.mono e h3⟩
  | .la a ds, v, h => by
    unfold Rep at h ⊢
    obtain ⟨h1, vs, h2, h3⟩ := h
    exact ⟨h1, vs, e _ _ h2, RepL.mono e h3⟩
theorem RepL.mono (e : Same F F') : ∀ {ds : List D} {vs : List V}, RepL K F ds vs → RepL K F' ds vs
  | [], _, h => by unfold RepL at h ⊢; exact h
  | d :: ds, _, h => by
    unfold RepL at h ⊢
    obtain ⟨v, r, h1, h2, h3⟩ := h
    exact ⟨v, r, h1, Rep.mono e h2, RepL.mono e h3⟩
theorem RepK.mono (e : Same F F') : ∀ {ds : List (Key × D)} {vs : List (Key × V)}, RepK K F ds vs → RepK K F' ds vs
  | [], _, h => by unfold RepK at h ⊢; exact h
  | (k, d) :: ds, _, h => by
    unfold RepK at h ⊢
    obtain ⟨v, r, h1, h2, h3⟩ := h
    exact ⟨v, r, h1, Rep.mono e h2, RepK.mono e h3⟩
end
theorem RepL.length : ∀ {ds : List D} {vs : List V}, RepL K F ds vs → vs.length = ds.length
  | [], _, h => by unfold RepL at h; rw [h]; rfl
  | d :: ds, _, h => by
    unfold RepL at h
    obtain ⟨v, r, rfl, _, h3⟩ := h
    simp [RepL.length h3]
theorem RepL.get : ∀ {ds : List D} {vs : List V} {i : Nat} {d : D}, RepL K F ds vs → ds[i]? = some d → ∃ v, vs[i]? = some v ∧ Rep K F d v
  | [], _, _, _, _, e => by simp at e
  | d :: ds, _, 0, _, h, e => by
    unfold RepL at h
    obtain ⟨v, r, rfl, h2, _⟩ := h
    simp at e
    subst e
    exact ⟨v, rfl, h2⟩
  | d :: ds, _, i + 1, _, h, e => by
    unfold RepL at h
    obtain ⟨v, r, rfl, _, h3⟩ := h
    obtain ⟨u, hu, ru⟩ := RepL.get (i := i) h3 (by simpa using e)
    exact ⟨u, by simpa using hu, ru⟩
theorem RepL.getV {ds : List D} {vs : List V} {i : Nat} {v : V} (h : RepL K F ds vs) (e : vs[i]? = some v) : ∃ d, ds[i]? = some d ∧ Rep K F d v := by
  have hl := h.length
  have hi : i < ds.length := by have := (List.getElem?_eq_some_iff.mp e).1; omega
  obtain ⟨u, hu, ru⟩ := h.get (i := i) (d := ds[i]) (by simp [hi])
  rw [e] at hu
  cases hu
  exact ⟨_, by simp [hi], ru⟩
theorem repL_nil : RepL K F [] [] := by unfold RepL; rfl
theorem repL_cons {d : D} {ds : List D} {v : V} {vs : List V} (h : Rep K F d v) (t : RepL K F ds vs) : RepL K F (d :: ds) (v :: vs) := by
  unfold RepL; exact ⟨v, vs, rfl, h, t⟩
theorem RepL.append : ∀ {ds es : List D} {vs us : List V}, RepL K F ds vs → RepL K F es us → RepL K F (ds ++ es) (vs ++ us)
  | [], _, _, _, h, t => by unfold RepL at h; subst h; exact t
  | d :: ds, _, _, _, h, t => by
    unfold RepL at h
    obtain ⟨v, r, rfl, h2, h3⟩ := h
    exact repL_cons h2 (RepL.append h3 t)
theorem repL_one {d : D} {v : V} (h : Rep K F d v) : RepL K F [d] [v] := repL_cons h repL_nil
theorem RepL.set : ∀ {ds : List D} {vs : List V} {d : D} {v : V} (i : Nat), RepL K F ds vs → Rep K F d v → RepL K F (ds.set i d) (vs.set i v)
  | [], _, _, _, _, h, _ => by unfold RepL at h; subst h; exact repL_nil
  | e :: ds, _, _, _, 0, h, t => by
    unfold RepL at h
    obtain ⟨w, r, rfl, h2, h3⟩ := h
    exact repL_cons t h3
  | e :: ds, _, _, _, i + 1, h, t => by
    unfold RepL at h
    obtain ⟨w, r, rfl, h2, h3⟩ := h
    exact repL_cons h2 (RepL.set i h3 t)
theorem RepL.take : ∀ {ds : List D} {vs : List V} (i : Nat), RepL K F ds vs → RepL K F (ds.take i) (vs.take i)
  | _, _, 0, _ => by simp; exact repL_nil
  | [], _, i + 1, h => by unfold RepL at h; subst h; exact repL_nil
  | e :: ds, _, i + 1, h => by
    unfold RepL at h
    obtain ⟨w, r, rfl, h2, h3⟩ := h
    exact repL_cons h2 (RepL.take i h3)
theorem RepL.drop : ∀ {ds : List D} {vs : List V} (i : Nat), RepL K F ds vs → RepL K F (ds.drop i) (vs.drop i)
  | _, _, 0, h => by simpa using h
  | [], _, i + 1, h => by unfold RepL at h; subst h; exact repL_nil
  | e :: ds, _, i + 1, h => by
    unfold RepL at h
    obtain ⟨w, r, rfl, h2, h3⟩ := h
    exact RepL.drop i h3
theorem rep_non {v : V} : Rep K F .non v ↔ v = .non := by unfold Rep; rfl
theorem rep_bl {v : V} {b : Bool} : Rep K F (.bl b) v ↔ v = .bl b := by unfold Rep; rfl
theorem rep_int {v : V} {i : Int} : Rep K F (.int i) v ↔ v = .int i := by unfold Rep; rfl
theorem rep_str {v : V} {x : Str} : Rep K F (.str x) v ↔ v = .str x := by unfold Rep; rfl
theorem rep_lst {v : V} {ds : List D} : Rep K F (.lst ds) v ↔ ∃ a vs, v = .ref a ∧ F a = some (.lst vs) ∧ RepL K F ds vs := by
  rw [Rep]
theorem rep_lstS {v : V} {ds : List D} (h : Rep K F (.lst ds) v) : ∃ a vs, v = .ref a ∧ SqL K F a vs ∧ RepL K F ds vs := by
  obtain ⟨a, vs, h1, h2, h3⟩ := rep_lst.mp h
  exact ⟨a, vs, h1, SqL.of h2, h3⟩
theorem rep_tup {v : V} {ds : List D} : Rep K F (.tup ds) v ↔ ∃ a vs, v = .ref a ∧ SqT K F a vs ∧ RepL K F ds vs := by
  rw [Rep]
theorem rep_dic {v : V} {ds : List (Key × D)} : Rep K F (.dic ds) v ↔ ∃ a kvs, v = .ref a ∧ F a = some (.dK kvs) ∧ RepK K F ds kvs := by
  rw [Rep]
theorem rep_la {v : V} {a : Addr} {ds : List D} : Rep K F (.la a ds) v ↔ v = .ref a ∧ ∃ vs, F a = some (.lst vs) ∧ RepL K F ds vs := by
  rw [Rep]
theorem rep_ob {v u : V} : Rep K F (.ob u) v ↔ v = u := by unfold Rep; rfl
end

/-! ### the stream of draws -/
/-- the stream at a: its cells (at b), a great number, how many were drawn, a mixed number -/
structure Strm (H : Hp) (a b : Addr) (n : Nat) : Prop where
  ne : a ≠ b
  at_ : ∃ (cells : List Int) (g c m : Int), H a = some (.lst [.ref b, .int g, .int c, .int m]) ∧ H b = some (.lst (cells.map V.int)) ∧ 0 ≤ g ∧ 0 ≤ c ∧ c ≤ n ∧ 0 ≤ m ∧ m < 2147483629 ∧ cells.length ≤ 63

/-! ### what a slot holds: frozen data, an own list of frozen data, the stream -/
inductive DS where
  | fr (d : D) | ol (xs : List D) | sm (a b : Addr) (n : Nat) (t : Option (Addr × Str)) | ow (a : Addr) (xs : List D) | rl (xs : List D)
/-- the frozen heap: a part of the heap, without tables -/
structure Fz (F H : Hp) : Prop where
  s : Same F H
  nt : ∀ b ps, F b ≠ some (.tbl ps)
theorem Fz.trans {F H H' : Hp} (a : Fz F H) (e : Same H H') : Fz F H' := ⟨a.s.trans e, a.nt⟩
theorem Fz.free {F H : Hp} {p : Addr} (a : Fz F H) (e : H p = none) : F p = none := a.s.free e
theorem Fz.seq {K : PySem.W.Frag} {F H : Hp} {p : Addr} {xs : List V} (a : Fz F H) (h : SqL K F p xs) : SqL K H p xs := a.s.seq h
theorem nt_upd {F : Hp} {a : Addr} {o : HO} (nt : ∀ b ps, F b ≠ some (.tbl ps)) (no : ∀ ps, o ≠ .tbl ps) : ∀ b ps, upd F a o b ≠ some (.tbl ps) := fun b ps e => by
  by_cases z : b = a
  · subst z; rw [upd_same] at e; cases e; exact no ps rfl
  · rw [upd_ne z] at e; exact nt b ps e
def tabA : Option (Addr × Str) → List Addr
  | none => []
  | some (P, _) => [P]
def TabO (H : Hp) : Option (Addr × Str) → Prop
  | none => True
  | some (P, q) => LamX.TabS H P q
theorem tabO_keep {H H' : Hp} {t : Option (Addr × Str)} (h : TabO H t) (hh : ∀ a ∈ tabA t, ∀ o, H a = some o → H' a = some o) (hx : ∀ c z, H c = some (.ext z) → H' c = some (.ext z)) : TabO H' t := by
  match t, h, hh with
  | none, _, _ => exact trivial
  | some (P, q), h, hh =>
    obtain ⟨ps, h1, h2, h3⟩ := h
    refine ⟨ps, hh P (by simp [tabA]) _ h1, h2, fun pos cv hc => ?_⟩
    obtain ⟨c, e1, e2⟩ := h3 pos cv hc
    exact ⟨c, e1, hx c _ e2⟩
def OwnS (K : PySem.W.Frag) (F H : Hp) : DS → V → List Addr → Prop
  | .fr d, v, fp => fp = [] ∧ Rep K F d v
  | .ol ds, v, fp => ∃ a vs, v = .ref a ∧ fp = [a] ∧ H a = some (.lst vs) ∧ RepL K F ds vs
  | .sm a b n t, v, fp => v = .ref a ∧ fp = a :: b :: tabA t ∧ Strm H a b n ∧ TabO H t
  | .ow a ds, v, fp => v = .ref a ∧ fp = [a] ∧ ∃ vs, H a = some (.lst vs) ∧ RepL K F ds vs
  | .rl ds, v, fp => ∃ a vs as Fi, v = .ref a ∧ fp = a :: as ∧ H a = some (.lst vs) ∧ RepL K Fi ds vs ∧ Fz Fi H ∧ (∀ b, Fi b ≠ none → b ∈ as) ∧ Fi a = none ∧ ∀ b ∈ as, Fi b ≠ none ∧ ∀ z, H b ≠ some (.ext z)
abbrev Sl := List (Option DS)
def Own (f : Nat → List Addr) : Addr → Prop := fun b => ∃ i, b ∈ f i
/-- where an activation began -/
structure Bs where
  F : Hp
  H : Hp
  P : Addr → Prop
structure Step (F H : Hp) (P : Addr → Prop) (F' H' : Hp) (P' : Addr → Prop) : Prop where
  ff : Same F F'
  hh : ∀ b o, H b = some o → ¬ P b → H' b = some o
  nf : ∀ b, F' b ≠ none → F b ≠ none ∨ P b ∨ H b = none
  np : ∀ b, P' b → P b ∨ H b = none
structure Sat (K : PySem.W.Frag) (B : Bs) (F H : Hp) (σ : L2.St) (ρ : Sl) (f : Nat → List Addr) : Prop where
  len : σ.length = ρ.length
  at_ : ∀ i d, ρ[i]? = some (some d) → ∃ v, σ[i]? = some (some v) ∧ OwnS K F H d v (f i)
  em : ∀ i, (∀ d, ρ[i]? ≠ some (some d)) → f i = []
  dj : ∀ i j a, a ∈ f i → a ∈ f j → i = j
  fz : ∀ i a, a ∈ f i → F a = none
  fh : Fz F H
  st : Step B.F B.H B.P F H (Own f)
section
variable {K : PySem.W.Frag} {B : Bs} {F F' F1 F2 H H' H1 H2 : Hp} {P P1 P2 P' : Addr → Prop}
theorem Step.refl : Step F H P F H P := ⟨fun _ _ h => h, fun _ _ h _ => h, fun _ h => .inl h, fun _ h => .inl h⟩
theorem Step.trans (a : Step F H P F1 H1 P1) (b : Step F1 H1 P1 F2 H2 P2) : Step F H P F2 H2 P2 := by
  have back : ∀ c, H1 c = none → P c ∨ H c = none := fun c e => by
    cases h : H c with
    | none => exact .inr rfl
    | some o =>
      by_cases p : P c
      · exact .inl p
      · rw [a.hh c o h p] at e; cases e
  refine ⟨a.ff.trans b.ff, fun c o h p => b.hh c o (a.hh c o h p) fun q => ?_, fun c h => ?_, fun c h => ?_⟩
  · rcases a.np c q with z | z
    · exact p z
    · rw [h] at z; cases z
  · rcases b.nf c h with z | z | z
    · exact a.nf c z
    · rcases a.np c z with y | y
      · exact .inr (.inl y)
      · exact .inr (.inr y)
    · rcases back c z with y | y
      · exact .inr (.inl y)
      · exact .inr (.inr y)
  · rcases b.np c h with z | z
    · exact a.np c z
    · exact back c z
theorem Step.sub (a : Step F H P F1 H1 P1) (h : ∀ b, P2 b → P1 b) : Step F H P F1 H1 P2 := ⟨a.ff, a.hh, a.nf, fun b q => a.np b (h b q)⟩
/-- all that is tracked stays, the frozen part grows by new things -/
theorem Step.grow (ff : Same F F') (hh : Same H H') (nf : ∀ b, F' b ≠ none → F b ≠ none ∨ H b = none) : Step F H P F' H' P :=
  ⟨ff, fun b o h _ => hh b o h, fun b h => (nf b h).imp id .inr, fun _ h => .inl h⟩
/-- frozen: nothing changed -/
theorem Sat.get {σ : L2.St} {ρ : Sl} {f : Nat → List Addr} {i : Nat} {d : D} (S : Sat K B F H σ ρ f) (e : ρ[i]? = some (some (.fr d))) : ∃ v, σ[i]? = some (some v) ∧ Rep K F d v := by
  obtain ⟨v, e1, o⟩ := S.at_ i _ e
  exact ⟨v, e1, o.2⟩
/-- what has no kind of its own stays -/
def Kx (H H' : Hp) : Prop := ∀ c z, H c = some (.ext z) → H' c = some (.ext z)
theorem Kx.of (e : Same H H') : Kx H H' := fun c z h => e c _ h
theorem OwnS.keep {d : DS} {v : V} {fp : List Addr} (h : OwnS K F H d v fp) (ff : Same F F') (hh : ∀ a ∈ fp, ∀ o, H a = some o → H' a = some o) (hx : Kx H H') : OwnS K F' H' d v fp := by
  cases d with
  | fr d => exact ⟨h.1, h.2.mono ff⟩
  | ol ds =>
    obtain ⟨a, vs, h1, h2, h3, h4⟩ := h
    subst h2
    exact ⟨a, vs, h1, rfl, hh a (by simp) _ h3, h4.mono ff⟩
  | ow a ds =>
    obtain ⟨h1, h2, vs, h3, h4⟩ := h
    subst h2
    exact ⟨h1, rfl, vs, hh a (by simp) _ h3, h4.mono ff⟩
  | rl ds =>
    obtain ⟨a, vs, as, Fi, h1, h2, h3, h4, h5, h6, h7, h8⟩ := h
    subst h2
    refine ⟨a, vs, as, Fi, h1, rfl, hh a (by simp) _ h3, h4, ⟨fun b o e => hh b (by simp [h6 b (by rw [e]; simp)]) o (h5.s b o e), h5.nt⟩, h6, h7, fun b hb => ⟨(h8 b hb).1, fun z e => ?_⟩⟩
    cases q : Fi b with
    | none => exact (h8 b hb).1 q
    | some o =>
      have e1 := h5.s b o q
      have e2 := hh b (by simp [hb]) o e1
      rw [e] at e2
      cases e2
      exact (h8 b hb).2 z e1
  | sm a b n t =>
    obtain ⟨h1, h2, h3, h4⟩ := h
    subst h2
    obtain ⟨ne, cells, g, c, m, q1, q2, q⟩ := h3
    exact ⟨h1, rfl, ⟨ne, cells, g, c, m, hh a (by simp) _ q1, hh b (by simp) _ q2, q⟩, tabO_keep h4 (fun a ha => hh a (by simp [ha])) hx⟩
theorem OwnS.both {d : DS} {v : V} {fp : List Addr} (h : OwnS K F H d v fp) : ∀ a ∈ fp, H a ≠ none ∧ ∀ z, H a ≠ some (.ext z) := by
  cases d with
  | fr d => rw [h.1]; intro a ha; cases ha
  | ol ds =>
    obtain ⟨a, vs, h1, h2, h3, h4⟩ := h
    subst h2
    intro b hb
    have e : b = a := by simpa using hb
    rw [e, h3]; simp
  | ow a ds =>
    obtain ⟨h1, h2, vs, h3, h4⟩ := h
    subst h2
    intro b hb
    have e : b = a := by simpa using hb
    rw [e, h3]; simp
  | rl ds =>
    obtain ⟨a, vs, as, Fi, h1, h2, h3, h4, h5, h6, h7, h8⟩ := h
    subst h2
    intro b hb
    rcases List.mem_cons.mp hb with e | hb
    · rw [e, h3]; simp
    · refine ⟨fun e => ?_, (h8 b hb).2⟩
      exact (h8 b hb).1 (h5.free e)
  | sm a b n t =>
    obtain ⟨h1, h2, h3, h4⟩ := h
    subst h2
    obtain ⟨ne, cells, g, c, m, q1, q2, q⟩ := h3
    intro e he
    rcases List.mem_cons.mp he with z | he
    · rw [z, q1]; simp
    rcases List.mem_cons.mp he with z | he
    · rw [z, q2]; simp
    match t, h4, he with
    | some (P, q), h4, he =>
      obtain ⟨ps, g1, _⟩ := h4
      have : e = P := by simpa [tabA] using he
      rw [this, g1]; simp
    | none, _, he => simp [tabA] at he
theorem OwnS.there {d : DS} {v : V} {fp : List Addr} (h : OwnS K F H d v fp) : ∀ a ∈ fp, H a ≠ none := fun a ha => (h.both a ha).1
theorem OwnS.noX {d : DS} {v : V} {fp : List Addr} (h : OwnS K F H d v fp) : ∀ a ∈ fp, ∀ z, H a ≠ some (.ext z) := fun a ha => (h.both a ha).2
/-- a write where no such thing stands -/
theorem Kx.upd {a : Addr} {o : HO} (h : ∀ z, H a ≠ some (.ext z)) : Kx H (upd H a o) := fun c z e => by
  rw [upd_ne]
  · exact e
  · rintro rfl; exact h z e
theorem Sat.own_there {σ : L2.St} {ρ : Sl} {f : Nat → List Addr} (S : Sat K B F H σ ρ f) {a : Addr} (h : Own f a) : H a ≠ none := by
  obtain ⟨i, hi⟩ := h
  by_cases e : ∃ d, ρ[i]? = some (some d)
  · obtain ⟨d, e⟩ := e
    obtain ⟨v, _, o⟩ := S.at_ i d e
    exact o.there a hi
  · rw [S.em i fun d z => e ⟨d, z⟩] at hi
    cases hi
theorem Sat.own_fz {σ : L2.St} {ρ : Sl} {f : Nat → List Addr} (S : Sat K B F H σ ρ f) {a : Addr} (h : Own f a) : F a = none := by
  obtain ⟨i, hi⟩ := h
  exact S.fz i a hi
/-- the heap has grown, the frozen part too, by new things -/
theorem Sat.grow {σ : L2.St} {ρ : Sl} {f : Nat → List Addr} (S : Sat K B F H σ ρ f) (ff : Same F F') (fh : Fz F' H') (hh : Same H H') (nf : ∀ b, F' b ≠ none → F b ≠ none ∨ H b = none) : Sat K B F' H' σ ρ f := by
  refine ⟨S.len, fun i d e => ?_, S.em, S.dj, fun i a ha => ?_, fh, S.st.trans (Step.grow ff hh nf)⟩
  · obtain ⟨v, e1, o⟩ := S.at_ i d e
    exact ⟨v, e1, o.keep ff (fun a _ o h => hh a o h) (Kx.of hh)⟩
  · cases q : F' a with
    | none => rfl
    | some o =>
      rcases nf a (by rw [q]; simp) with z | z
      · exact absurd (S.fz i a ha) z
      · exact absurd z (S.own_there ⟨i, ha⟩)
/-- a new frozen object -/
theorem frz_new {p : Addr} {o : HO} (fh : Fz F H) (np : H p = none) (no : ∀ ps, o ≠ .tbl ps := by intro ps z; cases z) : Same F (upd F p o) ∧ Fz (upd F p o) (upd H p o) ∧ Same H (upd H p o) ∧ ∀ b, upd F p o b ≠ none → F b ≠ none ∨ H b = none := by
  have fp : F p = none := fh.free np
  refine ⟨fun b u e => by rw [upd_ne (ne_of_none e fp)]; exact e, ⟨fun b u e => ?_, nt_upd fh.nt no⟩, fun b u e => by rw [upd_ne (ne_of_none e np)]; exact e, fun b h => ?_⟩
  · by_cases z : b = p
    · subst z; rw [upd_same] at e ⊢; exact e
    · rw [upd_ne z] at e ⊢; exact fh.s b u e
  · by_cases z : b = p
    · subst z; exact .inr np
    · rw [upd_ne z] at h; exact .inl h
/-- a new object that is not frozen -/
theorem same_new {p : Addr} {o : HO} (np : H p = none) : Same H (upd H p o) := fun b u e => by rw [upd_ne (ne_of_none e np)]; exact e
theorem Sat.new {σ : L2.St} {ρ : Sl} {f : Nat → List Addr} {p : Addr} {o : HO} (S : Sat K B F H σ ρ f) (np : H p = none) : Sat K B F (upd H p o) σ ρ f :=
  S.grow (fun _ _ h => h) (S.fh.trans (same_new np)) (same_new np) fun _ h => .inl h
theorem own_if {f : Nat → List Addr} {i : Nat} {l : List Addr} {b : Addr} (h : Own (fun j => if j = i then l else f j) b) : b ∈ l ∨ Own f b := by
  obtain ⟨j, hj⟩ := h
  by_cases z : j = i
  · simp only [z, if_true] at hj; exact .inl hj
  · simp only [z, if_false] at hj; exact .inr ⟨j, hj⟩
/-- a slot gets frozen data -/
theorem Sat.setF {σ : L2.St} {ρ : Sl} {f : Nat → List Addr} {i : Nat} {d : D} {v : V} (S : Sat K B F H σ ρ f) (r : Rep K F d v) : Sat K B F H (σ.set i (some v)) (ρ.set i (some (.fr d))) (fun j => if j = i then [] else f j) := by
  refine ⟨by simp [S.len], fun j e h => ?_, fun j h => ?_, fun j k a ha hb => ?_, fun j a ha => ?_, S.fh, S.st.sub fun b hb => (own_if hb).elim (fun z => by cases z) id⟩
  · by_cases z : j = i
    · subst z
      have hl : j < ρ.length := by
        have := (List.getElem?_eq_some_iff.mp h).1
        simpa using this
      rw [List.getElem?_set_self hl] at h
      cases h
      exact ⟨v, by rw [List.getElem?_set_self (by rw [S.len]; exact hl)], by simp [OwnS, r]⟩
    · rw [List.getElem?_set_ne (Ne.symm z)] at h
      obtain ⟨u, e1, o⟩ := S.at_ j e h
      refine ⟨u, by rw [List.getElem?_set_ne (Ne.symm z)]; exact e1, ?_⟩
      simp only [z, if_false]
      exact o
  · by_cases z : j = i
    · simp [z]
    · simp only [z, if_false]
      refine S.em j fun d e => h d ?_
      rw [List.getElem?_set_ne (Ne.symm z)]
      exact e
  · by_cases z : j = i
    · simp [z] at ha
    · by_cases y : k = i
      · simp [y] at hb
      · simp only [z, y, if_false] at ha hb
        exact S.dj j k a ha hb
  · by_cases z : j = i
    · simp [z] at ha
    · simp only [z, if_false] at ha
      exact S.fz j a ha
/-- a slot gets an own list that no slot has -/
theorem Sat.setO {σ : L2.St} {ρ : Sl} {f : Nat → List Addr} {i : Nat} {ds : List D} {a : Addr} {vs : List V} (S : Sat K B F H σ ρ f) (hi : i < ρ.length) (ha : H a = some (.lst vs)) (r : RepL K F ds vs) (na : ¬ Own f a) (fa : F a = none) (st : Step B.F B.H B.P F H (fun b => b = a ∨ Own f b)) :
    Sat K B F H (σ.set i (some (.ref a))) (ρ.set i (some (.ol ds))) (fun j => if j = i then [a] else f j) := by
  refine ⟨by simp [S.len], fun j e h => ?_, fun j h => ?_, fun j k b hb hc => ?_, fun j b hb => ?_, S.fh, st.sub fun b hb => (own_if hb).imp (fun z => by simpa using z) id⟩
  · by_cases z : j = i
    · subst z
      rw [List.getElem?_set_self hi] at h
      cases h
      exact ⟨.ref a, by rw [List.getElem?_set_self (by rw [S.len]; exact hi)], a, vs, rfl, by simp, ha, r⟩
    · rw [List.getElem?_set_ne (Ne.symm z)] at h
      obtain ⟨u, e1, o⟩ := S.at_ j e h
      refine ⟨u, by rw [List.getElem?_set_ne (Ne.symm z)]; exact e1, ?_⟩
      simp only [z, if_false]
      exact o
  · by_cases z : j = i
    · subst z
      exact absurd (List.getElem?_set_self hi) (h _)
    · simp only [z, if_false]
      refine S.em j fun d e => h d ?_
      rw [List.getElem?_set_ne (Ne.symm z)]
      exact e
  · by_cases z : j = i
    · by_cases y : k = i
      · exact z.trans y.symm
      · simp only [z, y, if_true, if_false] at hb hc
        have : b = a := by simpa using hb
        exact absurd ⟨k, this ▸ hc⟩ na
    · by_cases y : k = i
      · simp only [z, y, if_true, if_false] at hb hc
        have : b = a := by simpa using hc
        exact absurd ⟨j, this ▸ hb⟩ na
      · simp only [z, y, if_false] at hb hc
        exact S.dj j k b hb hc
  · by_cases z : j = i
    · simp only [z, if_true] at hb
      have : b = a := by simpa using hb
      rw [this]; exact fa
    · simp only [z, if_false] at hb
      exact S.fz j b hb
/-- a slot is forgotten -/
theorem Sat.drop {σ : L2.St} {ρ : Sl} {f : Nat → List Addr} {i : Nat} {o : Option V} (S : Sat K B F H σ ρ f) : Sat K B F H (σ.set i o) (ρ.set i none) (fun j => if j = i then [] else f j) := by
  refine ⟨by simp [S.len], fun j e h => ?_, fun j h => ?_, fun j k a ha hb => ?_, fun j a ha => ?_, S.fh, S.st.sub fun b hb => (own_if hb).elim (fun z => by cases z) id⟩
  · by_cases z : j = i
    · subst z
      have hl : j < ρ.length := by
        have := (List.getElem?_eq_some_iff.mp h).1
        simpa using this
      rw [List.getElem?_set_self hl] at h
      cases h
    · rw [List.getElem?_set_ne (Ne.symm z)] at h
      obtain ⟨u, e1, q⟩ := S.at_ j e h
      refine ⟨u, by rw [List.getElem?_set_ne (Ne.symm z)]; exact e1, ?_⟩
      simp only [z, if_false]
      exact q
  · by_cases z : j = i
    · simp [z]
    · simp only [z, if_false]
      refine S.em j fun d e => h d ?_
      rw [List.getElem?_set_ne (Ne.symm z)]
      exact e
  · by_cases z : j = i
    · simp [z] at ha
    · by_cases y : k = i
      · simp [y] at hb
      · simp only [z, y, if_false] at ha hb
        exact S.dj j k a ha hb
  · by_cases z : j = i
    · simp [z] at ha
    · simp only [z, if_false] at ha
      exact S.fz j a ha
/-- the own list of a slot changes -/
theorem Sat.write {σ : L2.St} {ρ : Sl} {f : Nat → List Addr} {i : Nat} {ds ds' : List D} {a : Addr} {vs' : List V} (S : Sat K B F H σ ρ f) (e : ρ[i]? = some (some (.ol ds))) (ea : σ[i]? = some (some (.ref a))) (r : RepL K F ds' vs') :
    Sat K B F (upd H a (.lst vs')) σ (ρ.set i (some (.ol ds'))) f ∧ Own f a := by
  obtain ⟨v, e1, a', vs, h1, h2, h3, h4⟩ := S.at_ i _ e
  rw [ea] at e1
  cases e1
  cases h1
  have hi : i < ρ.length := (List.getElem?_eq_some_iff.mp e).1
  have oa : Own f a := ⟨i, by rw [h2]; simp⟩
  have wst : Step F H (Own f) F (upd H a (.lst vs')) (Own f) := ⟨fun _ _ h => h, fun b o h n => by
    rw [upd_ne]
    · exact h
    · rintro rfl; exact n oa, fun b h => .inl h, fun b h => .inl h⟩
  refine ⟨⟨by simp [S.len], fun j d h => ?_, fun j h => ?_, S.dj, S.fz, ⟨fun b o h => ?_, S.fh.nt⟩, S.st.trans wst⟩, oa⟩
  · by_cases z : j = i
    · subst z
      rw [List.getElem?_set_self hi] at h
      cases h
      exact ⟨.ref a, ea, a, vs', rfl, h2, upd_same, r⟩
    · rw [List.getElem?_set_ne (Ne.symm z)] at h
      obtain ⟨u, e1, o⟩ := S.at_ j d h
      refine ⟨u, e1, o.keep (fun _ _ h => h) (fun b hb o ho => ?_) (Kx.upd fun z => by rw [h3]; simp)⟩
      rw [upd_ne]
      · exact ho
      · rintro rfl
        exact z (S.dj j i b hb (by rw [h2]; simp))
  · refine S.em j fun d q => ?_
    by_cases z : j = i
    · subst z
      exact h _ (List.getElem?_set_self hi)
    · refine h d ?_
      rw [List.getElem?_set_ne (Ne.symm z)]
      exact q
  · rw [upd_ne]
    · exact S.fh.s b o h
    · rintro rfl
      rw [S.own_fz oa] at h
      cases h
/-- the own list of a slot is frozen -/
theorem Sat.freeze {σ : L2.St} {ρ : Sl} {f : Nat → List Addr} {i : Nat} {ds : List D} (S : Sat K B F H σ ρ f) (e : ρ[i]? = some (some (.ol ds))) :
    ∃ a vs, σ[i]? = some (some (.ref a)) ∧ H a = some (.lst vs) ∧ Rep K (upd F a (.lst vs)) (.lst ds) (.ref a) ∧ Sat K B (upd F a (.lst vs)) H σ (ρ.set i (some (.fr (.lst ds)))) (fun j => if j = i then [] else f j) ∧
      Step F H (Own f) (upd F a (.lst vs)) H (Own fun j => if j = i then [] else f j) := by
  obtain ⟨v, ea, a, vs, h1, h2, h3, h4⟩ := S.at_ i _ e
  subst h1
  have hi : i < ρ.length := (List.getElem?_eq_some_iff.mp e).1
  have oa : Own f a := ⟨i, by rw [h2]; simp⟩
  have fa := S.own_fz oa
  have ff : Same F (upd F a (.lst vs)) := same_new fa
  have rp : Rep K (upd F a (.lst vs)) (.lst ds) (.ref a) := rep_lst.mpr ⟨a, vs, rfl, upd_same, h4.mono ff⟩
  have fst : Step F H (Own f) (upd F a (.lst vs)) H (Own fun j => if j = i then [] else f j) := by
    refine ⟨ff, fun _ _ h _ => h, fun b h => ?_, fun b h => ?_⟩
    · by_cases z : b = a
      · subst z; exact .inr (.inl oa)
      · rw [upd_ne z] at h; exact .inl h
    · rcases own_if h with z | z
      · cases z
      · exact .inl z
  refine ⟨a, vs, ea, h3, rp, ⟨by simp [S.len], fun j d h => ?_, fun j h => ?_, fun j k b hb hc => ?_, fun j b hb => ?_, ⟨fun b o h => ?_, nt_upd S.fh.nt fun ps z => by cases z⟩, S.st.trans fst⟩, fst⟩
  · by_cases z : j = i
    · subst z
      rw [List.getElem?_set_self hi] at h
      cases h
      exact ⟨.ref a, ea, by simp, rp⟩
    · rw [List.getElem?_set_ne (Ne.symm z)] at h
      obtain ⟨u, e1, o⟩ := S.at_ j d h
      refine ⟨u, e1, ?_⟩
      simp only [z, if_false]
      exact o.keep ff (fun _ _ _ h => h) fun _ _ h => h
  · by_cases z : j = i
    · simp [z]
    · simp only [z, if_false]
      refine S.em j fun d q => h d ?_
      rw [List.getElem?_set_ne (Ne.symm z)]
      exact q
  · by_cases z : j = i
    · simp [z] at hb
    · by_cases y : k = i
      · simp [y] at hc
      · simp only [z, y, if_false] at hb hc
        exact S.dj j k b hb hc
  · by_cases z : j = i
    · simp [z] at hb
    · simp only [z, if_false] at hb
      rw [upd_ne]
      · exact S.fz j b hb
      · rintro rfl
        exact z (S.dj j i b hb (by rw [h2]; simp))
  · by_cases z : b = a
    · subst z; rw [upd_same] at h; rw [h3]; exact h
    · rw [upd_ne z] at h; exact S.fh.s b o h
end
end Sa
end

section
namespace Sa
open PySem PySem.Spec PyProof.Rows L2

abbrev DF := Sl → (D → Sl → Prop) → Prop
abbrev DO := Sl → (List D → Sl → Prop) → Prop
abbrev DTs := Sl → (Bool → Sl → Prop) → Prop
abbrev DA := Sl → (List D → Sl → Prop) → Prop
structure DEnds where
  nx : Sl → Prop
  rt : DS → Sl → Prop
  bk : Sl → Prop := fun _ => False
  ct : Sl → Prop := fun _ => False
abbrev DSt := DEnds → Sl → Prop

/-- what is wanted behind a statement, by the data -/
structure KD (K : PySem.W.Frag) (B : Bs) (F H : Hp) (P : Addr → Prop) (kd : DEnds) (En : Ends) : Prop where
  nx : ∀ σ' ρ' F' H' f', kd.nx ρ' → Step F H P F' H' (Own f') → Sat K B F' H' σ' ρ' f' → En.nx σ' H'
  rt : ∀ x ρ' v σ' F' H' fv f', kd.rt x ρ' → Step F H P F' H' (fun b => b ∈ fv ∨ Own f' b) → OwnS K F' H' x v fv → (∀ a ∈ fv, ¬ Own f' a ∧ F' a = none) → Sat K B F' H' σ' ρ' f' → En.rt v H'
  bk : ∀ σ' ρ' F' H' f', kd.bk ρ' → Step F H P F' H' (Own f') → Sat K B F' H' σ' ρ' f' → En.bk σ' H'
  ct : ∀ σ' ρ' F' H' f', kd.ct ρ' → Step F H P F' H' (Own f') → Sat K B F' H' σ' ρ' f' → En.ct σ' H'
section
variable {K : PySem.W.Frag} {B : Bs} {F F' H H' : Hp} {P P' : Addr → Prop} {kd : DEnds} {En : Ends}
theorem KD.step (h : KD K B F H P kd En) (s : Step F H P F' H' P') : KD K B F' H' P' kd En :=
  ⟨fun σ' ρ' F1 H1 f' a b c => h.nx σ' ρ' F1 H1 f' a (s.trans b) c, fun x ρ' v σ' F1 H1 fv f' a b c d e => h.rt x ρ' v σ' F1 H1 fv f' a (s.trans b) c d e,
   fun σ' ρ' F1 H1 f' a b c => h.bk σ' ρ' F1 H1 f' a (s.trans b) c, fun σ' ρ' F1 H1 f' a b c => h.ct σ' ρ' F1 H1 f' a (s.trans b) c⟩
end

/-! ### readings, by the data -/
def LF (K : PySem.W.Frag) (B : Bs) (t : TE) (d : DF) : Prop := ∀ σ H Q F ρ f k, Sat K B F H σ ρ f → d ρ k →
  (∀ y ρ' v F' H' f', k y ρ' → Step F H (Own f) F' H' (Own f') → Rep K F' y v → Sat K B F' H' σ ρ' f' → Q v H') → t σ H Q
/-- a list that nothing else has -/
def LO (K : PySem.W.Frag) (B : Bs) (t : TE) (d : DO) : Prop := ∀ σ H Q F ρ f k, Sat K B F H σ ρ f → d ρ k →
  (∀ ds ρ' a vs F' H' f', k ds ρ' → Step F H (Own f) F' H' (fun b => b = a ∨ Own f' b) → H' a = some (.lst vs) → RepL K F' ds vs → ¬ Own f' a → F' a = none → Sat K B F' H' σ ρ' f' → Q (.ref a) H') → t σ H Q
def LT (K : PySem.W.Frag) (B : Bs) (t : TT) (d : DTs) : Prop := ∀ σ H Q F ρ f k, Sat K B F H σ ρ f → d ρ k →
  (∀ b ρ' F' H' f', k b ρ' → Step F H (Own f) F' H' (Own f') → Sat K B F' H' σ ρ' f' → Q b H') → t σ H Q
def LA (K : PySem.W.Frag) (B : Bs) (t : TA) (d : DA) : Prop := ∀ σ H Q F ρ f k, Sat K B F H σ ρ f → d ρ k →
  (∀ ds ρ' vs F' H' f', k ds ρ' → Step F H (Own f) F' H' (Own f') → RepL K F' ds vs → Sat K B F' H' σ ρ' f' → Q vs H') → t σ H Q
def LS (K : PySem.W.Frag) (B : Bs) (t : TS) (d : DSt) : Prop := ∀ En σ H F ρ f kd, Sat K B F H σ ρ f → d kd ρ → KD K B F H (Own f) kd En → t En σ H
structure PF (X : Cx) (B : Bs) (e : Expr) (d : DF) : Prop where
  ex : ∃ t, PE X e t ∧ LF X.K B t d
structure PO (X : Cx) (B : Bs) (e : Expr) (d : DO) : Prop where
  ex : ∃ t, PE X e t ∧ LO X.K B t d
structure PQ (X : Cx) (B : Bs) (e : Expr) (d : DTs) : Prop where
  ex : ∃ t, PT X e t ∧ LT X.K B t d
structure PV (X : Cx) (B : Bs) (e : Expr) (d : DTs) : Prop where
  ex : ∃ t, PW X e t ∧ LT X.K B t d
structure PAd (X : Cx) (B : Bs) (es : List Expr) (d : DA) : Prop where
  ex : ∃ t, PA X es t ∧ LA X.K B t d
structure PSd (X : Cx) (B : Bs) (st : Stmt) (d : DSt) : Prop where
  ex : ∃ t, PS X st t ∧ LS X.K B t d
structure PSsd (X : Cx) (B : Bs) (st : List Stmt) (d : DSt) : Prop where
  ex : ∃ t, PSs X st t ∧ LS X.K B t d

section
variable {X : Cx} {B : Bs} {e a b : Expr} {es : List Expr} {pos : Pos}

/-! ### names, constants -/
def dVar (i : Nat) : DF := fun ρ k => ∃ d, ρ[i]? = some (some (.fr d)) ∧ k d ρ
theorem lf_var {K : PySem.W.Frag} {B : Bs} {i : Nat} : LF K B (tVar i) (dVar i) := by
  intro σ H Q F ρ f k S h q
  obtain ⟨d, e, h⟩ := h
  obtain ⟨v, ev, r⟩ := S.get e
  exact ⟨v, ev, q d ρ v F H f h Step.refl r S⟩
theorem pf_var {i : Nat} (h : PE X e (tVar i)) : PF X B e (dVar i) := ⟨_, h, lf_var⟩
/-- an own list of a slot, used as a value: frozen from now on -/
def dFrz (i : Nat) : DF := fun ρ k => ∃ ds, ρ[i]? = some (some (.ol ds)) ∧ k (.lst ds) (ρ.set i (some (.fr (.lst ds))))
theorem pf_frz {i : Nat} (h : PE X e (tVar i)) : PF X B e (dFrz i) := by
  refine ⟨_, h, fun σ H Q F ρ f k S h q => ?_⟩
  obtain ⟨ds, e, h⟩ := h
  obtain ⟨a, vs, ea, ha, rp, S', st⟩ := S.freeze e
  exact ⟨.ref a, ea, q _ _ _ _ _ _ h st rp S'⟩
def dC (d : D) : DF := fun ρ k => k d ρ
theorem lf_c {K : PySem.W.Frag} {B : Bs} {v : V} {d : D} (r : ∀ F, Rep K F d v) : LF K B (tC v) (dC d) := fun σ H Q F ρ f k S h q => q d ρ v F H f h Step.refl (r F) S
theorem pf_c {v : V} {d : D} (h : PE X e (tC v)) (r : ∀ F, Rep X.K F d v) : PF X B e (dC d) := ⟨_, h, lf_c r⟩
theorem pf_int {i j} : PF X B (.Constant (.int i) j pos) (dC (.int i)) := pf_c pe_int fun _ => rep_int.mpr rfl
theorem pf_bl {c j} : PF X B (.Constant (.bool c) j pos) (dC (.bl c)) := pf_c pe_bl fun _ => rep_bl.mpr rfl
theorem pf_non {j} : PF X B (.Constant .none j pos) (dC .non) := pf_c pe_non fun _ => rep_non.mpr rfl
theorem pf_str {x j} : PF X B (.Constant (.str x) j pos) (dC (.str x)) := pf_c pe_str fun _ => rep_str.mpr rfl

/-! ### operators -/
abbrev DR := D → D → (D → Prop) → Prop
def LR (K : PySem.W.Frag) (r : R2) (R : DR) : Prop := ∀ F H x y v u k Q, Fz F H → Rep K F x v → Rep K F y u → R x y k →
  (∀ z w F' H', k z → Same F F' → Fz F' H' → Same H H' → (∀ b, F' b ≠ none → F b ≠ none ∨ H b = none) → Rep K F' z w → Q w H') → r v u H Q
def dOp (R : DR) (da db : DF) : DF := fun ρ k => da ρ fun x ρ1 => db ρ1 fun y ρ2 => R x y fun z => k z ρ2
theorem lf_op {K : PySem.W.Frag} {B : Bs} {r : R2} {R : DR} {ta tb : TE} {da db : DF} (hR : LR K r R) (ha : LF K B ta da) (hb : LF K B tb db) : LF K B (tOp r ta tb) (dOp R da db) := by
  intro σ H Q F ρ f k S h q
  refine ha σ H _ F ρ f _ S h fun x ρ1 v F1 H1 f1 h1 s1 r1 S1 => ?_
  refine hb σ H1 _ F1 ρ1 f1 _ S1 h1 fun y ρ2 u F2 H2 f2 h2 s2 r2 S2 => ?_
  refine hR F2 H2 x y v u _ _ S2.fh (r1.mono s2.ff) r2 h2 fun z w F3 H3 h3 c1 c2 c3 c4 r3 => ?_
  exact q z ρ2 w F3 H3 f2 h3 ((s1.trans s2).trans (Step.grow c1 c3 c4)) r3 (S2.grow c1 c2 c3 c4)
theorem pf_op {op : Operator} {r : R2} {R : DR} {da db : DF} (ho : OpR X (binaryOp op) r) (hR : LR X.K r R) (ha : PF X B a da) (hb : PF X B b db) : PF X B (.BinOp a op b pos) (dOp R da db) := by
  obtain ⟨ta, pa, la⟩ := ha
  obtain ⟨tb, pb, lb⟩ := hb
  exact ⟨_, pe_op ho pa pb, lf_op hR la lb⟩
theorem pf_cmp {op : CmpOp} {r : R2} {R : DR} {da db : DF} (ho : OpR X (compareOp op) r) (hR : LR X.K r R) (ha : PF X B a da) (hb : PF X B b db) (hm : behindInMarks op b = false := by first | exact nomark _ | rfl) : PF X B (.Compare a [op] [b] pos) (dOp R da db) := by
  obtain ⟨ta, pa, la⟩ := ha
  obtain ⟨tb, pb, lb⟩ := hb
  exact ⟨_, pe_cmpR ho pa pb hm, lf_op hR la lb⟩
def dTest (d : DF) : DTs := fun ρ k => d ρ fun y ρ' => ∃ c, y = .bl c ∧ k c ρ'
theorem lt_test {K : PySem.W.Frag} {B : Bs} {t : TE} {d : DF} (h : LF K B t d) : LT K B (tTest t) (dTest d) := by
  intro σ H Q F ρ f k S hd q
  refine h σ H _ F ρ f _ S hd fun y ρ1 v F1 H1 f1 h1 s1 r1 S1 => ?_
  obtain ⟨c, rfl, h1⟩ := h1
  rw [rep_bl] at r1
  exact ⟨c, r1, q c ρ1 F1 H1 f1 h1 s1 S1⟩
theorem pq_cmp {op : CmpOp} {r : R2} {R : DR} {da db : DF} (ho : OpR X (compareOp op) r) (hR : LR X.K r R) (ha : PF X B a da) (hb : PF X B b db) (hm : behindInMarks op b = false := by first | exact nomark _ | rfl) : PQ X B (.Compare a [op] [b] pos) (dTest (dOp R da db)) := by
  obtain ⟨ta, pa, la⟩ := ha
  obtain ⟨tb, pb, lb⟩ := hb
  exact ⟨_, pt_cmpR ho pa pb hm, lt_test (lf_op hR la lb)⟩
theorem pq_val {d : DF} (h : PF X B e d) (he : ∀ whole, isTrue e X.env whole = (do let v ← whole; standAt e.pos; holding [v] (truthy v)) := by intro _; rfl) : PQ X B e (dTest d) := by
  obtain ⟨t, p, l⟩ := h
  exact ⟨_, pt_val p he, lt_test l⟩
def rdI (C : Int → Int → Prop) (g : Int → Int → D) : DR := fun x y k => ∃ i j, x = .int i ∧ y = .int j ∧ C i j ∧ k (g i j)
theorem lr_I {K : PySem.W.Frag} {C : Int → Int → Prop} {g : Int → Int → V} {g' : Int → Int → D} (hg : ∀ i j F, Rep K F (g' i j) (g i j)) : LR K (rI C g) (rdI C g') := by
  intro F H x y v u k Q fh r1 r2 h q
  obtain ⟨i, j, rfl, rfl, c, h⟩ := h
  rw [rep_int] at r1 r2
  exact ⟨i, j, r1, r2, c, q _ _ F H h (fun _ _ h => h) fh (fun _ _ h => h) (fun _ h => .inl h) (hg i j F)⟩
def rdI0 (g : Int → Int → D) : DR := fun x y k => ∃ i j, x = .int i ∧ y = .int j ∧ k (g i j)
theorem lr_I0 {K : PySem.W.Frag} {g : Int → Int → V} {g' : Int → Int → D} (hg : ∀ i j F, Rep K F (g' i j) (g i j)) : LR K (rI0 g) (rdI0 g') := by
  intro F H x y v u k Q fh r1 r2 h q
  obtain ⟨i, j, rfl, rfl, h⟩ := h
  rw [rep_int] at r1 r2
  exact ⟨i, j, r1, r2, q _ _ F H h (fun _ _ h => h) fh (fun _ _ h => h) (fun _ h => .inl h) (hg i j F)⟩
theorem pf_add {da db : DF} (ha : PF X B a da) (hb : PF X B b db) : PF X B (.BinOp a .Add b pos) (dOp (rdI0 fun i j => .int (i + j)) da db) := pf_op op_add (lr_I0 fun _ _ _ => rep_int.mpr rfl) ha hb
theorem pf_sub {da db : DF} (ha : PF X B a da) (hb : PF X B b db) : PF X B (.BinOp a .Sub b pos) (dOp (rdI0 fun i j => .int (i - j)) da db) := pf_op op_sub (lr_I0 fun _ _ _ => rep_int.mpr rfl) ha hb
theorem pq_lt {da db : DF} (ha : PF X B a da) (hb : PF X B b db) : PQ X B (.Compare a [.Lt] [b] pos) (dTest (dOp (rdI0 fun i j => .bl (decide (i < j))) da db)) := pq_cmp op_lt (lr_I0 fun _ _ _ => rep_bl.mpr rfl) ha hb
theorem pq_le {da db : DF} (ha : PF X B a da) (hb : PF X B b db) : PQ X B (.Compare a [.LtE] [b] pos) (dTest (dOp (rdI0 fun i j => .bl (decide (i ≤ j))) da db)) := pq_cmp op_le (lr_I0 fun _ _ _ => rep_bl.mpr rfl) ha hb
theorem pq_gt {da db : DF} (ha : PF X B a da) (hb : PF X B b db) : PQ X B (.Compare a [.Gt] [b] pos) (dTest (dOp (rdI0 fun i j => .bl (decide (j < i))) da db)) := pq_cmp op_gt (lr_I0 fun _ _ _ => rep_bl.mpr rfl) ha hb
theorem pq_ge {da db : DF} (ha : PF X B a da) (hb : PF X B b db) : PQ X B (.Compare a [.GtE] [b] pos) (dTest (dOp (rdI0 fun i j => .bl (decide (j ≤ i))) da db)) := pq_cmp op_ge (lr_I0 fun _ _ _ => rep_bl.mpr rfl) ha hb
/-- data that is no object -/
def sc : D → Option V
  | .non => some .non
  | .bl b => some (.bl b)
  | .int i => some (.int i)
  | .str x => some (.str x)
  | _ => none
theorem sc_rep {K : PySem.W.Frag} {F : Hp} {d : D} {v w : V} (h : Rep K F d v) (e : sc d = some w) : v = w := by
  cases d with
  | non => rw [rep_non] at h; unfold sc at e; cases e; exact h
  | bl b => rw [rep_bl] at h; unfold sc at e; cases e; exact h
  | int b => rw [rep_int] at h; unfold sc at e; cases e; exact h
  | str b => rw [rep_str] at h; unfold sc at e; cases e; exact h
  | lst _ => unfold sc at e; cases e
  | tup _ => unfold sc at e; cases e
  | dic _ => unfold sc at e; cases e
  | ob _ => unfold sc at e; cases e
  | la _ _ => unfold sc at e; cases e
def rdEq : DR := fun x y k => ∃ v u, sc x = some v ∧ sc y = some u ∧ scal v u = true ∧ k (.bl (decide (v = u)))
def rdNe : DR := fun x y k => ∃ v u, sc x = some v ∧ sc y = some u ∧ scal v u = true ∧ k (.bl (!decide (v = u)))
theorem lr_eq {K : PySem.W.Frag} : LR K rEq rdEq := by
  intro F H x y v u k Q fh r1 r2 h q
  obtain ⟨v', u', e1, e2, e3, h⟩ := h
  have z1 := sc_rep r1 e1
  have z2 := sc_rep r2 e2
  subst z1 z2
  exact ⟨e3, q _ _ F H h (fun _ _ h => h) fh (fun _ _ h => h) (fun _ h => .inl h) (rep_bl.mpr rfl)⟩
theorem lr_ne {K : PySem.W.Frag} : LR K rNe rdNe := by
  intro F H x y v u k Q fh r1 r2 h q
  obtain ⟨v', u', e1, e2, e3, h⟩ := h
  have z1 := sc_rep r1 e1
  have z2 := sc_rep r2 e2
  subst z1 z2
  exact ⟨e3, q _ _ F H h (fun _ _ h => h) fh (fun _ _ h => h) (fun _ h => .inl h) (rep_bl.mpr rfl)⟩
theorem pq_eq {da db : DF} (ha : PF X B a da) (hb : PF X B b db) : PQ X B (.Compare a [.Eq] [b] pos) (dTest (dOp rdEq da db)) := pq_cmp op_eq lr_eq ha hb
theorem pq_ne {da db : DF} (ha : PF X B a da) (hb : PF X B b db) : PQ X B (.Compare a [.NotEq] [b] pos) (dTest (dOp rdNe da db)) := pq_cmp op_ne lr_ne ha hb
theorem pf_eq {da db : DF} (ha : PF X B a da) (hb : PF X B b db) : PF X B (.Compare a [.Eq] [b] pos) (dOp rdEq da db) := pf_cmp op_eq lr_eq ha hb
theorem pf_ne {da db : DF} (ha : PF X B a da) (hb : PF X B b db) : PF X B (.Compare a [.NotEq] [b] pos) (dOp rdNe da db) := pf_cmp op_ne lr_ne ha hb
/-- is None -/
def dIsN (p : Bool → Bool) (da : DF) : DF := fun ρ k => da ρ fun x ρ1 => k (.bl (p (match x with | .non => true | _ => false))) ρ1
theorem rep_isN {K : PySem.W.Frag} {F : Hp} {d : D} {v : V} (h : Rep K F d v) (hn : ∀ u, d ≠ .ob u) : decide (v = .non) = (match d with | .non => true | _ => false) := by
  cases d with
  | non => rw [rep_non] at h; subst h; rfl
  | bl b => rw [rep_bl] at h; subst h; rfl
  | int b => rw [rep_int] at h; subst h; rfl
  | str b => rw [rep_str] at h; subst h; rfl
  | lst _ => rw [rep_lst] at h; obtain ⟨a, vs, rfl, _⟩ := h; rfl
  | tup _ => rw [rep_tup] at h; obtain ⟨a, vs, rfl, _⟩ := h; rfl
  | dic _ => unfold Rep at h; obtain ⟨a, vs, rfl, _⟩ := h; rfl
  | ob u => exact absurd rfl (hn u)
  | la a _ => rw [rep_la] at h; obtain ⟨rfl, _⟩ := h; rfl

/-! ### and, or, not, if else -/
def dAnd (t u : DTs) : DTs := fun ρ k => t ρ fun c ρ1 => if c = true then u ρ1 k else k false ρ1
def dOr (t u : DTs) : DTs := fun ρ k => t ρ fun c ρ1 => if c = true then k true ρ1 else u ρ1 k
def dNot (t : DTs) : DTs := fun ρ k => t ρ fun c ρ1 => k (!c) ρ1
theorem lt_and {K : PySem.W.Frag} {B : Bs} {t u : TT} {d e : DTs} (h1 : LT K B t d) (h2 : LT K B u e) : LT K B (tAnd t u) (dAnd d e) := by
  intro σ H Q F ρ f k S h q
  refine h1 σ H _ F ρ f _ S h fun c ρ1 F1 H1 f1 k1 s1 S1 => ?_
  cases c with
  | true => exact h2 σ H1 _ F1 ρ1 f1 _ S1 k1 fun c ρ2 F2 H2 f2 k2 s2 S2 => q c ρ2 F2 H2 f2 k2 (s1.trans s2) S2
  | false => exact q false ρ1 F1 H1 f1 k1 s1 S1
theorem lt_or {K : PySem.W.Frag} {B : Bs} {t u : TT} {d e : DTs} (h1 : LT K B t d) (h2 : LT K B u e) : LT K B (tOr t u) (dOr d e) := by
  intro σ H Q F ρ f k S h q
  refine h1 σ H _ F ρ f _ S h fun c ρ1 F1 H1 f1 k1 s1 S1 => ?_
  cases c with
  | false => exact h2 σ H1 _ F1 ρ1 f1 _ S1 k1 fun c ρ2 F2 H2 f2 k2 s2 S2 => q c ρ2 F2 H2 f2 k2 (s1.trans s2) S2
  | true => exact q true ρ1 F1 H1 f1 k1 s1 S1
theorem pv_and1 {d : DTs} (h : PQ X B a d) : PV X B (.BoolOp .And [a] pos) d := by
  obtain ⟨t, p, l⟩ := h
  exact ⟨_, pw_and1 p, l⟩
theorem pv_or1 {d : DTs} (h : PQ X B a d) : PV X B (.BoolOp .Or [a] pos) d := by
  obtain ⟨t, p, l⟩ := h
  exact ⟨_, pw_or1 p, l⟩
theorem pv_and {d u : DTs} {rest : List Expr} (h : PQ X B a d) (h2 : PV X B (.BoolOp .And (b :: rest) pos) u) : PV X B (.BoolOp .And (a :: b :: rest) pos) (dAnd d u) := by
  obtain ⟨t, p, l⟩ := h
  obtain ⟨t2, p2, l2⟩ := h2
  exact ⟨_, pw_and p p2, lt_and l l2⟩
theorem pv_or {d u : DTs} {rest : List Expr} (h : PQ X B a d) (h2 : PV X B (.BoolOp .Or (b :: rest) pos) u) : PV X B (.BoolOp .Or (a :: b :: rest) pos) (dOr d u) := by
  obtain ⟨t, p, l⟩ := h
  obtain ⟨t2, p2, l2⟩ := h2
  exact ⟨_, pw_or p p2, lt_or l l2⟩
theorem PV.pq {d : DTs} (h : PV X B e d) : PQ X B e d := by
  obtain ⟨t, p, l⟩ := h
  exact ⟨_, p.pt, l⟩
theorem pq_not {d : DTs} (h : PQ X B a d) : PQ X B (.UnaryOp .Not a pos) (dNot d) := by
  obtain ⟨t, p, l⟩ := h
  refine ⟨_, pt_not p, fun σ H Q F ρ f k S h q => ?_⟩
  exact l σ H _ F ρ f _ S h fun c ρ1 F1 H1 f1 k1 s1 S1 => q (!c) ρ1 F1 H1 f1 k1 s1 S1
/-- as values -/
def dAndV (t : DF) (u : DF) : DF := fun ρ k => t ρ fun x ρ1 => ∃ c, x = .bl c ∧ if c = true then u ρ1 k else k (.bl false) ρ1
def dOrV (t : DF) (u : DF) : DF := fun ρ k => t ρ fun x ρ1 => ∃ c, x = .bl c ∧ if c = true then k (.bl true) ρ1 else u ρ1 k
def dNotV (t : DF) : DF := fun ρ k => t ρ fun x ρ1 => ∃ c, x = .bl c ∧ k (.bl (!c)) ρ1
theorem pf_one {op} {d : DF} (h : PF X B a d) : PF X B (.BoolOp op [a] pos) d := by
  obtain ⟨t, p, l⟩ := h
  exact ⟨_, pe_one p, l⟩
theorem pf_and {d u : DF} {rest : List Expr} (h : PF X B a d) (h2 : PF X B (.BoolOp .And (b :: rest) pos) u) : PF X B (.BoolOp .And (a :: b :: rest) pos) (dAndV d u) := by
  obtain ⟨t, p, l⟩ := h
  obtain ⟨t2, p2, l2⟩ := h2
  refine ⟨_, pe_and p p2, fun σ H Q F ρ f k S h q => ?_⟩
  refine l σ H _ F ρ f _ S h fun x ρ1 v F1 H1 f1 k1 s1 r1 S1 => ?_
  obtain ⟨c, rfl, k1⟩ := k1
  rw [rep_bl] at r1
  refine ⟨c, r1, ?_⟩
  cases c with
  | true => exact l2 σ H1 _ F1 ρ1 f1 _ S1 k1 fun y ρ2 w F2 H2 f2 k2 s2 r2 S2 => q y ρ2 w F2 H2 f2 k2 (s1.trans s2) r2 S2
  | false => exact q _ ρ1 _ F1 H1 f1 k1 s1 (rep_bl.mpr rfl) S1
theorem pf_or {d u : DF} {rest : List Expr} (h : PF X B a d) (h2 : PF X B (.BoolOp .Or (b :: rest) pos) u) : PF X B (.BoolOp .Or (a :: b :: rest) pos) (dOrV d u) := by
  obtain ⟨t, p, l⟩ := h
  obtain ⟨t2, p2, l2⟩ := h2
  refine ⟨_, pe_or p p2, fun σ H Q F ρ f k S h q => ?_⟩
  refine l σ H _ F ρ f _ S h fun x ρ1 v F1 H1 f1 k1 s1 r1 S1 => ?_
  obtain ⟨c, rfl, k1⟩ := k1
  rw [rep_bl] at r1
  refine ⟨c, r1, ?_⟩
  cases c with
  | false => exact l2 σ H1 _ F1 ρ1 f1 _ S1 k1 fun y ρ2 w F2 H2 f2 k2 s2 r2 S2 => q y ρ2 w F2 H2 f2 k2 (s1.trans s2) r2 S2
  | true => exact q _ ρ1 _ F1 H1 f1 k1 s1 (rep_bl.mpr rfl) S1
theorem pf_not {d : DF} (h : PF X B a d) : PF X B (.UnaryOp .Not a pos) (dNotV d) := by
  obtain ⟨t, p, l⟩ := h
  refine ⟨_, pe_not p, fun σ H Q F ρ f k S h q => ?_⟩
  refine l σ H _ F ρ f _ S h fun x ρ1 v F1 H1 f1 k1 s1 r1 S1 => ?_
  obtain ⟨c, rfl, k1⟩ := k1
  rw [rep_bl] at r1
  exact ⟨c, r1, q _ ρ1 _ F1 H1 f1 k1 s1 (rep_bl.mpr rfl) S1⟩
def dIf (t : DTs) (da db : DF) : DF := fun ρ k => t ρ fun c ρ1 => if c = true then da ρ1 k else db ρ1 k
theorem pf_if {c : Expr} {dc : DTs} {da db : DF} (hc : PQ X B c dc) (ha : PF X B a da) (hb : PF X B b db) : PF X B (.IfExp c a b pos) (dIf dc da db) := by
  obtain ⟨t, p, l⟩ := hc
  obtain ⟨t2, p2, l2⟩ := ha
  obtain ⟨t3, p3, l3⟩ := hb
  refine ⟨_, pe_ifExp p p2 p3, fun σ H Q F ρ f k S h q => ?_⟩
  refine l σ H _ F ρ f _ S h fun c ρ1 F1 H1 f1 k1 s1 S1 => ?_
  cases c with
  | true => exact l2 σ H1 _ F1 ρ1 f1 _ S1 k1 fun y ρ2 w F2 H2 f2 k2 s2 r2 S2 => q y ρ2 w F2 H2 f2 k2 (s1.trans s2) r2 S2
  | false => exact l3 σ H1 _ F1 ρ1 f1 _ S1 k1 fun y ρ2 w F2 H2 f2 k2 s2 r2 S2 => q y ρ2 w F2 H2 f2 k2 (s1.trans s2) r2 S2

/-! ### argument lists, displays -/
def dNil : DA := fun ρ k => k [] ρ
def dCons (da : DF) (dr : DA) : DA := fun ρ k => da ρ fun x ρ1 => dr ρ1 fun xs ρ2 => k (x :: xs) ρ2
theorem pad_nil : PAd X B [] dNil := ⟨_, pa_nil, fun σ H Q F ρ f k S h q => q [] ρ [] F H f h Step.refl repL_nil S⟩
theorem pad_cons {da : DF} {dr : DA} (ha : PF X B e da) (hr : PAd X B es dr) (hs : starEach (e :: es) X.env = (false, eval e X.env) :: starEach es X.env := by rfl) : PAd X B (e :: es) (dCons da dr) := by
  obtain ⟨ta, pa, la⟩ := ha
  obtain ⟨tr, pr, lr⟩ := hr
  refine ⟨_, pa_cons pa pr hs, fun σ H Q F ρ f k S h q => ?_⟩
  refine la σ H _ F ρ f _ S h fun x ρ1 v F1 H1 f1 k1 s1 r1 S1 => ?_
  refine lr σ H1 _ F1 ρ1 f1 _ S1 k1 fun xs ρ2 vs F2 H2 f2 k2 s2 r2 S2 => ?_
  exact q (x :: xs) ρ2 (v :: vs) F2 H2 f2 k2 (s1.trans s2) (repL_cons (r1.mono s2.ff) r2) S2
def dTup (da : DA) : DF := fun ρ k => da ρ fun ds ρ1 => ds.length ≤ sizeLine ∧ k (.tup ds) ρ1
theorem lf_tup {K : PySem.W.Frag} {B : Bs} {t : TA} {da : DA} (la : LA K B t da) : LF K B (tTup t) (dTup da) := by
  intro σ H Q F ρ f k S h q
  refine la σ H _ F ρ f _ S h fun ds ρ1 vs F1 H1 f1 k1 s1 r1 S1 => ?_
  obtain ⟨z, k1⟩ := k1
  refine ⟨by rw [r1.length]; exact z, fun p np => ?_⟩
  obtain ⟨c1, c2, c3, c4⟩ := frz_new (o := .tup vs) S1.fh np
  exact q _ ρ1 _ _ _ f1 k1 (s1.trans (Step.grow c1 c3 c4)) (rep_tup.mpr ⟨p, vs, rfl, SqT.of upd_same, r1.mono c1⟩) (S1.grow c1 c2 c3 c4)
theorem pf_tup {da : DA} {x1} (ha : PAd X B es da) : PF X B (.Tuple es x1 pos) (dTup da) := by
  obtain ⟨t, p, l⟩ := ha
  exact ⟨_, pe_tup p, lf_tup l⟩
def dLst (da : DA) : DO := fun ρ k => da ρ fun ds ρ1 => ds.length ≤ sizeLine ∧ k ds ρ1
theorem po_lst {da : DA} (ha : PAd X B es da) : PO X B (.List es pos) (dLst da) := by
  obtain ⟨t, p, l⟩ := ha
  refine ⟨_, pe_lst p, fun σ H Q F ρ f k S h q => ?_⟩
  refine l σ H _ F ρ f _ S h fun ds ρ1 vs F1 H1 f1 k1 s1 r1 S1 => ?_
  obtain ⟨z, k1⟩ := k1
  refine ⟨by rw [r1.length]; exact z, fun p np => ?_⟩
  have no : ¬ Own f1 p := fun o => S1.own_there o np
  exact q ds ρ1 p vs F1 _ f1 k1 ⟨s1.ff, fun b o h n => by
      have := s1.hh b o h n
      rw [upd_ne (ne_of_none this np)]; exact this, s1.nf, fun b hb => by
      rcases hb with z | z
      · subst z
        cases hn : H b with
        | none => exact .inr rfl
        | some o =>
          by_cases n : Own f b
          · exact .inl n
          · have := s1.hh b o hn n
            rw [np] at this; cases this
      · exact s1.np b z⟩ upd_same r1 no (S1.fh.free np) (S1.new np)
/-- an own list as a frozen one -/
def dFz (d : DO) : DF := fun ρ k => d ρ fun ds ρ1 => k (.lst ds) ρ1
theorem lf_fz {K : PySem.W.Frag} {B : Bs} {t : TE} {d : DO} (l : LO K B t d) : LF K B t (dFz d) := by
  intro σ H Q F ρ f k S h q
  refine l σ H _ F ρ f _ S h fun ds ρ1 a vs F1 H1 f1 k1 s1 ha r1 na fa S1 => ?_
  have ff : Same F1 (upd F1 a (.lst vs)) := same_new fa
  have fst : Step F H (Own f) (upd F1 a (.lst vs)) H1 (Own f1) := by
    refine ⟨s1.ff.trans ff, s1.hh, fun b h => ?_, fun b h => s1.np b (.inr h)⟩
    by_cases z : b = a
    · subst z
      rcases s1.np b (.inl rfl) with y | y
      · exact .inr (.inl y)
      · exact .inr (.inr y)
    · rw [upd_ne z] at h; exact s1.nf b h
  refine q (.lst ds) ρ1 (.ref a) (upd F1 a (.lst vs)) H1 f1 k1 fst (rep_lst.mpr ⟨a, vs, rfl, upd_same, r1.mono ff⟩) ⟨S1.len, fun i d e => ?_, S1.em, S1.dj, fun i b hb => ?_, ⟨fun b o h => ?_, nt_upd S1.fh.nt fun ps z => by cases z⟩, S.st.trans fst⟩
  · obtain ⟨v, e1, o⟩ := S1.at_ i d e
    exact ⟨v, e1, o.keep ff (fun _ _ _ h => h) fun _ _ h => h⟩
  · rw [upd_ne]
    · exact S1.fz i b hb
    · rintro rfl
      exact na ⟨i, hb⟩
  · by_cases z : b = a
    · subst z; rw [upd_same] at h; rw [ha]; exact h
    · rw [upd_ne z] at h; exact S1.fh.s b o h
theorem PO.pf {d : DO} (h : PO X B e d) : PF X B e (dFz d) := by
  obtain ⟨t, p, l⟩ := h
  exact ⟨_, p, lf_fz l⟩

/-! ### statements -/
variable {st : Stmt} {rest : List Stmt}
def dNext : DSt := fun kd ρ => kd.nx ρ
def dSeq (t u : DSt) : DSt := fun kd ρ => t { kd with nx := u kd } ρ
theorem psd_nil : PSsd X B [] dNext := ⟨_, pss_nil, fun En σ H F ρ f kd S h q => q.nx σ ρ F H f h Step.refl S⟩
theorem psd_cons {d u : DSt} (h1 : PSd X B st d) (h2 : PSsd X B rest u) : PSsd X B (st :: rest) (dSeq d u) := by
  obtain ⟨t, p, l⟩ := h1
  obtain ⟨t2, p2, l2⟩ := h2
  refine ⟨_, pss_cons p p2, fun En σ H F ρ f kd S h q => ?_⟩
  exact l { En with nx := t2 En } σ H F ρ f _ S h ⟨fun σ' ρ' F' H' f' a b c => l2 En σ' H' F' ρ' f' kd c a (q.step b), q.rt, q.bk, q.ct⟩
theorem psd_one {d : DSt} (h1 : PSd X B st d) : PSsd X B [st] d := by
  obtain ⟨t, p, l⟩ := h1
  exact ⟨_, pss_one p, l⟩
theorem psd_pass : PSd X B (.Pass pos) dNext := ⟨_, ps_pass, fun En σ H F ρ f kd S h q => q.nx σ ρ F H f h Step.refl S⟩
def dBreak : DSt := fun kd ρ => kd.bk ρ
def dCont : DSt := fun kd ρ => kd.ct ρ
theorem psd_break : PSd X B (.Break pos) dBreak := ⟨_, ps_break, fun En σ H F ρ f kd S h q => q.bk σ ρ F H f h Step.refl S⟩
theorem psd_cont : PSd X B (.Continue pos) dCont := ⟨_, ps_continue, fun En σ H F ρ f kd S h q => q.ct σ ρ F H f h Step.refl S⟩
def dRet (d : DF) : DSt := fun kd ρ => d ρ fun y ρ1 => kd.rt (.fr y) ρ1
theorem psd_ret {d : DF} (h : PF X B e d) : PSd X B (.Return (some e) pos) (dRet d) := by
  obtain ⟨t, p, l⟩ := h
  refine ⟨_, ps_ret p, fun En σ H F ρ f kd S h q => ?_⟩
  refine l σ H _ F ρ f _ S h fun y ρ1 v F1 H1 f1 k1 s1 r1 S1 => ?_
  exact q.rt (.fr y) ρ1 v σ F1 H1 [] f1 k1 (s1.sub fun b h => h.resolve_left (by simp)) ⟨rfl, r1⟩ (by simp) S1
def dRetO (d : DO) : DSt := fun kd ρ => d ρ fun ds ρ1 => kd.rt (.ol ds) ρ1
theorem psd_retO {d : DO} (h : PO X B e d) : PSd X B (.Return (some e) pos) (dRetO d) := by
  obtain ⟨t, p, l⟩ := h
  refine ⟨_, ps_ret p, fun En σ H F ρ f kd S h q => ?_⟩
  refine l σ H _ F ρ f _ S h fun ds ρ1 a vs F1 H1 f1 k1 s1 ha r1 na fa S1 => ?_
  exact q.rt (.ol ds) ρ1 (.ref a) σ F1 H1 [a] f1 k1 (s1.sub fun b h => h.imp (fun z => by simpa using z) id) ⟨a, vs, rfl, rfl, ha, r1⟩ (fun b hb => by
    have z : b = a := by simpa using hb
    rw [z]; exact ⟨na, fa⟩) S1
/-- an own list is given away: the slot is forgotten -/
def dMove (i : Nat) : DO := fun ρ k => ∃ ds, ρ[i]? = some (some (.ol ds)) ∧ k ds (ρ.set i none)
theorem po_move {i : Nat} (h : PE X e (tVar i)) : PO X B e (dMove i) := by
  refine ⟨_, h, fun σ H Q F ρ f k S h q => ?_⟩
  obtain ⟨ds, e, h⟩ := h
  obtain ⟨v, ea, a, vs, h1, h2, h3, h4⟩ := S.at_ i _ e
  subst h1
  have hi : i < ρ.length := (List.getElem?_eq_some_iff.mp e).1
  have S1 := S.drop (i := i) (o := some (.ref a))
  have es : σ.set i (some (.ref a)) = σ := by
    apply List.ext_getElem?
    intro j
    by_cases z : j = i
    · subst z; rw [List.getElem?_set_self (by rw [S.len]; exact hi), ea]
    · rw [List.getElem?_set_ne (Ne.symm z)]
  rw [es] at S1
  have no : ¬ Own (fun j => if j = i then [] else f j) a := fun ⟨j, hj⟩ => by
    by_cases z : j = i
    · simp [z] at hj
    · simp only [z, if_false] at hj
      exact z (S.dj j i a hj (by rw [h2]; simp))
  refine ⟨.ref a, ea, q ds _ a vs F H _ h ⟨fun _ _ h => h, fun _ _ h _ => h, fun _ h => .inl h, fun b hb => ?_⟩ h3 h4 no (S.fz i a (by rw [h2]; simp)) S1⟩
  rcases hb with z | z
  · exact .inl ⟨i, by rw [h2, z]; simp⟩
  · rcases own_if z with y | y
    · cases y
    · exact .inl y
def dIfS (c : DTs) (t u : DSt) : DSt := fun kd ρ => c ρ fun b ρ1 => if b = true then t kd ρ1 else u kd ρ1
theorem psd_if {c : Expr} {sa sb : List Stmt} {dc : DTs} {t u : DSt} (hc : PQ X B c dc) (ha : PSsd X B sa t) (hb : PSsd X B sb u) : PSd X B (.If c sa sb pos) (dIfS dc t u) := by
  obtain ⟨t0, p, l⟩ := hc
  obtain ⟨t2, p2, l2⟩ := ha
  obtain ⟨t3, p3, l3⟩ := hb
  refine ⟨_, ps_if p p2 p3, fun En σ H F ρ f kd S h q => ?_⟩
  refine l σ H _ F ρ f _ S h fun c ρ1 F1 H1 f1 k1 s1 S1 => ?_
  cases c with
  | true => exact l2 En σ H1 F1 ρ1 f1 kd S1 k1 (q.step s1)
  | false => exact l3 En σ H1 F1 ρ1 f1 kd S1 k1 (q.step s1)
/-- code that is never come to -/
def dNever : DSt := fun _ _ => False
theorem psd_never : PSd X B st dNever := ⟨_, ps_never, fun _ _ _ _ _ _ _ _ h _ => h.elim⟩
def dDrop (d : DF) : DSt := fun kd ρ => d ρ fun _ ρ1 => kd.nx ρ1
theorem psd_expr {d : DF} (h : PF X B e d) (hs : swapsWith e none pos.line X.env = pure false := by rfl) : PSd X B (.Expr e pos) (dDrop d) := by
  obtain ⟨t, p, l⟩ := h
  refine ⟨_, ps_expr p hs, fun En σ H F ρ f kd S h q => ?_⟩
  exact l σ H _ F ρ f _ S h fun y ρ1 v F1 H1 f1 k1 s1 r1 S1 => q.nx σ ρ1 F1 H1 f1 k1 s1 S1
/-- name = frozen data -/
def dSet (d : DF) (i : Nat) : DSt := fun kd ρ => d ρ fun y ρ1 => kd.nx (ρ1.set i (some (.fr y)))
theorem ls_set {K : PySem.W.Frag} {B : Bs} {t : TE} {d : DF} {i : Nat} (l : LF K B t d) : LS K B (tAsg t (gName i)) (dSet d i) := by
  intro En σ H F ρ f kd S h q
  refine l σ H _ F ρ f _ S h fun y ρ1 v F1 H1 f1 k1 s1 r1 S1 => ?_
  refine q.nx _ _ F1 H1 _ k1 (s1.sub fun b hb => ?_) (S1.setF r1)
  rcases own_if hb with z | z
  · cases z
  · exact z
theorem psd_set {i : Nat} {d : DF} (hp : ∀ t, PE X e t → PS X st (tAsg t (gName i))) (h : PF X B e d) : PSd X B st (dSet d i) := by
  obtain ⟨t, p, l⟩ := h
  exact ⟨_, hp t p, ls_set l⟩
/-- name = a new list -/
def dSetO (d : DO) (i : Nat) : DSt := fun kd ρ => d ρ fun ds ρ1 => i < ρ1.length ∧ kd.nx (ρ1.set i (some (.ol ds)))
theorem ls_setO {K : PySem.W.Frag} {B : Bs} {t : TE} {d : DO} {i : Nat} (l : LO K B t d) : LS K B (tAsg t (gName i)) (dSetO d i) := by
  intro En σ H F ρ f kd S h q
  refine l σ H _ F ρ f _ S h fun ds ρ1 a vs F1 H1 f1 k1 s1 ha r1 na fa S1 => ?_
  obtain ⟨hi, k1⟩ := k1
  refine q.nx _ _ F1 H1 _ k1 (s1.sub fun b hb => ?_) (S1.setO hi ha r1 na fa (S.st.trans s1))
  rcases own_if hb with z | z
  · exact .inl (by simpa using z)
  · exact .inr z
theorem psd_setO {i : Nat} {d : DO} (hp : ∀ t, PE X e t → PS X st (tAsg t (gName i))) (h : PO X B e d) : PSd X B st (dSetO d i) := by
  obtain ⟨t, p, l⟩ := h
  exact ⟨_, hp t p, ls_setO l⟩
/-- while -/
def dWhile (c : DTs) (tb : DSt) : DSt := fun kd ρ => ∃ W : Nat → Sl → Prop, (∃ m, W m ρ) ∧ ∀ m ρ, W m ρ →
  c ρ fun b ρ1 => if b = true then tb { nx := fun ρ' => ∃ m', m' < m ∧ W m' ρ', rt := kd.rt, ct := fun ρ' => ∃ m', m' < m ∧ W m' ρ', bk := kd.nx } ρ1 else kd.nx ρ1
theorem psd_while {c : Expr} {body : List Stmt} {dc : DTs} {db : DSt} (hp : PassesOwn (model X.prog X.w) X.A X.env X.xe) (hc : PQ X B c dc) (hb : PSsd X B body db) : PSd X B (.While c body [] pos) (dWhile dc db) := by
  obtain ⟨t0, p, l⟩ := hc
  obtain ⟨t2, p2, l2⟩ := hb
  refine ⟨_, ps_while hp p p2, fun En σ H F ρ f kd S h q => ?_⟩
  obtain ⟨W, ⟨m0, w0⟩, turn⟩ := h
  refine ⟨fun m σ' H' => ∃ F' ρ' f', W m ρ' ∧ Step F H (Own f) F' H' (Own f') ∧ Sat X.K B F' H' σ' ρ' f', ⟨m0, F, ρ, f, w0, Step.refl, S⟩, ?_⟩
  rintro m σ1 H1 ⟨F1, ρ1, f1, w1, s1, S1⟩
  refine l σ1 H1 _ F1 ρ1 f1 _ S1 (turn m ρ1 w1) fun b ρ2 F2 H2 f2 k2 s2 S2 => ?_
  cases b with
  | false => exact q.nx _ _ _ _ _ k2 (s1.trans s2) S2
  | true =>
    refine (if_pos rfl).mpr ⟨fun σ' H' => ∃ F' ρ' f', (∃ m', m' < m ∧ W m' ρ') ∧ Step F H (Own f) F' H' (Own f') ∧ Sat X.K B F' H' σ' ρ' f', ?_, ?_⟩
    · rintro σ' H' ⟨F', ρ', f', ⟨m', hm, w⟩, s, S'⟩
      exact ⟨m', hm, F', ρ', f', w, s, S'⟩
    · have s12 := s1.trans s2
      have q2 := q.step s12
      exact l2 _ σ1 H2 F2 ρ2 f2 _ S2 k2 ⟨fun σ' ρ' F' H' f' a b c => ⟨F', ρ', f', a, s12.trans b, c⟩, q2.rt, fun σ' ρ' F' H' f' a b c => q2.nx σ' ρ' F' H' f' a b c, fun σ' ρ' F' H' f' a b c => ⟨F', ρ', f', a, s12.trans b, c⟩⟩
end
end Sa
end

section
namespace Sa
open PySem PySem.Spec PyProof.Rows L2

/-! ### promises by data -/
/-- a def of frozen data; what it gives may be a list of its own -/
abbrev Phi := List D → (DS → Prop) → Prop
def SpF (K : PySem.W.Frag) (Φ : Phi) : Sp := fun vs H Q _ => ∃ F ds k, Fz F H ∧ RepL K F ds vs ∧ Φ ds k ∧
  ∀ x v F' H' fv, k x → Same F F' → Fz F' H' → Same H H' → (∀ b, F' b ≠ none → F b ≠ none ∨ H b = none) → OwnS K F' H' x v fv → (∀ a ∈ fv, H a = none ∧ F' a = none) → Q v H'
/-- a def whose first argument is the stream -/
abbrev PhiS := Nat → List D → (DS → Nat → Prop) → Prop
def SpS (K : PySem.W.Frag) (Φ : PhiS) : Sp := fun vs H Q _ => ∃ F a b n ws ds k, vs = .ref a :: ws ∧ Fz F H ∧ F a = none ∧ F b = none ∧ Strm H a b n ∧ RepL K F ds ws ∧ Φ n ds k ∧
  ∀ x n' v F' H' fv, k x n' → Same F F' → Fz F' H' → (∀ c o, H c = some o → c ≠ a → c ≠ b → H' c = some o) → (∀ c, F' c ≠ none → F c ≠ none ∨ H c = none) → Strm H' a b n' → F' a = none → F' b = none →
    OwnS K F' H' x v fv → (∀ c ∈ fv, H c = none ∧ F' c = none) → Q v H'
/-- the slots at a def's start -/
def startD (N : List Str) (xs : List DS) : Sl := xs.map some ++ List.replicate (N.length - xs.length) none
section
variable {K : PySem.W.Frag} {B : Bs} {F H : Hp}
theorem repL_at {ds : List D} {vs : List V} (r : RepL K F ds vs) (i : Nat) : (∃ d v, ds[i]? = some d ∧ vs[i]? = some v ∧ Rep K F d v) ∨ (ds[i]? = none ∧ vs[i]? = none) := by
  cases e : ds[i]? with
  | none => exact .inr ⟨rfl, List.getElem?_eq_none_iff.mpr (by rw [r.length]; exact List.getElem?_eq_none_iff.mp e)⟩
  | some d =>
    obtain ⟨v, h1, h2⟩ := r.get e
    exact .inl ⟨d, v, rfl, h1, h2⟩
theorem sat_startF {N : List Str} {ds : List D} {vs : List V} (fh : Fz F H) (r : RepL K F ds vs) : Sat K ⟨F, H, Own fun _ => []⟩ F H (L2.start N vs) (startD N (ds.map .fr)) (fun _ => []) := by
  have hl := r.length
  refine ⟨by simp [L2.start, startD, hl], fun i d e => ?_, fun _ _ => rfl, fun i j a h _ => (by cases h), fun i a h => (by cases h), fh, Step.refl⟩
  unfold startD at e
  unfold L2.start
  by_cases hi : i < ds.length
  · rw [List.getElem?_append_left (by simpa using hi)] at e
    rw [List.getElem?_append_left (by simpa [hl] using hi)]
    rcases repL_at r i with ⟨d', v, h1, h2, h3⟩ | ⟨h1, h2⟩
    · simp [h1] at e
      subst e
      exact ⟨v, by simp [h2], rfl, h3⟩
    · exact absurd (List.getElem?_eq_none_iff.mp h1) (by omega)
  · rw [List.getElem?_append_right (by simpa using hi)] at e
    have := List.mem_of_getElem? e
    simp at this
theorem sat_startS {N : List Str} {ds : List D} {ws : List V} {a b : Addr} {n : Nat} (fh : Fz F H) (fa : F a = none) (fb : F b = none) (st : Strm H a b n) (r : RepL K F ds ws) :
    Sat K ⟨F, H, Own fun j => if j = 0 then [a, b] else []⟩ F H (L2.start N (.ref a :: ws)) (startD N (.sm a b n none :: ds.map .fr)) (fun j => if j = 0 then [a, b] else []) := by
  have hl := r.length
  refine ⟨by simp [L2.start, startD, hl], fun i d e => ?_, fun i h => ?_, fun i j c hi hj => ?_, fun i c hi => ?_, fh, Step.refl⟩
  · cases i with
    | zero =>
      have e' : DS.sm a b n none = d := by simpa [startD] using e
      subst e'
      exact ⟨.ref a, by simp [L2.start], rfl, rfl, st, trivial⟩
    | succ i =>
      unfold startD at e
      unfold L2.start
      by_cases hi : i < ds.length
      · rw [List.getElem?_append_left (by simpa using hi)] at e
        rw [List.getElem?_append_left (by simpa [hl] using hi)]
        rcases repL_at r i with ⟨d', v, h1, h2, h3⟩ | ⟨h1, h2⟩
        · simp [h1] at e
          subst e
          exact ⟨v, by simp [h2], by simp, h3⟩
        · exact absurd (List.getElem?_eq_none_iff.mp h1) (by omega)
      · rw [List.getElem?_append_right (by simpa using hi)] at e
        have := List.mem_of_getElem? e
        simp at this
  · cases i with
    | zero => exact absurd (show (startD N (.sm a b n none :: ds.map .fr))[0]? = some (some (.sm a b n none)) by simp [startD]) (h _)
    | succ i => rfl
  · by_cases z : i = 0
    · by_cases y : j = 0
      · exact z.trans y.symm
      · simp [y] at hj
    · simp [z] at hi
  · by_cases z : i = 0
    · simp [z] at hi
      rcases hi with h | h
      · rw [h]; exact fa
      · rw [h]; exact fb
    · simp [z] at hi
theorem own_nil {b : Addr} (h : Own (fun _ => []) b) : False := by
  obtain ⟨i, hi⟩ := h
  cases hi
theorem own_two {a b c : Addr} (h : Own (fun j => if j = 0 then [a, b] else []) c) : c = a ∨ c = b := by
  obtain ⟨j, hj⟩ := h
  by_cases z : j = 0
  · simpa [z] using hj
  · simp [z] at hj
end
section
variable {P : Program} {w : World} {K : PySem.W.Frag} {B : Bs} {mg : Str → Option Value} {base : Heap}
/-- a def of frozen data keeps its promise -/
theorem fnF {x qual : Str} {st : Stmt} {f : Addr} {fd : FuncData} {N ps : List Str} {k : Nat} {Φ : Phi} (Fu : Fun K x qual st f fd) (S : FnScope N ps (defScope st)) (len : ∀ ds k, Φ ds k → ds.length = ps.length)
    (hb : ∀ (cdv : Value) (A : Around) (outer : List Env) (s : Shared) (H : Hp) (E : XK) (B : Bs), Room k (A.deeper (envOfC qual (defScope st) s.heap.objs.size f cdv)) →
      ∃ d, PSsd (cxOf CX0 P w K mg base N qual (defScope st) f cdv A outer s H E).nox B (defBody st) d ∧ ∀ ds kk, Φ ds kk → d { nx := fun _ => kk (.fr .non), rt := fun x _ => kk x } (startD N (ds.map .fr))) :
    FnOk P w K mg base CX0 (k + 1) f fd ps (SpF K Φ) := by
  refine Fu.ok S (fun vs H Q E h => ?_) (fun cdv A outer s H vs Q E hr h => ?_)
  · obtain ⟨F, ds, kk, _, r, p, _⟩ := h
    rw [r.length]
    exact len ds kk p
  · obtain ⟨F, ds, kk, fh, r, p, q⟩ := h
    obtain ⟨d, ⟨t, pt, l⟩, hd⟩ := hb cdv A outer s H E ⟨F, H, Own fun _ => []⟩ hr
    refine ⟨t, pt, l _ _ H F _ _ _ (sat_startF fh r) (hd ds kk p) ⟨fun σ' ρ' F' H' f' a b c => ?_, fun x ρ' v σ' F' H' fv f' a b c e g => ?_, fun _ _ _ _ _ z => z.elim, fun _ _ _ _ _ z => z.elim⟩⟩
    · exact q (.fr .non) .non F' H' [] a b.ff c.fh (fun b' o h => b.hh b' o h own_nil) (fun b' h => (b.nf b' h).imp id fun z => z.resolve_left own_nil) ⟨rfl, rep_non.mpr rfl⟩ (by simp)
    · exact q x v F' H' fv a b.ff g.fh (fun b' o h => b.hh b' o h own_nil) (fun b' h => (b.nf b' h).imp id fun z => z.resolve_left own_nil) c fun b' hb' => ⟨(b.np b' (.inl hb')).resolve_left own_nil, (e b' hb').2⟩
/-- a def whose first argument is the stream keeps its promise; slot 0 is never assigned -/
theorem fnS {x qual : Str} {st : Stmt} {f : Addr} {fd : FuncData} {N ps : List Str} {k : Nat} {Φ : PhiS} (Fu : Fun K x qual st f fd) (S : FnScope N ps (defScope st)) (len : ∀ n ds k, Φ n ds k → ds.length + 1 = ps.length)
    (hb : ∀ (cdv : Value) (A : Around) (outer : List Env) (s : Shared) (H : Hp) (E : XK) (B : Bs), Room k (A.deeper (envOfC qual (defScope st) s.heap.objs.size f cdv)) →
      ∃ d, PSsd (cxOf CX0 P w K mg base N qual (defScope st) f cdv A outer s H E).nox B (defBody st) d ∧ ∀ a b n ds kk, Φ n ds kk →
        d { nx := fun ρ => ∃ n', ρ[0]? = some (some (.sm a b n' none)) ∧ kk (.fr .non) n', rt := fun x ρ => ∃ n', ρ[0]? = some (some (.sm a b n' none)) ∧ kk x n' } (startD N (.sm a b n none :: ds.map .fr))) :
    FnOk P w K mg base CX0 (k + 1) f fd ps (SpS K Φ) := by
  refine Fu.ok S (fun vs H Q E h => ?_) (fun cdv A outer s H vs Q E hr h => ?_)
  · obtain ⟨F, a, b, n, ws, ds, kk, rfl, _, _, _, _, r, p, _⟩ := h
    rw [List.length_cons, r.length]
    exact len n ds kk p
  · obtain ⟨F, a, b, n, ws, ds, kk, rfl, fh, fa, fb, sm, r, p, q⟩ := h
    obtain ⟨d, ⟨t, pt, l⟩, hd⟩ := hb cdv A outer s H E ⟨F, H, Own fun j => if j = 0 then [a, b] else []⟩ hr
    obtain ⟨ne, cells, g, c0, m, ea, eb, _⟩ := id sm
    have nf2 : ∀ {F' H' : Hp} {P' : Addr → Prop} {σ' : L2.St} {ρ' : Sl} {f' : Nat → List Addr} {n' : Nat}, ρ'[0]? = some (some (.sm a b n' none)) → Sat K ⟨F, H, Own fun j => if j = 0 then [a, b] else []⟩ F' H' σ' ρ' f' → Step F H (Own fun j => if j = 0 then [a, b] else []) F' H' P' →
        Strm H' a b n' ∧ F' a = none ∧ F' b = none ∧ ∀ c, F' c ≠ none → F c ≠ none ∨ H c = none := by
      intro F' H' P' σ' ρ' f' n' e S' s'
      obtain ⟨v, e1, h1, h2, h3, _⟩ := S'.at_ 0 _ e
      have q1 := S'.fz 0 a (by rw [h2]; simp)
      have q2 := S'.fz 0 b (by rw [h2]; simp)
      refine ⟨h3, q1, q2, fun c hc => ?_⟩
      rcases s'.nf c hc with z | z | z
      · exact .inl z
      · rcases own_two z with y | y
        · rw [y] at hc; exact absurd q1 hc
        · rw [y] at hc; exact absurd q2 hc
      · exact .inr z
    refine ⟨t, pt, l _ _ H F _ _ _ (sat_startS fh fa fb sm r) (hd a b n ds kk p) ⟨fun σ' ρ' F' H' f' a1 b1 c1 => ?_, fun x ρ' v σ' F' H' fv f' a1 b1 c1 e1 g1 => ?_, fun _ _ _ _ _ z => z.elim, fun _ _ _ _ _ z => z.elim⟩⟩
    · obtain ⟨n', e, a1⟩ := a1
      obtain ⟨h3, q1, q2, q3⟩ := nf2 e c1 b1
      exact q (.fr .non) n' .non F' H' [] a1 b1.ff c1.fh (fun b' o h n1 n2 => b1.hh b' o h fun z => (own_two z).elim n1 n2) q3 h3 q1 q2 ⟨rfl, rep_non.mpr rfl⟩ (by simp)
    · obtain ⟨n', e, a1⟩ := a1
      obtain ⟨h3, q1, q2, q3⟩ := nf2 e g1 b1
      refine q x n' v F' H' fv a1 b1.ff g1.fh (fun b' o h n1 n2 => b1.hh b' o h fun z => (own_two z).elim n1 n2) q3 h3 q1 q2 c1 fun b' hb' => ⟨?_, (e1 b' hb').2⟩
      rcases b1.np b' (.inl hb') with z | z
      · obtain ⟨v0, e0, h1, h2, _, _⟩ := g1.at_ 0 _ e
        rcases own_two z with y | y
        · exact absurd ⟨0, by rw [h2, y]; simp⟩ (e1 b' hb').1
        · exact absurd ⟨0, by rw [h2, y]; simp⟩ (e1 b' hb').1
      · exact z
end

/-! ### calls -/
def frz : DS → Option D
  | .fr d => some d
  | .ol ds => some (.lst ds)
  | _ => none
/-- what a call gives, frozen -/
theorem frz_rep {K : PySem.W.Frag} {F H H0 : Hp} {x : DS} {d : D} {v : V} {fv : List Addr} (h : OwnS K F H x v fv) (e : frz x = some d) (fh : Fz F H) (nf : ∀ a ∈ fv, H0 a = none ∧ F a = none) :
    ∃ F', Same F F' ∧ Fz F' H ∧ (∀ b, F' b ≠ none → F b ≠ none ∨ H0 b = none) ∧ Rep K F' d v := by
  cases x with
  | fr y =>
    unfold frz at e; cases e
    exact ⟨F, fun _ _ h => h, fh, fun _ h => .inl h, h.2⟩
  | ol ds =>
    unfold frz at e; cases e
    obtain ⟨a, vs, h1, h2, h3, h4⟩ := h
    subst h2
    have fa := (nf a (by simp)).2
    have ff : Same F (upd F a (.lst vs)) := same_new fa
    refine ⟨upd F a (.lst vs), ff, ⟨fun b o h => ?_, nt_upd fh.nt fun ps z => by cases z⟩, fun b h => ?_, rep_lst.mpr ⟨a, vs, h1, upd_same, h4.mono ff⟩⟩
    · by_cases z : b = a
      · subst z; rw [upd_same] at h; rw [h3]; exact h
      · rw [upd_ne z] at h; exact fh.s b o h
    · by_cases z : b = a
      · subst z; exact .inr (nf b (by simp)).1
      · rw [upd_ne z] at h; exact .inl h
  | sm a b n t => unfold frz at e; cases e
  | ow a ds => unfold frz at e; cases e
  | rl ds => unfold frz at e; cases e
def dCall (Φ : Phi) (da : DA) : DF := fun ρ k => da ρ fun ds ρ1 => Φ ds fun x => ∃ d, frz x = some d ∧ k d ρ1
theorem lf_call {K : PySem.W.Frag} {B : Bs} {Φ : Phi} {E : XK} {t : TA} {da : DA} (l : LA K B t da) : LF K B (tCall (SpF K Φ) [] E t) (dCall Φ da) := by
  intro σ H Q F ρ f k S h q
  refine l σ H _ F ρ f _ S h fun ds ρ1 vs F1 H1 f1 k1 s1 r1 S1 => ?_
  show SpF K Φ (vs ++ []) H1 Q E
  rw [List.append_nil]
  refine ⟨F1, ds, _, S1.fh, r1, k1, fun x v F' H' fv hk c1 c2 c3 c4 o c5 => ?_⟩
  obtain ⟨d, e, hk⟩ := hk
  obtain ⟨F2, e1, e2, e3, e4⟩ := frz_rep (H0 := H1) o e c2 c5
  have nf : ∀ b, F2 b ≠ none → F1 b ≠ none ∨ H1 b = none := fun b h => (e3 b h).elim (fun z => c4 b z) .inr
  exact q d ρ1 v F2 H' f1 hk (s1.trans (Step.grow (c1.trans e1) c3 nf)) e4 (S1.grow (c1.trans e1) e2 c3 nf)
def dCallO (Φ : Phi) (da : DA) : DO := fun ρ k => da ρ fun ds ρ1 => Φ ds fun x => ∃ ds', x = .ol ds' ∧ k ds' ρ1
theorem step_new {K : PySem.W.Frag} {B : Bs} {F H F1 H1 F2 H2 : Hp} {σ : L2.St} {ρ1 : Sl} {f f1 : Nat → List Addr} {a : Addr} (s1 : Step F H (Own f) F1 H1 (Own f1)) (S1 : Sat K B F1 H1 σ ρ1 f1) (c1 : Same F1 F2) (c3 : Same H1 H2) (nf : ∀ b, F2 b ≠ none → F1 b ≠ none ∨ H1 b = none) (na : H1 a = none) :
    Step F H (Own f) F2 H2 (fun b => b = a ∨ Own f1 b) := by
  refine s1.trans ⟨c1, fun b o h _ => c3 b o h, fun b h => (nf b h).imp id .inr, fun b hb => ?_⟩
  rcases hb with z | z
  · rw [z]; exact .inr na
  · exact .inl z
theorem lo_call {K : PySem.W.Frag} {B : Bs} {Φ : Phi} {E : XK} {t : TA} {da : DA} (l : LA K B t da) : LO K B (tCall (SpF K Φ) [] E t) (dCallO Φ da) := by
  intro σ H Q F ρ f k S h q
  refine l σ H _ F ρ f _ S h fun ds ρ1 vs F1 H1 f1 k1 s1 r1 S1 => ?_
  show SpF K Φ (vs ++ []) H1 Q E
  rw [List.append_nil]
  refine ⟨F1, ds, _, S1.fh, r1, k1, fun x v F' H' fv hk c1 c2 c3 c4 o c5 => ?_⟩
  obtain ⟨ds', rfl, hk⟩ := hk
  obtain ⟨a, us, rfl, h2, h3, h4⟩ := o
  subst h2
  obtain ⟨na, fa⟩ := c5 a (by simp)
  exact q ds' ρ1 a us F' H' f1 hk (step_new s1 S1 c1 c3 c4 na) h3 h4 (fun z => S1.own_there z na) fa (S1.grow c1 c2 c3 c4)
/-- the stream goes along: it stands in slot i -/
theorem sat_stream {K : PySem.W.Frag} {B : Bs} {F H F' H' : Hp} {σ : L2.St} {ρ : Sl} {f : Nat → List Addr} {i : Nat} {a b : Addr} {n n' : Nat} {t : Option (Addr × Str)} (S : Sat K B F H σ ρ f) (e : ρ[i]? = some (some (.sm a b n t))) (ff : Same F F') (fh : Fz F' H')
    (hh : ∀ c o, H c = some o → c ≠ a → c ≠ b → H' c = some o) (nf : ∀ c, F' c ≠ none → F c ≠ none ∨ H c = none) (sm : Strm H' a b n') (fa : F' a = none) (fb : F' b = none) :
    Sat K B F' H' σ (ρ.set i (some (.sm a b n' t))) f ∧ Step F H (Own f) F' H' (Own f) := by
  obtain ⟨v, ev, h1, h2, h3, h4⟩ := S.at_ i _ e
  have hi : i < ρ.length := (List.getElem?_eq_some_iff.mp e).1
  have oa : Own f a := ⟨i, by rw [h2]; simp⟩
  have ob : Own f b := ⟨i, by rw [h2]; simp⟩
  have ka : ∃ vs, H a = some (.lst vs) := by
    obtain ⟨_, cells, g, c, m, q1, _⟩ := h3
    exact ⟨_, q1⟩
  have kb : ∃ vs, H b = some (.lst vs) := by
    obtain ⟨_, cells, g, c, m, _, q2, _⟩ := h3
    exact ⟨_, q2⟩
  have kx : Kx H H' := fun c z h => hh c _ h (by rintro rfl; obtain ⟨vs, q⟩ := ka; rw [q] at h; cases h) (by rintro rfl; obtain ⟨vs, q⟩ := kb; rw [q] at h; cases h)
  have sst : Step F H (Own f) F' H' (Own f) := ⟨ff, fun c o h n => hh c o h (fun z => n (z ▸ oa)) (fun z => n (z ▸ ob)), fun c h => (nf c h).imp id .inr, fun c h => .inl h⟩
  refine ⟨⟨by simp [S.len], fun j d h => ?_, fun j h => ?_, S.dj, fun j c hc => ?_, fh, S.st.trans sst⟩, sst⟩
  · by_cases z : j = i
    · subst z
      rw [List.getElem?_set_self hi] at h
      cases h
      refine ⟨v, ev, h1, h2, sm, tabO_keep h4 (fun c hc o ho => ?_) kx⟩
      match t, h4, hc with
      | some (P, q), h4, hc =>
        obtain ⟨ps, g1, _⟩ := h4
        have : c = P := by simpa [tabA] using hc
        subst this
        refine hh c o ho ?_ ?_
        · rintro rfl; obtain ⟨vs, q⟩ := ka; rw [q] at g1; cases g1
        · rintro rfl; obtain ⟨vs, q⟩ := kb; rw [q] at g1; cases g1
      | none, _, hc => simp [tabA] at hc
    · rw [List.getElem?_set_ne (Ne.symm z)] at h
      obtain ⟨u, e1, o⟩ := S.at_ j d h
      refine ⟨u, e1, o.keep ff (fun c hc o ho => hh c o ho ?_ ?_) kx⟩
      · rintro rfl; exact z (S.dj j i c hc (by rw [h2]; simp))
      · rintro rfl; exact z (S.dj j i c hc (by rw [h2]; simp))
  · refine S.em j fun d q => ?_
    by_cases z : j = i
    · subst z
      exact h _ (List.getElem?_set_self hi)
    · refine h d ?_
      rw [List.getElem?_set_ne (Ne.symm z)]
      exact q
  · cases q : F' c with
    | none => rfl
    | some o =>
      rcases nf c (by rw [q]; simp) with z | z
      · exact absurd (S.fz j c hc) z
      · exact absurd z (S.own_there ⟨j, hc⟩)
/-- f(stream, ..), the stream in slot i -/
def dCallS (i : Nat) (Φ : PhiS) (da : DA) : DF := fun ρ k => (∃ a b n t, ρ[i]? = some (some (.sm a b n t))) ∧ da ρ fun ds ρ1 => ∃ a b n t, ρ1[i]? = some (some (.sm a b n t)) ∧ Φ n ds fun x n' => ∃ d, frz x = some d ∧ k d (ρ1.set i (some (.sm a b n' t)))
theorem lf_callS {K : PySem.W.Frag} {B : Bs} {Φ : PhiS} {E : XK} {t : TA} {da : DA} {i : Nat} (l : LA K B t da) : LF K B (tCall (SpS K Φ) [] E (tCons (tVar i) t)) (dCallS i Φ da) := by
  intro σ H Q F ρ f k S h q
  obtain ⟨⟨a0, b0, n0, t0, e0⟩, h⟩ := h
  obtain ⟨v0, ev0, h10, _⟩ := S.at_ i _ e0
  refine ⟨v0, ev0, l σ H _ F ρ f _ S h fun ds ρ1 vs F1 H1 f1 k1 s1 r1 S1 => ?_⟩
  show SpS K Φ ((v0 :: vs) ++ []) H1 Q E
  rw [List.append_nil]
  obtain ⟨a, b, n, t1, e, k1⟩ := k1
  obtain ⟨v, ev, h1, h2, h3, _⟩ := S1.at_ i _ e
  rw [ev0] at ev
  cases ev
  subst h1
  have fa := S1.fz i a (by rw [h2]; simp)
  have fb := S1.fz i b (by rw [h2]; simp)
  refine ⟨F1, a, b, n, vs, ds, _, rfl, S1.fh, fa, fb, h3, r1, k1, fun x n' v F' H' fv hk c1 c2 c3 c4 c5 c6 c7 o c8 => ?_⟩
  obtain ⟨d, ed, hk⟩ := hk
  obtain ⟨F2, e1, e2, e3, e4⟩ := frz_rep (H0 := H1) o ed c2 c8
  have nf : ∀ b, F2 b ≠ none → F1 b ≠ none ∨ H1 b = none := fun b h => (e3 b h).elim (fun z => c4 b z) .inr
  have no : ∀ c, H1 c ≠ none → F' c = none → F2 c = none := fun c h1 h2 => by
    cases z : F2 c with
    | none => rfl
    | some o =>
      rcases e3 c (by rw [z]; simp) with y | y
      · exact absurd h2 y
      · exact absurd y h1
  obtain ⟨S2, s2⟩ := sat_stream S1 e (c1.trans e1) e2 c3 nf c5 (no a (S1.own_there ⟨i, by rw [h2]; simp⟩) c6) (no b (S1.own_there ⟨i, by rw [h2]; simp⟩) c7)
  exact q d _ v F2 H' f1 hk (s1.trans s2) e4 S2
def dCallSO (i : Nat) (Φ : PhiS) (da : DA) : DO := fun ρ k => (∃ a b n t, ρ[i]? = some (some (.sm a b n t))) ∧ da ρ fun ds ρ1 => ∃ a b n t, ρ1[i]? = some (some (.sm a b n t)) ∧ Φ n ds fun x n' => ∃ ds', x = .ol ds' ∧ k ds' (ρ1.set i (some (.sm a b n' t)))
theorem lo_callS {K : PySem.W.Frag} {B : Bs} {Φ : PhiS} {E : XK} {t : TA} {da : DA} {i : Nat} (l : LA K B t da) : LO K B (tCall (SpS K Φ) [] E (tCons (tVar i) t)) (dCallSO i Φ da) := by
  intro σ H Q F ρ f k S h q
  obtain ⟨⟨a0, b0, n0, t0, e0⟩, h⟩ := h
  obtain ⟨v0, ev0, h10, _⟩ := S.at_ i _ e0
  refine ⟨v0, ev0, l σ H _ F ρ f _ S h fun ds ρ1 vs F1 H1 f1 k1 s1 r1 S1 => ?_⟩
  show SpS K Φ ((v0 :: vs) ++ []) H1 Q E
  rw [List.append_nil]
  obtain ⟨a, b, n, t1, e, k1⟩ := k1
  obtain ⟨v, ev, h1, h2, h3, _⟩ := S1.at_ i _ e
  rw [ev0] at ev
  cases ev
  subst h1
  have fa := S1.fz i a (by rw [h2]; simp)
  have fb := S1.fz i b (by rw [h2]; simp)
  refine ⟨F1, a, b, n, vs, ds, _, rfl, S1.fh, fa, fb, h3, r1, k1, fun x n' v F' H' fv hk c1 c2 c3 c4 c5 c6 c7 o c8 => ?_⟩
  obtain ⟨ds', rfl, hk⟩ := hk
  obtain ⟨p, us, rfl, g2, g3, g4⟩ := o
  subst g2
  obtain ⟨np, fp⟩ := c8 p (by simp)
  obtain ⟨S2, s2⟩ := sat_stream S1 e c1 c2 c3 c4 c5 c6 c7
  refine q ds' _ p us F' H' f1 hk (s1.trans ⟨s2.ff, s2.hh, s2.nf, fun c hc => ?_⟩) g3 g4 (fun z => S1.own_there z np) fp S2
  rcases hc with z | z
  · rw [z]; exact .inr np
  · exact .inl z
section
variable {X : Cx} {B : Bs} {k : Nat} {f : Addr} {fd : FuncData} {ps : List Str} {x : Str} {p pos : Pos} {e : Expr} {es : List Expr} {E : XK}
theorem pf_call {Φ : Phi} {da : DA} (G : FnOk X.prog X.w X.K X.mg X.base CX0 k f fd ps (SpF X.K Φ)) (hr : Room k X.A) (hg : Gl X x) (hm : X.mg x = some (.ref f)) (hk : PySem.W.keepIn X.K (.ref f) = true) (hb : Binds X.K fd ps []) (ha : PAd X B (e :: es) da)
    (hdb : (x == ("__debug__" : Str)) = false := by decide) (he : starEach (e :: es) X.env = (false, eval e X.env) :: starEach es X.env := by rfl) (hpl : (backTo pos (starEach es X.env)).any (·.1) = false := by rfl) : PF X B (.Call (.Name x p) (e :: es) [] pos) (dCall Φ da) := by
  obtain ⟨t, pt, l⟩ := ha
  exact ⟨_, pe_call G hr hg hm hk hb .nil pass0 pt hdb he hpl, lf_call l⟩
theorem po_call {Φ : Phi} {da : DA} (G : FnOk X.prog X.w X.K X.mg X.base CX0 k f fd ps (SpF X.K Φ)) (hr : Room k X.A) (hg : Gl X x) (hm : X.mg x = some (.ref f)) (hk : PySem.W.keepIn X.K (.ref f) = true) (hb : Binds X.K fd ps []) (ha : PAd X B (e :: es) da)
    (hdb : (x == ("__debug__" : Str)) = false := by decide) (he : starEach (e :: es) X.env = (false, eval e X.env) :: starEach es X.env := by rfl) (hpl : (backTo pos (starEach es X.env)).any (·.1) = false := by rfl) : PO X B (.Call (.Name x p) (e :: es) [] pos) (dCallO Φ da) := by
  obtain ⟨t, pt, l⟩ := ha
  exact ⟨_, pe_call G hr hg hm hk hb .nil pass0 pt hdb he hpl, lo_call l⟩
theorem pf_callS {Φ : PhiS} {da : DA} {i : Nat} (G : FnOk X.prog X.w X.K X.mg X.base CX0 k f fd ps (SpS X.K Φ)) (hr : Room k X.A) (hg : Gl X x) (hm : X.mg x = some (.ref f)) (hk : PySem.W.keepIn X.K (.ref f) = true) (hb : Binds X.K fd ps []) (hv : PE X e (tVar i)) (ha : PAd X B es da)
    (hdb : (x == ("__debug__" : Str)) = false := by decide) (he : starEach (e :: es) X.env = (false, eval e X.env) :: starEach es X.env := by rfl) (hpl : (backTo pos (starEach es X.env)).any (·.1) = false := by rfl) : PF X B (.Call (.Name x p) (e :: es) [] pos) (dCallS i Φ da) := by
  obtain ⟨t, pt, l⟩ := ha
  exact ⟨_, pe_call G hr hg hm hk hb .nil pass0 (pa_cons hv pt he) hdb he hpl, lf_callS l⟩
theorem po_callS {Φ : PhiS} {da : DA} {i : Nat} (G : FnOk X.prog X.w X.K X.mg X.base CX0 k f fd ps (SpS X.K Φ)) (hr : Room k X.A) (hg : Gl X x) (hm : X.mg x = some (.ref f)) (hk : PySem.W.keepIn X.K (.ref f) = true) (hb : Binds X.K fd ps []) (hv : PE X e (tVar i)) (ha : PAd X B es da)
    (hdb : (x == ("__debug__" : Str)) = false := by decide) (he : starEach (e :: es) X.env = (false, eval e X.env) :: starEach es X.env := by rfl) (hpl : (backTo pos (starEach es X.env)).any (·.1) = false := by rfl) : PO X B (.Call (.Name x p) (e :: es) [] pos) (dCallSO i Φ da) := by
  obtain ⟨t, pt, l⟩ := ha
  exact ⟨_, pe_call G hr hg hm hk hb .nil pass0 (pa_cons hv pt he) hdb he hpl, lo_callS l⟩
end
end Sa
end

section
namespace Sa
open PySem PySem.Spec PyProof.Rows L2

/-! ### enumerate of a text -/
def ItEs (x : Str) : It := ⟨fun i _ => i < x.cps.size, fun i H v H' => ∃ T c, v = .ref T ∧ H T = none ∧ H' = upd H T (.tup [.int (i : Nat), .str ⟨#[c]⟩]) ∧ x.cps[i]? = some c, fun i _ => i = x.cps.size⟩
theorem enS_walk (prog : Program) (w : World) {A : Around} (hh : A.handled = none) (x : Str) (t : Tok) (e it : Addr) (hne : e ≠ it) :
    WalksT prog w A e [e, it] [e, it] x.cps.size (fun i vals => ∃ t' y, (∃ c u, x.cps[i]? = some c ∧ y = .str ⟨#[c]⟩ u) ∧ vals = #[.int (0 + (i : Int)) t', y])
      (fun i h => (∃ old, IsEnum h e it (0 + (i : Int)) old) ∧ h.IsStrIter it (strIterType x) x t i) (fun i T h => (∃ y, IsEnumOut h e it (0 + (i : Int) + 1) y T) ∧ h.IsStrIter it (strIterType x) x t (i + 1) ∧ T ≠ e ∧ T ≠ it) :=
  WalksT.enumFrom 0 (Draws.text (prog := prog) (w := w) (A := A.in1) hh it x t) e hne (by simpa using hne) (by simp)
theorem turn_enumS {P : Program} {w : World} {K : PySem.W.Frag} {elts : List Expr} {kk : Nat} {tpos : Pos} (x : Str) (t : Tok) (e it : Addr) (hne : e ≠ it) :
    Turn P w K (.Tuple elts kk tpos) (ItEs x) [e, it] e (fun i h => (∃ old, IsEnum h e it (0 + (i : Int)) old) ∧ h.IsStrIter it (strIterType x) x t i) where
  mem := List.mem_cons_self
  obj := fun i h st b hb => by
    obtain ⟨⟨old, he⟩, o, ho, hc, hd⟩ := st
    rcases List.mem_cons.mp hb with z | z
    · rw [z]; exact ⟨_, he, fun v q => nomatch q⟩
    · rw [List.mem_singleton.mp z]; exact ⟨o, ho, fun v q => by rw [hd] at q; cases q⟩
  keep := fun i h h' st k => by
    obtain ⟨⟨old, he⟩, o, ho, r⟩ := st
    exact ⟨⟨old, k e (by simp) _ he⟩, o, k it (by simp) _ ho, r⟩
  item := by
    intro X hP hw hK hc i pins s σ H E I hf st hg
    subst hP hw hK
    have W := enS_walk X.prog X.w (I.ok.hd hc) x t e it hne
    refine W.item i s _ E hg st fun T vals h' tk hv hT hTu hm hk => ?_
    obtain ⟨t', y, ⟨c, u, hcx, rfl⟩, rfl⟩ := hv
    refine ⟨.ref T, rfl, W.go elts kk tpos i T _ _ E hm fun h'' st' hk' => ?_⟩
    obtain ⟨oT, eT, cT, nT, dT⟩ := hTu
    have eT' : h''.get? T = some oT := hk' T oT (W.apart i T _ hm) eT
    have new : ObjOk X.prog X.w (upd H T (.tup [.int (i : Nat), .str ⟨#[c]⟩])) h'' T (.tup [.int (i : Nat), .str ⟨#[c]⟩]) := by
      refine ⟨by show 2 ≤ sizeLine; decide, [.int (0 + (i : Int)) t', .str ⟨#[c]⟩ u], .cons ⟨t', by rw [Int.zero_add]⟩ (.cons ⟨u, rfl⟩ .nil), oT, eT', cT, nT, dT⟩
    have I1 := I.turnedNew (t' := tk) (ch := [e, it]) (fun b o hb q => hk' b o hb (hk b o hb q)) hf hT new
    refine ⟨.ref T, _, I1, rfl, ⟨T, c, rfl, I.hok.fresh hT, rfl, hcx⟩, st', fun b hb => ?_⟩
    rw [upd_ne]
    · exact (hf b hb).1
    · rintro rfl
      exact W.apart i b _ hm hb
  done := by
    intro X hP hw hK hc i pins s σ H E I hf st hg
    subst hP hw hK
    have hg : i = x.cps.size := hg
    subst hg
    exact (enS_walk X.prog X.w (I.ok.hd hc) x t e it hne).done s _ E st fun h' tk k => ⟨rfl, I.turnedL (t' := tk) (ch := [e, it]) k hf⟩
  self := fun A i s Q E st h => by
    obtain ⟨⟨old, he⟩, _⟩ := st
    exact wpAny_pyIter_enum he h
def iEnumS (ta : TA) : TI := fun σ H R => ta σ H fun vs H1 => ∃ x, vs = [.str x] ∧ R (ItEs x) H1
theorem pi_enumS {X : Cx} {e : Expr} {ta : TA} {p pos tpos : Pos} {elts : List Expr} {kk : Nat} (hg : Gl X "enumerate") (hm : X.mg "enumerate" = none) (ha : PA X [e] ta) (hs : starEach [e] X.env = [(false, eval e X.env)] := by rfl) :
    PI X (.Tuple elts kk tpos) (.Call (.Name "enumerate" p) [e] [] pos) (iEnumS ta) := by
  refine ⟨fun pins s σ H R I h => Call_ (ld_blt I hg hm boot_enumerate (PyProof.Rows.callWith_type1 (thn (ha.run pos pins s σ H _ I h) fun us s1 q0 => ?_) hs rfl))⟩
  obtain ⟨vs, H1, I1, r1, x, ex, q⟩ := q0
  subst ex
  obtain ⟨u, rfl, t, rfl⟩ : ∃ u, us = [u] ∧ RelV (.str x) u := by
    cases r1 with
    | cons r rr => cases rr; exact ⟨_, rfl, r⟩
  refine call_enumerate_str fun h' he hit hsz hk => wpAny_pyIter_enum he ?_
  have I2 : Inv X pins σ H1 { s1 with heap := h' } := I1.kept (t' := s1.toks) hk
  refine ⟨s1.heap.objs.size + 1, [s1.heap.objs.size + 1, s1.heap.objs.size], _, _, H1, rfl, I2, turn_enumS x t (s1.heap.objs.size + 1) s1.heap.objs.size (Nat.succ_ne_self _), ⟨⟨.none, he⟩, hit⟩, fun b hb => ?_, q⟩
  have hle : s1.heap.objs.size ≤ b := by
    rcases List.mem_cons.mp hb with z | z
    · rw [z]; exact Nat.le_add_right _ _
    · rw [List.mem_singleton.mp z]; exact Nat.le_refl _
  exact I1.fpOk hle (I1.hok.fresh hle)
theorem walk_enumS {x : Str} : Walk (ItEs x) x.cps.size (fun _ => True) (fun i H v H' => ∃ T c, v = .ref T ∧ H T = none ∧ H' = upd H T (.tup [.int (i : Nat), .str ⟨#[c]⟩]) ∧ x.cps[i]? = some c) :=
  ⟨fun i H hi _ => hi, fun H _ => rfl, fun i H v H' _ _ y => y⟩

/-! ### sources by data -/
structure SrcOk (K : PySem.W.Frag) (F H : Hp) (items : List D) (J : It) : Prop where
  ex : ∃ (G : Hp → Prop) (Y : Nat → Hp → V → Hp → Prop), Walk J items.length G Y ∧ (∀ F2 H2, Same F F2 → Fz F2 H2 → G H2) ∧
    ∀ i H2 F2 x H3, i < items.length → Same F F2 → Fz F2 H2 → Y i H2 x H3 → ∃ F3, Same F2 F3 ∧ Fz F3 H3 ∧ Same H2 H3 ∧ (∀ b, F3 b ≠ none → F2 b ≠ none ∨ H2 b = none) ∧ ∃ d, items[i]? = some d ∧ Rep K F3 d x
def LI (K : PySem.W.Frag) (B : Bs) (wi : TI) (d : DA) : Prop := ∀ σ H (R : It → Hp → Prop) F ρ f k, Sat K B F H σ ρ f → d ρ k →
  (∀ items ρ' J F' H' f', k items ρ' → Step F H (Own f) F' H' (Own f') → Sat K B F' H' σ ρ' f' → SrcOk K F' H' items J → R J H') → wi σ H R
structure PId (X : Cx) (B : Bs) (tg iter : Expr) (d : DA) : Prop where
  ex : ∃ wi, PI X tg iter wi ∧ LI X.K B wi d
section
variable {K : PySem.W.Frag} {B : Bs} {F H : Hp}
theorem src_list {a : Addr} {vs : List V} {ds : List D} (h : SqL K F a vs) (r : RepL K F ds vs) : SrcOk K F H ds (Itl K a) := by
  refine ⟨_, _, (by rw [← r.length]; exact walk_list (xs := vs)), fun F2 H2 e1 e2 => (e1.trans e2.s).seq h, fun i H2 F2 x H3 hi e1 e2 y => ?_⟩
  obtain ⟨rfl, hx⟩ := y
  obtain ⟨d, hd, rd⟩ := r.getV hx
  exact ⟨F2, fun _ _ h => h, e2, fun _ _ h => h, fun _ h => .inl h, d, hd, rd.mono e1⟩
theorem src_tup {a : Addr} {vs : List V} {ds : List D} (h : SqT K F a vs) (r : RepL K F ds vs) : SrcOk K F H ds (Itt K a) := by
  refine ⟨_, _, (by rw [← r.length]; exact walk_tup (xs := vs)), fun F2 H2 e1 e2 => Same.seqT (e1.trans e2.s) h, fun i H2 F2 x H3 hi e1 e2 y => ?_⟩
  obtain ⟨rfl, hx⟩ := y
  obtain ⟨d, hd, rd⟩ := r.getV hx
  exact ⟨F2, fun _ _ h => h, e2, fun _ _ h => h, fun _ h => .inl h, d, hd, rd.mono e1⟩
def rangeD (lo : Int) (n : Nat) : List D := (List.range n).map fun i => .int (lo + (i : Nat))
theorem rangeD_len {lo : Int} {n : Nat} : (rangeD lo n).length = n := by simp [rangeD]
theorem rangeD_get {lo : Int} {n i : Nat} (h : i < n) : (rangeD lo n)[i]? = some (.int (lo + (i : Nat))) := by simp [rangeD, h]
theorem src_range {lo : Int} {n : Nat} : SrcOk K F H (rangeD lo n) (Itr lo n) := by
  refine ⟨_, _, (by rw [rangeD_len]; exact walk_range), fun _ _ _ _ => trivial, fun i H2 F2 x H3 hi e1 e2 y => ?_⟩
  obtain ⟨rfl, rfl⟩ := y
  rw [rangeD_len] at hi
  exact ⟨F2, fun _ _ h => h, e2, fun _ _ h => h, fun _ h => .inl h, _, rangeD_get hi, rep_int.mpr rfl⟩
/-- the signs of a text -/
def signD (c : Nat) : D := .str ⟨#[c]⟩
def signsD (x : Str) : List D := x.cps.toList.map signD
theorem signsD_len {x : Str} : (signsD x).length = x.cps.size := by simp [signsD]
theorem signsD_get {x : Str} {i c : Nat} (h : x.cps[i]? = some c) : (signsD x)[i]? = some (signD c) := by simp [signsD, h]
theorem src_str {x : Str} : SrcOk K F H (signsD x) (Its x) := by
  refine ⟨_, _, (by rw [signsD_len]; exact walk_str), fun _ _ _ _ => trivial, fun i H2 F2 v H3 hi e1 e2 y => ?_⟩
  obtain ⟨rfl, c, hc, rfl⟩ := y
  exact ⟨F2, fun _ _ h => h, e2, fun _ _ h => h, fun _ h => .inl h, _, signsD_get hc, rep_str.mpr rfl⟩
/-- pairs of a place and a thing -/
def enumD : Nat → List D → List D
  | _, [] => []
  | n, d :: ds => .tup [.int (n : Nat), d] :: enumD (n + 1) ds
theorem enumD_len : ∀ {n : Nat} {ds : List D}, (enumD n ds).length = ds.length
  | _, [] => rfl
  | n, d :: ds => by simp [enumD, enumD_len (n := n + 1) (ds := ds)]
theorem enumD_get : ∀ {n : Nat} {ds : List D} {i : Nat} {d : D}, ds[i]? = some d → (enumD n ds)[i]? = some (.tup [.int ((n + i : Nat)), d])
  | _, [], _, _, h => by simp at h
  | n, e :: ds, 0, d, h => by simp at h; subst h; simp [enumD]
  | n, e :: ds, i + 1, d, h => by
    have := enumD_get (n := n + 1) (ds := ds) (i := i) (d := d) (by simpa using h)
    simp only [enumD, List.getElem?_cons_succ, this]
    have : n + 1 + i = n + (i + 1) := by omega
    rw [this]
/-- a new pair -/
theorem pair_new {T : Addr} {d e : D} {v u : V} {F2 H2 : Hp} (e2 : Fz F2 H2) (nT : H2 T = none) (r1 : Rep K F2 d v) (r2 : Rep K F2 e u) :
    ∃ F3, Same F2 F3 ∧ Fz F3 (upd H2 T (.tup [v, u])) ∧ Same H2 (upd H2 T (.tup [v, u])) ∧ (∀ b, F3 b ≠ none → F2 b ≠ none ∨ H2 b = none) ∧ Rep K F3 (.tup [d, e]) (.ref T) := by
  obtain ⟨c1, c2, c3, c4⟩ := frz_new (o := .tup [v, u]) e2 nT
  exact ⟨_, c1, c2, c3, c4, rep_tup.mpr ⟨T, _, rfl, SqT.of upd_same, repL_cons (r1.mono c1) (repL_one (r2.mono c1))⟩⟩
theorem src_enumL {a : Addr} {vs : List V} {ds : List D} (h : SqL K F a vs) (r : RepL K F ds vs) : SrcOk K F H (enumD 0 ds) (Ite K a) := by
  refine ⟨_, _, (by rw [enumD_len, ← r.length]; exact walk_enum (xs := vs)), fun F2 H2 e1 e2 => (e1.trans e2.s).seq h, fun i H2 F2 x H3 hi e1 e2 y => ?_⟩
  obtain ⟨T, x1, x2, rfl, nT, rfl, h1, h2⟩ := y
  cases h1
  obtain ⟨d, hd, rd⟩ := r.getV h2
  obtain ⟨F3, c1, c2, c3, c4, c5⟩ := pair_new (d := .int (i : Nat)) (e := d) e2 nT (rep_int.mpr rfl) (rd.mono e1)
  have := enumD_get (n := 0) hd
  rw [Nat.zero_add] at this
  exact ⟨F3, c1, c2, c3, c4, _, this, c5⟩
theorem src_enumS {x : Str} : SrcOk K F H (enumD 0 (signsD x)) (ItEs x) := by
  refine ⟨_, _, (by rw [enumD_len, signsD_len]; exact walk_enumS), fun _ _ _ _ => trivial, fun i H2 F2 v H3 hi e1 e2 y => ?_⟩
  obtain ⟨T, c, rfl, nT, rfl, hc⟩ := y
  obtain ⟨F3, c1, c2, c3, c4, c5⟩ := pair_new (K := K) (d := .int (i : Nat)) (e := signD c) e2 nT (rep_int.mpr rfl) (rep_str.mpr rfl)
  have := enumD_get (n := 0) (signsD_get hc)
  rw [Nat.zero_add] at this
  exact ⟨F3, c1, c2, c3, c4, _, this, c5⟩
def zipD : List D → List D → List D
  | d :: ds, e :: es => .tup [d, e] :: zipD ds es
  | _, _ => []
theorem zipD_len : ∀ {ds es : List D}, (zipD ds es).length = min ds.length es.length
  | [], [] => rfl
  | [], _ :: _ => by simp [zipD]
  | _ :: _, [] => by simp [zipD]
  | d :: ds, e :: es => by simp [zipD, zipD_len (ds := ds) (es := es)]
theorem zipD_get : ∀ {ds es : List D} {i : Nat} {d e : D}, ds[i]? = some d → es[i]? = some e → (zipD ds es)[i]? = some (.tup [d, e])
  | [], _, _, _, _, h, _ => by simp at h
  | _ :: _, [], _, _, _, _, h => by simp at h
  | d :: ds, e :: es, 0, _, _, h, g => by simp at h g; subst h g; rfl
  | d :: ds, e :: es, i + 1, _, _, h, g => by
    simp only [zipD, List.getElem?_cons_succ]
    exact zipD_get (by simpa using h) (by simpa using g)
theorem src_zip {a b : Addr} {vs us : List V} {ds es : List D} (h : SqL K F a vs) (r : RepL K F ds vs) (g : SqL K F b us) (q : RepL K F es us) : SrcOk K F H (zipD ds es) (Itz K a b) := by
  refine ⟨_, _, walk_zip (K := K) (a := a) (b := b) (xs := vs) (ys := us) (by rw [zipD_len, r.length, q.length]), fun F2 H2 e1 e2 => ⟨(e1.trans e2.s).seq h, (e1.trans e2.s).seq g⟩, fun i H2 F2 x H3 hi e1 e2 y => ?_⟩
  obtain ⟨T, x1, x2, rfl, nT, rfl, h1, h2⟩ := y
  obtain ⟨d, hd, rd⟩ := r.getV h1
  obtain ⟨e, he, re⟩ := q.getV h2
  obtain ⟨F3, c1, c2, c3, c4, c5⟩ := pair_new (d := d) (e := e) e2 nT (rd.mono e1) (re.mono e1)
  exact ⟨F3, c1, c2, c3, c4, _, zipD_get hd he, c5⟩
end
section
variable {X : Cx} {B : Bs} {tg e e2 : Expr} {p pos tpos : Pos} {elts : List Expr} {kk : Nat}
def dSrcL (d : DF) : DA := fun ρ k => d ρ fun y ρ1 => ∃ ds, y = .lst ds ∧ k ds ρ1
theorem pid_list {d : DF} (h : PF X B e d) : PId X B tg e (dSrcL d) := by
  obtain ⟨t, p, l⟩ := h
  refine ⟨_, pi_list p, fun σ H R F ρ f k S h q => ?_⟩
  refine l σ H _ F ρ f _ S h fun y ρ1 v F1 H1 f1 k1 s1 r1 S1 => ?_
  obtain ⟨ds, rfl, k1⟩ := k1
  obtain ⟨a, vs, rfl, h1, h2⟩ := rep_lstS r1
  exact ⟨a, rfl, ⟨vs, S1.fh.seq h1⟩, q ds ρ1 _ F1 H1 f1 k1 s1 S1 (src_list h1 h2)⟩
def dSrcT (d : DF) : DA := fun ρ k => d ρ fun y ρ1 => ∃ ds, y = .tup ds ∧ k ds ρ1
theorem pid_tup {d : DF} (h : PF X B e d) : PId X B tg e (dSrcT d) := by
  obtain ⟨t, p, l⟩ := h
  refine ⟨_, pi_tup p, fun σ H R F ρ f k S h q => ?_⟩
  refine l σ H _ F ρ f _ S h fun y ρ1 v F1 H1 f1 k1 s1 r1 S1 => ?_
  obtain ⟨ds, rfl, k1⟩ := k1
  obtain ⟨a, vs, rfl, h1, h2⟩ := rep_tup.mp r1
  exact ⟨a, rfl, ⟨vs, Same.seqT S1.fh.s h1⟩, q ds ρ1 _ F1 H1 f1 k1 s1 S1 (src_tup h1 h2)⟩
def dSrcS (d : DF) : DA := fun ρ k => d ρ fun y ρ1 => ∃ x, y = .str x ∧ k (signsD x) ρ1
theorem pid_str {d : DF} (h : PF X B e d) : PId X B tg e (dSrcS d) := by
  obtain ⟨t, p, l⟩ := h
  refine ⟨_, pi_str p, fun σ H R F ρ f k S h q => ?_⟩
  refine l σ H _ F ρ f _ S h fun y ρ1 v F1 H1 f1 k1 s1 r1 S1 => ?_
  obtain ⟨x, rfl, k1⟩ := k1
  rw [rep_str] at r1
  exact ⟨x, r1, q _ ρ1 _ F1 H1 f1 k1 s1 S1 src_str⟩
def dRng1 (d : DF) : DA := fun ρ k => d ρ fun y ρ1 => ∃ j : Int, y = .int j ∧ j < 2 ^ 62 ∧ -(2 ^ 62) ≤ j ∧ k (rangeD 0 j.toNat) ρ1
theorem pid_range1 {d : DF} (hg : Gl X "range") (hm : X.mg "range" = none) (h : PF X B e d) (hs : starEach [e] X.env = [(false, eval e X.env)] := by rfl) :
    PId X B tg (.Call (.Name "range" p) [e] [] pos) (dRng1 d) := by
  obtain ⟨t, p, l⟩ := h
  refine ⟨_, pi_range1 hg hm (pa_cons p pa_nil hs) hs, fun σ H R F ρ f k S h q => ?_⟩
  refine l σ H _ F ρ f _ S h fun y ρ1 v F1 H1 f1 k1 s1 r1 S1 => ?_
  obtain ⟨j, rfl, j1, j2, k1⟩ := k1
  rw [rep_int] at r1
  subst r1
  exact ⟨j, rfl, j2, j1, q _ ρ1 _ F1 H1 f1 k1 s1 S1 src_range⟩
def dRng2 (d e : DF) : DA := fun ρ k => d ρ fun y ρ1 => e ρ1 fun z ρ2 => ∃ i j : Int, y = .int i ∧ z = .int j ∧ (-(2 ^ 62) ≤ i ∧ i < 2 ^ 62 ∧ -(2 ^ 62) ≤ j ∧ j < 2 ^ 62) ∧ k (rangeD i (j - i).toNat) ρ2
theorem pid_range2 {d d2 : DF} (hg : Gl X "range") (hm : X.mg "range" = none) (h : PF X B e d) (h2 : PF X B e2 d2)
    (hs : starEach [e, e2] X.env = [(false, eval e X.env), (false, eval e2 X.env)] := by rfl) (hs2 : starEach [e2] X.env = [(false, eval e2 X.env)] := by rfl) :
    PId X B tg (.Call (.Name "range" p) [e, e2] [] pos) (dRng2 d d2) := by
  obtain ⟨t, p, l⟩ := h
  obtain ⟨t2, p2, l2⟩ := h2
  refine ⟨_, pi_range2 hg hm (pa_cons p (pa_cons p2 pa_nil hs2) (by rw [hs, hs2])) hs hs2, fun σ H R F ρ f k S h q => ?_⟩
  refine l σ H _ F ρ f _ S h fun y ρ1 v F1 H1 f1 k1 s1 r1 S1 => ?_
  refine l2 σ H1 _ F1 ρ1 f1 _ S1 k1 fun z ρ2 u F2 H2 f2 k2 s2 r2 S2 => ?_
  obtain ⟨i, j, rfl, rfl, c, k2⟩ := k2
  rw [rep_int] at r1 r2
  subst r1 r2
  exact ⟨i, j, rfl, c, q _ ρ2 _ F2 H2 f2 k2 (s1.trans s2) S2 src_range⟩
def dEnumL (d : DF) : DA := fun ρ k => d ρ fun y ρ1 => ∃ ds, y = .lst ds ∧ k (enumD 0 ds) ρ1
theorem pid_enumL {d : DF} (hg : Gl X "enumerate") (hm : X.mg "enumerate" = none) (h : PF X B e d)
    (hs : starEach [e] X.env = [(false, eval e X.env)] := by rfl) :
    PId X B (.Tuple elts kk tpos) (.Call (.Name "enumerate" p) [e] [] pos) (dEnumL d) := by
  obtain ⟨t, p, l⟩ := h
  refine ⟨_, pi_enum hg hm (pa_cons p pa_nil hs) hs, fun σ H R F ρ f k S h q => ?_⟩
  refine l σ H _ F ρ f _ S h fun y ρ1 v F1 H1 f1 k1 s1 r1 S1 => ?_
  obtain ⟨ds, rfl, k1⟩ := k1
  obtain ⟨a, vs, rfl, h1, h2⟩ := rep_lstS r1
  exact ⟨a, vs, rfl, S1.fh.seq h1, q _ ρ1 _ F1 H1 f1 k1 s1 S1 (src_enumL h1 h2)⟩
def dEnumS (d : DF) : DA := fun ρ k => d ρ fun y ρ1 => ∃ x, y = .str x ∧ k (enumD 0 (signsD x)) ρ1
theorem pid_enumS {d : DF} (hg : Gl X "enumerate") (hm : X.mg "enumerate" = none) (h : PF X B e d)
    (hs : starEach [e] X.env = [(false, eval e X.env)] := by rfl) :
    PId X B (.Tuple elts kk tpos) (.Call (.Name "enumerate" p) [e] [] pos) (dEnumS d) := by
  obtain ⟨t, p, l⟩ := h
  refine ⟨_, pi_enumS hg hm (pa_cons p pa_nil hs) hs, fun σ H R F ρ f k S h q => ?_⟩
  refine l σ H _ F ρ f _ S h fun y ρ1 v F1 H1 f1 k1 s1 r1 S1 => ?_
  obtain ⟨x, rfl, k1⟩ := k1
  rw [rep_str] at r1
  subst r1
  exact ⟨x, rfl, q _ ρ1 _ F1 H1 f1 k1 s1 S1 src_enumS⟩
def dZip (d e : DF) : DA := fun ρ k => d ρ fun y ρ1 => e ρ1 fun z ρ2 => ∃ ds es, y = .lst ds ∧ z = .lst es ∧ k (zipD ds es) ρ2
theorem pid_zip {d d2 : DF} (hg : Gl X "zip") (hm : X.mg "zip" = none) (h : PF X B e d) (h2 : PF X B e2 d2)
    (hs : starEach [e, e2] X.env = (false, eval e X.env) :: starEach [e2] X.env := by rfl) (hs2 : starEach [e2] X.env = [(false, eval e2 X.env)] := by rfl) (hpl : (backTo pos (starEach [e2] X.env)).any (·.1) = false := by rfl) :
    PId X B (.Tuple elts kk tpos) (.Call (.Name "zip" p) [e, e2] [] pos) (dZip d d2) := by
  obtain ⟨t, p, l⟩ := h
  obtain ⟨t2, p2, l2⟩ := h2
  refine ⟨_, pi_zip hg hm (pa_cons p (pa_cons p2 pa_nil hs2) hs) hs hpl, fun σ H R F ρ f k S h q => ?_⟩
  refine l σ H _ F ρ f _ S h fun y ρ1 v F1 H1 f1 k1 s1 r1 S1 => ?_
  refine l2 σ H1 _ F1 ρ1 f1 _ S1 k1 fun z ρ2 u F2 H2 f2 k2 s2 r2 S2 => ?_
  obtain ⟨ds, es, rfl, rfl, k2⟩ := k2
  obtain ⟨a, vs, rfl, h1, h2⟩ := rep_lstS (r1.mono s2.ff)
  obtain ⟨b, us, rfl, h3, h4⟩ := rep_lstS r2
  exact ⟨a, b, vs, us, rfl, S2.fh.seq h1, S2.fh.seq h3, q _ ρ2 _ F2 H2 f2 k2 (s1.trans s2) S2 (src_zip h1 h2 h3 h4)⟩
end

/-! ### targets by data -/
abbrev DG := D → Sl → (Sl → Prop) → Prop
abbrev DGs := List D → Sl → (Sl → Prop) → Prop
def LG (K : PySem.W.Frag) (B : Bs) (g : TG) (d : DG) : Prop := ∀ σ H Q F ρ f x v k, Sat K B F H σ ρ f → Rep K F x v → d x ρ k →
  (∀ σ' ρ' F' H' f', k ρ' → Step F H (Own f) F' H' (Own f') → Sat K B F' H' σ' ρ' f' → Q σ' H') → g v σ H Q
def LGs (K : PySem.W.Frag) (B : Bs) (g : TGs) (d : DGs) : Prop := ∀ σ H Q F ρ f x v k, Sat K B F H σ ρ f → RepL K F x v → d x ρ k →
  (∀ σ' ρ' F' H' f', k ρ' → Step F H (Own f) F' H' (Own f') → Sat K B F' H' σ' ρ' f' → Q σ' H') → g v σ H Q
def dgName (i : Nat) : DG := fun x ρ k => k (ρ.set i (some (.fr x)))
def dgNil : DGs := fun xs ρ k => xs = [] ∧ k ρ
def dgCons (g : DG) (r : DGs) : DGs := fun xs ρ k => ∃ x xr, xs = x :: xr ∧ g x ρ fun ρ1 => r xr ρ1 k
def dgTup (n : Nat) (g : DGs) : DG := fun x ρ k => ∃ xs, x = .tup xs ∧ xs.length = n ∧ g xs ρ k
section
variable {K : PySem.W.Frag} {B : Bs}
theorem lg_name {i : Nat} : LG K B (gName i) (dgName i) := by
  intro σ H Q F ρ f x v k S r h q
  refine q _ _ F H _ h (Step.refl.sub fun b hb => ?_) (S.setF r)
  rcases own_if hb with z | z
  · cases z
  · exact z
theorem lgs_nil : LGs K B gNil dgNil := by
  intro σ H Q F ρ f x v k S r h q
  obtain ⟨rfl, h⟩ := h
  unfold RepL at r
  exact ⟨r, q _ _ F H f h Step.refl S⟩
theorem lgs_cons {g : TG} {r : TGs} {d : DG} {e : DGs} (h1 : LG K B g d) (h2 : LGs K B r e) : LGs K B (gCons g r) (dgCons d e) := by
  intro σ H Q F ρ f x v k S rr h q
  obtain ⟨x, xr, rfl, h⟩ := h
  unfold RepL at rr
  obtain ⟨u, us, rfl, ru, rus⟩ := rr
  refine ⟨u, us, rfl, h1 σ H _ F ρ f x u _ S ru h fun σ1 ρ1 F1 H1 f1 k1 s1 S1 => ?_⟩
  exact h2 σ1 H1 _ F1 ρ1 f1 xr us _ S1 (rus.mono s1.ff) k1 fun σ2 ρ2 F2 H2 f2 k2 s2 S2 => q _ _ _ _ _ k2 (s1.trans s2) S2
theorem lg_tup {n : Nat} {g : TGs} {d : DGs} (h1 : LGs K B g d) : LG K B (gTup K n g) (dgTup n d) := by
  intro σ H Q F ρ f x v k S r h q
  obtain ⟨xs, rfl, hl, h⟩ := h
  obtain ⟨a, vs, rfl, e1, e2⟩ := rep_tup.mp r
  exact ⟨a, vs, rfl, Same.seqT S.fh.s e1, by rw [e2.length]; exact hl, h1 σ H _ F ρ f xs vs _ S e2 h q⟩
end
/-- a for loop -/
def dFor (di : DA) (g : DG) (tb : DSt) : DSt := fun kd ρ => di ρ fun items ρ1 => ∃ W : Nat → Sl → Prop, W 0 ρ1 ∧
  (∀ i x ρ', items[i]? = some x → W i ρ' → g x ρ' fun ρ2 => tb { kd with nx := W (i + 1), ct := W (i + 1), bk := kd.nx } ρ2) ∧ ∀ ρ', W items.length ρ' → kd.nx ρ'
section
variable {X : Cx} {B : Bs} {tg iter : Expr} {body : List Stmt} {pos : Pos}
theorem psd_for {di : DA} {g : TG} {dg : DG} {db : DSt} (hp : PassesOwn (model X.prog X.w) X.A X.env X.xe) (hc : X.calm = true) (hi : PId X B tg iter di) (hg : PG X tg g) (lg : LG X.K B g dg) (hb : PSsd X B body db)
    (hs : ∀ x, foldedSetIterable iter X.env x = pure x := by intro _; rfl) : PSd X B (.For tg iter body [] pos) (dFor di dg db) := by
  obtain ⟨wi, pi, li⟩ := hi
  obtain ⟨tb, pb, lb⟩ := hb
  refine ⟨_, ps_for hp hc pi hg pb hs, fun En σ H F ρ f kd S h q => ?_⟩
  refine li σ H _ F ρ f _ S h fun items ρ1 J F1 H1 f1 k1 s1 S1 ok => ?_
  obtain ⟨W, w0, turn, done⟩ := k1
  obtain ⟨G, Y, wk, hG, hY⟩ := ok
  refine for_it wk (fun i σ' H' => ∃ F' ρ' f', W i ρ' ∧ Step F H (Own f) F' H' (Own f') ∧ Sat X.K B F' H' σ' ρ' f' ∧ Same F1 F') ⟨F1, ρ1, f1, w0, s1, S1, fun _ _ h => h⟩ (fun i σ' H' _ ⟨F', ρ', f', _, _, S', e⟩ => hG F' H' e S'.fh) ?_ ?_
  · rintro i x σ2 H2 H3 hi ⟨F2, ρ2, f2, w2, s2, S2, e2⟩ y
    obtain ⟨F3, c1, c2, c3, c4, d, hd, rd⟩ := hY i H2 F2 x H3 hi e2 S2.fh y
    have S3 := S2.grow c1 c2 c3 c4
    have s3 := s2.trans (Step.grow c1 c3 c4)
    refine lg σ2 H3 _ F3 ρ2 f2 d x _ S3 rd (turn i d ρ2 hd w2) fun σ4 ρ4 F4 H4 f4 k4 s4 S4 => ?_
    have s14 := s3.trans s4
    have q4 := q.step s14
    have e4 := (e2.trans c1).trans s4.ff
    exact lb _ σ4 H4 F4 ρ4 f4 _ S4 k4 ⟨fun σ' ρ' F' H' f' a b c => ⟨F', ρ', f', a, s14.trans b, c, e4.trans b.ff⟩, q4.rt, fun σ' ρ' F' H' f' a b c => q4.nx σ' ρ' F' H' f' a b c, fun σ' ρ' F' H' f' a b c => ⟨F', ρ', f', a, s14.trans b, c, e4.trans b.ff⟩⟩
  · rintro σ2 H2 ⟨F2, ρ2, f2, w2, s2, S2, e2⟩
    exact q.nx _ _ _ _ _ (done ρ2 w2) s2 S2
end

/-! ### list comprehensions -/
def wipeD (ρ : Sl) : List Nat → Sl
  | [] => ρ
  | v :: vs => (wipeD ρ vs).set v none
/-- none of these slots holds a thing of its own -/
def noOwn (ρ : Sl) (vs : List Nat) : Prop := ∀ v ∈ vs, ∀ d, ρ[v]? = some (some d) → ∃ y, d = .fr y
section
variable {K : PySem.W.Frag} {B : Bs} {F H : Hp} {σ : L2.St} {ρ : Sl} {f : Nat → List Addr}
theorem wipeD_len (ρ : Sl) : ∀ vs, (wipeD ρ vs).length = ρ.length
  | [] => rfl
  | v :: vs => by simp [wipeD, wipeD_len ρ vs]
theorem wipeD_in {ρ : Sl} : ∀ {vs : List Nat} {i : Nat}, i ∈ vs → ∀ d, (wipeD ρ vs)[i]? ≠ some (some d)
  | [], i, h, _, _ => by cases h
  | v :: vs, i, h, d, e => by
    unfold wipeD at e
    by_cases z : v = i
    · subst z
      have hl := (List.getElem?_eq_some_iff.mp e).1
      rw [List.getElem?_set_self (by simpa using hl)] at e
      cases e
    · rw [List.getElem?_set_ne z] at e
      exact wipeD_in ((List.mem_cons.mp h).resolve_left (Ne.symm z)) d e
theorem wipeD_out {ρ : Sl} : ∀ {vs : List Nat} {i : Nat}, i ∉ vs → (wipeD ρ vs)[i]? = ρ[i]?
  | [], _, _ => rfl
  | v :: vs, i, h => by
    unfold wipeD
    rw [List.getElem?_set_ne (fun z => h (by simp [z]))]
    exact wipeD_out fun z => h (List.mem_cons_of_mem _ z)
theorem wipe_out {σ : L2.St} : ∀ {vs : List Nat} {i : Nat}, i ∉ vs → (wipe σ vs)[i]? = σ[i]?
  | [], _, _ => rfl
  | v :: vs, i, h => by
    unfold wipe
    rw [List.getElem?_set_ne (fun z => h (by simp [z]))]
    exact wipe_out fun z => h (List.mem_cons_of_mem _ z)
theorem Sat.wipe (S : Sat K B F H σ ρ f) {vs : List Nat} (no : noOwn ρ vs) : Sat K B F H (L2.wipe σ vs) (wipeD ρ vs) f := by
  refine ⟨by rw [wipe_length, wipeD_len, S.len], fun i d e => ?_, fun i h => ?_, S.dj, S.fz, S.fh, S.st⟩
  · by_cases hi : i ∈ vs
    · exact absurd e (wipeD_in hi d)
    · rw [wipeD_out hi] at e
      rw [wipe_out hi]
      exact S.at_ i d e
  · by_cases hi : i ∈ vs
    · by_cases q : ∃ d, ρ[i]? = some (some d)
      · obtain ⟨d, e⟩ := q
        obtain ⟨y, rfl⟩ := no i hi d e
        obtain ⟨v, _, o⟩ := S.at_ i _ e
        exact o.1
      · exact S.em i fun d e => q ⟨d, e⟩
    · exact S.em i fun d e => h d (by rw [wipeD_out hi]; exact e)
theorem Sat.unwipe {vs : List Nat} {σ' : L2.St} (S : Sat K B F H σ' ρ f) (no : noOwn ρ vs) (e : L2.wipe σ' vs = L2.wipe σ vs) : Sat K B F H σ (wipeD ρ vs) f := by
  have S' := S.wipe no
  rw [e] at S'
  refine ⟨by have := S'.len; rwa [wipe_length] at this, fun i d h => ?_, S'.em, S'.dj, S'.fz, S'.fh, S'.st⟩
  by_cases hi : i ∈ vs
  · exact absurd h (wipeD_in hi d)
  · have := S'.at_ i d h
    rwa [wipe_out hi] at this
end
/-- [elt for target in source if test], the block's names in the slots vs -/
def dLc (di : DA) (g : DG) (tt : DTs) (te : DF) (vs : List Nat) : DO := fun ρ k => di ρ fun items ρ1 => noOwn ρ1 vs ∧ items.length ≤ 16777215 ∧ ∃ W : Nat → List D → Sl → Prop, W 0 [] (wipeD ρ1 vs) ∧
  (∀ i x acc ρ', items[i]? = some x → acc.length ≤ i → W i acc ρ' → g x ρ' fun ρ2 => tt ρ2 fun b ρ3 => if b = true then te ρ3 fun y ρ4 => noOwn ρ4 vs ∧ W (i + 1) (acc ++ [y]) (wipeD ρ4 vs) else noOwn ρ3 vs ∧ W (i + 1) acc (wipeD ρ3 vs)) ∧
  ∀ acc ρ', W items.length acc ρ' → k acc (wipeD ρ' vs)
def liftF (K : PySem.W.Frag) (B : Bs) (d : DF) : TE := fun σ H Q => ∃ F ρ f k, Sat K B F H σ ρ f ∧ d ρ k ∧ ∀ y ρ' v F' H' f', k y ρ' → Step F H (Own f) F' H' (Own f') → Rep K F' y v → Sat K B F' H' σ ρ' f' → Q v H'
def liftT (K : PySem.W.Frag) (B : Bs) (d : DTs) : TT := fun σ H Q => ∃ F ρ f k, Sat K B F H σ ρ f ∧ d ρ k ∧ ∀ b ρ' F' H' f', k b ρ' → Step F H (Own f) F' H' (Own f') → Sat K B F' H' σ ρ' f' → Q b H'
section
variable {X : Cx} {B : Bs} {e : Expr}
theorem PF.pe {d : DF} (h : PF X B e d) : PE X e (liftF X.K B d) := by
  obtain ⟨t, p, l⟩ := h
  refine ⟨fun pins s σ H Q I h => p.run pins s σ H Q I ?_⟩
  obtain ⟨F, ρ, f, k, S, hd, q⟩ := h
  exact l σ H Q F ρ f k S hd q
theorem lf_lift {K : PySem.W.Frag} {B : Bs} {d : DF} : LF K B (liftF K B d) d := fun σ H Q F ρ f k S h q => ⟨F, ρ, f, k, S, h, q⟩
theorem PQ.pt {d : DTs} (h : PQ X B e d) : PT X e (liftT X.K B d) := by
  obtain ⟨t, p, l⟩ := h
  refine ⟨fun pins s σ H Q I h => p.run pins s σ H Q I ?_⟩
  obtain ⟨F, ρ, f, k, S, hd, q⟩ := h
  exact l σ H Q F ρ f k S hd q
theorem lt_lift {K : PySem.W.Frag} {B : Bs} {d : DTs} : LT K B (liftT K B d) d := fun σ H Q F ρ f k S h q => ⟨F, ρ, f, k, S, h, q⟩
def dYes : DTs := fun ρ k => k true ρ
theorem lt_yes {K : PySem.W.Frag} {B : Bs} : LT K B tYes dYes := fun σ H Q F ρ f k S h q => q true ρ F H f h Step.refl S
/-- a target that stores in these slots alone -/
def GIn (g : TG) (vs : List Nat) : Prop := ∀ v σ H Q Q', (∀ σ' H', wipe σ' vs = wipe σ vs → Q σ' H' → Q' σ' H') → g v σ H Q → g v σ H Q'
def GInS (g : TGs) (vs : List Nat) : Prop := ∀ v σ H Q Q', (∀ σ' H', wipe σ' vs = wipe σ vs → Q σ' H' → Q' σ' H') → g v σ H Q → g v σ H Q'
theorem wipe_set {σ : L2.St} {o : Option V} : ∀ {vs : List Nat} {j : Nat}, j ∈ vs → wipe (σ.set j o) vs = wipe σ vs
  | [], _, h => by cases h
  | v :: vs, j, h => by
    unfold wipe
    by_cases z : j ∈ vs
    · rw [wipe_set z]
    · have e : j = v := (List.mem_cons.mp h).resolve_right z
      subst e
      apply List.ext_getElem?
      intro i
      by_cases y : i = j
      · subst y
        by_cases l : i < σ.length
        · rw [List.getElem?_set_self (by simpa [wipe_length] using l), List.getElem?_set_self (by simpa [wipe_length] using l)]
        · rw [List.getElem?_eq_none_iff.mpr (by simp [wipe_length]; omega), List.getElem?_eq_none_iff.mpr (by simp [wipe_length]; omega)]
      · rw [List.getElem?_set_ne (Ne.symm y), List.getElem?_set_ne (Ne.symm y)]
        by_cases x : i ∈ vs
        · have q : ∀ (τ : L2.St) (ws : List Nat), i ∈ ws → i < τ.length → (wipe τ ws)[i]? = some none := by
            intro τ ws
            induction ws with
            | nil => intro h; cases h
            | cons w ws ih =>
              intro h hl
              unfold wipe
              by_cases u : w = i
              · rw [u, List.getElem?_set_self (by rw [wipe_length]; exact hl)]
              · rw [List.getElem?_set_ne u]
                exact ih ((List.mem_cons.mp h).resolve_left (Ne.symm u)) hl
          by_cases l : i < σ.length
          · rw [q _ vs x (by simpa using l), q _ vs x l]
          · rw [List.getElem?_eq_none_iff.mpr (by simp [wipe_length]; omega), List.getElem?_eq_none_iff.mpr (by simp [wipe_length]; omega)]
        · rw [wipe_out x, wipe_out x, List.getElem?_set_ne (Ne.symm y)]
theorem wipe_wipe (σ : L2.St) : ∀ (vs ws : List Nat), (∀ v ∈ ws, v ∈ vs) → wipe (wipe σ ws) vs = wipe σ vs
  | vs, [], _ => rfl
  | vs, w :: ws, h => by
    show wipe ((wipe σ ws).set w none) vs = wipe σ vs
    rw [wipe_set (h w (by simp)), wipe_wipe σ vs ws fun v hv => h v (by simp [hv])]
theorem gin_name {j : Nat} {vs : List Nat} (h : j ∈ vs) : GIn (gName j) vs := fun v σ H Q Q' i q => i _ _ (wipe_set h) q
theorem gin_nil {vs : List Nat} : GInS gNil vs := fun v σ H Q Q' i q => ⟨q.1, i _ _ rfl q.2⟩
theorem gin_cons {g : TG} {r : TGs} {vs : List Nat} (h1 : GIn g vs) (h2 : GInS r vs) : GInS (gCons g r) vs := by
  intro v σ H Q Q' i q
  obtain ⟨u, us, e, q⟩ := q
  refine ⟨u, us, e, h1 u σ H _ _ (fun σ' H' w q => ?_) q⟩
  exact h2 us σ' H' _ _ (fun σ2 H2 w2 q2 => i _ _ (w2.trans w) q2) q
theorem gin_tup {K : PySem.W.Frag} {n : Nat} {g : TGs} {vs : List Nat} (h : GInS g vs) : GIn (gTup K n g) vs := by
  intro v σ H Q Q' i q
  obtain ⟨a, xs, e, h1, h2, q⟩ := q
  exact ⟨a, xs, e, h1, h2, h xs σ H _ _ i q⟩
/-- a list apart from the slots, that is being filled -/
structure Aside (F H : Hp) (f : Nat → List Addr) (p : Addr) (va : List V) : Prop where
  at_ : H p = some (.lst va)
  fz : F p = none
  no : ¬ Own f p
theorem Aside.step {F H F' H' : Hp} {f f' : Nat → List Addr} {p : Addr} {va : List V} (h : Aside F H f p va) (s : Step F H (Own f) F' H' (Own f')) : Aside F' H' f' p va := by
  refine ⟨s.hh p _ h.at_ h.no, ?_, fun z => ?_⟩
  · cases q : F' p with
    | none => rfl
    | some o =>
      rcases s.nf p (by rw [q]; simp) with z | z | z
      · exact absurd h.fz z
      · exact absurd z h.no
      · rw [h.at_] at z; cases z
  · rcases s.np p z with y | y
    · exact h.no y
    · rw [h.at_] at y; cases y
theorem Sat.aside {K : PySem.W.Frag} {B : Bs} {F H : Hp} {σ : L2.St} {ρ : Sl} {f : Nat → List Addr} {p : Addr} {o : HO} (S : Sat K B F H σ ρ f) (fz : F p = none) (no : ¬ Own f p) (hp : ∀ z, H p ≠ some (.ext z)) (st : Step B.F B.H B.P F H (fun b => b = p ∨ Own f b)) : Sat K B F (upd H p o) σ ρ f := by
  refine ⟨S.len, fun i d e => ?_, S.em, S.dj, S.fz, ⟨fun b u h => ?_, S.fh.nt⟩, st.trans ⟨fun _ _ h => h, fun b u h n => ?_, fun b h => .inl h, fun b h => .inl (.inr h)⟩⟩
  · obtain ⟨v, e1, q⟩ := S.at_ i d e
    refine ⟨v, e1, q.keep (fun _ _ h => h) (fun a ha u h => ?_) (Kx.upd hp)⟩
    rw [upd_ne]
    · exact h
    · rintro rfl; exact no ⟨i, ha⟩
  · rw [upd_ne]
    · exact S.fh.s b u h
    · rintro rfl; rw [fz] at h; cases h
  · rw [upd_ne]
    · exact h
    · rintro rfl; exact n (.inl rfl)
theorem lo_lc {K : PySem.W.Frag} {B : Bs} {wi : TI} {g : TG} {tt : TT} {te : TE} {di : DA} {dg : DG} {dt : DTs} {de : DF} {vs : List Nat} (li : LI K B wi di) (lg : LG K B g dg) (lt : LT K B tt dt) (le : LF K B te de)
    (gi : GIn g vs) : LO K B (tLc wi g tt te vs) (dLc di dg dt de vs) := by
  intro σ H Q F ρ f k S h q
  refine li σ H _ F ρ f _ S h fun items ρ1 J F1 H1 f1 k1 s1 S1 ok => ?_
  obtain ⟨no, hsz, W, w0, turn, done⟩ := k1
  obtain ⟨G, Y, wk, hG, hY⟩ := ok
  intro Da hD
  have Sw := S1.wipe no
  -- what holds between the turns
  have key : ∃ Pv : Nat → Hp → Prop, Pv = fun i H' => ∃ F' ρ' f' acc va, W i acc ρ' ∧ acc.length ≤ i ∧ Step F1 (upd H1 Da (.lst [])) (fun b => b = Da ∨ Own f1 b) F' H' (fun b => b = Da ∨ Own f' b) ∧ Sat K B F' H' (wipe σ vs) ρ' f' ∧ Aside F' H' f' Da va ∧ RepL K F' acc va ∧ noOwn ρ' vs := ⟨_, rfl⟩
  obtain ⟨Pv, hPv⟩ := key
  have nD : ¬ Own f1 Da := fun z => S1.own_there z hD
  have s0 : Step F H (Own f) F1 (upd H1 Da (.lst [])) (fun b => b = Da ∨ Own f1 b) := step_new s1 S1 (fun _ _ h => h) (same_new hD) (fun _ h => .inl h) hD
  have noW : ∀ ρ' : Sl, noOwn (wipeD ρ' vs) vs := fun ρ' v hv d e => absurd e (wipeD_in hv d)
  refine lc_it wk Pv ?_ ?_ ?_ ?_
  · rw [hPv]
    exact ⟨F1, _, f1, [], [], w0, Nat.le_refl _, Step.refl, Sw.new hD, ⟨upd_same, S1.fh.free hD, nD⟩, repL_nil, noW _⟩
  · intro i H' _ p
    rw [hPv] at p
    obtain ⟨F', ρ', f', acc, va, _, _, s', S', _⟩ := p
    exact hG F' H' s'.ff S'.fh
  · intro i x H2 H3 hi p y
    rw [hPv] at p
    obtain ⟨F2, ρ2, f2, acc, va, w2, ha, s2, S2, A2, r2, n2⟩ := p
    obtain ⟨F3, c1, c2, c3, c4, d, hd, rd⟩ := hY i H2 F2 x H3 hi s2.ff S2.fh y
    have S3 := S2.grow c1 c2 c3 c4
    have t3 : Step F2 H2 (Own f2) F3 H3 (Own f2) := Step.grow c1 c3 c4
    have A3 := A2.step t3
    have lift : ∀ {Fa Ha Fb Hb : Hp} {fa fb : Nat → List Addr}, Step Fa Ha (Own fa) Fb Hb (Own fb) → Step Fa Ha (fun b => b = Da ∨ Own fa b) Fb Hb (fun b => b = Da ∨ Own fb b) := fun t =>
      ⟨t.ff, fun b o h n => t.hh b o h fun z => n (.inr z), fun b h => (t.nf b h).imp id fun z => z.imp .inr id, fun b hb => by
        rcases hb with z | z
        · exact .inl (.inl z)
        · exact (t.np b z).imp .inr id⟩
    refine gi x (wipe σ vs) H3 (fun σ4 H4 => wipe σ4 vs = wipe σ vs → tt σ4 H4 fun b H5 => if b = true then te σ4 H5 fun y H6 => ∃ acc', H6 Da = some (.lst acc') ∧ acc'.length < sizeLine ∧ Pv (i + 1) (upd H6 Da (.lst (acc' ++ [y]))) else Pv (i + 1) H5) _ (fun σ' H' w q => ?_) ?_
    · have w' : wipe σ' vs = wipe σ vs := w.trans (wipe_wipe σ vs vs fun _ h => h)
      exact ⟨w', q w'⟩
    · refine lg (wipe σ vs) H3 _ F3 ρ2 f2 d x _ S3 rd (turn i d acc ρ2 hd ha w2) fun σ4 ρ4 F4 H4 f4 k4 s4 S4 hw4 => ?_
      refine lt σ4 H4 _ F4 ρ4 f4 _ S4 k4 fun b ρ5 F5 H5 f5 k5 s5 S5 => ?_
      have s35 := (t3.trans s4).trans s5
      have A5 := A2.step s35
      have e5 : wipe σ4 vs = wipe (wipe σ vs) vs := hw4.trans (wipe_wipe σ vs vs fun _ h => h).symm
      cases b with
      | false =>
        obtain ⟨n5, k5⟩ := k5
        show Pv (i + 1) H5
        rw [hPv]
        exact ⟨F5, _, f5, acc, va, k5, Nat.le_succ_of_le ha, s2.trans (lift s35), S5.unwipe n5 e5, A5, r2.mono s35.ff, noW _⟩
      | true =>
        show te σ4 H5 _
        refine le σ4 H5 _ F5 ρ5 f5 _ S5 k5 fun y ρ6 u F6 H6 f6 k6 s6 r6 S6 => ?_
        obtain ⟨n6, k6⟩ := k6
        have s36 := s35.trans s6
        have A6 := A2.step s36
        have rl : va.length = acc.length := r2.length
        refine ⟨va, A6.at_, by rw [rl, sizeLine_eq]; omega, ?_⟩
        rw [hPv]
        refine ⟨F6, _, f6, acc ++ [y], va ++ [u], k6, by simp; omega, (s2.trans (lift s36)).trans ⟨fun _ _ h => h, fun b o h n => ?_, fun b h => .inl h, fun b h => .inl h⟩, (S6.unwipe n6 e5).aside A6.fz A6.no (fun z => by rw [A6.at_]; simp) (S.st.trans (s0.trans (s2.trans (lift s36)))), ⟨upd_same, A6.fz, A6.no⟩, (r2.mono s36.ff).append (repL_one r6), noW _⟩
        rw [upd_ne]
        · exact h
        · rintro rfl; exact n (.inl rfl)
  · intro H2 p
    rw [hPv] at p
    obtain ⟨F2, ρ2, f2, acc, va, w2, ha, s2, S2, A2, r2, n2⟩ := p
    exact q acc _ Da va F2 H2 f2 (done acc ρ2 w2) (s0.trans s2) A2.at_ r2 A2.no A2.fz (S2.unwipe n2 (wipe_wipe σ vs vs fun _ h => h))
/-- a comprehension as a rule -/
theorem po_lc {elt tg iter : Expr} {ifs : List Expr} {scope : Scope} {own : List (Str × Nat)} {pos : Pos} {g : TG} {di : DA} {dg : DG} {dt : DTs} {de : DF} (hc : X.calm = true) (hN : X.N.Nodup) (hi : PId X B tg iter di) (ok : BlkOk X.N X.env.scope scope own)
    (hg : ∀ (s : Shared) (H : Hp) (C : Addr) (cl : List (Str × Addr)) (fp : List Addr), PG (X.blk s H scope (compEnvC scope cl C X.env) fp) tg g) (lg : LG X.K B g dg) (gi : GIn g (own.map (·.2)))
    (ht : ∀ (s : Shared) (H : Hp) (C : Addr) (cl : List (Str × Addr)) (fp : List Addr), PTs (X.blk s H scope (compEnvC scope cl C X.env) fp) ifs (liftT X.K B dt))
    (he : ∀ (s : Shared) (H : Hp) (C : Addr) (cl : List (Str × Addr)) (fp : List Addr), PF (X.blk s H scope (compEnvC scope cl C X.env) fp) B elt de) (hs : ∀ x, foldedSetIterable iter X.env x = pure x := by intro _; rfl) :
    PO X B (.ListComp elt [⟨tg, iter, ifs, 0⟩] scope pos) (dLc di dg dt de (own.map (·.2))) := by
  obtain ⟨wi, pi, li⟩ := hi
  exact ⟨_, pe_lc hc hN pi ok hg ht (fun s H C cl fp => (he s H C cl fp).pe) hs, lo_lc li lg lt_lift lf_lift gi⟩
theorem pts_of {ifs : List Expr} {d : DTs} {e : Expr} (h : PQ X B e d) : PTs X [e] (liftT X.K B d) := pts_one h.pt
theorem pts_yes : PTs X [] (liftT X.K B dYes) := by
  refine ⟨fun pins s σ H Q I h => pts_nil.run pins s σ H Q I ?_⟩
  obtain ⟨F, ρ, f, k, S, hd, q⟩ := h
  exact q true ρ F H f hd Step.refl S
/-- name = [..] on one line -/
theorem psd_setLc {i : Nat} {y : Str} {py : Pos} {elt tg iter : Expr} {ifs : List Expr} {scope : Scope} {own : List (Str × Nat)} {pos spos : Pos} {g : TG} {di : DA} {dg : DG} {dt : DTs} {de : DF} (hc : X.calm = true) (hN : X.N.Nodup) (hy : X.N[i]? = some y) (hyl : X.env.scope.names.lookup y = some .local)
    (hsw : swapsWith (.ListComp elt [⟨tg, iter, ifs, 0⟩] scope pos) (some (.Name y py)) spos.line X.env = pure true) (hi : PId X B tg iter di) (ok : BlkOk X.N X.env.scope scope own)
    (hg : ∀ (s : Shared) (H : Hp) (C : Addr) (cl : List (Str × Addr)) (fp : List Addr), PG (X.blk s H scope (compEnvC scope cl C X.env) fp) tg g) (lg : LG X.K B g dg) (gi : GIn g (own.map (·.2)))
    (ht : ∀ (s : Shared) (H : Hp) (C : Addr) (cl : List (Str × Addr)) (fp : List Addr), PTs (X.blk s H scope (compEnvC scope cl C X.env) fp) ifs (liftT X.K B dt))
    (he : ∀ (s : Shared) (H : Hp) (C : Addr) (cl : List (Str × Addr)) (fp : List Addr), PF (X.blk s H scope (compEnvC scope cl C X.env) fp) B elt de) (hs : ∀ x, foldedSetIterable iter X.env x = pure x := by intro _; rfl) :
    PSd X B (.Assign [.Name y py] (.ListComp elt [⟨tg, iter, ifs, 0⟩] scope pos) spos) (dSetO (dLc di dg dt de (own.map (·.2))) i) := by
  obtain ⟨wi, pi, li⟩ := hi
  exact ⟨_, ps_setLc hc hN hy hyl hsw pi ok hg ht (fun s H C cl fp => (he s H C cl fp).pe) hs, ls_setO (lo_lc li lg lt_lift lf_lift gi)⟩
end
end Sa
end

section
namespace Sa
open PySem PySem.Spec PyProof.Rows L2

/-! ### values of a tuple assignment, some of them new lists -/
inductive Temps (K : PySem.W.Frag) (F H : Hp) (f : Nat → List Addr) : List DS → List V → List Addr → Prop
  | nil : Temps K F H f [] [] []
  | fr {d : D} {v : V} {xs : List DS} {vs : List V} {ps : List Addr} (r : Rep K F d v) (t : Temps K F H f xs vs ps) : Temps K F H f (.fr d :: xs) (v :: vs) ps
  | ol {ds : List D} {a : Addr} {va : List V} {xs : List DS} {vs : List V} {ps : List Addr} (h : Aside F H f a va) (r : RepL K F ds va) (n : a ∉ ps) (t : Temps K F H f xs vs ps) : Temps K F H f (.ol ds :: xs) (.ref a :: vs) (a :: ps)
abbrev DM := Sl → (List DS → Sl → Prop) → Prop
def LM (K : PySem.W.Frag) (B : Bs) (t : TA) (d : DM) : Prop := ∀ σ H Q F ρ f k, Sat K B F H σ ρ f → d ρ k →
  (∀ xs ρ' vs ps F' H' f', k xs ρ' → Step F H (Own f) F' H' (fun b => b ∈ ps ∨ Own f' b) → Temps K F' H' f' xs vs ps → Sat K B F' H' σ ρ' f' → Q vs H') → t σ H Q
structure PM (X : Cx) (B : Bs) (es : List Expr) (d : DM) : Prop where
  ex : ∃ t, PA X es t ∧ LM X.K B t d
section
variable {X : Cx} {B : Bs} {e a b c : Expr} {es : List Expr} {pos : Pos} {st : Stmt}
def mNil : DM := fun ρ k => k [] ρ
def mConsF (d : DF) (r : DM) : DM := fun ρ k => d ρ fun x ρ1 => r ρ1 fun xs ρ2 => k (.fr x :: xs) ρ2
def mConsO (d : DO) (r : DM) : DM := fun ρ k => d ρ fun x ρ1 => r ρ1 fun xs ρ2 => k (.ol x :: xs) ρ2
theorem pm_nil : PM X B [] mNil := ⟨_, pa_nil, fun σ H Q F ρ f k S h q => q [] ρ [] [] F H f h (Step.refl.sub fun b h => h.resolve_left (by simp)) .nil S⟩
theorem pm_consF {d : DF} {r : DM} (ha : PF X B e d) (hr : PM X B es r) (hs : starEach (e :: es) X.env = (false, eval e X.env) :: starEach es X.env := by rfl) : PM X B (e :: es) (mConsF d r) := by
  obtain ⟨ta, pa, la⟩ := ha
  obtain ⟨tr, pr, lr⟩ := hr
  refine ⟨_, pa_cons pa pr hs, fun σ H Q F ρ f k S h q => ?_⟩
  refine la σ H _ F ρ f _ S h fun x ρ1 v F1 H1 f1 k1 s1 r1 S1 => ?_
  refine lr σ H1 _ F1 ρ1 f1 _ S1 k1 fun xs ρ2 vs ps F2 H2 f2 k2 s2 T2 S2 => ?_
  exact q _ ρ2 _ ps F2 H2 f2 k2 (s1.trans s2) (.fr (r1.mono s2.ff) T2) S2
theorem Aside.stepM {F H F' H' : Hp} {f f' : Nat → List Addr} {p : Addr} {va : List V} {ps : List Addr} (h : Aside F H f p va) (s : Step F H (Own f) F' H' (fun b => b ∈ ps ∨ Own f' b)) : Aside F' H' f' p va ∧ p ∉ ps := by
  refine ⟨h.step (s.sub fun b q => .inr q), fun z => ?_⟩
  rcases s.np p (.inl z) with y | y
  · exact h.no y
  · rw [h.at_] at y; cases y
theorem pm_consO {d : DO} {r : DM} (ha : PO X B e d) (hr : PM X B es r) (hs : starEach (e :: es) X.env = (false, eval e X.env) :: starEach es X.env := by rfl) : PM X B (e :: es) (mConsO d r) := by
  obtain ⟨ta, pa, la⟩ := ha
  obtain ⟨tr, pr, lr⟩ := hr
  refine ⟨_, pa_cons pa pr hs, fun σ H Q F ρ f k S h q => ?_⟩
  refine la σ H _ F ρ f _ S h fun ds ρ1 p va F1 H1 f1 k1 s1 h1 r1 n1 z1 S1 => ?_
  refine lr σ H1 _ F1 ρ1 f1 _ S1 k1 fun xs ρ2 vs ps F2 H2 f2 k2 s2 T2 S2 => ?_
  obtain ⟨A2, np⟩ := (Aside.mk h1 z1 n1).stepM s2
  refine q _ ρ2 _ (p :: ps) F2 H2 f2 k2 (s1.trans ⟨s2.ff, fun b o h n => s2.hh b o h fun z => n (.inr z), fun b h => (s2.nf b h).imp id fun z => z.imp .inr id, fun b hb => ?_⟩) (.ol A2 (r1.mono s2.ff) np T2) S2
  rcases hb with z | z
  · rcases List.mem_cons.mp z with y | y
    · exact .inl (.inl y)
    · exact (s2.np b (.inl y)).imp .inr id
  · exact (s2.np b (.inr z)).imp .inr id
/-- the slots get what came -/
def putD (ρ : Sl) : List Nat → List DS → Sl
  | i :: is, x :: xs => putD (ρ.set i (some x)) is xs
  | _, _ => ρ
def putV (σ : L2.St) : List Nat → List V → L2.St
  | i :: is, v :: vs => putV (σ.set i (some v)) is vs
  | _, _ => σ
theorem sat_put {K : PySem.W.Frag} {B : Bs} {F H : Hp} : ∀ {is : List Nat} {xs : List DS} {vs : List V} {ps : List Addr} {σ : L2.St} {ρ : Sl} {f : Nat → List Addr}, Sat K B F H σ ρ f → Temps K F H f xs vs ps → Step B.F B.H B.P F H (fun b => b ∈ ps ∨ Own f b) → (∀ i ∈ is, i < ρ.length) →
    ∃ f', Sat K B F H (putV σ is vs) (putD ρ is xs) f' ∧ ∀ b, Own f' b → b ∈ ps ∨ Own f b
  | [], xs, vs, ps, σ, ρ, f, S, T, _, _ => ⟨f, by cases T <;> exact S, fun b h => .inr h⟩
  | i :: is, _, _, _, σ, ρ, f, S, .nil, _, _ => ⟨f, S, fun b h => .inr h⟩
  | i :: is, _, _, _, σ, ρ, f, S, .fr (xs := xs) (vs := vs) (ps := ps) r T, st, hl => by
    have S1 := S.setF (i := i) r
    have T1 : ∀ {xs : List DS} {vs : List V} {ps : List Addr}, Temps K F H f xs vs ps → Temps K F H (fun j => if j = i then [] else f j) xs vs ps := by
      intro xs vs ps T
      induction T with
      | nil => exact .nil
      | fr r _ ih => exact .fr r ih
      | ol h r n _ ih => exact .ol ⟨h.at_, h.fz, fun z => (own_if z).elim (fun y => by cases y) h.no⟩ r n ih
    have st1 : Step B.F B.H B.P F H (fun b => b ∈ ps ∨ Own (fun j => if j = i then [] else f j) b) := st.sub fun b h => h.imp id fun z => (own_if z).elim (fun y => by cases y) id
    obtain ⟨f', S2, h2⟩ := sat_put (is := is) S1 (T1 T) st1 (fun j hj => by simpa using hl j (by simp [hj]))
    exact ⟨f', S2, fun b h => (h2 b h).imp id fun z => (own_if z).elim (fun y => by cases y) id⟩
  | i :: is, _, _, _, σ, ρ, f, S, .ol (a := a) (ps := ps) h r n T, st, hl => by
    have S1 := S.setO (i := i) (hl i (by simp)) h.at_ r h.no h.fz (st.sub fun b hb => hb.imp (fun z => by simp [z]) id)
    have T1 : ∀ {xs : List DS} {vs : List V} {ps : List Addr}, a ∉ ps → Temps K F H f xs vs ps → Temps K F H (fun j => if j = i then [a] else f j) xs vs ps := by
      intro xs vs ps na T
      induction T with
      | nil => exact .nil
      | fr r _ ih => exact .fr r (ih na)
      | ol h r n _ ih => exact .ol ⟨h.at_, h.fz, fun z => (own_if z).elim (fun y => na (by simp at y; simp [y])) h.no⟩ r n (ih fun z => na (by simp [z]))
    have st1 : Step B.F B.H B.P F H (fun b => b ∈ ps ∨ Own (fun j => if j = i then [a] else f j) b) := st.sub fun b h => by
      rcases h with h | h
      · exact .inl (by simp [h])
      · rcases own_if h with y | y
        · exact .inl (by simp at y; simp [y])
        · exact .inr y
    obtain ⟨f', S2, h2⟩ := sat_put (is := is) S1 (T1 n T) st1 (fun j hj => by simpa using hl j (by simp [hj]))
    refine ⟨f', S2, fun b h => ?_⟩
    rcases h2 b h with z | z
    · exact .inl (by simp [z])
    · rcases own_if z with y | y
      · exact .inl (by simp at y; simp [y])
      · exact .inr y
/-- the slots get what came -/
def dPar (is : List Nat) (d : DM) : DSt := fun kd ρ => d ρ fun xs ρ1 => xs.length = is.length ∧ (∀ i ∈ is, i < ρ1.length) ∧ kd.nx (putD ρ1 is xs)
theorem temps_len {K : PySem.W.Frag} {F H : Hp} {f : Nat → List Addr} {xs : List DS} {vs : List V} {ps : List Addr} (T : Temps K F H f xs vs ps) : vs.length = xs.length := by
  induction T with
  | nil => rfl
  | fr _ _ ih => simp [ih]
  | ol _ _ _ _ ih => simp [ih]
theorem psd_par {i j : Nat} {d : DM} {es : List Expr} (hp : ∀ t, PA X es t → PS X st (tPar i j t)) (h : PM X B es d) : PSd X B st (dPar [i, j] d) := by
  obtain ⟨t, p, l⟩ := h
  refine ⟨_, hp t p, fun En σ H F ρ f kd S h q => ?_⟩
  refine l σ H _ F ρ f _ S h fun xs ρ1 vs ps F1 H1 f1 k1 s1 T1 S1 => ?_
  obtain ⟨hl, hi, k1⟩ := k1
  have lv := temps_len T1
  obtain ⟨v, w, rfl⟩ : ∃ v w, vs = [v, w] := by
    match vs, (lv.trans hl : vs.length = 2) with
    | [v, w], _ => exact ⟨v, w, rfl⟩
  obtain ⟨f', S2, h2⟩ := sat_put (is := [i, j]) S1 T1 (S.st.trans s1) hi
  exact ⟨v, w, rfl, q.nx _ _ _ _ _ k1 (s1.sub h2) S2⟩
theorem psd_par3 {i j l : Nat} {d : DM} {es : List Expr} (hp : ∀ t, PA X es t → PS X st (tPar3 i j l t)) (h : PM X B es d) : PSd X B st (dPar [i, j, l] d) := by
  obtain ⟨t, p, lm⟩ := h
  refine ⟨_, hp t p, fun En σ H F ρ f kd S h q => ?_⟩
  refine lm σ H _ F ρ f _ S h fun xs ρ1 vs ps F1 H1 f1 k1 s1 T1 S1 => ?_
  obtain ⟨hl, hi, k1⟩ := k1
  have lv := temps_len T1
  obtain ⟨u, v, w, rfl⟩ : ∃ u v w, vs = [u, v, w] := by
    match vs, (lv.trans hl : vs.length = 3) with
    | [u, v, w], _ => exact ⟨u, v, w, rfl⟩
  obtain ⟨f', S2, h2⟩ := sat_put (is := [i, j, l]) S1 T1 (S.st.trans s1) hi
  exact ⟨u, v, w, rfl, q.nx _ _ _ _ _ k1 (s1.sub h2) S2⟩
/-- target = frozen data -/
def dAsg (d : DF) (g : DG) : DSt := fun kd ρ => d ρ fun y ρ1 => g y ρ1 kd.nx
theorem psd_asg {tg : Expr} {d : DF} {g : TG} {dg : DG} (h : PF X B e d) (hg : PG X tg g) (lg : LG X.K B g dg) (hs : swapsWithSole [tg] e pos.line X.env = pure false := by rfl) (hw : swappedStores [tg] e X.env = pure none := by rfl)
    (h1 : (assignEach [tg] X.env).map (·.2) = [assign tg X.env] := by rfl) : PSd X B (.Assign [tg] e pos) (dAsg d dg) := by
  obtain ⟨t, p, l⟩ := h
  refine ⟨_, ps_asg p hg hs hw h1, fun En σ H F ρ f kd S h q => ?_⟩
  refine l σ H _ F ρ f _ S h fun y ρ1 v F1 H1 f1 k1 s1 r1 S1 => ?_
  exact lg σ H1 _ F1 ρ1 f1 y v _ S1 r1 k1 fun σ2 ρ2 F2 H2 f2 k2 s2 S2 => q.nx _ _ _ _ _ k2 (s1.trans s2) S2

/-! ### subscripts -/
def rdIx : DR := fun x y k => (∃ ds i d, x = .lst ds ∧ y = .int i ∧ atI ds i = some d ∧ k d) ∨ (∃ ds i d, x = .tup ds ∧ y = .int i ∧ atI ds i = some d ∧ k d) ∨ ∃ z i c, x = .str z ∧ y = .int i ∧ z.length ≤ sizeLine ∧ atI z.cps.toList i = some c ∧ k (signD c)
theorem atI_rep {K : PySem.W.Frag} {F : Hp} {ds : List D} {vs : List V} {i : Int} {d : D} (r : RepL K F ds vs) (h : atI ds i = some d) : ∃ v, atI vs i = some v ∧ Rep K F d v := by
  unfold atI at h ⊢
  rw [r.length]
  cases e : ixN ds.length i with
  | none => rw [e] at h; cases h
  | some j =>
    rw [e] at h
    obtain ⟨v, h1, h2⟩ := r.get (i := j) h
    exact ⟨v, h1, h2⟩
theorem lr_ix {K : PySem.W.Frag} : LR K (rIx K) rdIx := by
  intro F H x y v u k Q fh r1 r2 h q
  rcases h with ⟨ds, i, d, rfl, rfl, ha, h⟩ | ⟨ds, i, d, rfl, rfl, ha, h⟩ | ⟨z, i, c, rfl, rfl, hz, ha, h⟩
  · rw [rep_int] at r2
    obtain ⟨p, vs, rfl, h1, h2⟩ := rep_lstS r1
    obtain ⟨w, hw, rw'⟩ := atI_rep h2 ha
    exact .inl ⟨p, vs, i, w, rfl, r2, fh.seq h1, hw, q d w F H h (fun _ _ h => h) fh (fun _ _ h => h) (fun _ h => .inl h) rw'⟩
  · rw [rep_int] at r2
    obtain ⟨p, vs, rfl, h1, h2⟩ := rep_tup.mp r1
    obtain ⟨w, hw, rw'⟩ := atI_rep h2 ha
    exact .inr (.inl ⟨p, vs, i, w, rfl, r2, Same.seqT fh.s h1, hw, q d w F H h (fun _ _ h => h) fh (fun _ _ h => h) (fun _ h => .inl h) rw'⟩)
  · rw [rep_int] at r2
    rw [rep_str] at r1
    exact .inr (.inr ⟨z, i, c, r1, r2, hz, ha, q (signD c) _ F H h (fun _ _ h => h) fh (fun _ _ h => h) (fun _ h => .inl h) (rep_str.mpr rfl)⟩)
theorem pf_ix {da db : DF} (ha : PF X B a da) (hb : PF X B b db) (hs : PlainIx b := by exact fun _ _ => rfl) : PF X B (.Subscript a b pos) (dOp rdIx da db) := by
  obtain ⟨ta, pa, la⟩ := ha
  obtain ⟨tb, pb, lb⟩ := hb
  exact ⟨_, pe_ix ix_seq pa pb hs, lf_op lr_ix la lb⟩
/-- an item of the own list in a slot -/
def dIxV (i : Nat) (db : DF) : DF := fun ρ k => db ρ fun y ρ1 => ∃ ds j d, ρ1[i]? = some (some (.ol ds)) ∧ y = .int j ∧ atI ds j = some d ∧ k d ρ1
theorem pf_ixV {i : Nat} {db : DF} (ha : PE X a (tVar i)) (hl : ∀ ρ k, db ρ k → ∃ ds, ρ[i]? = some (some (.ol ds))) (hb : PF X B b db) (hs : PlainIx b := by exact fun _ _ => rfl) : PF X B (.Subscript a b pos) (dIxV i db) := by
  obtain ⟨tb, pb, lb⟩ := hb
  refine ⟨_, pe_ix ix_seq ha pb hs, fun σ H Q F ρ f k S h q => ?_⟩
  obtain ⟨ds0, e0⟩ := hl _ _ h
  obtain ⟨v, ev, _⟩ := S.at_ i _ e0
  refine ⟨v, ev, lb σ H _ F ρ f _ S h fun y ρ1 u F1 H1 f1 k1 s1 r1 S1 => ?_⟩
  obtain ⟨ds, j, d, e1, rfl, ha, k1⟩ := k1
  obtain ⟨v', ev', a', vs, rfl, h2, h3, h4⟩ := S1.at_ i _ e1
  rw [ev] at ev'
  cases ev'
  rw [rep_int] at r1
  obtain ⟨w, hw, rw'⟩ := atI_rep h4 ha
  exact .inl ⟨a', vs, j, w, rfl, r1, SqL.of h3, hw, q d ρ1 w F1 H1 f1 k1 s1 rw' S1⟩

/-! ### calls of built-ins -/
abbrev DRN := List D → (D → Prop) → Prop
def LRN (K : PySem.W.Frag) (r : List V → Hp → VK → Prop) (R : DRN) : Prop := ∀ F H xs vs k Q, Fz F H → RepL K F xs vs → R xs k →
  (∀ z w F' H', k z → Same F F' → Fz F' H' → Same H H' → (∀ b, F' b ≠ none → F b ≠ none ∨ H b = none) → Rep K F' z w → Q w H') → r vs H Q
def dCB (R : DRN) (da : DA) : DF := fun ρ k => da ρ fun xs ρ1 => R xs fun z => k z ρ1
theorem lf_cb {K : PySem.W.Frag} {B : Bs} {r : List V → Hp → VK → Prop} {R : DRN} {t : TA} {da : DA} (hR : LRN K r R) (l : LA K B t da) : LF K B (tCB r t) (dCB R da) := by
  intro σ H Q F ρ f k S h q
  refine l σ H _ F ρ f _ S h fun xs ρ1 vs F1 H1 f1 k1 s1 r1 S1 => ?_
  refine hR F1 H1 xs vs _ _ S1.fh r1 k1 fun z w F3 H3 h3 c1 c2 c3 c4 r3 => ?_
  exact q z ρ1 w F3 H3 f1 h3 (s1.trans (Step.grow c1 c3 c4)) r3 (S1.grow c1 c2 c3 c4)
theorem pf_callB {id : String} {x : Str} {p : Pos} {r : List V → Hp → VK → Prop} {R : DRN} {da : DA} (hc : CallR X (.builtin id) r) (hR : LRN X.K r R) (hg : Gl X x) (hm : X.mg x = none) (hv : bootBuiltins x = some (.builtin id)) (ha : PAd X B (e :: es) da)
    (h1 : ∀ t, PA X (e :: es) t → PE X (.Call (.Name x p) (e :: es) [] pos) (tCB r t)) : PF X B (.Call (.Name x p) (e :: es) [] pos) (dCB R da) := by
  obtain ⟨t, pt, l⟩ := ha
  exact ⟨_, h1 t pt, lf_cb hR l⟩
theorem pf_callTy {T : String} {x : Str} {p : Pos} {r : List V → Hp → VK → Prop} {R : DRN} {da : DA} (hc : CallR X (.type T) r) (hR : LRN X.K r R) (hg : Gl X x) (hm : X.mg x = none) (hv : bootBuiltins x = some (.type T)) (ha : PAd X B (e :: es) da)
    (h1 : ∀ t, PA X (e :: es) t → PE X (.Call (.Name x p) (e :: es) [] pos) (tCB r t)) : PF X B (.Call (.Name x p) (e :: es) [] pos) (dCB R da) := by
  obtain ⟨t, pt, l⟩ := ha
  exact ⟨_, h1 t pt, lf_cb hR l⟩
/-- len -/
def lenD : D → Option Nat
  | .str x => if x.length ≤ sizeLine then some x.length else none
  | .lst ds => some ds.length
  | .tup ds => some ds.length
  | _ => none
def rdLen : DRN := fun xs k => ∃ x n, xs = [x] ∧ lenD x = some n ∧ k (.int (n : Nat))
theorem repL1 {K : PySem.W.Frag} {F : Hp} {x : D} {vs : List V} (r : RepL K F [x] vs) : ∃ v, vs = [v] ∧ Rep K F x v := by
  unfold RepL at r
  obtain ⟨v, q, rfl, h1, h2⟩ := r
  unfold RepL at h2
  subst h2
  exact ⟨v, rfl, h1⟩
theorem repL2 {K : PySem.W.Frag} {F : Hp} {x y : D} {vs : List V} (r : RepL K F [x, y] vs) : ∃ v u, vs = [v, u] ∧ Rep K F x v ∧ Rep K F y u := by
  rw [RepL] at r
  obtain ⟨v, q, rfl, h1, h2⟩ := r
  obtain ⟨u, rfl, h3⟩ := repL1 h2
  exact ⟨v, u, rfl, h1, h3⟩
theorem lrn_len {K : PySem.W.Frag} : LRN K (fun xs H Q => ∃ x n, xs = [x] ∧ LenV K x H n ∧ Q (.int n) H) rdLen := by
  intro F H xs vs k Q fh r h q
  obtain ⟨x, n, rfl, e, h⟩ := h
  obtain ⟨v, rfl, r1⟩ := repL1 r
  have fin := fun w => q (.int (n : Nat)) w F H h (fun _ _ h => h) fh (fun _ _ h => h) (fun _ h => .inl h)
  cases x with
  | str z =>
    rw [rep_str] at r1
    subst r1
    by_cases hz : z.length ≤ sizeLine
    · have e' : (if z.length ≤ sizeLine then some z.length else none) = some n := e
      rw [if_pos hz] at e'
      cases e'
      exact ⟨_, _, rfl, ⟨hz, rfl⟩, fin _ (rep_int.mpr rfl)⟩
    · have e' : (if z.length ≤ sizeLine then some z.length else none) = some n := e
      rw [if_neg hz] at e'
      cases e'
  | lst ds =>
    unfold lenD at e
    cases e
    obtain ⟨p, us, rfl, h1, h2⟩ := rep_lstS r1
    exact ⟨_, ds.length, rfl, .inl ⟨us, fh.seq h1, h2.length.symm⟩, fin _ (rep_int.mpr rfl)⟩
  | tup ds =>
    unfold lenD at e
    cases e
    obtain ⟨p, us, rfl, h1, h2⟩ := rep_tup.mp r1
    exact ⟨_, ds.length, rfl, .inr ⟨us, Same.seqT fh.s h1, h2.length.symm⟩, fin _ (rep_int.mpr rfl)⟩
  | non => unfold lenD at e; cases e
  | bl _ => unfold lenD at e; cases e
  | int _ => unfold lenD at e; cases e
  | dic _ => unfold lenD at e; cases e
  | ob _ => unfold lenD at e; cases e
  | la _ _ => unfold lenD at e; cases e
theorem pf_len {da : DF} {p : Pos} (hg : Gl X "len") (hm : X.mg "len" = none) (ha : PF X B e da) (hs : starEach [e] X.env = [(false, eval e X.env)] := by rfl) (hpl : (backTo pos (starEach [] X.env)).any (·.1) = false := by rfl) : PF X B (.Call (.Name "len" p) [e] [] pos) (dCB rdLen (dCons da dNil)) :=
  pf_callB call_len lrn_len hg hm boot_len (pad_cons ha pad_nil hs) fun t pt => pe_callB call_len hg hm boot_len pt (he := hs) (hpl := hpl)
/-- len of the own list in a slot -/
def dLenV (i : Nat) : DF := fun ρ k => ∃ ds, ρ[i]? = some (some (.ol ds)) ∧ k (.int (ds.length : Nat)) ρ
theorem pf_lenV {i : Nat} {p : Pos} (hg : Gl X "len") (hm : X.mg "len" = none) (ha : PE X e (tVar i)) (hs : starEach [e] X.env = [(false, eval e X.env)] := by rfl) (hpl : (backTo pos (starEach [] X.env)).any (·.1) = false := by rfl) : PF X B (.Call (.Name "len" p) [e] [] pos) (dLenV i) := by
  refine ⟨_, pe_callB call_len hg hm boot_len (pa_cons ha pa_nil hs) (he := hs) (hpl := hpl), fun σ H Q F ρ f k S h q => ?_⟩
  obtain ⟨ds, e, h⟩ := h
  obtain ⟨v, ev, a', vs, rfl, h2, h3, h4⟩ := S.at_ i _ e
  exact ⟨_, ev, _, ds.length, rfl, .inl ⟨vs, SqL.of h3, h4.length.symm⟩, q _ ρ _ F H f h Step.refl (rep_int.mpr rfl) S⟩

/-! ### isinstance -/
def tyD : D → Option String
  | .non => some "NoneType"
  | .bl _ => some "bool"
  | .int _ => some "int"
  | .str _ => some "str"
  | .lst _ => some "list"
  | .tup _ => some "tuple"
  | .dic _ => some "dict"
  | .ob _ => none
  | .la _ _ => some "list"
def subTy (a b : String) : Bool := a == b || (a == "bool" && b == "int")
theorem kit_sub : ∀ a ∈ ["NoneType", "bool", "int", "str", "list", "tuple", "dict"], ∀ b ∈ ["bool", "int", "str", "list", "tuple", "dict"], kitB a b = some (subTy a b) := by decide +kernel
theorem tyX_of {K : PySem.W.Frag} {F H : Hp} {d : D} {v : V} {n : String} (fh : Fz F H) (r : Rep K F d v) (e : tyD d = some n) : TyX K H v (.type n) ∧ n ∈ ["NoneType", "bool", "int", "str", "list", "tuple", "dict"] := by
  cases d with
  | non => rw [rep_non] at r; subst r; cases e; exact ⟨.base .non, by decide⟩
  | bl b => rw [rep_bl] at r; subst r; cases e; exact ⟨.base (.bl b), by decide⟩
  | int b => rw [rep_int] at r; subst r; cases e; exact ⟨.base (.int b), by decide⟩
  | str b => rw [rep_str] at r; subst r; cases e; exact ⟨.base (.str b), by decide⟩
  | lst ds =>
    cases e
    obtain ⟨p, us, rfl, h1, h2⟩ := rep_lstS r
    refine ⟨?_, by decide⟩
    rcases fh.seq h1 with (z | ⟨o, z⟩) | ⟨o, its, n, z, c, _⟩
    · exact .base (.lst z)
    · exact .base (.frz z)
    · exact .kList z c
  | tup ds =>
    cases e
    obtain ⟨p, us, rfl, h1, h2⟩ := rep_tup.mp r
    refine ⟨?_, by decide⟩
    rcases Same.seqT fh.s h1 with (z | ⟨o, z⟩) | ⟨o, its, n, z, c, _⟩
    · exact .base (.tup z)
    · exact .fTuple z
    · exact .kTuple z c
  | dic ds =>
    cases e
    rw [Rep] at r
    obtain ⟨p, us, rfl, h1, h2⟩ := r
    exact ⟨.base (.dK (fh.s _ _ h1)), by decide⟩
  | ob _ => cases e
  | la a ds =>
    cases e
    obtain ⟨rfl, us, h1, h2⟩ := rep_la.mp r
    exact ⟨.base (.lst (fh.s _ _ h1)), by decide⟩
def okTys (ts : List String) : Bool := ts.all fun b => ["bool", "int", "str", "list", "tuple", "dict"].contains b
theorem kit_any {K : PySem.W.Frag} {a : String} (ha : a ∈ ["NoneType", "bool", "int", "str", "list", "tuple", "dict"]) : ∀ {ts : List String}, okTys ts = true → PySem.W.kitAny K (.type a) (ts.map Value.type) = some (ts.any (subTy a))
  | [], _ => rfl
  | b :: ts, h => by
    unfold okTys at h
    rw [List.all_cons, Bool.and_eq_true] at h
    refine kitAny_cons (b := subTy a b) (kit_ty (kit_sub a ha b (by simpa using h.1))) (fun e => ?_) fun e => ?_
    · rw [List.any_cons, e, Bool.false_or]
      exact kit_any ha h.2
    · rw [List.any_cons, e, Bool.true_or]
def isD (d : D) (ts : List String) : Option Bool := (tyD d).map fun a => ts.any (subTy a)
def tTys (ts : List String) : TA := fun _ H Q => Q (ts.map V.ty) H
def dIsi (ts : List String) (da : DF) : DF := fun ρ k => da ρ fun y ρ1 => ∃ b, isD y ts = some b ∧ k (.bl b) ρ1
theorem clsV_tys : ∀ ts : List String, Paired ClsV (ts.map V.ty) (ts.map Value.type)
  | [] => .nil
  | t :: ts => .cons (.ty t) (clsV_tys ts)
theorem pf_isiT {da : DF} {p tp : Pos} {es : List Expr} {kk : Nat} {ts : List String} (hg : Gl X "isinstance") (hm : X.mg "isinstance" = none) (hok : okTys ts = true) (hl : ts.length ≤ 1000) (ha : PF X B e da) (ht : PA X es (tTys ts))
    (hs : starEach [e, .Tuple es kk tp] X.env = (false, eval e X.env) :: starEach [.Tuple es kk tp] X.env := by rfl) (hs2 : starEach [.Tuple es kk tp] X.env = [(false, eval (.Tuple es kk tp) X.env)] := by rfl) (hpl : (backTo pos (starEach [.Tuple es kk tp] X.env)).any (·.1) = false := by rfl) :
    PF X B (.Call (.Name "isinstance" p) [e, .Tuple es kk tp] [] pos) (dIsi ts da) := by
  obtain ⟨t, pt, l⟩ := ha
  refine ⟨_, pe_callB call_isiT hg hm boot_isinstance (pa_cons pt (pa_cons (pe_tup ht) pa_nil hs2) hs) (he := hs) (hpl := hpl), fun σ H Q F ρ f k S h q => ?_⟩
  refine l σ H _ F ρ f _ S h fun y ρ1 v F1 H1 f1 k1 s1 r1 S1 => ?_
  obtain ⟨b, e, k1⟩ := k1
  refine ⟨by rw [List.length_map]; exact Nat.le_trans hl (by decide), fun tpa np => ?_⟩
  unfold isD at e
  cases e2 : tyD y with
  | none => rw [e2] at e; cases e
  | some n =>
    rw [e2] at e
    cases e
    have c3 : Same H1 (upd H1 tpa (.tup (ts.map V.ty))) := same_new np
    have S2 : Sat X.K B F1 (upd H1 tpa (.tup (ts.map V.ty))) σ ρ1 f1 := S1.new np
    obtain ⟨tx, hn⟩ := tyX_of S2.fh r1 e2
    exact ⟨v, tpa, _, _, _, _, rfl, upd_same, clsV_tys ts, tx, kit_any hn hok, q _ ρ1 _ F1 _ f1 k1 (s1.trans (Step.grow (fun _ _ h => h) c3 fun _ h => .inl h)) (rep_bl.mpr rfl) S2⟩
theorem pf_isi {da : DF} {p : Pos} {c : Expr} {tn : String} (hg : Gl X "isinstance") (hm : X.mg "isinstance" = none) (hok : okTys [tn] = true) (ha : PF X B e da) (ht : PE X c (tC (.ty tn)))
    (hs : starEach [e, c] X.env = (false, eval e X.env) :: starEach [c] X.env := by rfl) (hs2 : starEach [c] X.env = [(false, eval c X.env)] := by rfl) (hpl : (backTo pos (starEach [c] X.env)).any (·.1) = false := by rfl) :
    PF X B (.Call (.Name "isinstance" p) [e, c] [] pos) (dIsi [tn] da) := by
  obtain ⟨t, pt, l⟩ := ha
  refine ⟨_, pe_callB call_isi hg hm boot_isinstance (pa_cons pt (pa_cons ht pa_nil hs2) hs) (he := hs) (hpl := hpl), fun σ H Q F ρ f k S h q => ?_⟩
  refine l σ H _ F ρ f _ S h fun y ρ1 v F1 H1 f1 k1 s1 r1 S1 => ?_
  obtain ⟨b, e, k1⟩ := k1
  unfold isD at e
  cases e2 : tyD y with
  | none => rw [e2] at e; cases e
  | some n =>
    rw [e2] at e
    cases e
    obtain ⟨tx, hn⟩ := tyX_of S1.fh r1 e2
    have hb : tn ∈ ["bool", "int", "str", "list", "tuple", "dict"] := by
      unfold okTys at hok
      simpa using hok
    refine ⟨v, .ty tn, _, _, _, rfl, .ty tn, tx, kit_ty (kit_sub n hn tn hb), ?_⟩
    have e3 : ([tn].any (subTy n)) = subTy n tn := by simp
    have k1 : k (D.bl ([tn].any (subTy n))) ρ1 := k1
    rw [e3] at k1
    exact q _ ρ1 _ F1 H1 f1 k1 s1 (rep_bl.mpr rfl) S1

/-! ### append to the own list of a slot -/
def dApp (i : Nat) (d : DF) : DSt := fun kd ρ => (∃ ds, ρ[i]? = some (some (.ol ds))) ∧ d ρ fun y ρ1 => ∃ ds, ρ1[i]? = some (some (.ol ds)) ∧ ds.length < 16777216 ∧ kd.nx (ρ1.set i (some (.ol (ds ++ [y]))))
theorem psd_app {i : Nat} {d : DF} (h : PF X B e d)
    (hp : ∀ t, PE X e t → PS X st (tDrop (tBM X.K "list" rAppend (tVar i) (tCons t tNil)))) : PSd X B st (dApp i d) := by
  obtain ⟨t, pt, l⟩ := h
  refine ⟨_, hp t pt, fun En σ H F ρ f kd S h q => ?_⟩
  obtain ⟨⟨ds0, e0⟩, h⟩ := h
  obtain ⟨v, ev, a0, vs0, rfl, g2, g3, g4⟩ := S.at_ i _ e0
  refine ⟨.ref a0, ev, .inl ⟨rfl, vs0, SqL.of g3⟩, l σ H _ F ρ f _ S h fun y ρ1 w F1 H1 f1 k1 s1 r1 S1 => ?_⟩
  obtain ⟨ds, e1, hz, k1⟩ := k1
  obtain ⟨v', ev', a', vs, h1, h2, h3, h4⟩ := S1.at_ i _ e1
  subst h1
  rw [ev] at ev'
  cases ev'
  obtain ⟨S2, oa⟩ := S1.write e1 ev (h4.append (repL_one r1))
  refine ⟨a0, vs, w, rfl, rfl, h3, by rw [h4.length, sizeLine_eq]; exact hz, q.nx _ _ _ _ _ k1 (s1.trans ⟨fun _ _ h => h, fun b o h n => ?_, fun _ h => .inl h, fun _ h => .inl h⟩) S2⟩
  rw [upd_ne]
  · exact h
  · rintro rfl; exact n oa
end
end Sa
end

section
namespace Sa
open PySem PySem.Spec PyProof.Rows L2
section
variable {X : Cx} {B : Bs} {e a b c : Expr} {es : List Expr} {pos : Pos} {st : Stmt}
/-! ### a sign in a text -/
def rdIn (p : Bool → Bool) : DR := fun x y k => ∃ c z, x = .str ⟨#[c]⟩ ∧ y = .str z ∧ k (.bl (p (decide (c ∈ z.cps.toList))))
theorem lr_in {K : PySem.W.Frag} : LR K (fun x y H Q => ∃ (c : Nat) (z : Str), x = .str ⟨#[c]⟩ ∧ y = .str z ∧ Q (.bl (decide (c ∈ z.cps.toList))) H) (rdIn id) := by
  intro F H x y v u k Q fh r1 r2 h q
  obtain ⟨c, z, rfl, rfl, h⟩ := h
  rw [rep_str] at r1 r2
  exact ⟨c, z, r1, r2, q _ _ F H h (fun _ _ h => h) fh (fun _ _ h => h) (fun _ h => .inl h) (rep_bl.mpr rfl)⟩
theorem lr_notIn {K : PySem.W.Frag} : LR K (fun x y H Q => ∃ (c : Nat) (z : Str), x = .str ⟨#[c]⟩ ∧ y = .str z ∧ Q (.bl (!decide (c ∈ z.cps.toList))) H) (rdIn not) := by
  intro F H x y v u k Q fh r1 r2 h q
  obtain ⟨c, z, rfl, rfl, h⟩ := h
  rw [rep_str] at r1 r2
  exact ⟨c, z, r1, r2, q _ _ F H h (fun _ _ h => h) fh (fun _ _ h => h) (fun _ h => .inl h) (rep_bl.mpr rfl)⟩
theorem pq_inS {da db : DF} (ha : PF X B a da) (hb : PF X B b db) (hm : behindInMarks .In b = false := by rfl) : PQ X B (.Compare a [.In] [b] pos) (dTest (dOp (rdIn id) da db)) := pq_cmp op_in_sign lr_in ha hb hm
theorem pq_notInS {da db : DF} (ha : PF X B a da) (hb : PF X B b db) (hm : behindInMarks .NotIn b = false := by rfl) : PQ X B (.Compare a [.NotIn] [b] pos) (dTest (dOp (rdIn not) da db)) := pq_cmp op_notIn_sign lr_notIn ha hb hm
/-! ### texts put together -/
def rdAddS : DR := fun x y k => ∃ i j, x = .str i ∧ y = .str j ∧ i.length + j.length ≤ sizeLine ∧ k (.str (i ++ j))
theorem lr_addS {K : PySem.W.Frag} : LR K (fun x y H Q => ∃ i j, x = .str i ∧ y = .str j ∧ i.length + j.length ≤ sizeLine ∧ Q (.str (i ++ j)) H) rdAddS := by
  intro F H x y v u k Q fh r1 r2 h q
  obtain ⟨i, j, rfl, rfl, hz, h⟩ := h
  rw [rep_str] at r1 r2
  exact ⟨i, j, r1, r2, hz, q _ _ F H h (fun _ _ h => h) fh (fun _ _ h => h) (fun _ h => .inl h) (rep_str.mpr rfl)⟩
theorem pf_addS {da db : DF} (ha : PF X B a da) (hb : PF X B b db) : PF X B (.BinOp a .Add b pos) (dOp rdAddS da db) := pf_op op_add_str lr_addS ha hb
/-! ### slices of texts -/
abbrev DO_ := Sl → (Option Int → Sl → Prop) → Prop
def LO_ (K : PySem.W.Frag) (B : Bs) (t : TO) (d : DO_) : Prop := ∀ σ H Q F ρ f k, Sat K B F H σ ρ f → d ρ k → (∀ o ρ' F' H' f', k o ρ' → Step F H (Own f) F' H' (Own f') → Sat K B F' H' σ ρ' f' → Q o H') → t σ H Q
structure PPt (X : Cx) (B : Bs) (e : Option Expr) (d : DO_) : Prop where
  ex : ∃ t, L2.PO X e t ∧ LO_ X.K B t d
def dNoPart : DO_ := fun ρ k => k none ρ
def dPart (d : DF) : DO_ := fun ρ k => d ρ fun y ρ1 => ∃ i, y = .int i ∧ k (some i) ρ1
theorem pp_none : PPt X B none dNoPart := ⟨_, po_none, fun σ H Q F ρ f k S h q => q none ρ F H f h Step.refl S⟩
theorem pp_some {d : DF} (h : PF X B e d) : PPt X B (some e) (dPart d) := by
  obtain ⟨t, p, l⟩ := h
  refine ⟨_, po_some p, fun σ H Q F ρ f k S h q => ?_⟩
  refine l σ H _ F ρ f _ S h fun y ρ1 v F1 H1 f1 k1 s1 r1 S1 => ?_
  obtain ⟨i, rfl, k1⟩ := k1
  rw [rep_int] at r1
  exact ⟨i, r1, q _ ρ1 F1 H1 f1 k1 s1 S1⟩
def dSlS (d : DF) (dl dh : DO_) : DF := fun ρ k => d ρ fun y ρ1 => dl ρ1 fun lo ρ2 => dh ρ2 fun hi ρ3 => ∃ z, y = .str z ∧ z.length ≤ sizeLine ∧ k (.str (cutS z lo hi)) ρ3
theorem pf_sliceS {d : DF} {lo hi : Option Expr} {dl dh : DO_} {p2 : Pos} (h : PF X B e d) (hl : PPt X B lo dl) (hh : PPt X B hi dh) : PF X B (.Subscript e (.Slice lo hi none p2) pos) (dSlS d dl dh) := by
  obtain ⟨t, p, l⟩ := h
  obtain ⟨tl, pl, ll⟩ := hl
  obtain ⟨th, ph, lh⟩ := hh
  refine ⟨_, pe_slice sl_str p pl ph, fun σ H Q F ρ f k S h q => ?_⟩
  refine l σ H _ F ρ f _ S h fun y ρ1 v F1 H1 f1 k1 s1 r1 S1 => ?_
  refine ll σ H1 _ F1 ρ1 f1 _ S1 k1 fun lo ρ2 F2 H2 f2 k2 s2 S2 => ?_
  refine lh σ H2 _ F2 ρ2 f2 _ S2 k2 fun hi ρ3 F3 H3 f3 k3 s3 S3 => ?_
  obtain ⟨z, rfl, hz, k3⟩ := k3
  rw [rep_str] at r1
  exact ⟨z, r1, hz, q _ ρ3 _ F3 H3 f3 k3 ((s1.trans s2).trans s3) (rep_str.mpr rfl) S3⟩
/-! ### methods of texts -/
abbrev DRM := D → List D → (D → Prop) → Prop
def LRM (K : PySem.W.Frag) (r : V → List V → Hp → VK → Prop) (R : DRM) : Prop := ∀ F H x xs v vs k Q, Fz F H → Rep K F x v → RepL K F xs vs → R x xs k →
  (∀ z w F' H', k z → Same F F' → Fz F' H' → Same H H' → (∀ b, F' b ≠ none → F b ≠ none ∨ H b = none) → Rep K F' z w → Q w H') → r v vs H Q
def dM0 (R : DRM) (d : DF) : DF := fun ρ k => d ρ fun x ρ1 => (∃ z, x = .str z) ∧ R x [] fun y => k y ρ1
def dM1 (R : DRM) (d e : DF) : DF := fun ρ k => d ρ fun x ρ1 => (∃ z, x = .str z) ∧ e ρ1 fun a ρ2 => R x [a] fun y => k y ρ2
theorem lf_m0 {K : PySem.W.Frag} {B : Bs} {r : V → List V → Hp → VK → Prop} {R : DRM} {t : TE} {d : DF} (hR : LRM K r R) (l : LF K B t d) : LF K B (tM0 r t) (dM0 R d) := by
  intro σ H Q F ρ f k S h q
  refine l σ H _ F ρ f _ S h fun x ρ1 v F1 H1 f1 k1 s1 r1 S1 => ?_
  obtain ⟨⟨z, rfl⟩, k1⟩ := k1
  refine ⟨⟨z, rep_str.mp r1⟩, hR F1 H1 _ [] _ [] _ _ S1.fh r1 repL_nil k1 fun y w F3 H3 h3 c1 c2 c3 c4 r3 => ?_⟩
  exact q y ρ1 w F3 H3 f1 h3 (s1.trans (Step.grow c1 c3 c4)) r3 (S1.grow c1 c2 c3 c4)
theorem lf_m1 {K : PySem.W.Frag} {B : Bs} {r : V → List V → Hp → VK → Prop} {R : DRM} {t u : TE} {d e : DF} (hR : LRM K r R) (l : LF K B t d) (l2 : LF K B u e) : LF K B (tM1 r t u) (dM1 R d e) := by
  intro σ H Q F ρ f k S h q
  refine l σ H _ F ρ f _ S h fun x ρ1 v F1 H1 f1 k1 s1 r1 S1 => ?_
  obtain ⟨⟨z, rfl⟩, k1⟩ := k1
  refine ⟨⟨z, rep_str.mp r1⟩, l2 σ H1 _ F1 ρ1 f1 _ S1 k1 fun a ρ2 w F2 H2 f2 k2 s2 r2 S2 => ?_⟩
  refine hR F2 H2 _ [a] _ [w] _ _ S2.fh (r1.mono s2.ff) (repL_one r2) k2 fun y w F3 H3 h3 c1 c2 c3 c4 r3 => ?_
  exact q y ρ2 w F3 H3 f2 h3 ((s1.trans s2).trans (Step.grow c1 c3 c4)) r3 (S2.grow c1 c2 c3 c4)
theorem pf_m1 {id : String} {name : Str} {apos : Pos} {r : V → List V → Hp → VK → Prop} {R : DRM} {d d2 : DF} (hR : LRM X.K r R) (h : PF X B a d) (h2 : PF X B e d2)
    (hp : ∀ t u, PE X a t → PE X e u → PE X (.Call (.Attribute a name apos) [e] [] pos) (tM1 r t u)) : PF X B (.Call (.Attribute a name apos) [e] [] pos) (dM1 R d d2) := by
  obtain ⟨t, p, l⟩ := h
  obtain ⟨u, p2, l2⟩ := h2
  exact ⟨_, hp t u p p2, lf_m1 hR l l2⟩
theorem pf_m0 {id : String} {name : Str} {apos : Pos} {r : V → List V → Hp → VK → Prop} {R : DRM} {d : DF} (hR : LRM X.K r R) (h : PF X B a d)
    (hp : ∀ t, PE X a t → PE X (.Call (.Attribute a name apos) [] [] pos) (tM0 r t)) : PF X B (.Call (.Attribute a name apos) [] [] pos) (dM0 R d) := by
  obtain ⟨t, p, l⟩ := h
  exact ⟨_, hp t p, lf_m0 hR l⟩
/-- split by a text -/
def rdSplit : DRM := fun x xs k => ∃ z y, x = .str z ∧ xs = [.str y] ∧ (y.length == 0) = false ∧ z.length + 2 ≤ sizeLine ∧ k (.lst ((Txt.split z y).map .str))
theorem repL_strs {K : PySem.W.Frag} {F : Hp} : ∀ ys : List Str, RepL K F (ys.map .str) (ys.map V.str)
  | [] => repL_nil
  | y :: ys => repL_cons (rep_str.mpr rfl) (repL_strs ys)
theorem repL_strs_inv {K : PySem.W.Frag} {F : Hp} : ∀ {ys : List Str} {vs : List V}, RepL K F (ys.map .str) vs → vs = ys.map V.str
  | [], vs, h => by simpa [RepL] using h
  | y :: ys, vs, h => by
    rw [List.map_cons, RepL] at h
    obtain ⟨v, r, rfl, h1, h2⟩ := h
    rw [rep_str] at h1
    rw [h1, repL_strs_inv h2]
    rfl
theorem lrm_split {K : PySem.W.Frag} : LRM K (fun x xs H Q => ∃ a b, x = .str a ∧ xs = [.str b] ∧ (b.length == 0) = false ∧ a.length + 2 ≤ sizeLine ∧ rNewStrs (Txt.split a b) H Q) rdSplit := by
  intro F H x xs v vs k Q fh r1 r2 h q
  obtain ⟨z, y, rfl, rfl, h1, h2, h⟩ := h
  rw [rep_str] at r1
  obtain ⟨w, rfl, r3⟩ := repL1 r2
  rw [rep_str] at r3
  subst r1 r3
  refine ⟨z, y, rfl, rfl, h1, h2, fun p np => ?_⟩
  obtain ⟨c1, c2, c3, c4⟩ := frz_new (o := .lst ((Txt.split z y).map V.str)) fh np
  exact q _ _ _ _ h c1 c2 c3 c4 (rep_lst.mpr ⟨p, _, rfl, upd_same, repL_strs _⟩)
theorem pf_split {apos : Pos} {d d2 : DF} (h : PF X B a d) (h2 : PF X B e d2) (hs : starEach [e] X.env = [(false, eval e X.env)] := by rfl) (hbase : attributeBase a "split" X.env (eval a X.env) = eval a X.env := by rfl) (hline : (apos.endLine == pos.line) = true := by rfl) :
    PF X B (.Call (.Attribute a "split" apos) [e] [] pos) (dM1 rdSplit d d2) := pf_m1 (id := "") lrm_split h h2 fun t u p p2 => pe_split p p2 hs hbase hline
/-- join of a list of texts -/
def rdJoin : DRM := fun x xs k => ∃ z, ∃ ys : List Str, x = .str z ∧ (xs = [.lst (ys.map .str)]) ∧ (ys.map (·.length)).sum + ys.length * z.length ≤ 16777216 ∧ k (.str (Txt.join z ys))
theorem lrm_join {K : PySem.W.Frag} : LRM K (fun x xs H Q => ∃ a p, ∃ ys : List Str, x = .str a ∧ xs = [.ref p] ∧ (SqL K H p (ys.map V.str) ∨ SqT K H p (ys.map V.str)) ∧ (ys.map (·.length)).sum + ys.length * a.length ≤ 16777216 ∧ Q (.str (Txt.join a ys)) H) rdJoin := by
  intro F H x xs v vs k Q fh r1 r2 h q
  obtain ⟨z, ys, rfl, rfl, h1, h⟩ := h
  rw [rep_str] at r1
  obtain ⟨w, rfl, r3⟩ := repL1 r2
  obtain ⟨p, us, rfl, g1, g2⟩ := rep_lstS r3
  rw [repL_strs_inv g2] at g1
  exact ⟨z, p, ys, r1, rfl, .inl (fh.seq g1), h1, q _ _ F H h (fun _ _ h => h) fh (fun _ _ h => h) (fun _ h => .inl h) (rep_str.mpr rfl)⟩
theorem pf_join {apos : Pos} {d d2 : DF} (h : PF X B a d) (h2 : PF X B e d2) (hs : starEach [e] X.env = [(false, eval e X.env)] := by rfl) (hbase : attributeBase a "join" X.env (eval a X.env) = eval a X.env := by rfl) (hline : (apos.endLine == pos.line) = true := by rfl) :
    PF X B (.Call (.Attribute a "join" apos) [e] [] pos) (dM1 rdJoin d d2) := pf_m1 (id := "") lrm_join h h2 fun t u p p2 => pe_join p p2 hs hbase hline
/-- a test of all signs -/
def rdStr0 (g : Str → D) (C : Str → Prop) : DRM := fun x xs k => ∃ z, x = .str z ∧ xs = [] ∧ C z ∧ k (g z)
def rdStr1 (g : Str → Str → D) (C : Str → Str → Prop) : DRM := fun x xs k => ∃ z y, x = .str z ∧ xs = [.str y] ∧ C z y ∧ k (g z y)
theorem lrm_str0 {K : PySem.W.Frag} {g : Str → D} {gv : Str → V} {C C' : Str → Prop} (hg : ∀ z F, Rep K F (g z) (gv z)) (hC : ∀ z, C z → C' z) : LRM K (fun x xs H Q => ∃ a, x = .str a ∧ xs = [] ∧ C' a ∧ Q (gv a) H) (rdStr0 g C) := by
  intro F H x xs v vs k Q fh r1 r2 h q
  obtain ⟨z, rfl, rfl, h1, h⟩ := h
  rw [rep_str] at r1
  rw [RepL] at r2
  exact ⟨z, r1, r2, hC z h1, q _ _ F H h (fun _ _ h => h) fh (fun _ _ h => h) (fun _ h => .inl h) (hg z F)⟩
theorem lrm_str1 {K : PySem.W.Frag} {g : Str → Str → D} {gv : Str → Str → V} {C C' : Str → Str → Prop} (hg : ∀ z y F, Rep K F (g z y) (gv z y)) (hC : ∀ z y, C z y → C' z y) : LRM K (fun x xs H Q => ∃ a b, x = .str a ∧ xs = [.str b] ∧ C' a b ∧ Q (gv a b) H) (rdStr1 g C) := by
  intro F H x xs v vs k Q fh r1 r2 h q
  obtain ⟨z, y, rfl, rfl, h1, h⟩ := h
  rw [rep_str] at r1
  obtain ⟨w, rfl, r3⟩ := repL1 r2
  rw [rep_str] at r3
  exact ⟨z, y, r1, by rw [r3], hC z y h1, q _ _ F H h (fun _ _ h => h) fh (fun _ _ h => h) (fun _ h => .inl h) (hg z y F)⟩
theorem pf_isdigit {apos : Pos} {d : DF} (h : PF X B a d) (hbase : attributeBase a "isdigit" X.env (eval a X.env) = eval a X.env := by rfl) (hline : (apos.endLine == pos.line) = true := by rfl) :
    PF X B (.Call (.Attribute a "isdigit" apos) [] [] pos) (dM0 (rdStr0 (fun z => .bl (Txt.isdigit z)) fun _ => True) d) :=
  pf_m0 (id := "") (lrm_str0 (C' := fun _ => True) (gv := fun z => .bl (Txt.isdigit z)) (fun _ _ => rep_bl.mpr rfl) fun _ h => h) h fun t p => pe_m0 F.slot_str_isdigit F.type_str_isdigit mt_isdigit p hbase hline
theorem pf_rstrip {apos : Pos} {d d2 : DF} (h : PF X B a d) (h2 : PF X B e d2) (hs : starEach [e] X.env = [(false, eval e X.env)] := by rfl) (hbase : attributeBase a "rstrip" X.env (eval a X.env) = eval a X.env := by rfl) (hline : (apos.endLine == pos.line) = true := by rfl) :
    PF X B (.Call (.Attribute a "rstrip" apos) [e] [] pos) (dM1 (rdStr1 (fun z y => .str (Txt.rstripChars z y)) fun z y => z.length ≤ sizeLine) d d2) :=
  pf_m1 (id := "") (lrm_str1 (C' := fun z y => z.length ≤ sizeLine) (gv := fun z y => .str (Txt.rstripChars z y)) (fun _ _ _ => rep_str.mpr rfl) fun _ _ h => h) h h2 fun t u p p2 => pe_m1 F.slot_str_rstrip F.type_str_rstrip mt_rstripChars p p2 hs hbase hline
/-- index of a text that is there -/
def rdIndex : DRM := fun x xs k => ∃ z y i rest, x = .str z ∧ xs = [.str y] ∧ Builtin.Str.occurrences z y 0 z.length 1 = i :: rest ∧ k (.int (i : Nat))
theorem lrm_index {K : PySem.W.Frag} : LRM K (fun x xs H Q => ∃ a b i rest, x = .str a ∧ xs = [.str b] ∧ Builtin.Str.occurrences a b 0 a.length 1 = i :: rest ∧ Q (.int (i : Nat)) H) rdIndex := by
  intro F H x xs v vs k Q fh r1 r2 h q
  obtain ⟨z, y, i, rest, rfl, rfl, h1, h⟩ := h
  rw [rep_str] at r1
  obtain ⟨w, rfl, r3⟩ := repL1 r2
  rw [rep_str] at r3
  exact ⟨z, y, i, rest, r1, by rw [r3], h1, q _ _ F H h (fun _ _ h => h) fh (fun _ _ h => h) (fun _ h => .inl h) (rep_int.mpr rfl)⟩
theorem pf_index {apos : Pos} {d d2 : DF} (h : PF X B a d) (h2 : PF X B e d2) (hs : starEach [e] X.env = [(false, eval e X.env)] := by rfl) (hbase : attributeBase a "index" X.env (eval a X.env) = eval a X.env := by rfl) (hline : (apos.endLine == pos.line) = true := by rfl) :
    PF X B (.Call (.Attribute a "index" apos) [e] [] pos) (dM1 rdIndex d d2) := pf_m1 (id := "") lrm_index h h2 fun t u p p2 => pe_m1 F.slot_str_index F.type_str_index mt_sindex p p2 hs hbase hline
/-- int of a text, of an int -/
def rdInt : DRN := fun xs k => (∃ i, xs = [.int i] ∧ k (.int i)) ∨ ∃ z n, xs = [.str z] ∧ PySem.intText? z = some n ∧ z.length ≤ 640 ∧ k (.int n)
theorem call_int2 : CallR X (.type "int") (fun xs H Q => (∃ i, xs = [.int i] ∧ Q (.int i) H) ∨ ∃ a n, xs = [.str a] ∧ PySem.intText? a = some n ∧ a.length ≤ 640 ∧ Q (.int n) H) := by
  intro pins s σ H xs us Q I r h
  rcases h with ⟨i, e, q⟩ | ⟨a, n, e, h1, h2, q⟩
  · exact call_int1 pins s σ H xs us Q I r (.inl ⟨i, e, q⟩)
  · exact call_int_str pins s σ H xs us Q I r ⟨a, n, e, h1, h2, q⟩
theorem lrn_int {K : PySem.W.Frag} : LRN K (fun xs H Q => (∃ i, xs = [.int i] ∧ Q (.int i) H) ∨ ∃ a n, xs = [.str a] ∧ PySem.intText? a = some n ∧ a.length ≤ 640 ∧ Q (.int n) H) rdInt := by
  intro F H xs vs k Q fh r h q
  have fin := fun z w h => q z w F H h (fun _ _ h => h) fh (fun _ _ h => h) (fun _ h => .inl h)
  rcases h with ⟨i, rfl, h⟩ | ⟨z, n, rfl, h1, h2, h⟩
  · obtain ⟨v, rfl, r1⟩ := repL1 r
    rw [rep_int] at r1
    exact .inl ⟨i, by rw [r1], fin _ _ h (rep_int.mpr rfl)⟩
  · obtain ⟨v, rfl, r1⟩ := repL1 r
    rw [rep_str] at r1
    exact .inr ⟨z, n, by rw [r1], h1, h2, fin _ _ h (rep_int.mpr rfl)⟩
theorem pf_intc {da : DF} {p : Pos} (hg : Gl X "int") (hm : X.mg "int" = none) (ha : PF X B e da) (hs : starEach [e] X.env = [(false, eval e X.env)] := by rfl) (hpl : (backTo pos (starEach [] X.env)).any (·.1) = false := by rfl) : PF X B (.Call (.Name "int" p) [e] [] pos) (dCB rdInt (dCons da dNil)) :=
  pf_callTy call_int2 lrn_int hg hm PyProof.Rows.boot_int (pad_cons ha pad_nil hs) fun t pt => pe_callTy call_int2 hg hm PyProof.Rows.boot_int pt (he := hs) (hpl := hpl)
end
end Sa
end

section
namespace Sa
open PySem PySem.Spec PyProof.Rows L2
section
variable {X : Cx} {B : Bs} {e a b c : Expr} {es : List Expr} {pos p0 : Pos} {st : Stmt}
/-! ### is None -/
def isNonD : D → Bool
  | .non => true
  | _ => false
def rdIsN (p : Bool → Bool) : DR := fun x y k => y = .non ∧ (∀ u, x ≠ .ob u) ∧ k (.bl (p (isNonD x)))
theorem rep_isN' {K : PySem.W.Frag} {F : Hp} {d : D} {v : V} (h : Rep K F d v) (hn : ∀ u, d ≠ .ob u) : decide (v = .non) = isNonD d := by
  rw [rep_isN h hn]
  cases d <;> rfl
theorem lr_isN {K : PySem.W.Frag} {p : Bool → Bool} : LR K (fun x y H Q => y = .non ∧ Q (.bl (p (decide (x = .non)))) H) (rdIsN p) := by
  intro F H x y v u k Q fh r1 r2 h q
  obtain ⟨rfl, hn, h⟩ := h
  rw [rep_non] at r2
  refine ⟨r2, q _ _ F H h (fun _ _ h => h) fh (fun _ _ h => h) (fun _ h => .inl h) (rep_bl.mpr ?_)⟩
  rw [rep_isN' r1 hn]
theorem pq_isN {da : DF} {j} (ha : PF X B a da) : PQ X B (.Compare a [.Is] [.Constant .none j p0] pos) (dTest (dOp (rdIsN id) da (dC .non))) := pq_cmp (r := fun x y H Q => y = .non ∧ Q (.bl (id (decide (x = .non)))) H) op_isN lr_isN ha pf_non
theorem pq_notN {da : DF} {j} (ha : PF X B a da) : PQ X B (.Compare a [.IsNot] [.Constant .none j p0] pos) (dTest (dOp (rdIsN not) da (dC .non))) := pq_cmp (r := fun x y H Q => y = .non ∧ Q (.bl (not (decide (x = .non)))) H) op_notN lr_isN ha pf_non
theorem pf_isN {da : DF} {j} (ha : PF X B a da) : PF X B (.Compare a [.Is] [.Constant .none j p0] pos) (dOp (rdIsN id) da (dC .non)) := pf_cmp (r := fun x y H Q => y = .non ∧ Q (.bl (id (decide (x = .non)))) H) op_isN lr_isN ha pf_non
theorem pf_notN {da : DF} {j} (ha : PF X B a da) : PF X B (.Compare a [.IsNot] [.Constant .none j p0] pos) (dOp (rdIsN not) da (dC .non)) := pf_cmp (r := fun x y H Q => y = .non ∧ Q (.bl (not (decide (x = .non)))) H) op_notN lr_isN ha pf_non
/-! ### more of ints -/
theorem pf_mul {da db : DF} (ha : PF X B a da) (hb : PF X B b db) : PF X B (.BinOp a .Mult b pos) (dOp (rdI CMul fun i j => .int (i * j)) da db) := pf_op op_mul (lr_I fun _ _ _ => rep_int.mpr rfl) ha hb
theorem pf_mod {da db : DF} (ha : PF X B a da) (hb : PF X B b db) : PF X B (.BinOp a .Mod b pos) (dOp (rdI (fun _ j => 0 < j) fun i j => .int (i % j)) da db) := pf_op op_mod (lr_I fun _ _ _ => rep_int.mpr rfl) ha hb
theorem pf_fdiv {da db : DF} (ha : PF X B a da) (hb : PF X B b db) : PF X B (.BinOp a .FloorDiv b pos) (dOp (rdI CDiv fun i j => .int (i / j)) da db) := pf_op op_fdiv (lr_I fun _ _ _ => rep_int.mpr rfl) ha hb
theorem pf_pow {da db : DF} (ha : PF X B a da) (hb : PF X B b db) : PF X B (.BinOp a .Pow b pos) (dOp (rdI CPow fun i j => .int (i ^ j.toNat)) da db) := pf_op op_pow (lr_I fun _ _ _ => rep_int.mpr rfl) ha hb
/-! ### == and != of data -/
mutual
def pyD : D → Option PyData
  | .non => some .none
  | .bl b => some (.bool b)
  | .int i => some (.int i)
  | .str x => some (.str x)
  | .lst ds => match pyL ds with
    | some l => some (.list l)
    | none => none
  | .tup ds => match pyL ds with
    | some l => some (.tuple l)
    | none => none
  | _ => none
def pyL : List D → Option (List PyData)
  | [] => some []
  | d :: ds => match pyD d, pyL ds with
    | some y, some l => some (y :: l)
    | _, _ => none
end
mutual
theorem rep_dp {K : PySem.W.Frag} {F H : Hp} (fh : Fz F H) : ∀ {d : D} {v : V} {y : PyData}, Rep K F d v → pyD d = some y → Dp K H v y
  | .non, v, y, h, e => by rw [rep_non] at h; unfold pyD at e; cases e; subst h; exact .non
  | .bl b, v, y, h, e => by rw [rep_bl] at h; unfold pyD at e; cases e; subst h; exact .bl b
  | .int i, v, y, h, e => by rw [rep_int] at h; unfold pyD at e; cases e; subst h; exact .int i
  | .str x, v, y, h, e => by rw [rep_str] at h; unfold pyD at e; cases e; subst h; exact .str x
  | .lst ds, v, y, h, e => by
    obtain ⟨p, vs, rfl, h1, h2⟩ := rep_lstS h
    unfold pyD at e
    cases hl : pyL ds with
    | none => rw [hl] at e; cases e
    | some l => rw [hl] at e; cases e; exact .lst (fh.seq h1) (repL_dp fh h2 hl)
  | .tup ds, v, y, h, e => by
    obtain ⟨p, vs, rfl, h1, h2⟩ := rep_tup.mp h
    unfold pyD at e
    cases hl : pyL ds with
    | none => rw [hl] at e; cases e
    | some l => rw [hl] at e; cases e; exact .tup (Same.seqT fh.s h1) (repL_dp fh h2 hl)
  | .dic _, v, y, h, e => by unfold pyD at e; cases e
  | .ob _, v, y, h, e => by unfold pyD at e; cases e
  | .la _ _, v, y, h, e => by unfold pyD at e; cases e
theorem repL_dp {K : PySem.W.Frag} {F H : Hp} (fh : Fz F H) : ∀ {ds : List D} {vs : List V} {ys : List PyData}, RepL K F ds vs → pyL ds = some ys → DpAll K H vs ys
  | [], vs, ys, h, e => by unfold pyL at e; cases e; unfold RepL at h; subst h; exact .nil
  | d :: ds, vs, ys, h, e => by
    unfold RepL at h
    obtain ⟨v, r, rfl, h1, h2⟩ := h
    unfold pyL at e
    cases hd : pyD d with
    | none => rw [hd] at e; cases e
    | some y =>
      cases hl : pyL ds with
      | none => rw [hd, hl] at e; cases e
      | some l => rw [hd, hl] at e; cases e; exact .cons (rep_dp fh h1 hd) (repL_dp fh h2 hl)
end
def rdEqD (p : Bool → Bool) : DR := fun x y k => ∃ d e, pyD x = some d ∧ pyD y = some e ∧ SeqAt.shaped d = true ∧ SeqAt.shaped e = true ∧ k (.bl (p (PyData.eqv d e)))
theorem lr_eqD {K : PySem.W.Frag} : LR K (rEqD K) (rdEqD id) := by
  intro F H x y v u k Q fh r1 r2 h q
  obtain ⟨d, e, h1, h2, h3, h4, h⟩ := h
  exact ⟨d, e, rep_dp fh r1 h1, rep_dp fh r2 h2, h3, h4, q _ _ F H h (fun _ _ h => h) fh (fun _ _ h => h) (fun _ h => .inl h) (rep_bl.mpr rfl)⟩
theorem lr_neD {K : PySem.W.Frag} : LR K (rNeD K) (rdEqD not) := by
  intro F H x y v u k Q fh r1 r2 h q
  obtain ⟨d, e, h1, h2, h3, h4, h⟩ := h
  exact ⟨d, e, rep_dp fh r1 h1, rep_dp fh r2 h2, h3, h4, q _ _ F H h (fun _ _ h => h) fh (fun _ _ h => h) (fun _ h => .inl h) (rep_bl.mpr rfl)⟩
theorem pq_eqD {da db : DF} (hu : X.A.units + 64 < cLine) (ha : PF X B a da) (hb : PF X B b db) : PQ X B (.Compare a [.Eq] [b] pos) (dTest (dOp (rdEqD id) da db)) := pq_cmp (op_eqD hu) lr_eqD ha hb
theorem pq_neD {da db : DF} (hu : X.A.units + 64 < cLine) (ha : PF X B a da) (hb : PF X B b db) : PQ X B (.Compare a [.NotEq] [b] pos) (dTest (dOp (rdEqD not) da db)) := pq_cmp (op_neD hu) lr_neD ha hb
theorem pf_eqD {da db : DF} (hu : X.A.units + 64 < cLine) (ha : PF X B a da) (hb : PF X B b db) : PF X B (.Compare a [.Eq] [b] pos) (dOp (rdEqD id) da db) := pf_cmp (op_eqD hu) lr_eqD ha hb
theorem pf_neD {da db : DF} (hu : X.A.units + 64 < cLine) (ha : PF X B a da) (hb : PF X B b db) : PF X B (.Compare a [.NotEq] [b] pos) (dOp (rdEqD not) da db) := pf_cmp (op_neD hu) lr_neD ha hb
/-! ### a text many times -/
def repS (x : Str) (n : Nat) : Str := ⟨(List.replicate n x.cps.toList).flatten.toArray⟩
theorem foldl_app {α : Type} (z : Array α) : ∀ (n : Nat) (acc : Array α), (List.replicate n z).foldl (· ++ ·) acc = acc ++ (List.replicate n z.toList).flatten.toArray
  | 0, acc => by simp
  | n + 1, acc => by
    rw [List.replicate_succ, List.foldl_cons, foldl_app z n, List.replicate_succ, List.flatten_cons]
    apply Array.toList_inj.mp
    simp
theorem op_mul_str {X : Cx} : OpR X (binaryOp .Mult) (fun x y H Q => ∃ z i, x = .str z ∧ y = .int i ∧ 2 ≤ i ∧ i ≤ 10000 ∧ 1 ≤ z.length ∧ z.length ≤ 1000 ∧ Q (.str (repS z i.toNat)) H) := by
  intro pins s σ H x y v u Q I rx ry h
  obtain ⟨z, i, rfl, rfl, h1, h2, hz1, hz, q⟩ := h
  obtain ⟨t, rfl⟩ := rx
  obtain ⟨t', rfl⟩ := ry
  have hm : z.length * i.toNat ≤ 10000000 := Nat.le_trans (Nat.mul_le_mul hz (show i.toNat ≤ 10000 by omega)) (by decide)
  have hs := sizeLine_eq
  have hd : (1000 : Int) ≤ (2 ^ 63 - 1 : Int) / i := by
    rw [Int.le_ediv_iff_mul_le (by omega)]
    omega
  have hb : (i == 1 || z.length == 0) = false := by
    have h3 : (i == 1) = false := by simp; omega
    have h4 : (z.length == 0) = false := by simp; omega
    rw [h3, h4]; rfl
  have e : (⟨(List.replicate i.toNat z.cps).foldl (· ++ ·) #[]⟩ : Str) = repS z i.toNat := by
    rw [foldl_app]
    unfold repS
    simp
  have hl : (repS z i.toNat).length = z.length * i.toNat := by
    show ((List.replicate i.toNat z.cps.toList).flatten.toArray).size = _
    rw [List.size_toArray, List.length_flatten, List.map_replicate, List.sum_replicate_nat, Nat.mul_comm]
    rfl
  refine PySem.P.mul_str ?_ (fun _ _ => by omega) (fun _ _ => ?_) ?_
  · simp; omega
  · show decide _ = false
    exact decide_eq_false (by omega)
  · rw [if_neg (by omega), hb, e]
    exact ⟨by rw [hl]; omega, .str _, H, I.tok _, ⟨_, rfl⟩, q⟩
def rdMulS : DR := fun x y k => ∃ z i, x = .str z ∧ y = .int i ∧ 2 ≤ i ∧ i ≤ 10000 ∧ 1 ≤ z.length ∧ z.length ≤ 1000 ∧ k (.str (repS z i.toNat))
theorem lr_mulS {K : PySem.W.Frag} : LR K (fun x y H Q => ∃ z i, x = .str z ∧ y = .int i ∧ 2 ≤ i ∧ i ≤ 10000 ∧ 1 ≤ z.length ∧ z.length ≤ 1000 ∧ Q (.str (repS z i.toNat)) H) rdMulS := by
  intro F H x y v u k Q fh r1 r2 h q
  obtain ⟨z, i, rfl, rfl, h1, h2, h3, h4, h⟩ := h
  rw [rep_str] at r1
  rw [rep_int] at r2
  exact ⟨z, i, r1, r2, h1, h2, h3, h4, q _ _ F H h (fun _ _ h => h) fh (fun _ _ h => h) (fun _ h => .inl h) (rep_str.mpr rfl)⟩
theorem pf_mulS {da db : DF} (ha : PF X B a da) (hb : PF X B b db) : PF X B (.BinOp a .Mult b pos) (dOp rdMulS da db) := pf_op op_mul_str lr_mulS ha hb
/-! ### new lists -/
theorem own_new {K : PySem.W.Frag} {B : Bs} {F H F1 H1 : Hp} {σ : L2.St} {ρ1 : Sl} {f f1 : Nat → List Addr} {a : Addr} {ds : List D} {vs : List V} {P : Prop} (s1 : Step F H (Own f) F1 H1 (Own f1)) (S1 : Sat K B F1 H1 σ ρ1 f1) (na : H1 a = none) (r : RepL K F1 ds vs)
    (q : Step F H (Own f) F1 (upd H1 a (.lst vs)) (fun b => b = a ∨ Own f1 b) → (upd H1 a (.lst vs)) a = some (.lst vs) → RepL K F1 ds vs → ¬ Own f1 a → F1 a = none → Sat K B F1 (upd H1 a (.lst vs)) σ ρ1 f1 → P) : P :=
  q (step_new s1 S1 (fun _ _ h => h) (same_new na) (fun _ h => .inl h) na) upd_same r (fun z => S1.own_there z na) (S1.fh.free na) (S1.new na)
abbrev DRO := D → D → (List D → Prop) → Prop
def LRO (K : PySem.W.Frag) (r : R2) (R : DRO) : Prop := ∀ F H x y v u k Q, Fz F H → Rep K F x v → Rep K F y u → R x y k →
  (∀ ds vs p, k ds → RepL K F ds vs → H p = none → Q (.ref p) (upd H p (.lst vs))) → r v u H Q
def dOpO (R : DRO) (da db : DF) : DO := fun ρ k => da ρ fun x ρ1 => db ρ1 fun y ρ2 => R x y fun z => k z ρ2
theorem po_op {op : Operator} {r : R2} {R : DRO} {da db : DF} (ho : OpR X (binaryOp op) r) (hR : LRO X.K r R) (ha : PF X B a da) (hb : PF X B b db) : PO X B (.BinOp a op b pos) (dOpO R da db) := by
  obtain ⟨ta, pa, la⟩ := ha
  obtain ⟨tb, pb, lb⟩ := hb
  refine ⟨_, pe_op ho pa pb, fun σ H Q F ρ f k S h q => ?_⟩
  refine la σ H _ F ρ f _ S h fun x ρ1 v F1 H1 f1 h1 s1 r1 S1 => ?_
  refine lb σ H1 _ F1 ρ1 f1 _ S1 h1 fun y ρ2 u F2 H2 f2 h2 s2 r2 S2 => ?_
  refine hR F2 H2 x y v u _ _ S2.fh (r1.mono s2.ff) r2 h2 fun ds vs p h3 r3 np => ?_
  exact own_new (s1.trans s2) S2 np r3 fun c1 c2 c3 c4 c5 c6 => q ds ρ2 p vs F2 _ f2 h3 c1 c2 c3 c4 c5 c6
def rdCat : DRO := fun x y k => ∃ ds es, x = .lst ds ∧ y = .lst es ∧ ds.length + es.length ≤ sizeLine ∧ k (ds ++ es)
theorem lro_cat {K : PySem.W.Frag} : LRO K rCat rdCat := by
  intro F H x y v u k Q fh r1 r2 h q
  obtain ⟨ds, es, rfl, rfl, hz, h⟩ := h
  obtain ⟨p, vs, rfl, g1, g2⟩ := rep_lst.mp r1
  obtain ⟨p2, us, rfl, g3, g4⟩ := rep_lst.mp r2
  exact ⟨p, p2, vs, us, rfl, rfl, fh.s _ _ g1, fh.s _ _ g3, by rw [g2.length, g4.length]; exact hz, fun l nl => q _ _ l h (g2.append g4) nl⟩
theorem po_cat {da db : DF} (ha : PF X B a da) (hb : PF X B b db) : PO X B (.BinOp a .Add b pos) (dOpO rdCat da db) := po_op op_cat lro_cat ha hb
def rdRep : DRO := fun x y k => ∃ ds i, x = .lst ds ∧ y = .int i ∧ -(2 ^ 63) ≤ i ∧ i < 2 ^ 63 ∧ ds.length * i.toNat ≤ sizeLine ∧ k (List.replicate i.toNat ds).flatten
theorem RepL.rep {K : PySem.W.Frag} {F : Hp} {ds : List D} {vs : List V} (r : RepL K F ds vs) : ∀ n, RepL K F (List.replicate n ds).flatten (List.replicate n vs).flatten
  | 0 => repL_nil
  | n + 1 => by
    rw [List.replicate_succ, List.replicate_succ, List.flatten_cons, List.flatten_cons]
    exact r.append (RepL.rep r n)
theorem lro_rep {K : PySem.W.Frag} : LRO K rRep rdRep := by
  intro F H x y v u k Q fh r1 r2 h q
  obtain ⟨ds, i, rfl, rfl, h1, h2, hz, h⟩ := h
  obtain ⟨p, vs, rfl, g1, g2⟩ := rep_lst.mp r1
  rw [rep_int] at r2
  exact ⟨p, i, vs, rfl, r2, fh.s _ _ g1, h1, h2, by rw [g2.length]; exact hz, fun l nl => q _ _ l h (g2.rep _) nl⟩
theorem po_rep {da db : DF} (ha : PF X B a da) (hb : PF X B b db) : PO X B (.BinOp a .Mult b pos) (dOpO rdRep da db) := po_op op_rep lro_rep ha hb
/-! ### built-in calls that give a new list -/
abbrev DRNO := List D → (List D → Prop) → Prop
def LRNO (K : PySem.W.Frag) (r : List V → Hp → VK → Prop) (R : DRNO) : Prop := ∀ F H xs vs k Q, Fz F H → RepL K F xs vs → R xs k →
  (∀ ds us p, k ds → RepL K F ds us → H p = none → Q (.ref p) (upd H p (.lst us))) → r vs H Q
def dCBO (R : DRNO) (da : DA) : DO := fun ρ k => da ρ fun xs ρ1 => R xs fun z => k z ρ1
theorem po_callTy {T : String} {x : Str} {p : Pos} {r : List V → Hp → VK → Prop} {R : DRNO} {da : DA} (hc : CallR X (.type T) r) (hR : LRNO X.K r R) (hg : Gl X x) (hm : X.mg x = none) (hv : bootBuiltins x = some (.type T)) (ha : PAd X B (e :: es) da)
    (h1 : ∀ t, PA X (e :: es) t → PE X (.Call (.Name x p) (e :: es) [] pos) (tCB r t)) : PO X B (.Call (.Name x p) (e :: es) [] pos) (dCBO R da) := by
  obtain ⟨t, pt, l⟩ := ha
  refine ⟨_, h1 t pt, fun σ H Q F ρ f k S h q => ?_⟩
  refine l σ H _ F ρ f _ S h fun xs ρ1 vs F1 H1 f1 k1 s1 r1 S1 => ?_
  refine hR F1 H1 xs vs _ _ S1.fh r1 k1 fun ds us p h3 r3 np => ?_
  exact own_new s1 S1 np r3 fun c1 c2 c3 c4 c5 c6 => q ds ρ1 p us F1 _ f1 h3 c1 c2 c3 c4 c5 c6
/-- list(..) of a list, a tuple, a text -/
theorem vals_signs : ∀ (l : List Nat) (us : List Value), us.length = l.length → (∀ (j : Nat) (v : Value), us[j]? = some v → ∃ (c : Nat) (u : Tok), l[j]? = some c ∧ v = Value.str ⟨#[c]⟩ u) → Vals (l.map fun c => V.str ⟨#[c]⟩) us
  | [], us, h, _ => by
    cases us with
    | nil => exact .nil
    | cons _ _ => cases h
  | c :: l, [], h, _ => by cases h
  | c :: l, u :: us, h, g => by
    refine .cons ?_ (vals_signs l us (by simpa using h) fun j v e => ?_)
    · obtain ⟨c', t, e1, e2⟩ := g 0 u rfl
      cases e1
      exact ⟨t, e2⟩
    · obtain ⟨c', t, e1, e2⟩ := g (j + 1) v (by simpa using e)
      exact ⟨c', t, by simpa using e1, e2⟩
theorem call_list_signs (hc : X.calm = true) : CallR X (.type "list") (fun xs H Q => ∃ z, xs = [.str z] ∧ z.length ≤ sizeLine ∧ ∀ l, H l = none → Q (.ref l) (upd H l (.lst (z.cps.toList.map fun c => .str ⟨#[c]⟩)))) := by
  intro pins s σ H xs us Q I r h
  obtain ⟨z, rfl, hz, q⟩ := h
  obtain ⟨u, rfl, t, rfl⟩ := vals1 r
  refine PySem.call_list_str (I.ok.hd hc) z t (fun h' tk acc' c' kp e hi => ?_) hz
  have hv : Vals (z.cps.toList.map fun c => V.str ⟨#[c]⟩) acc'.toList := by
    refine vals_signs _ _ ?_ fun j v e => ?_
    · have := hi.1
      simp only [Array.length_toList]
      exact this
    · obtain ⟨c, u, h1, h2⟩ := hi.2 j v (by simpa using e)
      exact ⟨c, u, by simpa using h1, h2⟩
  exact ⟨.ref s.heap.objs.size, _, I.laid (t' := tk) kp (Nat.le_refl _) (show ObjOk X.prog X.w _ h' _ (.lst _) from ⟨by simp only [List.length_map, Array.length_toList]; exact hz, acc'.toList, c', hv, by simpa using e⟩), rfl, q _ (I.hok.fresh (Nat.le_refl _))⟩
def rdList : DRNO := fun xs k => ∃ x, xs = [x] ∧ ((∃ ds, x = .lst ds ∧ k ds) ∨ (∃ ds, x = .tup ds ∧ k ds) ∨ ∃ z, x = .str z ∧ z.length ≤ sizeLine ∧ k (signsD z))
theorem repL_signs {K : PySem.W.Frag} {F : Hp} : ∀ l : List Nat, RepL K F (l.map signD) (l.map fun c => V.str ⟨#[c]⟩)
  | [] => repL_nil
  | c :: l => repL_cons (rep_str.mpr rfl) (repL_signs l)
theorem lrno_list {K : PySem.W.Frag} : LRNO K (fun xs H Q => (∃ p ys, xs = [.ref p] ∧ (SqL K H p ys ∨ SqT K H p ys) ∧ ∀ l, H l = none → Q (.ref l) (upd H l (.lst ys))) ∨ ∃ z, xs = [.str z] ∧ z.length ≤ sizeLine ∧ ∀ l, H l = none → Q (.ref l) (upd H l (.lst (z.cps.toList.map fun c => .str ⟨#[c]⟩)))) rdList := by
  intro F H xs vs k Q fh r h q
  obtain ⟨x, rfl, h⟩ := h
  obtain ⟨v, rfl, r1⟩ := repL1 r
  rcases h with ⟨ds, rfl, h⟩ | ⟨ds, rfl, h⟩ | ⟨z, rfl, hz, h⟩
  · obtain ⟨p, us, rfl, h1, h2⟩ := rep_lstS r1
    exact .inl ⟨p, us, rfl, .inl (fh.seq h1), fun l nl => q _ _ l h h2 nl⟩
  · obtain ⟨p, us, rfl, h1, h2⟩ := rep_tup.mp r1
    exact .inl ⟨p, us, rfl, .inr (Same.seqT fh.s h1), fun l nl => q _ _ l h h2 nl⟩
  · rw [rep_str] at r1
    subst r1
    exact .inr ⟨z, rfl, hz, fun l nl => q _ _ l h (repL_signs _) nl⟩
theorem po_list {da : DF} {p : Pos} (hc : X.calm = true) (hg : Gl X "list") (hm : X.mg "list" = none) (ha : PF X B e da) (hs : starEach [e] X.env = [(false, eval e X.env)] := by rfl) (hpl : (backTo pos (starEach [] X.env)).any (·.1) = false := by rfl) : PO X B (.Call (.Name "list" p) [e] [] pos) (dCBO rdList (dCons da dNil)) :=
  po_callTy (call_list_of.or (call_list_signs hc)) lrno_list hg hm PyProof.Rows.boot_list (pad_cons ha pad_nil hs) fun t pt => pe_callTy (call_list_of.or (call_list_signs hc)) hg hm PyProof.Rows.boot_list pt (he := hs) (hpl := hpl)
/-- tuple(..) -/
def rdTuple : DRN := fun xs k => ∃ x, xs = [x] ∧ ((∃ ds, x = .lst ds ∧ k (.tup ds)) ∨ ∃ ds, x = .tup ds ∧ k (.tup ds))
theorem lrn_tuple {K : PySem.W.Frag} : LRN K (fun xs H Q => ∃ p ys, xs = [.ref p] ∧ ((SqL K H p ys ∧ ∀ l, H l = none → Q (.ref l) (upd H l (.tup ys))) ∨ (SqT K H p ys ∧ Q (.ref p) H))) rdTuple := by
  intro F H xs vs k Q fh r h q
  obtain ⟨x, rfl, h⟩ := h
  obtain ⟨v, rfl, r1⟩ := repL1 r
  rcases h with ⟨ds, rfl, h⟩ | ⟨ds, rfl, h⟩
  · obtain ⟨p, us, rfl, h1, h2⟩ := rep_lstS r1
    refine ⟨p, us, rfl, .inl ⟨fh.seq h1, fun l nl => ?_⟩⟩
    obtain ⟨c1, c2, c3, c4⟩ := frz_new (o := .tup us) fh nl
    exact q _ _ _ _ h c1 c2 c3 c4 (rep_tup.mpr ⟨l, us, rfl, SqT.of upd_same, h2.mono c1⟩)
  · obtain ⟨p, us, rfl, h1, h2⟩ := rep_tup.mp r1
    exact ⟨p, us, rfl, .inr ⟨Same.seqT fh.s h1, q _ _ F H h (fun _ _ h => h) fh (fun _ _ h => h) (fun _ h => .inl h) r1⟩⟩
theorem pf_tupleOf {da : DF} {p : Pos} (hg : Gl X "tuple") (hm : X.mg "tuple" = none) (ha : PF X B e da) (hs : starEach [e] X.env = [(false, eval e X.env)] := by rfl) (hpl : (backTo pos (starEach [] X.env)).any (·.1) = false := by rfl) : PF X B (.Call (.Name "tuple" p) [e] [] pos) (dCB rdTuple (dCons da dNil)) :=
  pf_callTy call_tuple_of lrn_tuple hg hm PyProof.Rows.boot_tuple (pad_cons ha pad_nil hs) fun t pt => pe_callTy call_tuple_of hg hm PyProof.Rows.boot_tuple pt (he := hs) (hpl := hpl)
/-- all(..), any(..) of a list of bools -/
def rdAll (g : List Bool → Bool) : DRN := fun xs k => ∃ bs : List Bool, xs = [.lst (bs.map .bl)] ∧ k (.bl (g bs))
theorem repL_bls {K : PySem.W.Frag} {F : Hp} : ∀ {bs : List Bool} {vs : List V}, RepL K F (bs.map .bl) vs → vs = bs.map V.bl
  | [], vs, h => by simpa [RepL] using h
  | b :: bs, vs, h => by
    rw [List.map_cons, RepL] at h
    obtain ⟨v, r, rfl, h1, h2⟩ := h
    rw [rep_bl] at h1
    rw [h1, repL_bls h2]
    rfl
theorem lrn_all {K : PySem.W.Frag} : LRN K (rAll K) (rdAll fun bs => bs.all id) := by
  intro F H xs vs k Q fh r h q
  obtain ⟨bs, rfl, h⟩ := h
  obtain ⟨v, rfl, r1⟩ := repL1 r
  obtain ⟨p, us, rfl, h1, h2⟩ := rep_lstS r1
  rw [repL_bls h2] at h1
  exact ⟨p, bs, rfl, fh.seq h1, q _ _ F H h (fun _ _ h => h) fh (fun _ _ h => h) (fun _ h => .inl h) (rep_bl.mpr rfl)⟩
theorem lrn_any {K : PySem.W.Frag} : LRN K (rAny K) (rdAll fun bs => bs.any id) := by
  intro F H xs vs k Q fh r h q
  obtain ⟨bs, rfl, h⟩ := h
  obtain ⟨v, rfl, r1⟩ := repL1 r
  obtain ⟨p, us, rfl, h1, h2⟩ := rep_lstS r1
  rw [repL_bls h2] at h1
  exact ⟨p, bs, rfl, fh.seq h1, q _ _ F H h (fun _ _ h => h) fh (fun _ _ h => h) (fun _ h => .inl h) (rep_bl.mpr rfl)⟩
theorem pf_all {da : DF} {p : Pos} (hc : X.calm = true) (hg : Gl X "all") (hm : X.mg "all" = none) (ha : PF X B e da) (hs : starEach [e] X.env = [(false, eval e X.env)] := by rfl) (hpl : (backTo pos (starEach [] X.env)).any (·.1) = false := by rfl) : PF X B (.Call (.Name "all" p) [e] [] pos) (dCB (rdAll fun bs => bs.all id) (dCons da dNil)) :=
  pf_callB (cr_all hc) lrn_all hg hm PyProof.Rows.boot_all (pad_cons ha pad_nil hs) fun t pt => pe_callB (cr_all hc) hg hm PyProof.Rows.boot_all pt (he := hs) (hpl := hpl)
theorem pf_any {da : DF} {p : Pos} (hc : X.calm = true) (hg : Gl X "any") (hm : X.mg "any" = none) (ha : PF X B e da) (hs : starEach [e] X.env = [(false, eval e X.env)] := by rfl) (hpl : (backTo pos (starEach [] X.env)).any (·.1) = false := by rfl) : PF X B (.Call (.Name "any" p) [e] [] pos) (dCB (rdAll fun bs => bs.any id) (dCons da dNil)) :=
  pf_callB (cr_any hc) lrn_any hg hm PyProof.Rows.boot_any (pad_cons ha pad_nil hs) fun t pt => pe_callB (cr_any hc) hg hm PyProof.Rows.boot_any pt (he := hs) (hpl := hpl)
/-! ### a statement of what is known behind an expression, a statement -/
def dCut (d : DF) : DF := fun ρ k => ∃ R : D → Sl → Prop, d ρ R ∧ ∀ y ρ', R y ρ' → k y ρ'
theorem pf_cut {d : DF} (h : PF X B e d) : PF X B e (dCut d) := by
  obtain ⟨t, p, l⟩ := h
  refine ⟨_, p, fun σ H Q F ρ f k S h q => ?_⟩
  obtain ⟨R, h1, h2⟩ := h
  exact l σ H Q F ρ f R S h1 fun y ρ' v F' H' f' r s a b => q y ρ' v F' H' f' (h2 y ρ' r) s a b
def dCutS (d : DSt) : DSt := fun kd ρ => ∃ R : Sl → Prop, d { nx := R, rt := kd.rt, bk := kd.bk, ct := kd.ct } ρ ∧ ∀ ρ', R ρ' → kd.nx ρ'
theorem psd_cut {d : DSt} (h : PSd X B st d) : PSd X B st (dCutS d) := by
  obtain ⟨t, p, l⟩ := h
  refine ⟨_, p, fun En σ H F ρ f kd S h q => ?_⟩
  obtain ⟨R, h1, h2⟩ := h
  exact l En σ H F ρ f _ S h1 ⟨fun σ' ρ' F' H' f' a b c => q.nx σ' ρ' F' H' f' (h2 ρ' a) b c, q.rt, q.bk, q.ct⟩
/-- the same for the raw rules -/
def tCutS (t : TS) : TS := fun D σ H => ∃ R : L2.St → Hp → Prop, t { nx := R, rt := D.rt, bk := D.bk, ct := D.ct } σ H ∧ ∀ σ' H', R σ' H' → D.nx σ' H'
theorem ps_cut {t : TS} (h : PS X st t) : PS X st (tCutS t) := by
  refine ⟨fun pins s σ H D I hq => ?_⟩
  obtain ⟨R, h1, h2⟩ := hq
  refine thn (h.run pins s σ H _ I h1) fun f s1 q => ?_
  cases f with
  | next =>
    obtain ⟨σ', H', I', q⟩ := q
    exact ⟨σ', H', I', h2 σ' H' q⟩
  | ret v => exact q
  | brk => exact q
  | cont => exact q
theorem ae_len : ∀ (es : List Expr) (env : Env), (assignEach es env).length = es.length
  | [], _ => by unfold assignEach; rfl
  | e :: es, env => by
    have := ae_len es env
    cases e <;> (unfold assignEach; simp [this])
end
end Sa
end

section
namespace Sa
open PySem PySem.Spec PyProof.Rows L2
/-! ### texts as lists of numbers -/
def txt (l : List Nat) : Str := ⟨l.toArray⟩
theorem len_toList (z : Str) : z.cps.toList.length = z.length := by simp; rfl
theorem toList_txt (l : List Nat) : (txt l).cps.toList = l := by simp [txt]
theorem len_txt (l : List Nat) : (txt l).length = l.length := by show (l.toArray).size = _; simp
theorem txt_toList (z : Str) : txt z.cps.toList = z := by cases z; simp [txt]
theorem txt_inj {a b : List Nat} (h : txt a = txt b) : a = b := by rw [← toList_txt a, h, toList_txt]
theorem txt_app (a b : List Nat) : txt a ++ txt b = txt (a ++ b) := by
  show (⟨(txt a).cps ++ (txt b).cps⟩ : Str) = _
  unfold txt
  simp
theorem toList_app (a b : Str) : (a ++ b).cps.toList = a.cps.toList ++ b.cps.toList := by
  show ((⟨a.cps ++ b.cps⟩ : Str)).cps.toList = _
  simp
theorem cut_nat (z : Str) (a b : Nat) (h1 : a ≤ b) (h2 : b ≤ z.length) : cutS z (some (a : Nat)) (some (b : Nat)) = txt ((z.cps.toList.drop a).take (b - a)) := by
  unfold cutS txt
  rw [HT.sIx_nat, HT.sIx_nat, Nat.min_eq_left (Nat.le_trans h1 h2), Nat.min_eq_left h2]
theorem cut_from (z : Str) (a : Nat) (h : a ≤ z.length) : cutS z (some (a : Nat)) none = txt (z.cps.toList.drop a) := by
  unfold cutS txt
  rw [HT.sIx_nat, HT.sIx_none, Nat.min_eq_left h]
  have : z.cps.toList.length = z.length := by simp; rfl
  rw [List.take_of_length_le (by simp [this])]
theorem cut_to (z : Str) (b : Nat) (h : b ≤ z.length) : cutS z none (some (b : Nat)) = txt (z.cps.toList.take b) := by
  unfold cutS txt
  rw [HT.sIx_nat, HT.sIx_none, Nat.min_eq_left h]
  simp
theorem drop_cons {l : List Nat} {n c : Nat} (h : l[n]? = some c) : l.drop n = c :: l.drop (n + 1) := by
  obtain ⟨h1, h2⟩ := List.getElem?_eq_some_iff.mp h
  rw [List.drop_eq_getElem_cons h1, h2]
/-! ### split and join by one sign -/
def splitL (c : Nat) : List Nat → List (List Nat)
  | [] => [[]]
  | a :: l => if a = c then [] :: splitL c l else match splitL c l with
    | h :: t => (a :: h) :: t
    | [] => [[a]]
theorem splitL_cons (c a : Nat) (l : List Nat) : splitL c (a :: l) = if a = c then [] :: splitL c l else match splitL c l with
    | h :: t => (a :: h) :: t
    | [] => [[a]] := rfl
def joinL (c : Nat) : List (List Nat) → List Nat
  | [] => []
  | [x] => x
  | x :: y :: r => x ++ c :: joinL c (y :: r)
theorem splitL_free (c : Nat) : ∀ {x r : List Nat}, c ∉ x → splitL c (x ++ c :: r) = x :: splitL c r
  | [], r, _ => by
    show splitL c (c :: r) = _
    rw [splitL_cons, if_pos rfl]
  | a :: x, r, h => by
    have ha : ¬ a = c := fun e => h (by simp [e])
    have ih := splitL_free c (x := x) (r := r) fun m => h (by simp [m])
    show splitL c (a :: (x ++ c :: r)) = _
    rw [splitL_cons, if_neg ha, ih]
theorem splitL_one (c : Nat) : ∀ {x : List Nat}, c ∉ x → splitL c x = [x]
  | [], _ => rfl
  | a :: x, h => by
    have ha : ¬ a = c := fun e => h (by simp [e])
    have ih := splitL_one c (x := x) fun m => h (by simp [m])
    rw [splitL_cons, if_neg ha, ih]
theorem splitL_join (c : Nat) : ∀ {ps : List (List Nat)}, ps ≠ [] → (∀ p ∈ ps, c ∉ p) → splitL c (joinL c ps) = ps
  | [], h, _ => absurd rfl h
  | [x], _, h => by
    show splitL c x = [x]
    exact splitL_one c (h x (by simp))
  | x :: y :: r, _, h => by
    show splitL c (x ++ c :: joinL c (y :: r)) = _
    rw [splitL_free c (h x (by simp)), splitL_join c (by simp) fun p hp => h p (by simp [hp])]
theorem join_toList (c : Nat) : ∀ ps : List Str, (Str.join ⟨#[c]⟩ ps).cps.toList = joinL c (ps.map fun p => p.cps.toList)
  | [] => rfl
  | [x] => rfl
  | x :: y :: r => by
    show (x ++ ⟨#[c]⟩ ++ Str.join ⟨#[c]⟩ (y :: r)).cps.toList = _
    rw [toList_app, toList_app, join_toList c (y :: r)]
    simp [joinL]
theorem split_eq (x : Str) (c : Nat) : Txt.split x ⟨#[c]⟩ = (splitL c x.cps.toList).map txt := by
  have hj := StrLaws.join_split x ⟨#[c]⟩
  have hf := StrLaws.split_free x c
  have hn : Txt.split x ⟨#[c]⟩ ≠ [] := fun e => by
    have := split_pos x ⟨#[c]⟩
    rw [e] at this
    simp at this
  generalize Txt.split x ⟨#[c]⟩ = ps at hj hf hn
  rw [← hj, join_toList, splitL_join c (by simpa using hn) (by simpa using hf)]
  rw [List.map_map]
  conv => lhs; rw [← List.map_id ps]
  apply List.map_congr_left
  intro p _
  exact (txt_toList p).symm
theorem joinT_eq (c : Nat) (ps : List (List Nat)) : Txt.join ⟨#[c]⟩ (ps.map txt) = txt (joinL c ps) := by
  show Builtin.Str.glued _ _ = _
  rw [StrLaws.glued_eq_join, ← txt_toList (Str.join _ _), join_toList, List.map_map]
  congr 2
  conv => rhs; rw [← List.map_id ps]
  apply List.map_congr_left
  intro p _
  exact toList_txt p
theorem splitL_head (c : Nat) : ∀ l : List Nat, ∃ r, splitL c l = (l.takeWhile fun a => decide (a ≠ c)) :: r
  | [] => ⟨[], rfl⟩
  | a :: l => by
    obtain ⟨r, e⟩ := splitL_head c l
    rw [splitL_cons]
    by_cases h : a = c
    · rw [if_pos h, List.takeWhile_cons_of_neg (by simp [h])]
      exact ⟨_, rfl⟩
    · rw [if_neg h, e, List.takeWhile_cons_of_pos (by simp [h])]
      exact ⟨r, rfl⟩
theorem splitL_len (c : Nat) : ∀ l : List Nat, (splitL c l).length ≤ l.length + 1
  | [] => Nat.le_refl _
  | a :: l => by
    have ih := splitL_len c l
    obtain ⟨r, e⟩ := splitL_head c l
    rw [splitL_cons]
    rw [e] at ih ⊢
    split
    · simp at ih ⊢; omega
    · simp at ih ⊢; omega
/-! ### the first place of a sign -/
theorem index_one {x : Str} {c : Nat} (h : c ∈ x.cps.toList) : ∃ i rest, Builtin.Str.occurrences x ⟨#[c]⟩ 0 x.length 1 = i :: rest ∧ i < x.length ∧ x.cps.toList.take i = x.cps.toList.takeWhile fun a => decide (a ≠ c) := by
  rcases StrLaws.occ_head x ⟨#[c]⟩ 1 (Nat.le_refl 1) with ⟨_, hn⟩ | ⟨i, r, h0, hi, hn⟩
  · obtain ⟨j, hj⟩ := List.getElem?_of_mem h
    exact absurd ((StrLaws.subAt_one x c j).mpr hj) (hn j)
  · have hm := (StrLaws.subAt_one x c i).mp hi
    refine ⟨i, r, h0, ?_, ?_⟩
    · have := (List.getElem?_eq_some_iff.mp hm).1
      rwa [len_toList] at this
    · have hk : ∀ k, k < i → x.cps.toList[k]? ≠ some c := fun k hk e => hn k hk ((StrLaws.subAt_one x c k).mpr e)
      clear hn hi h0 h
      generalize x.cps.toList = l at hm hk
      induction l generalizing i with
      | nil => simp at hm
      | cons a l ih =>
        cases i with
        | zero =>
          have : a = c := by simpa using hm
          rw [List.takeWhile_cons_of_neg (by simp [this])]
          rfl
        | succ i =>
          have : ¬ a = c := fun e => hk 0 (by omega) (by simp [e])
          rw [List.takeWhile_cons_of_pos (by simp [this]), List.take_succ_cons, ih i (by simpa using hm) fun k h => by simpa using hk (k + 1) (by omega)]
theorem takeWhile_all {c : Nat} : ∀ {l : List Nat}, c ∉ l → (l.takeWhile fun a => decide (a ≠ c)) = l
  | [], _ => rfl
  | a :: l, h => by
    have ha : ¬ a = c := fun e => h (by simp [e])
    rw [List.takeWhile_cons_of_pos (by simp [ha]), takeWhile_all fun m => h (by simp [m])]
theorem enumD_inv : ∀ {n : Nat} {ds : List D} {i : Nat} {x : D}, (enumD n ds)[i]? = some x → ∃ d, ds[i]? = some d ∧ x = .tup [.int ((n + i : Nat)), d]
  | _, [], _, _, h => by simp [enumD] at h
  | n, e :: ds, 0, x, h => by
    simp [enumD] at h
    exact ⟨e, rfl, by rw [← h]; simp⟩
  | n, e :: ds, i + 1, x, h => by
    simp only [enumD, List.getElem?_cons_succ] at h
    obtain ⟨d, h1, h2⟩ := enumD_inv h
    exact ⟨d, by simpa using h1, by rw [h2]; congr 4; omega⟩
theorem signsD_inv {z : Str} {i : Nat} {x : D} (h : (signsD z)[i]? = some x) : ∃ c, z.cps.toList[i]? = some c ∧ x = signD c := by
  unfold signsD at h
  rw [List.getElem?_map] at h
  cases hc : z.cps.toList[i]? with
  | none => rw [hc] at h; cases h
  | some c => rw [hc] at h; cases h; exact ⟨c, rfl, rfl⟩
theorem enumS_inv {z : Str} {i : Nat} {x : D} (h : (enumD 0 (signsD z))[i]? = some x) : ∃ c, z.cps.toList[i]? = some c ∧ x = .tup [.int (i : Nat), signD c] := by
  obtain ⟨d, h1, h2⟩ := enumD_inv h
  obtain ⟨c, h3, h4⟩ := signsD_inv h1
  rw [Nat.zero_add] at h2
  exact ⟨c, h3, by rw [h2, h4]⟩
theorem enumS_len (z : Str) : (enumD 0 (signsD z)).length = z.length := by rw [enumD_len, signsD_len]; rfl
theorem rangeD_inv {lo : Int} {n i : Nat} {x : D} (h : (rangeD lo n)[i]? = some x) : i < n ∧ x = .int (lo + (i : Nat)) := by
  have hi : i < n := by
    have := (List.getElem?_eq_some_iff.mp h).1
    rwa [rangeD_len] at this
  rw [rangeD_get hi] at h
  cases h
  exact ⟨hi, rfl⟩
/-! ### what the operators' laws say at common data -/
theorem rdIn_sg {p : Bool → Bool} {c : Nat} {g : Str} {k : D → Prop} : rdIn p (signD c) (.str g) k ↔ k (.bl (p (decide (c ∈ g.cps.toList)))) := by
  constructor
  · rintro ⟨c', z, h1, h2, h⟩
    have : c = c' := by
      unfold signD at h1
      simpa using h1
    subst this
    cases h2
    exact h
  · intro h
    exact ⟨c, g, rfl, rfl, h⟩
theorem rdIx_str {z : Str} {i : Int} {k : D → Prop} : rdIx (.str z) (.int i) k ↔ z.length ≤ sizeLine ∧ ∃ c, atI z.cps.toList i = some c ∧ k (signD c) := by
  constructor
  · rintro (⟨_, _, _, h, _⟩ | ⟨_, _, _, h, _⟩ | ⟨z', i', c, h1, h2, h3, h4, h5⟩)
    · cases h
    · cases h
    · cases h1; cases h2; exact ⟨h3, c, h4, h5⟩
  · rintro ⟨h1, c, h2, h3⟩
    exact .inr (.inr ⟨z, i, c, rfl, rfl, h1, h2, h3⟩)
theorem rdIx_lst {ds : List D} {i : Int} {k : D → Prop} : rdIx (.lst ds) (.int i) k ↔ ∃ d, atI ds i = some d ∧ k d := by
  constructor
  · rintro (⟨ds', i', d, h1, h2, h3, h4⟩ | ⟨_, _, _, h, _⟩ | ⟨_, _, _, h, _⟩)
    · cases h1; cases h2; exact ⟨d, h3, h4⟩
    · cases h
    · cases h
  · rintro ⟨d, h1, h2⟩
    exact .inl ⟨ds, i, d, rfl, rfl, h1, h2⟩
theorem rdIx_tup {ds : List D} {i : Int} {k : D → Prop} : rdIx (.tup ds) (.int i) k ↔ ∃ d, atI ds i = some d ∧ k d := by
  constructor
  · rintro (⟨_, _, _, h, _⟩ | ⟨ds', i', d, h1, h2, h3, h4⟩ | ⟨_, _, _, h, _⟩)
    · cases h
    · cases h1; cases h2; exact ⟨d, h3, h4⟩
    · cases h
  · rintro ⟨d, h1, h2⟩
    exact .inr (.inl ⟨ds, i, d, rfl, rfl, h1, h2⟩)
theorem lenD_str {z : Str} {n : Nat} : lenD (.str z) = some n ↔ z.length ≤ sizeLine ∧ n = z.length := by
  unfold lenD
  by_cases h : z.length ≤ sizeLine
  · simp [h, eq_comm]
  · simp [h]
theorem lenD_lst {ds : List D} {n : Nat} : lenD (.lst ds) = some n ↔ n = ds.length := by
  unfold lenD
  simp [eq_comm]
theorem lenD_tup {ds : List D} {n : Nat} : lenD (.tup ds) = some n ↔ n = ds.length := by
  unfold lenD
  simp [eq_comm]
theorem rdInt_str {z : Str} {k : D → Prop} : rdInt [.str z] k ↔ ∃ n, intText? z = some n ∧ z.length ≤ 640 ∧ k (.int n) := by
  constructor
  · rintro (⟨i, h, _⟩ | ⟨z', n, h1, h2, h3, h4⟩)
    · cases h
    · cases h1; exact ⟨n, h2, h3, h4⟩
  · rintro ⟨n, h1, h2, h3⟩
    exact .inr ⟨z, n, rfl, h1, h2, h3⟩
theorem rdInt_int {i : Int} {k : D → Prop} : rdInt [.int i] k ↔ k (.int i) := by
  constructor
  · rintro (⟨i', h, h2⟩ | ⟨z', n, h1, _⟩)
    · cases h; exact h2
    · cases h1
  · intro h
    exact .inl ⟨i, rfl, h⟩
theorem rdList_lst {ds : List D} {k : List D → Prop} : rdList [.lst ds] k ↔ k ds := by
  constructor
  · rintro ⟨x, h, ⟨ds', rfl, h2⟩ | ⟨ds', rfl, h2⟩ | ⟨z, rfl, _⟩⟩
    · cases h; exact h2
    · cases h
    · cases h
  · intro h
    exact ⟨_, rfl, .inl ⟨_, rfl, h⟩⟩
theorem rdList_tup {ds : List D} {k : List D → Prop} : rdList [.tup ds] k ↔ k ds := by
  constructor
  · rintro ⟨x, h, ⟨ds', rfl, h2⟩ | ⟨ds', rfl, h2⟩ | ⟨z, rfl, _⟩⟩
    · cases h
    · cases h; exact h2
    · cases h
  · intro h
    exact ⟨_, rfl, .inr (.inl ⟨_, rfl, h⟩)⟩
theorem rdList_str {z : Str} {k : List D → Prop} : rdList [.str z] k ↔ z.length ≤ sizeLine ∧ k (signsD z) := by
  constructor
  · rintro ⟨x, h, ⟨ds', rfl, h2⟩ | ⟨ds', rfl, h2⟩ | ⟨z', rfl, h2, h3⟩⟩
    · cases h
    · cases h
    · cases h; exact ⟨h2, h3⟩
  · rintro ⟨h1, h2⟩
    exact ⟨_, rfl, .inr (.inr ⟨_, rfl, h1, h2⟩)⟩
theorem rdTuple_lst {ds : List D} {k : D → Prop} : rdTuple [.lst ds] k ↔ k (.tup ds) := by
  constructor
  · rintro ⟨x, h, ⟨ds', rfl, h2⟩ | ⟨ds', rfl, h2⟩⟩
    · cases h; exact h2
    · cases h
  · intro h
    exact ⟨_, rfl, .inl ⟨_, rfl, h⟩⟩
theorem rdTuple_tup {ds : List D} {k : D → Prop} : rdTuple [.tup ds] k ↔ k (.tup ds) := by
  constructor
  · rintro ⟨x, h, ⟨ds', rfl, h2⟩ | ⟨ds', rfl, h2⟩⟩
    · cases h
    · cases h; exact h2
  · intro h
    exact ⟨_, rfl, .inr ⟨_, rfl, h⟩⟩
theorem isn_non : isNonD .non = true := rfl
theorem isn_int {i : Int} : isNonD (.int i) = false := rfl
theorem isn_str {i : Str} : isNonD (.str i) = false := rfl
theorem isn_lst {i : List D} : isNonD (.lst i) = false := rfl
theorem isn_tup {i : List D} : isNonD (.tup i) = false := rfl
theorem frz_fr {d : D} : frz (.fr d) = some d := rfl
theorem frz_ol {ds : List D} : frz (.ol ds) = some (.lst ds) := rfl
theorem rdEq_ss {a b : Str} {k : D → Prop} : rdEq (.str a) (.str b) k ↔ k (.bl (decide (a = b))) := by simp [rdEq, sc, scal]
theorem rdEq_gs {c : Nat} {b : Str} {k : D → Prop} : rdEq (signD c) (.str b) k ↔ k (.bl (decide ((⟨#[c]⟩ : Str) = b))) := by simp [rdEq, sc, scal, signD]
theorem rdEq_gg {c d : Nat} {k : D → Prop} : rdEq (signD c) (signD d) k ↔ k (.bl (decide (c = d))) := by simp [rdEq, sc, scal, signD]
theorem rdEq_ii {a b : Int} {k : D → Prop} : rdEq (.int a) (.int b) k ↔ k (.bl (decide (a = b))) := by simp [rdEq, sc, scal]
theorem rdEq_bb {a b : Bool} {k : D → Prop} : rdEq (.bl a) (.bl b) k ↔ k (.bl (decide (a = b))) := by simp [rdEq, sc, scal]
theorem rdNe_ss {a b : Str} {k : D → Prop} : rdNe (.str a) (.str b) k ↔ k (.bl (!decide (a = b))) := by simp [rdNe, sc, scal]
theorem rdNe_gs {c : Nat} {b : Str} {k : D → Prop} : rdNe (signD c) (.str b) k ↔ k (.bl (!decide ((⟨#[c]⟩ : Str) = b))) := by simp [rdNe, sc, scal, signD]
theorem rdNe_gg {c d : Nat} {k : D → Prop} : rdNe (signD c) (signD d) k ↔ k (.bl (!decide (c = d))) := by simp [rdNe, sc, scal, signD]
theorem rdNe_ii {a b : Int} {k : D → Prop} : rdNe (.int a) (.int b) k ↔ k (.bl (!decide (a = b))) := by simp [rdNe, sc, scal]
theorem rdNe_bb {a b : Bool} {k : D → Prop} : rdNe (.bl a) (.bl b) k ↔ k (.bl (!decide (a = b))) := by simp [rdNe, sc, scal]
theorem cast1 (n : Nat) : ((n : Int) + 1) = ((n + 1 : Nat) : Int) := by simp
theorem castP (n : Nat) : ((0 : Int) < (n : Int)) = (0 < n) := by simp
theorem castA (a b : Nat) : ((a : Int) + (b : Int)) = ((a + b : Nat) : Int) := by simp
theorem at0 {α : Type} {a : α} {l : List α} : atI (a :: l) 0 = some a := atI_nat (j := 0) rfl
theorem at1 {α : Type} {a b : α} {l : List α} : atI (a :: b :: l) 1 = some b := atI_nat (j := 1) rfl
theorem at2 {α : Type} {a b c : α} {l : List α} : atI (a :: b :: c :: l) 2 = some c := atI_nat (j := 2) rfl
theorem at3 {α : Type} {a b c d : α} {l : List α} : atI (a :: b :: c :: d :: l) 3 = some d := atI_nat (j := 3) rfl
theorem one_len (c : Nat) : ((⟨#[c]⟩ : Str).length == 0) = false := rfl
theorem sgn_eq {c d : Nat} : ((⟨#[c]⟩ : Str) = ⟨#[d]⟩) ↔ c = d := by simp
end Sa
end

section
namespace Sa
open PySem PySem.Spec PyProof.Rows L2
/-! ### exceptions by data: the class, the fields -/
abbrev ExD := Addr → List (Str × D) → Prop
/-- what is wanted of an exception that leaves the activation, by data -/
def ExOk (K : PySem.W.Frag) (B : Bs) (kx : ExD) (E : XK) : Prop := ∀ C fs dd us F' H' P', kx C fs → Step B.F B.H B.P F' H' P' → Fz F' H' → H' dd = some (.xd ((fs.map (·.1)).zip us)) → RepL K F' (fs.map (·.2)) us → E (.ref C) (some dd) H'
abbrev PhiX := List D → (DS → Prop) → ExD → Prop
def SpFX (K : PySem.W.Frag) (Φ : PhiX) : Sp := fun vs H Q E => ∃ F ds k kx, Fz F H ∧ RepL K F ds vs ∧ Φ ds k kx ∧
  (∀ x v F' H' fv, k x → Same F F' → Fz F' H' → Same H H' → (∀ b, F' b ≠ none → F b ≠ none ∨ H b = none) → OwnS K F' H' x v fv → (∀ a ∈ fv, H a = none ∧ F' a = none) → Q v H') ∧
  ∀ C fs dd us F' H', kx C fs → Same F F' → Fz F' H' → Same H H' → (∀ b, F' b ≠ none → F b ≠ none ∨ H b = none) → H' dd = some (.xd ((fs.map (·.1)).zip us)) → RepL K F' (fs.map (·.2)) us → E (.ref C) (some dd) H'
section
variable {P : Program} {w : World} {K : PySem.W.Frag} {mg : Str → Option Value} {base : Heap}
/-- a def of frozen data that may raise keeps its promise -/
theorem fnX {x qual : Str} {st : Stmt} {f : Addr} {fd : FuncData} {N ps : List Str} {k : Nat} {Φ : PhiX} (Fu : Fun K x qual st f fd) (S : FnScope N ps (defScope st)) (len : ∀ ds k kx, Φ ds k kx → ds.length = ps.length)
    (hb : ∀ (cdv : Value) (A : Around) (outer : List Env) (s : Shared) (H : Hp) (E : XK) (B : Bs) (kx : ExD), Room k (A.deeper (envOfC qual (defScope st) s.heap.objs.size f cdv)) → ExOk K B kx E →
      ∃ d, PSsd (cxOf (L2.CX P w) P w K mg base N qual (defScope st) f cdv A outer s H E) B (defBody st) d ∧ ∀ ds kk, Φ ds kk kx → d { nx := fun _ => kk (.fr .non), rt := fun x _ => kk x } (startD N (ds.map .fr))) :
    FnOk P w K mg base (L2.CX P w) (k + 1) f fd ps (SpFX K Φ) := by
  refine Fu.okX S (fun vs H Q E h => ?_) (fun cdv A outer s H vs Q E hr h => ?_)
  · obtain ⟨F, ds, kk, kx, _, r, p, _⟩ := h
    rw [r.length]
    exact len ds kk kx p
  · obtain ⟨F, ds, kk, kx, fh, r, p, q, qx⟩ := h
    have hE : ExOk K ⟨F, H, Own fun _ => []⟩ kx E := fun C fs dd us F' H' P' h b fh hd hr => qx C fs dd us F' H' h b.ff fh (fun b' o h => b.hh b' o h own_nil) (fun b' h => (b.nf b' h).imp id fun z => z.resolve_left own_nil) hd hr
    obtain ⟨d, ⟨t, pt, l⟩, hd⟩ := hb cdv A outer s H E ⟨F, H, Own fun _ => []⟩ kx hr hE
    refine ⟨t, pt, l _ _ H F _ _ _ (sat_startF fh r) (hd ds kk p) ⟨fun σ' ρ' F' H' f' a b c => ?_, fun x ρ' v σ' F' H' fv f' a b c e g => ?_, fun _ _ _ _ _ z => z.elim, fun _ _ _ _ _ z => z.elim⟩⟩
    · exact q (.fr .non) .non F' H' [] a b.ff c.fh (fun b' o h => b.hh b' o h own_nil) (fun b' h => (b.nf b' h).imp id fun z => z.resolve_left own_nil) ⟨rfl, rep_non.mpr rfl⟩ (by simp)
    · exact q x v F' H' fv a b.ff g.fh (fun b' o h => b.hh b' o h own_nil) (fun b' h => (b.nf b' h).imp id fun z => z.resolve_left own_nil) c fun b' hb' => ⟨(b.np b' (.inl hb')).resolve_left own_nil, (e b' hb').2⟩
end
/-! ### calls that may raise -/
def dCallX (Φ : PhiX) (kx : ExD) (da : DA) : DF := fun ρ k => da ρ fun ds ρ1 => Φ ds (fun x => ∃ d, frz x = some d ∧ k d ρ1) kx
theorem lf_callX {K : PySem.W.Frag} {B : Bs} {Φ : PhiX} {kx : ExD} {E : XK} {t : TA} {da : DA} (hE : ExOk K B kx E) (l : LA K B t da) : LF K B (tCall (SpFX K Φ) [] E t) (dCallX Φ kx da) := by
  intro σ H Q F ρ f k S h q
  refine l σ H _ F ρ f _ S h fun ds ρ1 vs F1 H1 f1 k1 s1 r1 S1 => ?_
  show SpFX K Φ (vs ++ []) H1 Q E
  rw [List.append_nil]
  refine ⟨F1, ds, _, kx, S1.fh, r1, k1, fun x v F' H' fv hk c1 c2 c3 c4 o c5 => ?_, fun C fs dd us F' H' hk c1 c2 c3 c4 hd hr => hE C fs dd us F' H' _ hk (S1.st.trans (Step.grow c1 c3 c4 : Step F1 H1 (Own f1) F' H' (Own f1))) c2 hd hr⟩
  obtain ⟨d, e, hk⟩ := hk
  obtain ⟨F2, e1, e2, e3, e4⟩ := frz_rep (H0 := H1) o e c2 c5
  have nf : ∀ b, F2 b ≠ none → F1 b ≠ none ∨ H1 b = none := fun b h => (e3 b h).elim (fun z => c4 b z) .inr
  exact q d ρ1 v F2 H' f1 hk (s1.trans (Step.grow (c1.trans e1) c3 nf)) e4 (S1.grow (c1.trans e1) e2 c3 nf)
def dCallXO (Φ : PhiX) (kx : ExD) (da : DA) : DO := fun ρ k => da ρ fun ds ρ1 => Φ ds (fun x => ∃ ds', x = .ol ds' ∧ k ds' ρ1) kx
theorem lo_callX {K : PySem.W.Frag} {B : Bs} {Φ : PhiX} {kx : ExD} {E : XK} {t : TA} {da : DA} (hE : ExOk K B kx E) (l : LA K B t da) : LO K B (tCall (SpFX K Φ) [] E t) (dCallXO Φ kx da) := by
  intro σ H Q F ρ f k S h q
  refine l σ H _ F ρ f _ S h fun ds ρ1 vs F1 H1 f1 k1 s1 r1 S1 => ?_
  show SpFX K Φ (vs ++ []) H1 Q E
  rw [List.append_nil]
  refine ⟨F1, ds, _, kx, S1.fh, r1, k1, fun x v F' H' fv hk c1 c2 c3 c4 o c5 => ?_, fun C fs dd us F' H' hk c1 c2 c3 c4 hd hr => hE C fs dd us F' H' _ hk (S1.st.trans (Step.grow c1 c3 c4 : Step F1 H1 (Own f1) F' H' (Own f1))) c2 hd hr⟩
  obtain ⟨ds', rfl, hk⟩ := hk
  obtain ⟨a, us, rfl, h2, h3, h4⟩ := o
  subst h2
  obtain ⟨na, fa⟩ := c5 a (by simp)
  exact q ds' ρ1 a us F' H' f1 hk (step_new s1 S1 c1 c3 c4 na) h3 h4 (fun z => S1.own_there z na) fa (S1.grow c1 c2 c3 c4)
section
variable {X : Cx} {B : Bs} {k : Nat} {f : Addr} {fd : FuncData} {ps : List Str} {x : Str} {p pos pos2 : Pos} {e : Expr} {es : List Expr} {E : XK} {kx : ExD}
theorem pf_callX {Φ : PhiX} {da : DA} (G : FnOk X.prog X.w X.K X.mg X.base (L2.CX X.prog X.w) k f fd ps (SpFX X.K Φ)) (tk : Takes X (fun cls d _ H => E cls d H)) (hE : ExOk X.K B kx E) (hr : Room k X.A) (hg : Gl X x) (hm : X.mg x = some (.ref f)) (hk : PySem.W.keepIn X.K (.ref f) = true) (hb : Binds X.K fd ps []) (ha : PAd X B (e :: es) da)
    (hdb : (x == ("__debug__" : Str)) = false := by decide) (he : starEach (e :: es) X.env = (false, eval e X.env) :: starEach es X.env := by rfl) (hpl : (backTo pos (starEach es X.env)).any (·.1) = false := by rfl) : PF X B (.Call (.Name x p) (e :: es) [] pos) (dCallX Φ kx da) := by
  obtain ⟨t, pt, l⟩ := ha
  exact ⟨_, pe_call G hr hg hm hk hb .nil (passes_call tk fun _ _ _ _ h => h) pt hdb he hpl, lf_callX hE l⟩
theorem po_callX {Φ : PhiX} {da : DA} (G : FnOk X.prog X.w X.K X.mg X.base (L2.CX X.prog X.w) k f fd ps (SpFX X.K Φ)) (tk : Takes X (fun cls d _ H => E cls d H)) (hE : ExOk X.K B kx E) (hr : Room k X.A) (hg : Gl X x) (hm : X.mg x = some (.ref f)) (hk : PySem.W.keepIn X.K (.ref f) = true) (hb : Binds X.K fd ps []) (ha : PAd X B (e :: es) da)
    (hdb : (x == ("__debug__" : Str)) = false := by decide) (he : starEach (e :: es) X.env = (false, eval e X.env) :: starEach es X.env := by rfl) (hpl : (backTo pos (starEach es X.env)).any (·.1) = false := by rfl) : PO X B (.Call (.Name x p) (e :: es) [] pos) (dCallXO Φ kx da) := by
  obtain ⟨t, pt, l⟩ := ha
  exact ⟨_, pe_call G hr hg hm hk hb .nil (passes_call tk fun _ _ _ _ h => h) pt hdb he hpl, lo_callX hE l⟩
/-! ### raise C(..), C's own __init__ storing its arguments -/
/-- __init__ of a class with these fields -/
def SpInit (C : Addr) (names : List Str) : Sp := fun vs H Q _ => ∃ a ws, vs = .ref a :: ws ∧ ws.length = names.length ∧ H a = some (exo a C none) ∧
  ∀ d H', d ≠ a → H d = none → (∀ b, b ≠ a → b ≠ d → H' b = H b) → H' a = some (exo a C (some d)) → H' d = some (exd d (names.zip ws)) → Q .non H'
def dRaise (kx : ExD) (C : Addr) (names : List Str) (da : DA) : DSt := fun _ ρ => da ρ fun ds _ => ds.length = names.length ∧ names.length ≤ 1000 ∧ kx C (names.zip ds)
theorem zip_fst : ∀ {names : List Str} {α : Type} {ds : List α}, ds.length = names.length → (names.zip ds).map (·.1) = names
  | [], _, _, _ => rfl
  | n :: ns, _, [], h => by cases h
  | n :: ns, _, d :: ds, h => by simp [zip_fst (names := ns) (ds := ds) (by simpa using h)]
theorem zip_snd : ∀ {names : List Str} {α : Type} {ds : List α}, ds.length = names.length → (names.zip ds).map (·.2) = ds
  | [], _, [], _ => rfl
  | [], _, _ :: _, h => by cases h
  | n :: ns, _, [], h => by cases h
  | n :: ns, _, d :: ds, h => by simp [zip_snd (names := ns) (ds := ds) (by simpa using h)]
theorem psd_raise {C fI : Addr} {da : DA} {names : List Str} (hc : X.calm = true) (tk : Takes X (fun cls d _ H => E cls d H)) (hE : ExOk X.K B kx E) (T : OexC X.K C) (iC : PySem.W.findIn X.K (.ref C) "__init__" = some (some (.ref fI))) (tI : PySem.W.typeIn X.K (.ref fI) = some (.type "function"))
    (G : FnOk X.prog X.w X.K X.mg X.base CX0 k fI fd ps (SpInit C names)) (hr : Room (k + 1) X.A) (hb : Binds X.K fd ps []) (hg : Gl X x) (hm : X.mg x = some (.ref C)) (ha : PAd X B (e :: es) da)
    (hdb : (x == ("__debug__" : Str)) = false := by decide) (he : starEach (e :: es) X.env = (false, eval e X.env) :: starEach es X.env := by rfl) (hpl : (backTo pos (starEach es X.env)).any (·.1) = false := by rfl) :
    PSd X B (.Raise (some (.Call (.Name x p) (e :: es) [] pos)) none pos2) (dRaise kx C names da) := by
  obtain ⟨t, pt, l⟩ := ha
  refine ⟨_, ps_raise hc tk (pmk_oex T iC tI G hr hb .nil (fun _ _ _ _ _ _ _ z => z.elim) hg hm pt hdb he hpl), fun En σ H F ρ f kd S h q => ?_⟩
  refine l σ H _ F ρ f _ S h fun ds ρ1 vs F1 H1 f1 k1 s1 r1 S1 => ?_
  obtain ⟨hl, hl2, hk⟩ := k1
  have hv : vs.length = names.length := by rw [r1.length]; exact hl
  refine ⟨by omega, fun a na => ⟨a, vs, by rw [List.append_nil], hv, upd_same, fun d H' hda hd hkeep ha hdd => ?_⟩⟩
  have hd1 : H1 d = none := by rw [upd_ne hda] at hd; exact hd
  refine ⟨rfl, d, _, ha, hdd, hd1, ?_⟩
  have s2 : Same H1 (upd (del H' a) d (.xd (names.zip vs))) := fun b o hb => by
    have n1 : b ≠ a := by rintro rfl; rw [na] at hb; cases hb
    have n2 : b ≠ d := by rintro rfl; rw [hd1] at hb; cases hb
    rw [upd_ne n2, del_ne n1, hkeep b n1 n2, upd_ne n1]
    exact hb
  refine hE C _ d vs F1 _ _ hk (S1.st.trans (Step.grow (fun _ _ h => h) s2 fun b h => .inl h : Step F1 H1 (Own f1) F1 _ (Own f1))) (S1.fh.trans s2) ?_ ?_
  · rw [zip_fst hl]
    exact upd_same
  · rw [zip_snd hl]
    exact r1
end
end Sa
end

section
namespace Sa
open PySem PySem.Spec PyProof.Rows L2
/-! ### several clauses «except x as n», which between them name all that comes -/
abbrev ClT := Value × Nat × (Addr → Value → Option Addr → TS)
def wAll (K : PySem.W.Frag) (D : Ends) : List ClT → WX
  | [] => fun _ _ _ _ => False
  | (c, i, ts) :: more => fun cls d σ H => ∃ yes, PySem.W.exmOne K cls c = some yes ∧
      (yes = true → ∀ p, H p = none → ts p cls d { nx := fun σ2 H2 => D.nx (σ2.set i none) H2, rt := D.rt, bk := fun σ2 H2 => D.bk (σ2.set i none) H2, ct := fun σ2 H2 => D.ct (σ2.set i none) H2 } (σ.set i (some (.ref p))) H) ∧
      (yes = false → wAll K D more cls d σ H)
inductive ClOk (X : Cx) : List ExceptHandler → List ClT → Prop
  | nil : ClOk X [] []
  | cons {x n : Str} {c : Value} {i : Nat} {ts : Addr → Value → Option Addr → TS} {b0 : Stmt} {bs : List Stmt} {np hp : Pos} {hds : List ExceptHandler} {cl : List ClT} (nm : Names X x c) (slot : X.N[i]? = some n) (lo : X.env.kindOf n = some .local)
      (su : ∀ (p : Addr) (ob : Obj) (cls : Value) (d : Option Addr) (pn : List (Addr × Obj)), Zc cls d ob → (∃ fs, ob.data = .fields fs) → PSs (X.suite p ((p, ob) :: pn)) (b0 :: bs) (ts p cls d)) (rest : ClOk X hds cl) :
      ClOk X (.ExceptHandler (some (.Name x np)) (some n) (b0 :: bs) hp :: hds) ((c, i, ts) :: cl)
section
variable {X : Cx} {body : List Stmt} {hd0 : ExceptHandler} {hds : List ExceptHandler} {cl : List ClT} {pos : Pos} {tb : WX → TS}
theorem ps_try_all (h1 : X.stack = X.env :: X.outer) (h2 : X.env.frame = some X.env.locals) (nd : X.N.Nodup) (hb : ∀ (W : WX) (pn : List (Addr × Obj)) (xe : Value → Shared → Prop), Takes (X.tr pn xe) W → PassesOwn (model X.prog X.w) X.A X.env xe → PSs (X.tr pn xe) body (tb W))
    (hc : ClOk X (hd0 :: hds) cl) : PS X (.Try body (hd0 :: hds) [] [] pos) (fun D σ H => tb (wAll X.K D cl) D σ H) := by
  refine ⟨fun pins s σ H D I h => wpAny_Try_except ?_⟩
  have good := I.ok
  have frm : X.A.frames = some (X.env :: X.outer) := good.frames.trans (by rw [h1])
  have run1 := hb (wAll X.K D cl) (X.pn ++ pins) (fun e t1 => wpAny (model X.prog X.w) X.A (noteFrame e X.env) (fun _ t2 => wpAny (model X.prog X.w) X.A (setFlight e none)
    (fun _ t3 => wpAny (model X.prog X.w) X.A (handleBy e X.env (hd0 :: hds)) (SP X pins D) X.xe t3) X.xe t2) X.xe t1) (fun u t0 up0 => ?_) PassesOwn.looking
  · refine wpAny_mono (run1.run [] s σ H D (I.toTry _) h) (fun fl t1 hsp => ?_) (fun _ _ z => z)
    cases fl with
    | next => exact let ⟨σ2, H2, J2, z⟩ := hsp; wpAny_execs_nil ⟨σ2, H2, J2.ofTry good, z⟩
    | brk => exact let ⟨σ2, H2, J2, z⟩ := hsp; ⟨σ2, H2, J2.ofTry good, z⟩
    | cont => exact let ⟨σ2, H2, J2, z⟩ := hsp; ⟨σ2, H2, J2.ofTry good, z⟩
    | ret u => exact let ⟨v, σ2, H2, J2, r, z⟩ := hsp; ⟨v, σ2, H2, J2.ofTry good, r, z⟩
  · obtain ⟨p, grd, sh, pins2, σ2, H2, cls, d, rfl, Jt, nb, upS, sky, np, oss, ag, wt⟩ := up0
    have Jo : Inv X pins σ2 H2 sh := Jt.ofTry good
    have sky2 : Sky grd (X.env :: X.outer) p (Zc cls d) X.env.locals t0.heap := h1 ▸ sky
    show wpAny (model X.prog X.w) X.A (noteFrame (.ref p) X.env) _ _ _
    refine Sky.land Zc.steady frm h2 sky2 fun g3 fly3 u3 => ?_
    have J3 : Inv X pins σ2 H2 { t0 with heap := g3 } := Jo.landed nb fly3.1 (upS.trans u3) oss ag
    obtain ⟨ob3, fs3, at3, z3, dat3⟩ := fly3.there
    have off : p ∉ frs (X.env :: X.outer) := fun hm => by
      obtain ⟨_, ob', at', no'⟩ := fly3.2.2.1.mem hm
      rw [at3] at at'
      cases at'
      exact no' _ dat3
    have offL : p ≠ X.env.locals := fun z => off (List.mem_filterMap.mpr ⟨X.env, List.mem_cons_self, by rw [h2, z]⟩)
    have offF : p ∉ X.fs := fun hm => by
      obtain ⟨en, he, hq⟩ := List.mem_filterMap.mp hm
      exact off (List.mem_filterMap.mpr ⟨en, List.mem_cons_of_mem _ he, hq⟩)
    have Su3 := J3.suite at3 dat3 np offL offF
    have clauses : ∀ {hs : List ExceptHandler} {cs : List ClT}, ClOk X hs cs → wAll X.K D cs cls d σ2 H2 → wpAny (model X.prog X.w) X.A (handleBy (.ref p) X.env hs) (SP X pins D) X.xe { t0 with heap := g3 } := by
      intro hs cs ok
      induction ok with
      | nil => intro w; exact w.elim
      | @cons x n c i ts b0 bs np1 hp1 hs2 cs2 nm slot lo su rest ih =>
        rintro ⟨yes, e1, onYes, onNo⟩
        refine wpAny_handleBy_cons (codeAny_handlers_test ?_) (by intro q; cases q)
        have lookT : PySem.W.Looks (model X.prog X.w) g3 (typeOf (.ref p)) cls := fun _ _ _ _ kk q => wpAny_typeOf_ref (kk _ _ at3) (by rw [z3.1]; exact q)
        have lookM := PySem.W.exm_one (M := model X.prog X.w) J3.kIn lookT e1
        have named : ∀ {R R' : Value → Shared → Prop}, R c { t0 with heap := g3 } → wpAny (model X.prog X.w) (X.A.mark (some (.ref p))) (eval (.Name x np1) X.env) R R' { t0 with heap := g3 } := fun {R R'} q => by
          obtain ⟨gl, nodbg, m | ⟨m, bv, nn⟩⟩ := nm
          · exact ld_glob (X := X.suite p ((p, ob3) :: (X.pn ++ pins))) Su3 gl m q nodbg
          · exact ld_blt (X := X.suite p ((p, ob3) :: (X.pn ++ pins))) Su3 gl m bv q nn nodbg
        refine named (lookM.here ?_)
        cases yes with
        | false =>
          show wpAny _ X.A (handleBy (.ref p) X.env hs2) _ _ _
          exact ih (onNo rfl)
        | true =>
          refine codeAny_handlers_suite_as (HandSPX.lands_againZ fly3 fun g4 fly4 u4 => ?_)
          have J4 : Inv X pins σ2 H2 { t0 with heap := g4 } := Jo.landed nb fly4.1 ((upS.trans u3).trans u4) oss ag
          obtain ⟨ob4, fs4, at4, z4, dat4⟩ := fly4.there
          have Su4 := J4.suite at4 dat4 np offL offF
          have hloc : Loc X.env.scope n := .inl lo
          refine store_ok (X := X.suite p ((p, ob4) :: (X.pn ++ pins))) (v := .ref p) Su4 nd slot hloc rfl (fun t5 Su5 => ?_) (.inr lo)
          have inner := (su p ob4 cls d (X.pn ++ pins) z4 ⟨_, dat4⟩).run [] t5 _ H2 _ Su5 (onYes rfl p np)
          refine wpAny_mono inner (fun fl t6 hsp => ?_) (fun _ _ z => False.elim z)
          have leave : ∀ {σ6 : L2.St} {H6 : Hp} {R : Shared → Prop}, Inv (X.suite p ((p, ob4) :: (X.pn ++ pins))) [] σ6 H6 t6 → (∀ t7, Inv X pins (σ6.set i none) H6 t7 → R t7) →
              wpAny (model X.prog X.w) X.A (do bindName X.env n .none; unbindBehindTheSuite X.env n hp1) (fun _ t7 => R t7) X.xe t6 := fun {σ6 H6 R} Su6 q => gone_ok (Su6.unsuite good) nd slot lo q
          cases fl with
          | next => exact let ⟨σ6, H6, Su6, q6⟩ := hsp; leave Su6 fun t7 J7 => ⟨_, _, J7, q6⟩
          | brk => exact let ⟨σ6, H6, Su6, q6⟩ := hsp; leave Su6 fun t7 J7 => ⟨_, _, J7, q6⟩
          | cont => exact let ⟨σ6, H6, Su6, q6⟩ := hsp; leave Su6 fun t7 J7 => ⟨_, _, J7, q6⟩
          | ret u => exact let ⟨v6, σ6, H6, Su6, r6, q6⟩ := hsp; leave Su6 fun t7 J7 => ⟨_, _, _, J7, r6, q6⟩
    exact clauses hc wt
end
end Sa
end

section
namespace Sa
open PySem PySem.Spec PyProof.Rows L2 LamX
/-! ### a lambda made: of all that is tracked its table alone changes -/
/-- all but what stands at P stays -/
def ExB (P : Addr) (H H' : Hp) : Prop := ∀ b o, H b = some o → b ≠ P → H' b = some o
abbrev lamQ (X : Cx) : Str := X.env.qual ++ "<lambda>"
section
variable {X : Cx} {pins : List (Addr × Obj)} {σ : L2.St} {H : Hp} {s : Shared}
theorem lam_new {c P : Addr} {params : Arguments} {body : Expr} {scope : Scope} {pos : Pos} {E Q : Value → Shared → Prop} (I : Inv X pins σ H s) (TB : TabB X.base X.mg c P) (code : X.env.code = .ref c) (tab : TabS H P (lamQ X)) (nodef : defaultsOf params X.env = ([], []))
    (fr : ∀ y ∈ scope.names, y.2 = .free → ∃ a, X.env.cells.lookup y.1 = some a)
    (fin : ∀ (f c' : Addr) (pm ctv : Value) (H1 : Hp) (s1 : Shared), Inv X pins σ H1 s1 → ExB P H H1 → TabS H1 P (lamQ X) → s1.heap.get? f = some (PySem.W.kla_obj "<lambda>" (lamQ X) params body scope (cloFrom X.env.cells scope.names []) pm c' ctv) →
      H1 f = none → f ∉ frs X.stack → H1 c' = some (CodeO c' (lamQ X)) → Q (.ref f) s1) : wpAny (model X.prog X.w) X.A (eval (.Lambda params body scope pos) X.env) Q E s := by
  obtain ⟨ps, tabP, trip, among⟩ := id tab
  have bltP : s.heap.BuiltinsAt X.mg P := TB.bm.keeps I.bk
  have rawP : s.heap.get? P = some { cls := .none, data := .fields ps } := I.hok P _ tabP
  have glob := I.mod.glob.keeps I.bk
  have high : ∀ f, s.heap.objs.size ≤ f → f ∉ frs X.stack := fun f hf z => by
    rcases List.mem_cons.mp (I.stkSub _ z) with e | e
    · have below := I.lt
      exact absurd (e ▸ below) (Nat.not_lt_of_le hf)
    · exact I.nofs hf e
  refine PySem.W.kla_eval nodef ?_
  cases known : codeAmong pos ps.toList with
  | some cv =>
    obtain ⟨c', rfl, isC⟩ := among pos cv known
    refine PySem.W.kla_makeFunctionHit (mg := X.mg) (c := c) (P := P) (ps := ps) (closure_ok fr) I.ok.glob glob code (TB.code.keeps I.bk) rawP trip known bltP fun ctv g tk keep big => ?_
    have I1 : Inv X pins σ H { s with heap := g.push (PySem.W.kla_obj "<lambda>" (lamQ X) params body scope (cloFrom X.env.cells scope.names []) ((X.mg "__name__").getD .none) c' ctv), toks := tk } := I.kept fun b o e => Heap.get?_push_of_some _ (keep b o e)
    exact fin g.objs.size c' _ ctv H _ I1 (fun _ _ e _ => e) tab (Heap.get?_push_size _ rfl) (I.hok.fresh big) (high _ big) isC
  | none =>
    refine PySem.W.kla_makeFunction (mg := X.mg) (c := c) (P := P) (ps := ps) (closure_ok fr) I.ok.glob glob code (TB.code.keeps I.bk) rawP trip known TB.gP bltP fun c' ctv g tk keep newC lt rec tabN => ?_
    obtain ⟨c2, oc, us, tt, hc2, atC, datC, nmC⟩ := rec
    cases hc2
    have big : s.heap.objs.size ≤ g.objs.size := Nat.le_trans newC (Nat.le_of_lt lt)
    have freshC : H c' = none := I.hok.fresh newC
    have cP : P ≠ c' := ne_of_none tabP freshC
    have I1 := inv_table (t' := tk) (more := #[rawInt pos.line, rawInt pos.col, .ref c']) (h' := g.push (PySem.W.kla_obj "<lambda>" (lamQ X) params body scope (cloFrom X.env.cells scope.names []) ((X.mg "__name__").getD .none) c' ctv)) I tabP
      (fun b o hb e => Heap.get?_push_of_some _ (keep b o hb e)) (Heap.get?_push_of_some _ tabN) newC ⟨oc, us, tt, Heap.get?_push_of_some _ atC, datC, nmC⟩
    have ex : ExB P H (upd (upd H P (.tbl (ps ++ #[rawInt pos.line, rawInt pos.col, .ref c']))) c' (CodeO c' (lamQ X))) := fun b o e nb => by
      rw [upd_ne (ne_of_none e freshC), upd_ne nb]
      exact e
    have asL : (ps ++ #[rawInt pos.line, rawInt pos.col, .ref c']).toList = ps.toList ++ [rawInt pos.line, rawInt pos.col, .ref c'] := by simp
    refine fin g.objs.size c' _ ctv _ _ I1 ex ⟨_, by rw [upd_ne cP, upd_same], by rw [asL]; exact PySem.TriplesOk_snoc _ _ _ _ trip, fun p2 cv hcv => ?_⟩ (Heap.get?_push_size _ rfl) ?_ (high _ big) upd_same
    · rw [asL] at hcv
      rcases among_app _ trip hcv with z | z
      · obtain ⟨c0, e1, e2⟩ := among p2 cv z
        have nP : c0 ≠ P := by
          rintro rfl
          rw [tabP] at e2
          exact codeO_ne ps (Option.some.inj e2).symm
        exact ⟨c0, e1, ex _ _ e2 nP⟩
      · exact ⟨c', z, upd_same⟩
    · have n1 : g.objs.size ≠ c' := Nat.ne_of_gt lt
      have n2 : g.objs.size ≠ P := Nat.ne_of_gt (Nat.lt_of_lt_of_le (Heap.lt_size rawP) big)
      rw [upd_ne n1, upd_ne n2]
      exact I.hok.fresh big
end
/-- what the def that gets the lambda makes of the lambda's reading -/
abbrev TTy := (XK → Hp → VK → Prop) → Hp → VK → Prop
def tLam1 (P : Addr) (q : Str) (TT : TTy) (t : XK → TE) : TE := fun σ H Q => TabS H P q ∧ ∀ H1, ExB P H H1 → TabS H1 P q → TT (fun E H2 Q2 => t E σ H2 Q2) H1 Q
section
variable {X : Cx}
/-- x(lambda: body) -/
theorem pe_lam1 {TT : TTy} {x a : Str} {g c P : Addr} {k : Nat} {pg : Arguments} {bg : List Stmt} {sg : Scope} {dV kV doc pm cdv ct oc : Value} {an od : Option Addr} {osl : Array (Option Value)} {Ng : List Str} {params : Arguments} {body : Expr} {scope : Scope} {t : XK → TE} {p lpos pos : Pos}
    (hg : Gl X x) (hm : X.mg x = some (.ref g)) (hk : PySem.W.keepIn X.K (.ref g) = true) (lk : X.K.lookup g = some ⟨oc, od, .func (PySem.W.fnOf x x pg bg sg dV kV doc pm an cdv ct), osl⟩) (hcg : PySem.W.codeIn X.K cdv x = true)
    (hb : L2.Binds X.K (PySem.W.fnOf x x pg bg sg dV kV doc pm an cdv ct) [a] []) (Sg : FnScope Ng [a] sg) (first : Ng[0]? = some a) (vis : Vis sg a) (gives : GivesTo X Ng x sg g cdv bg a (lamQ X) TT) (TB : TabB X.base X.mg c P) (code : X.env.code = .ref c) (hr : Room (k + 2) X.A)
    (L : LamS X.env.scope scope) (nodef : defaultsOf params X.env = ([], [])) (noargs : ∀ (q : Str) (cl : List (Str × Addr)) (pm cv ctv : Value), bindArgs (PySem.W.kla_fn "<lambda>" q params body scope cl pm cv ctv) ⟨[], []⟩ = pure [])
    (hbody : ∀ (A : Around) (outer : List Env) (s : Shared) (H : Hp) (E : XK) (f c' : Addr), Room k (A.deeper (lamEnv X scope s.heap.objs.size f c')) → PE (lamCx X A outer s H E scope f c') body (t E))
    (d1 : (x == ("__debug__" : Str)) = false := by decide) (d2 : (a == ("__debug__" : Str)) = false := by decide) (d3 : (a == ("__classdict__" : Str)) = false := by decide) : PE X (.Call (.Name x p) [.Lambda params body scope lpos] [] pos) (tLam1 P (lamQ X) TT t) := by
  refine ⟨fun pins s σ H Q I h => wpAny_Call_Name_kw (ld_glob I hg hm ?_ d1)⟩
  obtain ⟨tab, rest⟩ := h
  refine PySem.W.callWith_K (h₀ := X.base) I.ok.mod.kin hk ?_ (by rfl) (by rfl)
  show wpAny _ _ (spliced ((false, eval (.Lambda params body scope lpos) X.env) :: backTo pos (starEach [] X.env))) _ _ s
  refine Calls.spliced_cons (lam_new I TB code tab nodef (L.has I.ok) fun f c' pm2 ctv H1 s1 I1 ex tab1 atF nF offF isC => Calls.spliced_nil ⟨I1.kIn, ?_⟩)
  have body1 : codeAny (model X.prog X.w) X.A (.call (.ref g) ⟨[.ref f], []⟩) (CR C8.CX0 X.stack X.prog X.w H1 s1 Q C8.E0) s1 := by
    refine run_ofS (N := Ng) (ps := [a]) (us := [.ref f]) (vs := [.ref f]) lk hcg Sg hr I1.env0 (hb s1 [.ref f] I1.kIn rfl) (.cons rfl .nil) rfl fun room => ?_
    obtain ⟨t2, pt2, done⟩ := gives f c' s1 H1 Q (fun E H2 Q2 => t E σ H2 Q2)
      (fun W pn xe E p1 p2 tk hW => pe_act (i := 0) I1 L atF nF offF (noargs _ _ _ _ _) tk hW room (fun A outer s H r2 => hbody A outer s H E f c' r2) first vis d2 d3) isC (rest H1 ex tab1)
    exact ⟨t2, pt2.nox, done⟩
  refine wpAny_call (codeAny_mono body1 fun r s2 hq => ?_)
  cases r with
  | error e => exact (show False from hq).elim
  | ok fl =>
    cases fl with
    | ret u => exact I1.after hq
    | next => exact False.elim hq
    | brk => exact False.elim hq
    | cont => exact False.elim hq
end
end Sa
end

section
namespace Sa
open PySem PySem.Spec PyProof.Rows L2 LamX
/-! ### a field of the exception that a clause holds -/
structure FldC (K : PySem.W.Frag) (C : Addr) (f : Str) : Prop where
  ga : PySem.W.findIn K (.ref C) "__getattribute__" = some (some (.builtin "BaseException.__getattribute__"))
  gg : PySem.W.findIn K (.ref C) "__getattr__" = some none
  exC : PySem.W.subIn K (.ref C) (.type "BaseException") = some true
  hdC : PySem.W.hasDictIn K C = true
  noF : PySem.W.findIn K (.ref C) f = some none
def tFld (C a : Addr) (cls : Value) (d : Option Addr) (f : Str) (te : TE) : TE := fun σ H Q => te σ H fun x H1 => x = .ref a ∧ cls = .ref C ∧ ∃ (dd : Addr) (fs : List (Str × V)) (v : V), d = some dd ∧ H1 dd = some (.xd fs) ∧ fs.lookup f = some v ∧ Q v H1
section
variable {X : Cx} {C : Addr}
theorem pe_fld {f : Str} {a : Addr} {oe : Obj} {cls : Value} {d : Option Addr} {pn : List (Addr × Obj)} {e : Expr} {te : TE} {pos : Pos} (T : FldC X.K C f) (hz : Zc cls d oe) (hf : ∃ vs, oe.data = .fields vs) (he : PE (X.suite a ((a, oe) :: pn)) e te)
    (hb : attributeBase e f X.env (eval e X.env) = eval e X.env := by rfl) : PE (X.suite a ((a, oe) :: pn)) (.Attribute e f pos) (tFld C a cls d f te) := by
  refine ⟨fun pins s σ H Q I h => ?_⟩
  refine attr_of hb (thn (he.run pins s σ H _ I h) fun u s1 hh => ?_)
  obtain ⟨x, H1, I1, rx, ex, ec, dd, fs, v, ed, ea, lk, q⟩ := hh
  subst ex
  obtain rfl : u = Value.ref a := rx
  subst ec
  subst ed
  obtain ⟨ha, _⟩ := I1.pin (a, oe) (List.mem_append_left _ List.mem_cons_self)
  obtain ⟨vs, hd⟩ := hf
  have hx : ObjOk X.prog X.w H1 s1.heap dd (.xd fs) := I1.hok dd _ ea
  obtain ⟨mA, hns, hr⟩ := hx
  obtain ⟨od, ho, hl⟩ := lookIn_ns hns
  obtain ⟨u, hu, ru⟩ := RelO.some_of (v := v) (o := mA f) (by rw [← lk]; exact hr f)
  have J : PySem.W.InstAt s1.heap a oe C (some od) := ⟨ha, hz.1, by unfold PySem.W.notCls; rw [hd] <;> rfl, by rw [hz.2]; exact ho⟩
  exact HandSPX.exc_get I1.kIn J T.ga T.gg T.exC (PySem.W.findObj_own T.hdC T.noF rfl (by rw [hl, hu])) (handed_of ru) ⟨v, H1, I1.tok _, ru, q⟩
/-- a name, its slots as many as there are names -/
def tLenV (n i : Nat) : TE := fun σ H Q => σ.length = n → tVar i σ H Q
theorem pe_len {e : Expr} {i : Nat} (h : PE X e (tVar i)) : PE X e (tLenV X.N.length i) := ⟨fun pins s σ H Q I hq => h.run pins s σ H Q I (hq I.len)⟩
end
/-! ### try: return (tag, a()) / except C as e: return (tag, e.f) / .. -/
abbrev Hs := List (Addr × Str × Str)
def clOf (n i : Nat) : Hs → List ClT
  | [] => []
  | (C, tag, f) :: r => (.ref C, i, fun p cls d => tRet (tTup (tCons (tC (.str tag)) (tCons (tFld C p cls d f (tLenV n i)) tNil)))) :: clOf n i r
/-- the clause that an exception of the class at C comes to -/
def Hit (K : PySem.W.Frag) (C : Addr) : Hs → Str → Str → Prop
  | [], _, _ => False
  | (C', t', f') :: r, tag, f => (C' = C ∧ t' = tag ∧ f' = f ∧ PySem.W.exmOne K (.ref C) (.ref C') = some true) ∨ (PySem.W.exmOne K (.ref C) (.ref C') = some false ∧ Hit K C r tag f)
theorem wAll_hit {K : PySem.W.Frag} {C dd : Addr} {tag f : Str} {fs : List (Str × V)} {v : V} {n i : Nat} {H : Hp} {Q : VK} {σ : L2.St} (hi : i < n) (hd : H dd = some (.xd fs)) (lk : fs.lookup f = some v) (q : ∀ r, H r = none → Q (.ref r) (upd H r (.tup [.str tag, v]))) :
    ∀ {hs : Hs}, Hit K C hs tag f → wAll K { nx := fun _ H' => Q .non H', rt := Q } (clOf n i hs) (.ref C) (some dd) σ H
  | [], h => h.elim
  | (C', t', f') :: r, h => by
    rcases h with ⟨rfl, rfl, rfl, e⟩ | ⟨e, h⟩
    · refine ⟨true, e, fun _ p np => ?_, fun z => Bool.noConfusion z⟩
      show tTup _ (σ.set i (some (.ref p))) H Q
      refine fun hl => ?_
      have hl : (σ.set i (some (V.ref p))).length = n := hl
      refine ⟨.ref p, List.getElem?_set_self (by rw [List.length_set] at hl; omega), rfl, rfl, dd, fs, v, rfl, hd, lk, by show 2 ≤ sizeLine; decide, fun r nr => q r nr⟩
    · exact ⟨false, e, fun z => Bool.noConfusion z, fun _ => wAll_hit hi hd lk q h⟩
def TMet (K : PySem.W.Frag) (n i : Nat) (hs : Hs) (tag : Str) : TTy := fun tl H Q => tl (fun cls d H' => ∀ σ', wAll K { nx := fun _ H' => Q .non H', rt := Q } (clOf n i hs) cls d σ' H') H (fun v H1 => ([V.str tag, v] : List V).length ≤ sizeLine ∧ ∀ r, H1 r = none → Q (.ref r) (upd H1 r (.tup [.str tag, v])))
section
variable {X : Cx}
theorem met_gives {Ng : List Str} {x a q tag : Str} {sg : Scope} {g : Addr} {cdg : Value} {i j kk : Nat} {hs : Hs} {hd0 : ExceptHandler} {hds : List ExceptHandler} {p0 p1 p2 p3 p4 p8 : Pos} (nd : Ng.Nodup) (h0 : ∀ f : Addr, (L2.start Ng [V.ref f])[0]? = some (some (V.ref f)))
    (cl : ∀ (s : Shared) (H : Hp), ClOk (cxOf C8.CX0 X.prog X.w X.K X.mg X.base Ng x sg g cdg X.A X.stack s H C8.E0).nox (hd0 :: hds) (clOf Ng.length i hs)) :
    GivesTo X Ng x sg g cdg [.Try [.Return (some (.Tuple [.Constant (.str tag) j p0, .Call (.Name a p1) [] [] p2] kk p3)) p4] (hd0 :: hds) [] [] p8] a q (TMet X.K Ng.length i hs tag) := by
  intro f c' s H Q tl act hc h
  refine ⟨_, pss_one (ps_try_all (X := (cxOf C8.CX0 X.prog X.w X.K X.mg X.base Ng x sg g cdg X.A X.stack s H C8.E0).nox)
      (tb := fun W D σ H => ∃ Ech : XK, (∀ cls d σ' H', Ech cls d H' → W cls d σ' H') ∧ σ[0]? = some (some (.ref f)) ∧ H c' = some (CodeO c' q) ∧ tl Ech H fun v H1 => ([V.str tag, v] : List V).length ≤ sizeLine ∧ ∀ r, H1 r = none → D.rt (.ref r) (upd H1 r (.tup [.str tag, v])))
      rfl rfl nd (fun W pn xe tk _ => ?_) (cl s H)), ?_⟩
  · refine ⟨fun pins s' σ H' D I h' => ?_⟩
    obtain ⟨Ech, hW, h1, h2, h3⟩ := h'
    have hp := act W pn xe Ech p1 p2 tk hW
    have ht := pss_one (ps_ret (pos := p4) (pe_tup (x1 := kk) (pos := p3) (pa_cons (pe_str (x := tag) (j := j) (pos := p0)) (pa_cons hp pa_nil (by rfl)) (by rfl))))
    exact ht.run pins s' σ H' D I ⟨h1, h2, h3⟩
  · exact ⟨_, fun cls d σ' H' h => h σ', h0 f, hc, h⟩
end
/-! ### by data -/
def frO1 : Option DS → Option DS
  | some (.fr d) => some (.fr d)
  | _ => none
/-- the frozen slots alone -/
def frO (ρ : Sl) : Sl := ρ.map frO1
section
variable {K : PySem.W.Frag} {B : Bs} {F H H1 : Hp} {σ : L2.St} {ρ : Sl} {f : Nat → List Addr}
theorem sat_frO (S : Sat K B F H σ ρ f) : Sat K ⟨F, H, fun _ => False⟩ F H σ (frO ρ) (fun _ => []) := by
  refine ⟨by simp [frO, S.len], fun i d e => ?_, fun _ _ => rfl, fun i j a h _ => (by cases h), fun i a h => (by cases h), S.fh, Step.refl.sub fun b hb => (own_nil hb).elim⟩
  unfold frO at e
  rw [List.getElem?_map] at e
  cases h : ρ[i]? with
  | none => rw [h] at e; cases e
  | some o =>
    rw [h] at e
    match o, e with
    | some (.fr x), e =>
      cases e
      obtain ⟨v, e1, o⟩ := S.at_ i _ h
      exact ⟨v, e1, rfl, o.2⟩
    | some (.ol _), e => cases e
    | some (.sm _ _ _ _), e => cases e
    | some (.ow _ _), e => cases e
    | some (.rl _), e => cases e
    | none, e => cases e
theorem Sat.tab {j : Nat} {a b P : Addr} {n : Nat} {q : Str} (S : Sat K B F H σ ρ f) (e : ρ[j]? = some (some (.sm a b n (some (P, q))))) (ex : ExB P H H1) (t : TabS H1 P q) : Sat K B F H1 σ ρ f ∧ Step F H (Own f) F H1 (Own f) := by
  obtain ⟨v, ev, h1, h2, h3, h4⟩ := S.at_ j _ e
  have inP : P ∈ f j := by rw [h2]; simp [tabA]
  have FP : F P = none := S.fz j P inP
  obtain ⟨ps, hP, _⟩ := id h4
  have kx : Kx H H1 := fun c z h => ex c _ h (by rintro rfl; rw [hP] at h; cases h)
  have st : Step F H (Own f) F H1 (Own f) := ⟨fun _ _ h => h, fun c o h no => ex c o h fun z => no (z ▸ ⟨j, inP⟩), fun c h => .inl h, fun c h => .inl h⟩
  refine ⟨⟨S.len, fun i d hi => ?_, S.em, S.dj, S.fz, ⟨fun c o h => ex c o (S.fh.s c o h) (by rintro rfl; rw [FP] at h; cases h), S.fh.nt⟩, S.st.trans st⟩, st⟩
  obtain ⟨u, eu, o⟩ := S.at_ i d hi
  by_cases z : i = j
  · subst z
    rw [e] at hi
    cases hi
    obtain ⟨g1, g2, g3, _⟩ := o
    refine ⟨u, eu, g1, g2, ?_, t⟩
    obtain ⟨ne, cells, g, c, m, q1, q2, r⟩ := g3
    exact ⟨ne, cells, g, c, m, ex _ _ q1 (by rintro rfl; rw [hP] at q1; cases q1), ex _ _ q2 (by rintro rfl; rw [hP] at q2; cases q2), r⟩
  · exact ⟨u, eu, o.keep (fun _ _ h => h) (fun c hc o ho => ex c o ho (by rintro rfl; exact z (S.dj i j c hc inP))) kx⟩
theorem lookup_rep {g : Str} {d : D} : ∀ {fs : List (Str × D)} {us : List V}, RepL K F (fs.map (·.2)) us → fs.lookup g = some d → ∃ v, ((fs.map (·.1)).zip us).lookup g = some v ∧ Rep K F d v
  | [], _, _, h => by simp at h
  | (n, x) :: fs, us, r, h => by
    rw [List.map_cons, RepL] at r
    obtain ⟨v, r2, rfl, h1, h2⟩ := r
    rw [List.lookup_cons] at h
    rw [List.map_cons, List.zip_cons_cons, List.lookup_cons]
    cases hb : (g == n) with
    | true =>
      rw [hb] at h
      cases h
      exact ⟨v, rfl, h1⟩
    | false =>
      rw [hb] at h
      exact lookup_rep h2 h
end
/-- met(lambda: body): what comes of it, as data; the stream with the table stands in slot j -/
def dMet (K : PySem.W.Frag) (j : Nat) (P : Addr) (q : Str) (hs : Hs) (tag : Str) (db : ExD → DF) : DF := fun ρ k => (∃ a b n, ρ[j]? = some (some (.sm a b n (some (P, q))))) ∧
  db (fun C fs => ∃ tg g d, Hit K C hs tg g ∧ fs.lookup g = some d ∧ k (.tup [.str tg, d]) ρ) (frO ρ) (fun y _ => k (.tup [.str tag, y]) ρ)
section
variable {X : Cx} {B : Bs}
def tLift (K : PySem.W.Frag) (db : ExD → DF) (E : XK) : TE := fun σ H Q => ∃ (B' : Bs) (kx : ExD), ExOk K B' kx E ∧ liftF K B' (db kx) σ H Q
theorem lf_met {K : PySem.W.Frag} {j n i : Nat} {P : Addr} {q : Str} {hs : Hs} {tag : Str} {db : ExD → DF} (hi : i < n) : LF K B (tLam1 P q (TMet K n i hs tag) (tLift K db)) (dMet K j P q hs tag db) := by
  intro σ H Q F ρ f k S h qq
  obtain ⟨⟨a, b, m, e⟩, h⟩ := h
  obtain ⟨v, ev, h1, h2, h3, h4⟩ := S.at_ j _ e
  refine ⟨h4, fun H1 ex tab1 => ?_⟩
  obtain ⟨S1, s1⟩ := S.tab e ex tab1
  refine ⟨⟨F, H1, fun _ => False⟩, _, ?_, F, frO ρ, fun _ => [], _, sat_frO S1, h, ?_⟩
  · intro C fs dd us F' H' P' hk bst fh hd hr σ'
    obtain ⟨tg, g, d, hit, lk, hk⟩ := hk
    obtain ⟨u, lu, ru⟩ := lookup_rep hr lk
    refine wAll_hit hi hd lu (fun r nr => ?_) hit
    obtain ⟨c1, c2, c3, c4⟩ := frz_new (o := .tup [V.str tg, u]) fh nr
    have ff : Same F (upd F' r (.tup [V.str tg, u])) := fun x o hx => c1 x o (bst.ff x o hx)
    have hh : Same H1 (upd H' r (.tup [V.str tg, u])) := fun x o hx => c3 x o (bst.hh x o hx (fun z => z))
    have nf : ∀ x, upd F' r (.tup [V.str tg, u]) x ≠ none → F x ≠ none ∨ H1 x = none := fun x hx => by
      rcases c4 x hx with z | z
      · exact (bst.nf x z).imp id fun y => y.resolve_left (fun w => w)
      · cases hb : H1 x with
        | none => exact .inr rfl
        | some o => rw [bst.hh x o hb (fun z => z)] at z; cases z
    exact qq _ ρ _ _ _ f hk (s1.trans (Step.grow ff hh nf)) (rep_tup.mpr ⟨r, _, rfl, SqT.of upd_same, repL_cons (rep_str.mpr rfl) (repL_one (ru.mono c1))⟩) (S1.grow ff c2 hh nf)
  · intro y ρ' u F' H' f' hk st ru S'
    refine ⟨by show 2 ≤ sizeLine; decide, fun r nr => ?_⟩
    obtain ⟨c1, c2, c3, c4⟩ := frz_new (o := .tup [V.str tag, u]) S'.fh nr
    have ff : Same F (upd F' r (.tup [V.str tag, u])) := fun x o hx => c1 x o (st.ff x o hx)
    have hh : Same H1 (upd H' r (.tup [V.str tag, u])) := fun x o hx => c3 x o (st.hh x o hx own_nil)
    have nf : ∀ x, upd F' r (.tup [V.str tag, u]) x ≠ none → F x ≠ none ∨ H1 x = none := fun x hx => by
      rcases c4 x hx with z | z
      · exact (st.nf x z).imp id fun y => y.resolve_left own_nil
      · cases hb : H1 x with
        | none => exact .inr rfl
        | some o => rw [st.hh x o hb own_nil] at z; cases z
    exact qq _ ρ _ _ _ f hk (s1.trans (Step.grow ff hh nf)) (rep_tup.mpr ⟨r, _, rfl, SqT.of upd_same, repL_cons (rep_str.mpr rfl) (repL_one (ru.mono c1))⟩) (S1.grow ff c2 hh nf)
theorem pf_met {x a : Str} {g c P : Addr} {k i j n : Nat} {hs : Hs} {tag : Str} {db : ExD → DF} {pg : Arguments} {bg : List Stmt} {sg : Scope} {dV kV doc pm cdv ct oc : Value} {an od : Option Addr} {osl : Array (Option Value)} {Ng : List Str} {params : Arguments} {body : Expr} {scope : Scope} {p lpos pos : Pos}
    (hi : i < n) (hg : Gl X x) (hm : X.mg x = some (.ref g)) (hk : PySem.W.keepIn X.K (.ref g) = true) (lk : X.K.lookup g = some ⟨oc, od, .func (PySem.W.fnOf x x pg bg sg dV kV doc pm an cdv ct), osl⟩) (hcg : PySem.W.codeIn X.K cdv x = true)
    (hb : L2.Binds X.K (PySem.W.fnOf x x pg bg sg dV kV doc pm an cdv ct) [a] []) (Sg : FnScope Ng [a] sg) (first : Ng[0]? = some a) (vis : Vis sg a) (gives : GivesTo X Ng x sg g cdv bg a (lamQ X) (TMet X.K n i hs tag)) (TB : TabB X.base X.mg c P) (code : X.env.code = .ref c) (hr : Room (k + 2) X.A)
    (L : LamS X.env.scope scope) (nodef : defaultsOf params X.env = ([], [])) (noargs : ∀ (q : Str) (cl : List (Str × Addr)) (pm cv ctv : Value), bindArgs (PySem.W.kla_fn "<lambda>" q params body scope cl pm cv ctv) ⟨[], []⟩ = pure [])
    (hbody : ∀ (A : Around) (outer : List Env) (s : Shared) (H : Hp) (E : XK) (f c' : Addr) (B' : Bs) (kx : ExD), Room k (A.deeper (lamEnv X scope s.heap.objs.size f c')) → ExOk X.K B' kx E → PF (lamCx X A outer s H E scope f c') B' body (db kx))
    (d1 : (x == ("__debug__" : Str)) = false := by decide) (d2 : (a == ("__debug__" : Str)) = false := by decide) (d3 : (a == ("__classdict__" : Str)) = false := by decide) : PF X B (.Call (.Name x p) [.Lambda params body scope lpos] [] pos) (dMet X.K j P (lamQ X) hs tag db) := by
  refine ⟨_, pe_lam1 (t := tLift X.K db) hg hm hk lk hcg hb Sg first vis gives TB code hr L nodef noargs (fun A outer s H E f c' room => ⟨fun pins s2 σ H2 Q I h => ?_⟩) d1 d2 d3, lf_met hi⟩
  obtain ⟨B', kx, hE, h⟩ := h
  exact (hbody A outer s H E f c' B' kx room hE).pe.run pins s2 σ H2 Q I h
end
end Sa
end

section
namespace Sa
open PySem PySem.Spec PyProof.Rows L2
/-! ### calls by names alone: f(k = v, ..), in the order of the parameters -/
section
variable {X : Cx} {B : Bs} {CX : CXT} {k : Nat} {f : Addr} {fd : FuncData} {ps ks : List Str} {sp : Sp} {E : XK} {x : Str} {p pos kpos : Pos} {e : Expr} {nm : Option Str} {kws : List Keyword} {tk : TA} {g : List Value → List Value → List Value} {gV : List V → List V → List V}
def tKw0 (m : Nat) (sp : Sp) (gV : List V → List V → List V) (E : XK) (tk : TA) : TE := fun σ H Q => tk σ H fun zs H2 => zs.length = m ∧ sp (gV [] zs) H2 Q E
theorem pe_kw0 (F : FnOk X.prog X.w X.K X.mg X.base CX k f fd ps sp) (hr : Room k X.A) (hg : Gl X x) (hm : X.mg x = some (.ref f)) (hk : PySem.W.keepIn X.K (.ref f) = true) (hb : KBn X.K fd ps 0 ks g gV) (hx : Passes CX X E) (kw : PK X kws tk)
    (named : (backToKw pos (keywordEach kws X.env)).all (·.1.isSome) = true := by rfl) (names : (backToKw pos (keywordEach kws X.env)).filterMap (·.1) = ks := by rfl) (nd : (x == ("__debug__" : Str)) = false := by decide)
    (plain : ((backTo pos (starEach [] X.env)).any (·.1) || (backToKw pos (keywordEach kws X.env)).any (·.1.isNone)) = false := by rfl) : PE X (.Call (.Name x p) [] kws pos) (tKw0 ks.length sp gV E tk) := by
  refine ⟨fun pins s σ H Q I h => wpAny_Call_Name_kw (ld_glob I hg hm (PySem.W.callWith_KW0 (h₀ := X.base) I.ok.mod.kin hk named ?_ plain) nd)⟩
  refine thn (kw.run pos pins s σ H _ I h) fun ws s2 ⟨zs, H2, I2, rz, len, q2⟩ => ⟨I2.kIn, ?_⟩
  rw [names]
  exact run_fnN (us := []) (vs := []) F hr hb hx I2 .nil rz rfl len q2
structure PKd (X : Cx) (B : Bs) (kws : List Keyword) (d : DA) : Prop where
  ex : ∃ t, PK X kws t ∧ LA X.K B t d
theorem pkd_nil : PKd X B [] dNil := ⟨_, pk_nil, fun σ H Q F ρ f k S h q => q [] ρ [] F H f h Step.refl repL_nil S⟩
theorem pkd_cons {da : DF} {dr : DA} (ha : PF X B e da) (hr : PKd X B kws dr) : PKd X B (⟨nm, e, kpos⟩ :: kws) (dCons da dr) := by
  obtain ⟨ta, pa, la⟩ := ha
  obtain ⟨tr, pr, lr⟩ := hr
  refine ⟨_, pk_cons pa pr, fun σ H Q F ρ f k S h q => ?_⟩
  refine la σ H _ F ρ f _ S h fun x ρ1 v F1 H1 f1 k1 s1 r1 S1 => ?_
  refine lr σ H1 _ F1 ρ1 f1 _ S1 k1 fun xs ρ2 vs F2 H2 f2 k2 s2 r2 S2 => ?_
  exact q (x :: xs) ρ2 (v :: vs) F2 H2 f2 k2 (s1.trans s2) (repL_cons (r1.mono s2.ff) r2) S2
def dCallXk (m : Nat) (Φ : PhiX) (kx : ExD) (da : DA) : DF := fun ρ k => da ρ fun ds ρ1 => ds.length = m ∧ Φ ds (fun x => ∃ d, frz x = some d ∧ k d ρ1) kx
theorem pf_callXk {Φ : PhiX} {kx : ExD} {da : DA} (G : FnOk X.prog X.w X.K X.mg X.base (L2.CX X.prog X.w) k f fd ps (SpFX X.K Φ)) (tkk : Takes X (fun cls d _ H => E cls d H)) (hE : ExOk X.K B kx E) (hr : Room k X.A) (hg : Gl X x) (hm : X.mg x = some (.ref f)) (hk : PySem.W.keepIn X.K (.ref f) = true)
    (hb : KBn X.K fd ps 0 ks (fun _ ws => ws) (fun _ zs => zs)) (ha : PKd X B kws da)
    (named : (backToKw pos (keywordEach kws X.env)).all (·.1.isSome) = true := by rfl) (names : (backToKw pos (keywordEach kws X.env)).filterMap (·.1) = ks := by rfl) (nd : (x == ("__debug__" : Str)) = false := by decide)
    (plain : ((backTo pos (starEach [] X.env)).any (·.1) || (backToKw pos (keywordEach kws X.env)).any (·.1.isNone)) = false := by rfl) : PF X B (.Call (.Name x p) [] kws pos) (dCallXk ks.length Φ kx da) := by
  obtain ⟨t, pt, l⟩ := ha
  refine ⟨_, pe_kw0 G hr hg hm hk hb (passes_call tkk fun _ _ _ _ h => h) pt named names nd plain, fun σ H Q F ρ f k S h q => ?_⟩
  refine l σ H _ F ρ f _ S h fun ds ρ1 vs F1 H1 f1 k1 s1 r1 S1 => ?_
  obtain ⟨hl, k1⟩ := k1
  refine ⟨by rw [r1.length]; exact hl, F1, ds, _, kx, S1.fh, r1, k1, fun x v F' H' fv hk c1 c2 c3 c4 o c5 => ?_, fun C fs dd us F' H' hk c1 c2 c3 c4 hd hr => hE C fs dd us F' H' _ hk (S1.st.trans (Step.grow c1 c3 c4 : Step F1 H1 (Own f1) F' H' (Own f1))) c2 hd hr⟩
  obtain ⟨d, e, hk⟩ := hk
  obtain ⟨F2, e1, e2, e3, e4⟩ := frz_rep (H0 := H1) o e c2 c5
  have nf : ∀ b, F2 b ≠ none → F1 b ≠ none ∨ H1 b = none := fun b h => (e3 b h).elim (fun z => c4 b z) .inr
  exact q d ρ1 v F2 H' f1 hk (s1.trans (Step.grow (c1.trans e1) c3 nf)) e4 (S1.grow (c1.trans e1) e2 c3 nf)
end
/-- one parameter, by name -/
theorem kbn1 {K : PySem.W.Frag} {x qual : Str} {st : Stmt} {f : Addr} {fd : FuncData} {a : Str} (Fu : Fun K x qual st f fd) (h : ∀ (oc : Value) (od : Option Addr) (kV doc pm : Value) (an : Option Addr) (cdv ct v : Value), bindArgs (PySem.W.fnOf x qual (defArgs st) (defBody st) (defScope st) .none kV doc pm an cdv ct) ⟨[], [(a, v)]⟩ = pure [(a, v)]) :
    KBn K fd [a] 0 [a] (fun _ ws => ws) (fun _ zs => zs) := by
  obtain ⟨oc, od, kV, doc, pm, an, cdv, ct, osl, rfl, lk, hcd⟩ := Fu.ex
  refine ⟨fun s us ws X l1 l2 => ?_, fun _ r => r⟩
  match us, ws, l1, l2 with
  | [], [v], _, _ => exact .of_eq (h oc od kV doc pm an cdv ct v)
end Sa
end

section
namespace Sa
open PySem PySem.Spec PyProof.Rows L2 LamX
/-! ### the finite part of a heap that a datum needs -/
def cutF (F : Hp) (as : List Addr) : Hp := fun b => if b ∈ as then F b else none
def okO : HO → Prop
  | .ext _ => False
  | .tbl _ => False
  | _ => True
section
variable {K : PySem.W.Frag} {F : Hp}
theorem cutF_sub {as bs : List Addr} (h : ∀ a ∈ as, a ∈ bs) : Same (cutF F as) (cutF F bs) := fun b o e => by
  unfold cutF at e ⊢
  by_cases z : b ∈ as
  · rw [if_pos z] at e; rw [if_pos (h b z)]; exact e
  · rw [if_neg z] at e; cases e
theorem cutF_at {as : List Addr} {a : Addr} {o : HO} (h : a ∈ as) (e : F a = some o) : cutF F as a = some o := by
  unfold cutF; rw [if_pos h]; exact e
abbrev Fins (F : Hp) (as : List Addr) : Prop := ∀ a ∈ as, ∃ o, F a = some o ∧ okO o
theorem fins_nil : Fins F [] := fun a ha => by cases ha
theorem Fins.app {as bs : List Addr} (h : Fins F as) (g : Fins F bs) : Fins F (as ++ bs) := fun a ha => (List.mem_append.mp ha).elim (h a) (g a)
theorem Fins.cons {a : Addr} {as : List Addr} {o : HO} (e : F a = some o) (ok : okO o) (h : Fins F as) : Fins F (a :: as) := fun b hb => by
  rcases List.mem_cons.mp hb with z | z
  · rw [z]; exact ⟨o, e, ok⟩
  · exact h b z
theorem rd_fin {a : Addr} {u : HO} (ok : okO u) (h : Rd F a u) : ∃ o, F a = some o ∧ okO o := by
  rcases h with h | ⟨o, h⟩
  · exact ⟨_, h, ok⟩
  · exact ⟨_, h, trivial⟩
theorem rd_cut {a : Addr} {as : List Addr} {u : HO} (ha : a ∈ as) (h : Rd F a u) : Rd (cutF F as) a u := by
  rcases h with h | ⟨o, h⟩
  · exact .inl (cutF_at ha h)
  · exact .inr ⟨o, cutF_at ha h⟩
mutual
theorem Rep.fin : ∀ {d : D} {v : V}, Rep K F d v → ∃ as, Fins F as ∧ Rep K (cutF F as) d v
  | .non, v, h => ⟨[], fins_nil, by rw [rep_non] at h ⊢; exact h⟩
  | .bl _, v, h => ⟨[], fins_nil, by rw [rep_bl] at h ⊢; exact h⟩
  | .int _, v, h => ⟨[], fins_nil, by rw [rep_int] at h ⊢; exact h⟩
  | .str _, v, h => ⟨[], fins_nil, by rw [rep_str] at h ⊢; exact h⟩
  | .ob _, v, h => ⟨[], fins_nil, by rw [rep_ob] at h ⊢; exact h⟩
  | .lst ds, v, h => by
    obtain ⟨a, vs, h1, h2, h3⟩ := rep_lst.mp h
    obtain ⟨as, g1, g2⟩ := RepL.fin h3
    exact ⟨a :: as, g1.cons h2 trivial, rep_lst.mpr ⟨a, vs, h1, cutF_at (by simp) h2, g2.mono (cutF_sub fun b hb => by simp [hb])⟩⟩
  | .la a ds, v, h => by
    obtain ⟨h1, vs, h2, h3⟩ := rep_la.mp h
    obtain ⟨as, g1, g2⟩ := RepL.fin h3
    exact ⟨a :: as, g1.cons h2 trivial, rep_la.mpr ⟨h1, vs, cutF_at (by simp) h2, g2.mono (cutF_sub fun b hb => by simp [hb])⟩⟩
  | .tup ds, v, h => by
    obtain ⟨a, vs, h1, h2, h3⟩ := rep_tup.mp h
    obtain ⟨as, g1, g2⟩ := RepL.fin h3
    rcases h2 with h2 | h2
    · obtain ⟨o, e, ok⟩ := rd_fin (u := .tup vs) trivial h2
      exact ⟨a :: as, g1.cons e ok, rep_tup.mpr ⟨a, vs, h1, .inl (rd_cut (by simp) h2), g2.mono (cutF_sub fun b hb => by simp [hb])⟩⟩
    · exact ⟨as, g1, rep_tup.mpr ⟨a, vs, h1, .inr h2, g2⟩⟩
  | .dic ds, v, h => by
    rw [Rep] at h
    obtain ⟨a, vs, h1, h2, h3⟩ := h
    obtain ⟨as, g1, g2⟩ := RepK.fin h3
    refine ⟨a :: as, g1.cons h2 trivial, ?_⟩
    rw [Rep]
    exact ⟨a, vs, h1, cutF_at (by simp) h2, g2.mono (cutF_sub fun b hb => by simp [hb])⟩
theorem RepL.fin : ∀ {ds : List D} {vs : List V}, RepL K F ds vs → ∃ as, Fins F as ∧ RepL K (cutF F as) ds vs
  | [], vs, h => ⟨[], fins_nil, by unfold RepL at h ⊢; exact h⟩
  | d :: ds, vs, h => by
    unfold RepL at h
    obtain ⟨v, r, rfl, h1, h2⟩ := h
    obtain ⟨as, g1, g2⟩ := Rep.fin h1
    obtain ⟨bs, g3, g4⟩ := RepL.fin h2
    exact ⟨as ++ bs, g1.app g3, repL_cons (g2.mono (cutF_sub fun b hb => by simp [hb])) (g4.mono (cutF_sub fun b hb => by simp [hb]))⟩
theorem RepK.fin : ∀ {ds : List (Key × D)} {vs : List (Key × V)}, RepK K F ds vs → ∃ as, Fins F as ∧ RepK K (cutF F as) ds vs
  | [], vs, h => ⟨[], fins_nil, by unfold RepK at h ⊢; exact h⟩
  | (k, d) :: ds, vs, h => by
    unfold RepK at h
    obtain ⟨v, r, rfl, h1, h2⟩ := h
    obtain ⟨as, g1, g2⟩ := Rep.fin h1
    obtain ⟨bs, g3, g4⟩ := RepK.fin h2
    refine ⟨as ++ bs, g1.app g3, ?_⟩
    unfold RepK
    exact ⟨v, r, rfl, g2.mono (cutF_sub fun b hb => by simp [hb]), g4.mono (cutF_sub fun b hb => by simp [hb])⟩
end
end
/-! ### a slot gets a thing with its places; a slot's own thing changes -/
section
variable {K : PySem.W.Frag} {B : Bs} {F H H' : Hp} {σ : L2.St} {ρ : Sl} {f : Nat → List Addr}
theorem Sat.setG {i : Nat} {x : DS} {v : V} {fp : List Addr} (S : Sat K B F H σ ρ f) (hi : i < ρ.length) (o : OwnS K F H x v fp) (ap : ∀ a ∈ fp, ¬ Own f a ∧ F a = none) (st : Step B.F B.H B.P F H (fun b => b ∈ fp ∨ Own f b)) :
    Sat K B F H (σ.set i (some v)) (ρ.set i (some x)) (fun j => if j = i then fp else f j) := by
  refine ⟨by simp [S.len], fun j e h => ?_, fun j h => ?_, fun j k b hb hc => ?_, fun j b hb => ?_, S.fh, st.sub fun b hb => own_if hb⟩
  · by_cases z : j = i
    · subst z
      rw [List.getElem?_set_self hi] at h
      cases h
      exact ⟨v, by rw [List.getElem?_set_self (by rw [S.len]; exact hi)], by simpa using o⟩
    · rw [List.getElem?_set_ne (Ne.symm z)] at h
      obtain ⟨u, e1, q⟩ := S.at_ j e h
      refine ⟨u, by rw [List.getElem?_set_ne (Ne.symm z)]; exact e1, ?_⟩
      simp only [z, if_false]
      exact q
  · by_cases z : j = i
    · subst z
      exact absurd (List.getElem?_set_self hi) (h x)
    · simp only [z, if_false]
      refine S.em j fun d e => h d ?_
      rw [List.getElem?_set_ne (Ne.symm z)]
      exact e
  · by_cases z : j = i
    · by_cases y : k = i
      · exact z.trans y.symm
      · simp only [z, y, if_true, if_false] at hb hc
        exact absurd ⟨k, hc⟩ (ap b hb).1
    · by_cases y : k = i
      · simp only [z, y, if_true, if_false] at hb hc
        exact absurd ⟨j, hb⟩ (ap b hc).1
      · simp only [z, y, if_false] at hb hc
        exact S.dj j k b hb hc
  · by_cases z : j = i
    · simp only [z, if_true] at hb
      exact (ap b hb).2
    · simp only [z, if_false] at hb
      exact S.fz j b hb
/-- what slot i has changes; nothing else does -/
theorem Sat.reG {i : Nat} {x x0 : DS} {v : V} {fp : List Addr} (S : Sat K B F H σ ρ f) (e0 : ρ[i]? = some (some x0)) (ev : σ[i]? = some (some v)) (hh : ∀ b o, H b = some o → b ∉ f i → H' b = some o) (o : OwnS K F H' x v fp)
    (ap : ∀ a ∈ fp, (a ∈ f i ∨ ¬ Own f a) ∧ F a = none) (np : ∀ a ∈ fp, Own f a ∨ H a = none) : Sat K B F H' σ (ρ.set i (some x)) (fun j => if j = i then fp else f j) ∧ Step F H (Own f) F H' (Own fun j => if j = i then fp else f j) := by
  have hi : i < ρ.length := (List.getElem?_eq_some_iff.mp e0).1
  obtain ⟨v0, ev0, o0⟩ := S.at_ i _ e0
  have st : Step F H (Own f) F H' (Own fun j => if j = i then fp else f j) := ⟨fun _ _ h => h, fun b u h n => hh b u h fun z => n ⟨i, z⟩, fun b h => .inl h, fun b hb => (own_if hb).elim (np b) .inl⟩
  have kx : Kx H H' := fun c z h => hh c _ h fun hc => o0.noX c hc z h
  refine ⟨⟨by simp [S.len], fun j d h => ?_, fun j h => ?_, fun j k b hb hc => ?_, fun j b hb => ?_, ⟨fun b u h => hh b u (S.fh.s b u h) (fun z => by rw [S.fz i b z] at h; cases h), S.fh.nt⟩, S.st.trans st⟩, st⟩
  · by_cases z : j = i
    · subst z
      rw [List.getElem?_set_self hi] at h
      cases h
      exact ⟨v, ev, by simpa using o⟩
    · rw [List.getElem?_set_ne (Ne.symm z)] at h
      obtain ⟨u, e1, q⟩ := S.at_ j d h
      refine ⟨u, e1, ?_⟩
      simp only [z, if_false]
      exact q.keep (fun _ _ h => h) (fun a ha o ho => hh a o ho fun w => z (S.dj j i a ha w)) kx
  · by_cases z : j = i
    · subst z
      exact absurd (List.getElem?_set_self hi) (h x)
    · simp only [z, if_false]
      refine S.em j fun d q => h d ?_
      rw [List.getElem?_set_ne (Ne.symm z)]
      exact q
  · have key : ∀ j, j ≠ i → ∀ b, b ∈ f j → b ∉ fp := fun j hj b hb hf => by
      rcases (ap b hf).1 with y | y
      · exact hj (S.dj j i b hb y)
      · exact y ⟨j, hb⟩
    by_cases z : j = i
    · by_cases y : k = i
      · exact z.trans y.symm
      · simp only [z, y, if_true, if_false] at hb hc
        exact absurd hb (key k y b hc)
    · by_cases y : k = i
      · simp only [z, y, if_true, if_false] at hb hc
        exact absurd hc (key j z b hb)
      · simp only [z, y, if_false] at hb hc
        exact S.dj j k b hb hc
  · by_cases z : j = i
    · simp only [z, if_true] at hb
      exact (ap b hb).2
    · simp only [z, if_false] at hb
      exact S.fz j b hb
/-- what slot i has changes in any way, and the slot is forgotten -/
theorem Sat.loose {i : Nat} {x0 : DS} (S : Sat K B F H σ ρ f) (e0 : ρ[i]? = some (some x0)) (hh : ∀ b o, H b = some o → b ∉ f i → H' b = some o) : Sat K B F H' σ (ρ.set i none) (fun j => if j = i then [] else f j) ∧ Step F H (Own f) F H' (Own fun j => if j = i then [] else f j) := by
  have hi : i < ρ.length := (List.getElem?_eq_some_iff.mp e0).1
  obtain ⟨v0, ev0, o0⟩ := S.at_ i _ e0
  have st : Step F H (Own f) F H' (Own fun j => if j = i then [] else f j) := ⟨fun _ _ h => h, fun b u h n => hh b u h fun z => n ⟨i, z⟩, fun b h => .inl h, fun b hb => (own_if hb).elim (fun z => by cases z) .inl⟩
  have kx : Kx H H' := fun c z h => hh c _ h fun hc => o0.noX c hc z h
  refine ⟨⟨by simp [S.len], fun j d h => ?_, fun j h => ?_, fun j k b hb hc => ?_, fun j b hb => ?_, ⟨fun b u h => hh b u (S.fh.s b u h) (fun z => by rw [S.fz i b z] at h; cases h), S.fh.nt⟩, S.st.trans st⟩, st⟩
  · by_cases z : j = i
    · subst z
      rw [List.getElem?_set_self hi] at h
      cases h
    · rw [List.getElem?_set_ne (Ne.symm z)] at h
      obtain ⟨u, e1, q⟩ := S.at_ j d h
      refine ⟨u, e1, ?_⟩
      simp only [z, if_false]
      exact q.keep (fun _ _ h => h) (fun a ha o ho => hh a o ho fun w => z (S.dj j i a ha w)) kx
  · by_cases z : j = i
    · simp [z]
    · simp only [z, if_false]
      refine S.em j fun d q => h d ?_
      rw [List.getElem?_set_ne (Ne.symm z)]
      exact q
  · by_cases z : j = i
    · simp [z] at hb
    · by_cases y : k = i
      · simp [y] at hc
      · simp only [z, y, if_false] at hb hc
        exact S.dj j k b hb hc
  · by_cases z : j = i
    · simp [z] at hb
    · simp only [z, if_false] at hb
      exact S.fz j b hb
end
/-! ### a value whose things are all new -/
def LRg (K : PySem.W.Frag) (B : Bs) (t : TE) (d : DF) : Prop := ∀ σ H Q F ρ f k, Sat K B F H σ ρ f → d ρ k →
  (∀ y ρ' v (Fn : Hp) (as : List Addr) F' H' f', k y ρ' → Step F H (Own f) F' H' (fun b => b ∈ as ∨ Own f' b) → Rep K Fn y v → Fz Fn H' → (∀ b, Fn b ≠ none → b ∈ as) → (∀ b ∈ as, Fn b ≠ none ∧ (∀ z, H' b ≠ some (.ext z)) ∧ ¬ Own f' b ∧ F' b = none) → Sat K B F' H' σ ρ' f' → Q v H') → t σ H Q
structure PR (X : Cx) (B : Bs) (e : Expr) (d : DF) : Prop where
  ex : ∃ t, PE X e t ∧ LRg X.K B t d
def scalD : D → Bool
  | .non => true
  | .bl _ => true
  | .int _ => true
  | .str _ => true
  | _ => false
def frS1 : Option DS → Option DS
  | some (.fr .non) => some (.fr .non)
  | some (.fr (.bl b)) => some (.fr (.bl b))
  | some (.fr (.int i)) => some (.fr (.int i))
  | some (.fr (.str x)) => some (.fr (.str x))
  | _ => none
/-- the slots of numbers, texts, None alone -/
def frS (ρ : Sl) : Sl := ρ.map frS1
section
variable {K : PySem.W.Frag} {B : Bs} {F H : Hp} {σ : L2.St} {ρ : Sl} {f : Nat → List Addr}
theorem sat_frS (S : Sat K B F H σ ρ f) : Sat K ⟨fun _ => none, H, fun _ => False⟩ (fun _ => none) H σ (frS ρ) (fun _ => []) := by
  refine ⟨by simp [frS, S.len], fun i d e => ?_, fun _ _ => rfl, fun i j a h _ => (by cases h), fun i a h => (by cases h), ⟨fun _ _ h => (by cases h), fun _ _ h => (by cases h)⟩, Step.refl.sub fun b hb => (own_nil hb).elim⟩
  unfold frS at e
  rw [List.getElem?_map] at e
  cases h : ρ[i]? with
  | none => rw [h] at e; cases e
  | some o =>
    rw [h] at e
    have go : ∀ x : D, (∀ F' F'' v, Rep K F' x v → Rep K F'' x v) → o = some (.fr x) → some (some d) = some (some (DS.fr x)) → ∃ v, σ[i]? = some (some v) ∧ OwnS K (fun _ => none) H d v [] := fun x hx ho hd => by
      cases hd
      subst ho
      obtain ⟨v, e1, q⟩ := S.at_ i _ h
      exact ⟨v, e1, rfl, hx _ _ _ q.2⟩
    match o, e with
    | some (.fr .non), e => exact go _ (fun _ _ _ r => by rw [rep_non] at r ⊢; exact r) rfl e.symm
    | some (.fr (.bl _)), e => exact go _ (fun _ _ _ r => by rw [rep_bl] at r ⊢; exact r) rfl e.symm
    | some (.fr (.int _)), e => exact go _ (fun _ _ _ r => by rw [rep_int] at r ⊢; exact r) rfl e.symm
    | some (.fr (.str _)), e => exact go _ (fun _ _ _ r => by rw [rep_str] at r ⊢; exact r) rfl e.symm
    | some (.fr (.lst _)), e => cases e
    | some (.fr (.tup _)), e => cases e
    | some (.fr (.dic _)), e => cases e
    | some (.fr (.ob _)), e => cases e
    | some (.fr (.la _ _)), e => cases e
    | some (.ol _), e => cases e
    | some (.sm _ _ _ _), e => cases e
    | some (.ow _ _), e => cases e
    | some (.rl _), e => cases e
    | none, e => cases e
end
/-- met(lambda: body), of scalars alone: what comes of it is new -/
def dMetN (K : PySem.W.Frag) (j : Nat) (P : Addr) (q : Str) (hs : Hs) (tag : Str) (db : ExD → DF) : DF := fun ρ k => (∃ a b n, ρ[j]? = some (some (.sm a b n (some (P, q))))) ∧
  db (fun C fs => ∃ tg g d, Hit K C hs tg g ∧ fs.lookup g = some d ∧ k (.tup [.str tg, d]) ρ) (frS ρ) (fun y _ => k (.tup [.str tag, y]) ρ)
theorem lr_met {K : PySem.W.Frag} {B : Bs} {j n i : Nat} {P : Addr} {q : Str} {hs : Hs} {tag : Str} {db : ExD → DF} (hi : i < n) : LRg K B (tLam1 P q (TMet K n i hs tag) (tLift K db)) (dMetN K j P q hs tag db) := by
  intro σ H Q F ρ f k S h qq
  obtain ⟨⟨a, b, m, e⟩, h⟩ := h
  obtain ⟨v, ev, h1, h2, h3, h4⟩ := S.at_ j _ e
  refine ⟨h4, fun H1 ex tab1 => ?_⟩
  obtain ⟨S1, s1⟩ := S.tab e ex tab1
  have fin : ∀ (tg : Str) (y : D) (u : V) (F' H' : Hp), k (.tup [.str tg, y]) ρ → Fz F' H' → (∀ x o, H1 x = some o → H' x = some o) → (∀ x, F' x ≠ none → H1 x = none) → Rep K F' y u → ∀ r, H' r = none → Q (.ref r) (upd H' r (.tup [.str tg, u])) := by
    intro tg y u F' H' hk fh hh nf ru r nr
    obtain ⟨c1, c2, c3, c4⟩ := frz_new (o := .tup [V.str tg, u]) fh nr
    have rt : Rep K (upd F' r (.tup [V.str tg, u])) (.tup [.str tg, y]) (.ref r) := rep_tup.mpr ⟨r, _, rfl, SqT.of upd_same, repL_cons (rep_str.mpr rfl) (repL_one (ru.mono c1))⟩
    obtain ⟨as, g1, g2⟩ := rt.fin
    have hh2 : Same H1 (upd H' r (.tup [V.str tg, u])) := fun x o hx => c3 x o (hh x o hx)
    have nw : ∀ x ∈ as, H1 x = none := fun x hx => by
      obtain ⟨o, e1, _⟩ := g1 x hx
      rcases c4 x (by rw [e1]; simp) with z | z
      · exact nf x z
      · cases hb : H1 x with
        | none => rfl
        | some o => rw [hh x o hb] at z; cases z
    have cs : Same (cutF (upd F' r (.tup [V.str tg, u])) as) (upd F' r (.tup [V.str tg, u])) := fun x o hx => by
      unfold cutF at hx
      by_cases z : x ∈ as
      · rw [if_pos z] at hx; exact hx
      · rw [if_neg z] at hx; cases hx
    have st : Step F H1 (Own f) F (upd H' r (.tup [V.str tg, u])) (fun b => b ∈ as ∨ Own f b) := ⟨fun _ _ h => h, fun x o hx _ => hh2 x o hx, fun x hx => .inl hx, fun x hx => hx.elim (fun z => .inr (nw x z)) .inl⟩
    refine qq _ ρ _ (cutF (upd F' r (.tup [V.str tg, u])) as) as F _ f hk (s1.trans st) g2 ⟨fun x o hx => c2.s x o (cs x o hx), fun x ps hx => c2.nt x ps (cs x _ hx)⟩ (fun x hx => ?_) (fun x hx => ?_) (S1.grow (fun _ _ h => h) (S1.fh.trans hh2) hh2 fun _ h => .inl h)
    · unfold cutF at hx
      by_cases z : x ∈ as
      · exact z
      · rw [if_neg z] at hx; exact absurd rfl hx
    · obtain ⟨o, e1, ok⟩ := g1 x hx
      refine ⟨by rw [cutF_at hx e1]; simp, fun z e2 => ?_, fun ow => S1.own_there ow (nw x hx), S1.fh.free (nw x hx)⟩
      rw [c2.s x o e1] at e2
      cases e2
      exact ok
  refine ⟨⟨fun _ => none, H1, fun _ => False⟩, _, ?_, fun _ => none, frS ρ, fun _ => [], _, sat_frS S1, h, ?_⟩
  · intro C fs dd us F' H' P' hk bst fh hd hr σ'
    obtain ⟨tg, g, d, hit, lk, hk⟩ := hk
    obtain ⟨u, lu, ru⟩ := lookup_rep hr lk
    exact wAll_hit hi hd lu (fin tg d u F' H' hk fh (fun x o hx => bst.hh x o hx fun z => z) (fun x hx => (bst.nf x hx).elim (fun z => absurd rfl z) fun z => z.resolve_left fun w => w) ru) hit
  · intro y ρ' u F' H' f' hk st ru S'
    exact ⟨by show 2 ≤ sizeLine; decide, fin tag y u F' H' hk S'.fh (fun x o hx => st.hh x o hx own_nil) (fun x hx => (st.nf x hx).elim (fun z => absurd rfl z) fun z => z.resolve_left own_nil) ru⟩
end Sa
end

section
namespace Sa
open PySem PySem.Spec PyProof.Rows L2 LamX
section
variable {X : Cx} {B : Bs}
theorem pr_met {x a : Str} {g c P : Addr} {k i j n : Nat} {hs : Hs} {tag : Str} {db : ExD → DF} {pg : Arguments} {bg : List Stmt} {sg : Scope} {dV kV doc pm cdv ct oc : Value} {an od : Option Addr} {osl : Array (Option Value)} {Ng : List Str} {params : Arguments} {body : Expr} {scope : Scope} {p lpos pos : Pos}
    (hi : i < n) (hg : Gl X x) (hm : X.mg x = some (.ref g)) (hk : PySem.W.keepIn X.K (.ref g) = true) (lk : X.K.lookup g = some ⟨oc, od, .func (PySem.W.fnOf x x pg bg sg dV kV doc pm an cdv ct), osl⟩) (hcg : PySem.W.codeIn X.K cdv x = true)
    (hb : L2.Binds X.K (PySem.W.fnOf x x pg bg sg dV kV doc pm an cdv ct) [a] []) (Sg : FnScope Ng [a] sg) (first : Ng[0]? = some a) (vis : Vis sg a) (gives : GivesTo X Ng x sg g cdv bg a (lamQ X) (TMet X.K n i hs tag)) (TB : TabB X.base X.mg c P) (code : X.env.code = .ref c) (hr : Room (k + 2) X.A)
    (L : LamS X.env.scope scope) (nodef : defaultsOf params X.env = ([], [])) (noargs : ∀ (q : Str) (cl : List (Str × Addr)) (pm cv ctv : Value), bindArgs (PySem.W.kla_fn "<lambda>" q params body scope cl pm cv ctv) ⟨[], []⟩ = pure [])
    (hbody : ∀ (A : Around) (outer : List Env) (s : Shared) (H : Hp) (E : XK) (f c' : Addr) (B' : Bs) (kx : ExD), Room k (A.deeper (lamEnv X scope s.heap.objs.size f c')) → ExOk X.K B' kx E → PF (lamCx X A outer s H E scope f c') B' body (db kx))
    (d1 : (x == ("__debug__" : Str)) = false := by decide) (d2 : (a == ("__debug__" : Str)) = false := by decide) (d3 : (a == ("__classdict__" : Str)) = false := by decide) : PR X B (.Call (.Name x p) [.Lambda params body scope lpos] [] pos) (dMetN X.K j P (lamQ X) hs tag db) := by
  refine ⟨_, pe_lam1 (t := tLift X.K db) hg hm hk lk hcg hb Sg first vis gives TB code hr L nodef noargs (fun A outer s H E f c' room => ⟨fun pins s2 σ H2 Q I h => ?_⟩) d1 d2 d3, lr_met hi⟩
  obtain ⟨B', kx, hE, h⟩ := h
  exact (hbody A outer s H E f c' B' kx room hE).pe.run pins s2 σ H2 Q I h
variable {st : Stmt} {e : Expr} {es : List Expr}
/-! ### name = [e], e's things all new -/
def dSetRL (d : DF) (i : Nat) : DSt := fun kd ρ => d ρ fun y ρ1 => i < ρ1.length ∧ kd.nx (ρ1.set i (some (.rl [y])))
theorem psd_setRL {i : Nat} {d : DF} (hp : ∀ t, PA X [e] t → PS X st (tAsg (tLst t) (gName i))) (h : PR X B e d) (hs : starEach [e] X.env = [(false, eval e X.env)] := by rfl) : PSd X B st (dSetRL d i) := by
  obtain ⟨t, p, l⟩ := h
  refine ⟨_, hp _ (pa_cons p pa_nil hs), fun En σ H F ρ f kd S h q => ?_⟩
  refine l σ H _ F ρ f _ S h fun y ρ1 v Fn as F1 H1 f1 k1 s1 r1 fz h5 h6 S1 => ?_
  obtain ⟨hi, k1⟩ := k1
  refine ⟨by show 1 ≤ sizeLine; decide, fun a na => ?_⟩
  have same : Same H1 (upd H1 a (.lst [v])) := same_new na
  have nFn : Fn a = none := fz.free na
  have nF : F1 a = none := S1.fh.free na
  have S2 : Sat X.K B F1 (upd H1 a (.lst [v])) σ ρ1 f1 := S1.grow (fun _ _ h => h) (S1.fh.trans same) same fun _ h => .inl h
  have o : OwnS X.K F1 (upd H1 a (.lst [v])) (.rl [y]) (.ref a) (a :: as) := ⟨a, [v], as, Fn, rfl, rfl, upd_same, repL_one r1, fz.trans same, h5, nFn, fun b hb => ⟨(h6 b hb).1, fun z e => by
    have nb : b ≠ a := by rintro rfl; exact (h6 b hb).1 nFn
    rw [upd_ne nb] at e
    exact (h6 b hb).2.1 z e⟩⟩
  have st2 : Step F H (Own f) F1 (upd H1 a (.lst [v])) (fun b => b ∈ a :: as ∨ Own f1 b) := s1.trans ⟨fun _ _ h => h, fun b o h n => same b o h, fun b h => .inl h, fun b hb => by
    rcases hb with z | z
    · rcases List.mem_cons.mp z with y | y
      · rw [y]; exact .inr na
      · exact .inl (.inl y)
    · exact .inl (.inr z)⟩
  refine q.nx _ _ F1 _ _ k1 (st2.sub fun b hb => own_if hb) (S2.setG hi o (fun b hb => ?_) (S.st.trans st2))
  rcases List.mem_cons.mp hb with z | z
  · rw [z]; exact ⟨fun ow => S1.own_there ow na, nF⟩
  · exact ⟨(h6 b z).2.2.1, (h6 b z).2.2.2⟩
/-! ### NAME.append(e), e's things all new -/
def dAppRL (d : DF) (i : Nat) : DSt := fun kd ρ => (∃ ys, ρ[i]? = some (some (.rl ys))) ∧ d ρ fun y ρ1 => ∃ ys, ρ1[i]? = some (some (.rl ys)) ∧ ys.length < 16777216 ∧ kd.nx (ρ1.set i (some (.rl (ys ++ [y]))))
theorem psd_appRL {i : Nat} {d : DF} (h : PR X B e d) (hp : ∀ t, PE X e t → PS X st (tDrop (tBM X.K "list" rAppend (tVar i) (tCons t tNil)))) : PSd X B st (dAppRL d i) := by
  obtain ⟨t, pt, l⟩ := h
  refine ⟨_, hp t pt, fun En σ H F ρ f kd S h q => ?_⟩
  obtain ⟨⟨ys0, e0⟩, h⟩ := h
  obtain ⟨v0, ev, a0, vs0, as0, Fi0, rfl, g2, g3, g4⟩ := S.at_ i _ e0
  refine ⟨.ref a0, ev, .inl ⟨rfl, vs0, SqL.of g3⟩, l σ H _ F ρ f _ S h fun y ρ1 w Fn bs F1 H1 f1 k1 s1 r1 fz h5 h6 S1 => ?_⟩
  obtain ⟨ys, e1, hz, k1⟩ := k1
  obtain ⟨v', ev', a', vs, as, Fi, h1, h2, h3, h4, hfz, h7, h8, h9⟩ := S1.at_ i _ e1
  subst h1
  rw [ev] at ev'
  cases ev'
  have own0 : Own f1 a0 := ⟨i, by rw [h2]; simp⟩
  have dis : ∀ b, b ∈ bs → b ∉ f1 i := fun b hb hf => (h6 b hb).2.2.1 ⟨i, hf⟩
  have na : a0 ∉ bs := fun hb => dis a0 hb (by rw [h2]; simp)
  have nas : a0 ∉ as := fun hb => (h9 a0 hb).1 h8
  have nFn : Fn a0 = none := by
    cases q : Fn a0 with
    | none => rfl
    | some o => exact absurd (h5 a0 (by rw [q]; simp)) na
  -- the two regions together
  have hj : ∀ b, Fi b ≠ none → Fn b = none := fun b hb => by
    cases q : Fn b with
    | none => rfl
    | some o => exact absurd (by rw [h2]; simp [h7 b hb]) (dis b (h5 b (by rw [q]; simp)))
  let Fu : Hp := fun b => if Fi b = none then Fn b else Fi b
  have u1 : Same Fi Fu := fun b o e => by
    show (if Fi b = none then Fn b else Fi b) = some o
    rw [if_neg (by rw [e]; simp)]; exact e
  have u2 : Same Fn Fu := fun b o e => by
    show (if Fi b = none then Fn b else Fi b) = some o
    rw [if_pos (by
      cases q : Fi b with
      | none => rfl
      | some o => rw [hj b (by rw [q]; simp)] at e; cases e)]
    exact e
  have wr : ∀ b o, H1 b = some o → b ∉ f1 i → (upd H1 a0 (.lst (vs ++ [w]))) b = some o := fun b o h n => by
    rw [upd_ne]
    · exact h
    · rintro rfl; exact n (by rw [h2]; simp)
  have nea : ∀ b, Fu b ≠ none → b ≠ a0 := fun b hb => by
    rintro rfl
    apply hb
    show (if Fi b = none then Fn b else Fi b) = none
    rw [if_pos h8]; exact nFn
  have fu : Fz Fu (upd H1 a0 (.lst (vs ++ [w]))) := by
    refine ⟨fun b o e => ?_, fun b ps e => ?_⟩
    · rw [upd_ne (nea b (by rw [e]; simp))]
      have e' : (if Fi b = none then Fn b else Fi b) = some o := e
      by_cases z : Fi b = none
      · rw [if_pos z] at e'; exact fz.s b o e'
      · rw [if_neg z] at e'; exact hfz.s b o e'
    · have e' : (if Fi b = none then Fn b else Fi b) = some (.tbl ps) := e
      by_cases z : Fi b = none
      · rw [if_pos z] at e'; exact fz.nt b ps e'
      · rw [if_neg z] at e'; exact hfz.nt b ps e'
  have o2 : OwnS X.K F1 (upd H1 a0 (.lst (vs ++ [w]))) (.rl (ys ++ [y])) (.ref a0) (a0 :: (as ++ bs)) := by
    refine ⟨a0, vs ++ [w], as ++ bs, Fu, rfl, rfl, upd_same, (h4.mono u1).append (repL_one (r1.mono u2)), fu, fun b hb => ?_, ?_, fun b hb => ?_⟩
    · have hb' : (if Fi b = none then Fn b else Fi b) ≠ none := hb
      by_cases z : Fi b = none
      · rw [if_pos z] at hb'; exact List.mem_append.mpr (.inr (h5 b hb'))
      · exact List.mem_append.mpr (.inl (h7 b z))
    · show (if Fi a0 = none then Fn a0 else Fi a0) = none
      rw [if_pos h8]; exact nFn
    · rcases List.mem_append.mp hb with z | z
      · have nb : b ≠ a0 := by rintro rfl; exact nas z
        refine ⟨?_, fun zz e => by rw [upd_ne nb] at e; exact (h9 b z).2 zz e⟩
        show (if Fi b = none then Fn b else Fi b) ≠ none
        rw [if_neg (h9 b z).1]; exact (h9 b z).1
      · have nb : b ≠ a0 := by rintro rfl; exact na z
        refine ⟨?_, fun zz e => by rw [upd_ne nb] at e; exact (h6 b z).2.1 zz e⟩
        show (if Fi b = none then Fn b else Fi b) ≠ none
        by_cases y : Fi b = none
        · rw [if_pos y]; exact (h6 b z).1
        · rw [if_neg y]; exact y
  have st2 : Step F H (Own f) F1 H1 (fun b => b ∈ bs ∨ Own f1 b) := s1
  have sw : Step F1 H1 (fun b => b ∈ bs ∨ Own f1 b) F1 (upd H1 a0 (.lst (vs ++ [w]))) (Own fun j => if j = i then a0 :: (as ++ bs) else f1 j) := ⟨fun _ _ h => h, fun b o h n => by
    rw [upd_ne]
    · exact h
    · rintro rfl; exact n (.inr own0), fun b h => .inl h, fun b hb => by
    rcases own_if hb with z | z
    · rcases List.mem_cons.mp z with y | y
      · rw [y]; exact .inl (.inr own0)
      · rcases List.mem_append.mp y with y | y
        · exact .inl (.inr ⟨i, by rw [h2]; simp [y]⟩)
        · exact .inl (.inl y)
    · exact .inl (.inr z)⟩
  refine ⟨a0, vs, w, rfl, rfl, h3, by rw [h4.length, sizeLine_eq]; exact hz, q.nx _ _ _ _ _ k1 (s1.trans sw) ?_⟩
  -- the slots behind the write
  have S2 := (S1.loose (i := i) e1 wr).1
  have hl : i < (ρ1.set i none).length := by rw [List.length_set]; exact (List.getElem?_eq_some_iff.mp e1).1
  have S3 := S2.setG (i := i) (x := .rl (ys ++ [y])) (v := .ref a0) hl o2 (fun b hb => ?_) ((S.st.trans (s1.trans sw)).sub fun b hb => ?_)
  · have e3 : σ.set i (some (.ref a0)) = σ := by
      apply List.ext_getElem?
      intro j
      by_cases z : j = i
      · subst z; rw [List.getElem?_set_self (List.getElem?_eq_some_iff.mp ev).1, ev]
      · rw [List.getElem?_set_ne (Ne.symm z)]
    have e4 : (ρ1.set i none).set i (some (.rl (ys ++ [y]))) = ρ1.set i (some (.rl (ys ++ [y]))) := List.set_set ..
    rw [e3, e4] at S3
    have e5 : (fun j => if j = i then a0 :: (as ++ bs) else (fun j => if j = i then [] else f1 j) j) = fun j => if j = i then a0 :: (as ++ bs) else f1 j := by
      funext j
      by_cases z : j = i <;> simp [z]
    rw [e5] at S3
    exact S3
  · refine ⟨fun ow => ?_, ?_⟩
    · obtain ⟨j, hj'⟩ := ow
      by_cases z : j = i
      · simp [z] at hj'
      · simp only [z, if_false] at hj'
        rcases List.mem_cons.mp hb with y | y
        · rw [y] at hj'; exact z (S1.dj j i a0 hj' (by rw [h2]; simp))
        · rcases List.mem_append.mp y with y | y
          · exact z (S1.dj j i b hj' (by rw [h2]; simp [y]))
          · exact (h6 b y).2.2.1 ⟨j, hj'⟩
    · rcases List.mem_cons.mp hb with y | y
      · rw [y]; exact S1.own_fz own0
      · rcases List.mem_append.mp y with y | y
        · exact S1.fz i b (by rw [h2]; simp [y])
        · exact (h6 b y).2.2.2
  · rcases hb with z | z
    · exact ⟨i, by simp only [if_true]; exact z⟩
    · obtain ⟨j, hj'⟩ := z
      by_cases y : j = i
      · simp [y] at hj'
      · simp only [y, if_false] at hj'
        exact ⟨j, by simp only [y, if_false]; exact hj'⟩
/-! ### f(found, ..), found lent -/
def dBor1 (i : Nat) (Φ : Phi) (da : DA) : DF := fun ρ k => (∃ ys, ρ[i]? = some (some (.rl ys))) ∧ da ρ fun ds ρ1 => ∃ ys, ρ1[i]? = some (some (.rl ys)) ∧ Φ (.lst ys :: ds) fun x => ∃ b, x = .fr (.bl b) ∧ k (.bl b) ρ1
theorem lf_bor1 {K : PySem.W.Frag} {Φ : Phi} {E : XK} {t : TA} {da : DA} {i : Nat} (l : LA K B t da) : LF K B (tCall (SpF K Φ) [] E (tCons (tVar i) t)) (dBor1 i Φ da) := by
  intro σ H Q F ρ f k S h q
  obtain ⟨⟨ys0, e0⟩, h⟩ := h
  obtain ⟨v0, ev0, _⟩ := S.at_ i _ e0
  refine ⟨v0, ev0, l σ H _ F ρ f _ S h fun ds ρ1 vs F1 H1 f1 k1 s1 r1 S1 => ?_⟩
  show SpF K Φ ((v0 :: vs) ++ []) H1 Q E
  rw [List.append_nil]
  obtain ⟨ys, e1, k1⟩ := k1
  obtain ⟨v, ev, a, us, as, Fi, h1, h2, h3, h4, h5, h6, h7, h8⟩ := S1.at_ i _ e1
  rw [ev0] at ev
  cases ev
  subst h1
  -- what is lent
  have nF : ∀ b, b ∈ f1 i → F1 b = none := fun b hb => S1.fz i b hb
  let Fu : Hp := fun b => if b = a then some (.lst us) else if Fi b = none then F1 b else Fi b
  have u1 : Same F1 Fu := fun b o e => by
    have n1 : b ≠ a := by rintro rfl; rw [nF b (by rw [h2]; simp)] at e; cases e
    have n2 : Fi b = none := by
      cases q : Fi b with
      | none => rfl
      | some o => rw [nF b (by rw [h2]; simp [h6 b (by rw [q]; simp)])] at e; cases e
    show (if b = a then some (.lst us) else if Fi b = none then F1 b else Fi b) = some o
    rw [if_neg n1, if_pos n2]; exact e
  have u2 : Same Fi Fu := fun b o e => by
    have n1 : b ≠ a := by rintro rfl; rw [h7] at e; cases e
    show (if b = a then some (.lst us) else if Fi b = none then F1 b else Fi b) = some o
    rw [if_neg n1, if_neg (by rw [e]; simp)]; exact e
  have fu : Fz Fu H1 := by
    refine ⟨fun b o e => ?_, fun b ps e => ?_⟩
    · have e' : (if b = a then some (.lst us) else if Fi b = none then F1 b else Fi b) = some o := e
      by_cases z : b = a
      · rw [if_pos z] at e'; cases e'; rw [z]; exact h3
      · rw [if_neg z] at e'
        by_cases y : Fi b = none
        · rw [if_pos y] at e'; exact S1.fh.s b o e'
        · rw [if_neg y] at e'; exact h5.s b o e'
    · have e' : (if b = a then some (.lst us) else if Fi b = none then F1 b else Fi b) = some (.tbl ps) := e
      by_cases z : b = a
      · rw [if_pos z] at e'; cases e'
      · rw [if_neg z] at e'
        by_cases y : Fi b = none
        · rw [if_pos y] at e'; exact S1.fh.nt b ps e'
        · rw [if_neg y] at e'; exact h5.nt b ps e'
  have ra : Fu a = some (.lst us) := by
    show (if a = a then some (HO.lst us) else if Fi a = none then F1 a else Fi a) = some (HO.lst us)
    rw [if_pos rfl]
  refine ⟨Fu, .lst ys :: ds, _, fu, repL_cons (rep_lst.mpr ⟨a, us, rfl, ra, h4.mono u2⟩) (r1.mono u1), k1, fun x v F' H' fv hk c1 c2 c3 c4 o c5 => ?_⟩
  obtain ⟨b, rfl, hk⟩ := hk
  obtain ⟨_, ro⟩ := o
  rw [rep_bl] at ro
  exact q _ ρ1 v F1 H' f1 hk (s1.trans (Step.grow (fun _ _ h => h) c3 fun _ h => .inl h)) (rep_bl.mpr ro) (S1.grow (fun _ _ h => h) (S1.fh.trans c3) c3 fun _ h => .inl h)
theorem pf_bor1 {k i : Nat} {f : Addr} {fd : FuncData} {ps : List Str} {x : Str} {p pos : Pos} {Φ : Phi} {da : DA} (G : FnOk X.prog X.w X.K X.mg X.base CX0 k f fd ps (SpF X.K Φ)) (hr : Room k X.A) (hg : Gl X x) (hm : X.mg x = some (.ref f)) (hk : PySem.W.keepIn X.K (.ref f) = true) (hb : Binds X.K fd ps []) (hv : PE X e (tVar i)) (ha : PAd X B es da)
    (hdb : (x == ("__debug__" : Str)) = false := by decide) (he : starEach (e :: es) X.env = (false, eval e X.env) :: starEach es X.env := by rfl) (hpl : (backTo pos (starEach es X.env)).any (·.1) = false := by rfl) : PF X B (.Call (.Name x p) (e :: es) [] pos) (dBor1 i Φ da) := by
  obtain ⟨t, pt, l⟩ := ha
  exact ⟨_, pe_call G hr hg hm hk hb .nil pass0 (pa_cons hv pt he) hdb he hpl, lf_bor1 l⟩
/-! ### a def that spoils what it gets: all of it lies in a region -/
mutual
/-- numbers, texts, lists and tuples of such -/
def spoilD : D → Bool
  | .non => true
  | .bl _ => true
  | .int _ => true
  | .str _ => true
  | .lst ds => decide (ds.length ≤ 1000000) && spoilL ds
  | .tup ds => decide (ds.length ≤ 1000000) && spoilL ds
  | _ => false
def spoilL : List D → Bool
  | [] => true
  | d :: ds => spoilD d && spoilL ds
end
mutual
/-- how many lists, each as often as it is met -/
def nlD : D → Nat
  | .lst ds => nlL ds + 1
  | .tup ds => nlL ds
  | _ => 0
def nlL : List D → Nat
  | [] => 0
  | d :: ds => nlD d + nlL ds
end
mutual
def dpD : D → Nat
  | .lst ds => dpL ds + 1
  | .tup ds => dpL ds + 1
  | _ => 0
def dpL : List D → Nat
  | [] => 0
  | d :: ds => max (dpD d) (dpL ds)
end
theorem spoilL_at : ∀ {ds : List D} {i : Nat} {d : D}, spoilL ds = true → ds[i]? = some d → spoilD d = true
  | [], _, _, _, h => by simp at h
  | e :: ds, 0, d, h, g => by
    unfold spoilL at h
    simp at g
    subst g
    exact (Bool.and_eq_true_iff.mp h).1
  | e :: ds, i + 1, d, h, g => by
    unfold spoilL at h
    exact spoilL_at (Bool.and_eq_true_iff.mp h).2 (by simpa using g)
theorem dpL_at : ∀ {ds : List D} {i : Nat} {d : D}, ds[i]? = some d → dpD d ≤ dpL ds
  | [], _, _, h => by simp at h
  | e :: ds, 0, d, g => by
    simp at g
    subst g
    unfold dpL
    omega
  | e :: ds, i + 1, d, g => by
    have := dpL_at (ds := ds) (i := i) (d := d) (by simpa using g)
    unfold dpL
    omega
theorem nlL_take : ∀ {ds : List D} {i : Nat} {d : D}, ds[i]? = some d → nlL (ds.take (i + 1)) = nlL (ds.take i) + nlD d
  | [], _, _, h => by simp at h
  | e :: ds, 0, d, g => by
    simp at g
    subst g
    simp [nlL]
  | e :: ds, i + 1, d, g => by
    have := nlL_take (ds := ds) (i := i) (d := d) (by simpa using g)
    simp only [List.take_succ_cons, nlL]
    omega
theorem nlL_le : ∀ (ds : List D) (i : Nat), nlL (ds.take i) ≤ nlL ds
  | [], i => by simp
  | e :: ds, 0 => by simp [nlL]
  | e :: ds, i + 1 => by
    have := nlL_le ds i
    simp only [List.take_succ_cons, nlL]
    omega
def lates (n : Nat) : List V := List.replicate n (.str "late")
def lstOf : HO → Option (List V)
  | .lst vs => some vs
  | _ => none
theorem lstOf_some {o : HO} {vs : List V} (h : lstOf o = some vs) : o = .lst vs := by
  cases o <;> simp [lstOf] at h
  rw [h]
/-- H has what Fn says, its lists perhaps longer by words «late» -/
structure Tol (M : Nat) (Fn H : Hp) : Prop where
  lst : ∀ b vs, Fn b = some (.lst vs) → ∃ n, n + M ≤ 1000000 ∧ H b = some (.lst (vs ++ lates n))
  oth : ∀ b o, Fn b = some o → lstOf o = none → H b = some o
structure Aft (Fn : Hp) (N : Nat) (H H' : Hp) : Prop where
  out : ∀ b o, H b = some o → Fn b = none → H' b = some o
  inn : ∀ b vs n, Fn b = some (.lst vs) → H b = some (.lst (vs ++ lates n)) → ∃ m, m ≤ N ∧ H' b = some (.lst (vs ++ lates (n + m)))
  oth : ∀ b o, Fn b = some o → lstOf o = none → H b = some o → H' b = some o
def SpSpoil (K : PySem.W.Frag) (n : Nat) : Sp := fun vs H Q _ => ∃ (v : V) (Fn : Hp) (y : D), vs = [v] ∧ Rep K Fn y v ∧ Tol (nlD y) Fn H ∧ spoilD y = true ∧ dpD y ≤ n ∧ ∀ H', Aft Fn (nlD y) H H' → Q .non H'
section
variable {Fn H H1 H2 : Hp} {M N : Nat}
theorem Aft.same (e : Same H H1) : Aft Fn 0 H H1 := ⟨fun b o h _ => e b o h, fun b vs n h hb => ⟨0, Nat.le_refl _, e _ _ hb⟩, fun b o _ _ h => e _ _ h⟩
theorem Aft.trans (a : Aft Fn M H H1) (b : Aft Fn N H1 H2) : Aft Fn (M + N) H H2 := by
  refine ⟨fun x o h n => b.out x o (a.out x o h n) n, fun x vs n h hx => ?_, fun x o h l hx => b.oth x o h l (a.oth x o h l hx)⟩
  obtain ⟨m, hm, e⟩ := a.inn x vs n h hx
  obtain ⟨m2, hm2, e2⟩ := b.inn x vs (n + m) h e
  exact ⟨m + m2, by omega, by rw [← Nat.add_assoc]; exact e2⟩
theorem Aft.le (a : Aft Fn M H H1) (h : M ≤ N) : Aft Fn N H H1 := ⟨a.out, fun x vs n h1 h2 => by
  obtain ⟨m, hm, e⟩ := a.inn x vs n h1 h2
  exact ⟨m, by omega, e⟩, a.oth⟩
theorem Tol.aft {A : Nat} (t : Tol A Fn H) (a : Aft Fn M H H1) (h : M + N ≤ A) : Tol N Fn H1 := by
  refine ⟨fun b vs e => ?_, fun b o e l => a.oth b o e l (t.oth b o e l)⟩
  obtain ⟨n, hn, eb⟩ := t.lst b vs e
  obtain ⟨m, hm, e2⟩ := a.inn b vs n e eb
  exact ⟨n + m, by omega, e2⟩
theorem Tol.of (fz : Fz Fn H) (h : M ≤ 1000000) : Tol M Fn H := ⟨fun b vs e => ⟨0, by omega, by rw [show lates 0 = [] from rfl, List.append_nil]; exact fz.s b _ e⟩, fun b o e _ => fz.s b o e⟩
theorem tol_rd {K : PySem.W.Frag} {a : Addr} {xs : List V} (t : Tol M Fn H) (h : SqT K Fn a xs) : SqT K H a xs := by
  rcases h with (h | ⟨o, h⟩) | h
  · exact .inl (.inl (t.oth a _ h rfl))
  · exact .inl (.inr ⟨o, t.oth a _ h rfl⟩)
  · exact .inr h
theorem tol_ty {K : PySem.W.Frag} {y : D} {v : V} {n : String} (t : Tol M Fn H) (r : Rep K Fn y v) (sp : spoilD y = true) (e : tyD y = some n) : TyX K H v (.type n) ∧ n ∈ ["NoneType", "bool", "int", "str", "list", "tuple", "dict"] := by
  cases y with
  | non => rw [rep_non] at r; subst r; cases e; exact ⟨.base .non, by decide⟩
  | bl b => rw [rep_bl] at r; subst r; cases e; exact ⟨.base (.bl b), by decide⟩
  | int b => rw [rep_int] at r; subst r; cases e; exact ⟨.base (.int b), by decide⟩
  | str b => rw [rep_str] at r; subst r; cases e; exact ⟨.base (.str b), by decide⟩
  | lst ds =>
    cases e
    obtain ⟨p, us, rfl, h1, h2⟩ := rep_lst.mp r
    obtain ⟨n, _, eb⟩ := t.lst p us h1
    exact ⟨.base (.lst eb), by decide⟩
  | tup ds =>
    cases e
    obtain ⟨p, us, rfl, h1, h2⟩ := rep_tup.mp r
    refine ⟨?_, by decide⟩
    rcases tol_rd t h1 with (z | ⟨o, z⟩) | ⟨o, its, n, z, c, _⟩
    · exact .base (.tup z)
    · exact .fTuple z
    · exact .kTuple z c
  | dic _ => simp [spoilD] at sp
  | ob _ => simp [spoilD] at sp
  | la _ _ => simp [spoilD] at sp
end
/-! ### spoil(found[0][1]) -/
def dSpoil (n i : Nat) : DSt := fun kd ρ => ∃ z y r, ρ[i]? = some (some (.rl (.tup [z, y] :: r))) ∧ spoilD y = true ∧ dpD y ≤ n ∧ nlD y ≤ 1000000 ∧ kd.nx (ρ.set i none)
theorem psd_spoil {n i : Nat} (hp : PS X st (tDrop (tCall (SpSpoil X.K n) [] E0 (tCons (tOp (rIx X.K) (tOp (rIx X.K) (tVar i) (tC (.int 0))) (tC (.int 1))) tNil)))) : PSd X B st (dSpoil n i) := by
  refine ⟨_, hp, fun En σ H F ρ f kd S h q => ?_⟩
  obtain ⟨z, y, r, e, h1, h2, h3, hk⟩ := h
  obtain ⟨v, ev, a, vs, as, Fi, rfl, g2, g3, g4, g5, g6, g7, g8⟩ := S.at_ i _ e
  rw [RepL] at g4
  obtain ⟨w, vr, rfl, g9, g10⟩ := g4
  obtain ⟨p, us, rfl, g11, g12⟩ := rep_tup.mp g9
  obtain ⟨u1, u2, rfl, g13, g14⟩ := repL2 g12
  have hT : SqT X.K H p [u1, u2] := Same.seqT g5.s g11
  refine ⟨.ref a, ev, .inl ⟨a, _, 0, .ref p, rfl, rfl, SqL.of g3, at0, .inr (.inl ⟨p, _, 1, u2, rfl, rfl, hT, at1, ?_⟩)⟩⟩
  refine ⟨u2, Fi, y, rfl, g14, Tol.of g5 h3, h1, h2, fun H' af => ?_⟩
  obtain ⟨S2, st2⟩ := S.loose (i := i) e (H' := H') fun b o hb hn => af.out b o hb (by
    cases q : Fi b with
    | none => rfl
    | some o => exact absurd (by rw [g2]; simp [g6 b (by rw [q]; simp)]) hn)
  exact q.nx _ _ _ _ _ hk st2 S2
end
end Sa
end

section
namespace Sa
open PySem PySem.Spec PyProof.Rows L2 LamX
/-! ### a list whose place is known: others may hold it while it changes -/
section
variable {X : Cx} {B : Bs} {st : Stmt} {e a b c : Expr} {es : List Expr} {p pos : Pos}
/-- name = f(..): what comes is kept as it is, a new list with its place -/
def putW (kd : DEnds) (ρ : Sl) (i : Nat) : DS → Prop
  | .fr d => kd.nx (ρ.set i (some (.fr d)))
  | .ol ds => ∀ p : Addr, kd.nx (ρ.set i (some (.ow p ds)))
  | _ => False
def dSetW (Φ : Phi) (da : DA) (i : Nat) : DSt := fun kd ρ => da ρ fun ds ρ1 => i < ρ1.length ∧ Φ ds fun x => putW kd ρ1 i x
theorem ls_setW {K : PySem.W.Frag} {Φ : Phi} {E : XK} {t : TA} {da : DA} {i : Nat} (l : LA K B t da) : LS K B (tAsg (tCall (SpF K Φ) [] E t) (gName i)) (dSetW Φ da i) := by
  intro En σ H F ρ f kd S h q
  refine l σ H _ F ρ f _ S h fun ds ρ1 vs F1 H1 f1 k1 s1 r1 S1 => ?_
  show SpF K Φ (vs ++ []) H1 _ E
  rw [List.append_nil]
  obtain ⟨hi, k1⟩ := k1
  refine ⟨F1, ds, _, S1.fh, r1, k1, fun x v F' H' fv hk c1 c2 c3 c4 o c5 => ?_⟩
  cases x with
  | fr d =>
    have S2 := (S1.grow c1 c2 c3 c4).setF (i := i) o.2
    exact q.nx _ _ F' H' _ hk ((s1.trans (Step.grow c1 c3 c4)).sub fun b hb => (own_if hb).elim (fun z => by cases z) id) S2
  | ol ds' =>
    obtain ⟨p, us, rfl, h2, h3, h4⟩ := o
    subst h2
    obtain ⟨np, fp⟩ := c5 p (by simp)
    have st2 : Step F H (Own f) F' H' (fun b => b ∈ [p] ∨ Own f1 b) := (step_new s1 S1 c1 c3 c4 np).sub fun b hb => hb.imp (fun z => by simpa using z) id
    have S2 := (S1.grow c1 c2 c3 c4).setG (i := i) (x := .ow p ds') (v := .ref p) (fp := [p]) hi ⟨rfl, rfl, us, h3, h4⟩ (fun b hb => by
      have z : b = p := by simpa using hb
      rw [z]; exact ⟨fun ow => S1.own_there ow np, fp⟩) (S.st.trans st2)
    exact q.nx _ _ F' H' _ (hk p) (st2.sub fun b hb => own_if hb) S2
  | sm a b n t => exact hk.elim
  | ow a ds => exact hk.elim
  | rl ds => exact hk.elim
theorem psd_setW {k i : Nat} {f : Addr} {fd : FuncData} {ps : List Str} {x : Str} {Φ : Phi} {da : DA} (hp : ∀ t, PE X (.Call (.Name x p) (e :: es) [] pos) t → PS X st (tAsg t (gName i))) (G : FnOk X.prog X.w X.K X.mg X.base CX0 k f fd ps (SpF X.K Φ)) (hr : Room k X.A) (hg : Gl X x) (hm : X.mg x = some (.ref f)) (hk : PySem.W.keepIn X.K (.ref f) = true) (hb : Binds X.K fd ps []) (ha : PAd X B (e :: es) da)
    (hdb : (x == ("__debug__" : Str)) = false := by decide) (he : starEach (e :: es) X.env = (false, eval e X.env) :: starEach es X.env := by rfl) (hpl : (backTo pos (starEach es X.env)).any (·.1) = false := by rfl) : PSd X B st (dSetW Φ da i) := by
  obtain ⟨t, pt, l⟩ := ha
  exact ⟨_, hp _ (pe_call G hr hg hm hk hb .nil pass0 pt hdb he hpl), ls_setW l⟩
/-- isinstance(name, type) -/
def dIsiW (i : Nat) (ts : List String) : DF := fun ρ k => (∃ d b, ρ[i]? = some (some (.fr d)) ∧ isD d ts = some b ∧ k (.bl b) ρ) ∨ ∃ p ds, ρ[i]? = some (some (.ow p ds)) ∧ k (.bl (ts.any (subTy "list"))) ρ
theorem pf_isiW {tn : String} {i : Nat} (hg : Gl X "isinstance") (hm : X.mg "isinstance" = none) (hok : okTys [tn] = true) (ha : PE X e (tVar i)) (ht : PE X c (tC (.ty tn)))
    (hs : starEach [e, c] X.env = (false, eval e X.env) :: starEach [c] X.env := by rfl) (hs2 : starEach [c] X.env = [(false, eval c X.env)] := by rfl) (hpl : (backTo pos (starEach [c] X.env)).any (·.1) = false := by rfl) :
    PF X B (.Call (.Name "isinstance" p) [e, c] [] pos) (dIsiW i [tn]) := by
  refine ⟨_, pe_callB call_isi hg hm boot_isinstance (pa_cons ha (pa_cons ht pa_nil hs2) hs) (he := hs) (hpl := hpl), fun σ H Q F ρ f k S h q => ?_⟩
  have hb : tn ∈ ["bool", "int", "str", "list", "tuple", "dict"] := by
    unfold okTys at hok
    simpa using hok
  rcases h with ⟨y, b, e0, e1, k1⟩ | ⟨p, ds, e0, k1⟩
  · obtain ⟨v, ev, r⟩ := S.get e0
    unfold isD at e1
    cases e2 : tyD y with
    | none => rw [e2] at e1; cases e1
    | some n =>
      rw [e2] at e1
      cases e1
      obtain ⟨tx, hn⟩ := tyX_of S.fh r e2
      refine ⟨v, ev, v, .ty tn, _, _, _, rfl, .ty tn, tx, kit_ty (kit_sub n hn tn hb), ?_⟩
      have e3 : ([tn].any (subTy n)) = subTy n tn := by simp
      have k1 : k (D.bl ([tn].any (subTy n))) ρ := k1
      rw [e3] at k1
      exact q _ ρ _ F H f k1 Step.refl (rep_bl.mpr rfl) S
  · obtain ⟨v, ev, rfl, g2, vs, g3, g4⟩ := S.at_ i _ e0
    refine ⟨.ref p, ev, .ref p, .ty tn, _, _, _, rfl, .ty tn, .base (.lst g3), kit_ty (kit_sub "list" (by decide) tn hb), ?_⟩
    have e3 : ([tn].any (subTy "list")) = subTy "list" tn := by simp
    have k1 : k (D.bl ([tn].any (subTy "list"))) ρ := k1
    rw [e3] at k1
    exact q _ ρ _ F H f k1 Step.refl (rep_bl.mpr rfl) S
/-- NAME.append(e) -/
def dAppW (i : Nat) (d : DF) : DSt := fun kd ρ => (∃ p ds, ρ[i]? = some (some (.ow p ds))) ∧ d ρ fun y ρ1 => ∃ p ds, ρ1[i]? = some (some (.ow p ds)) ∧ ds.length < 16777216 ∧ kd.nx (ρ1.set i (some (.ow p (ds ++ [y]))))
theorem psd_appW {i : Nat} {d : DF} (h : PF X B e d) (hp : ∀ t, PE X e t → PS X st (tDrop (tBM X.K "list" rAppend (tVar i) (tCons t tNil)))) : PSd X B st (dAppW i d) := by
  obtain ⟨t, pt, l⟩ := h
  refine ⟨_, hp t pt, fun En σ H F ρ f kd S h q => ?_⟩
  obtain ⟨⟨p0, ds0, e0⟩, h⟩ := h
  obtain ⟨v, ev, rfl, g2, vs0, g3, g4⟩ := S.at_ i _ e0
  refine ⟨.ref p0, ev, .inl ⟨rfl, vs0, SqL.of g3⟩, l σ H _ F ρ f _ S h fun y ρ1 w F1 H1 f1 k1 s1 r1 S1 => ?_⟩
  obtain ⟨p1, ds, e1, hz, k1⟩ := k1
  obtain ⟨v', ev', rfl, h2, vs, h3, h4⟩ := S1.at_ i _ e1
  rw [ev] at ev'
  cases ev'
  have own0 : Own f1 p0 := ⟨i, by rw [h2]; simp⟩
  obtain ⟨S2, st2⟩ := S1.reG (i := i) (x := .ow p0 (ds ++ [y])) (v := .ref p0) (fp := [p0]) (H' := upd H1 p0 (.lst (vs ++ [w]))) e1 ev (fun b o h n => by
    rw [upd_ne]
    · exact h
    · rintro rfl; exact n (by rw [h2]; simp)) ⟨rfl, rfl, _, upd_same, h4.append (repL_one r1)⟩ (fun b hb => by
    have z : b = p0 := by simpa using hb
    rw [z]; exact ⟨.inl (by rw [h2]; simp), S1.own_fz own0⟩) (fun b hb => by
    have z : b = p0 := by simpa using hb
    rw [z]; exact .inl own0)
  exact ⟨p0, vs, w, rfl, rfl, h3, by rw [h4.length, sizeLine_eq]; exact hz, q.nx _ _ _ _ _ k1 (s1.trans st2) S2⟩
end
/-! ### the list is frozen: who holds it holds its things -/
mutual
def thawD (p : Addr) (ds : List D) : D → D
  | .ob (.ref a) => if a = p then .lst ds else .ob (.ref a)
  | .lst xs => .lst (thawL p ds xs)
  | .tup xs => .tup (thawL p ds xs)
  | d => d
def thawL (p : Addr) (ds : List D) : List D → List D
  | [] => []
  | x :: xs => thawD p ds x :: thawL p ds xs
end
section
variable {K : PySem.W.Frag} {F : Hp} {p : Addr} {ds : List D} {vs : List V}
mutual
theorem thaw_rep (hp : F p = some (.lst vs)) (r0 : RepL K F ds vs) : ∀ {d : D} {v : V}, Rep K F d v → Rep K F (thawD p ds d) v
  | .ob (.ref a), v, h => by
    unfold thawD
    by_cases z : a = p
    · rw [if_pos z]
      rw [rep_ob] at h
      rw [h, z]
      exact rep_lst.mpr ⟨p, vs, rfl, hp, r0⟩
    · rw [if_neg z]; exact h
  | .lst xs, v, h => by
    unfold thawD
    obtain ⟨a, us, h1, h2, h3⟩ := rep_lst.mp h
    exact rep_lst.mpr ⟨a, us, h1, h2, thaw_repL hp r0 h3⟩
  | .tup xs, v, h => by
    unfold thawD
    obtain ⟨a, us, h1, h2, h3⟩ := rep_tup.mp h
    exact rep_tup.mpr ⟨a, us, h1, h2, thaw_repL hp r0 h3⟩
  | .non, v, h => by unfold thawD; exact h
  | .bl _, v, h => by unfold thawD; exact h
  | .int _, v, h => by unfold thawD; exact h
  | .str _, v, h => by unfold thawD; exact h
  | .dic _, v, h => by unfold thawD; exact h
  | .la _ _, v, h => by unfold thawD; exact h
  | .ob .non, v, h => by unfold thawD; exact h
  | .ob (.bl _), v, h => by unfold thawD; exact h
  | .ob (.int _), v, h => by unfold thawD; exact h
  | .ob (.str _), v, h => by unfold thawD; exact h
  | .ob (.byt _), v, h => by unfold thawD; exact h
  | .ob (.flt _), v, h => by unfold thawD; exact h
  | .ob (.ty _), v, h => by unfold thawD; exact h
theorem thaw_repL (hp : F p = some (.lst vs)) (r0 : RepL K F ds vs) : ∀ {xs : List D} {us : List V}, RepL K F xs us → RepL K F (thawL p ds xs) us
  | [], us, h => by unfold thawL; exact h
  | x :: xs, us, h => by
    unfold RepL at h
    obtain ⟨v, r, rfl, h1, h2⟩ := h
    unfold thawL
    exact repL_cons (thaw_rep hp r0 h1) (thaw_repL hp r0 h2)
end
end
def thawS1 (p : Addr) (ds : List D) : Option DS → Option DS
  | some (.fr d) => some (.fr (thawD p ds d))
  | some (.ol xs) => some (.ol (thawL p ds xs))
  | o => o
/-- a statement before which the list of slot i is frozen -/
def dThaw (i : Nat) (d : DSt) : DSt := fun kd ρ => (∃ p ds, ρ[i]? = some (some (.ow p ds)) ∧ d kd ((ρ.set i (some (.fr (.lst ds)))).map (thawS1 p ds))) ∨ ∃ x, ρ[i]? = some (some (.fr x)) ∧ d kd ρ
section
variable {X : Cx} {B : Bs} {st : Stmt}
theorem psd_thaw {i : Nat} {d : DSt} (h : PSd X B st d) : PSd X B st (dThaw i d) := by
  obtain ⟨t, pt, l⟩ := h
  refine ⟨t, pt, fun En σ H F ρ f kd S h q => ?_⟩
  rcases h with ⟨p, ds, e, h⟩ | ⟨x, e, h⟩
  · obtain ⟨v, ev, rfl, g2, vs, g3, g4⟩ := S.at_ i _ e
    have hi : i < ρ.length := (List.getElem?_eq_some_iff.mp e).1
    have op : Own f p := ⟨i, by rw [g2]; simp⟩
    have Fp := S.own_fz op
    have ff : Same F (upd F p (.lst vs)) := same_new Fp
    have Fz2 : Fz (upd F p (.lst vs)) H := ⟨fun b o hb => by
      by_cases z : b = p
      · subst z; rw [upd_same] at hb; rw [g3]; exact hb
      · rw [upd_ne z] at hb; exact S.fh.s b o hb, nt_upd S.fh.nt fun ps z => by cases z⟩
    have fst : Step F H (Own f) (upd F p (.lst vs)) H (Own fun j => if j = i then [] else f j) := by
      refine ⟨ff, fun _ _ h _ => h, fun b h => ?_, fun b h => ?_⟩
      · by_cases z : b = p
        · subst z; exact .inr (.inl op)
        · rw [upd_ne z] at h; exact .inl h
      · rcases own_if h with z | z
        · cases z
        · exact .inl z
    have r0 : RepL X.K (upd F p (.lst vs)) ds vs := g4.mono ff
    have S2 : Sat X.K B (upd F p (.lst vs)) H σ ((ρ.set i (some (.fr (.lst ds)))).map (thawS1 p ds)) (fun j => if j = i then [] else f j) := by
      refine ⟨by simp [S.len], fun j d hj => ?_, fun j hj => ?_, fun j k b hb hc => ?_, fun j b hb => ?_, Fz2, S.st.trans fst⟩
      · rw [List.getElem?_map] at hj
        by_cases z : j = i
        · subst z
          rw [List.getElem?_set_self hi] at hj
          cases hj
          refine ⟨.ref p, ev, by simp, ?_⟩
          have : Rep X.K (upd F p (.lst vs)) (.lst ds) (.ref p) := rep_lst.mpr ⟨p, vs, rfl, upd_same, r0⟩
          exact thaw_rep upd_same r0 this
        · rw [List.getElem?_set_ne (Ne.symm z)] at hj
          simp only [z, if_false]
          cases hr : ρ[j]? with
          | none => rw [hr] at hj; cases hj
          | some o =>
            rw [hr] at hj
            match o, hj with
            | none, hj => cases hj
            | some (.fr x), hj =>
              cases hj
              obtain ⟨u, e1, o⟩ := S.at_ j _ hr
              exact ⟨u, e1, o.1, thaw_rep upd_same r0 (o.2.mono ff)⟩
            | some (.ol xs), hj =>
              cases hj
              obtain ⟨u, e1, a, us, h1, h2, h3, h4⟩ := S.at_ j _ hr
              exact ⟨u, e1, a, us, h1, h2, h3, thaw_repL upd_same r0 (h4.mono ff)⟩
            | some (.sm a b n t), hj =>
              cases hj
              obtain ⟨u, e1, o⟩ := S.at_ j _ hr
              exact ⟨u, e1, o.keep ff (fun _ _ _ h => h) fun _ _ h => h⟩
            | some (.ow a xs), hj =>
              cases hj
              obtain ⟨u, e1, o⟩ := S.at_ j _ hr
              exact ⟨u, e1, o.keep ff (fun _ _ _ h => h) fun _ _ h => h⟩
            | some (.rl xs), hj =>
              cases hj
              obtain ⟨u, e1, o⟩ := S.at_ j _ hr
              exact ⟨u, e1, o.keep ff (fun _ _ _ h => h) fun _ _ h => h⟩
      · by_cases z : j = i
        · simp [z]
        · simp only [z, if_false]
          refine S.em j fun d hd => ?_
          have hj' := fun d => hj d
          rw [List.getElem?_map, List.getElem?_set_ne (Ne.symm z), hd] at hj'
          cases d with
          | fr x => exact hj' _ rfl
          | ol x => exact hj' _ rfl
          | sm a b n t => exact hj' _ rfl
          | ow a x => exact hj' _ rfl
          | rl x => exact hj' _ rfl
      · by_cases z : j = i
        · simp [z] at hb
        · by_cases y : k = i
          · simp [y] at hc
          · simp only [z, y, if_false] at hb hc
            exact S.dj j k b hb hc
      · by_cases z : j = i
        · simp [z] at hb
        · simp only [z, if_false] at hb
          rw [upd_ne]
          · exact S.fz j b hb
          · rintro rfl
            exact z (S.dj j i b hb (by rw [g2]; simp))
    exact l En σ H _ _ _ kd S2 h (q.step fst)
  · exact l En σ H F ρ f kd S h q
end
/-! ### met(lambda: body), the body naming such a list -/
/-- what comes of it: the list itself told of, or as without it -/
def dMetW (K : PySem.W.Frag) (j m : Nat) (P : Addr) (q : Str) (hs : Hs) (tag : Str) (db : ExD → DF) : DF := fun ρ k => (∃ a b n, ρ[j]? = some (some (.sm a b n (some (P, q))))) ∧
  ((∃ x, ρ[m]? = some (some (.fr x)) ∧ db (fun C fs => ∃ tg g d, Hit K C hs tg g ∧ fs.lookup g = some d ∧ k (.tup [.str tg, d]) ρ) (frO ρ) (fun y _ => k (.tup [.str tag, y]) ρ)) ∨
    ∃ a ds, ρ[m]? = some (some (.ow a ds)) ∧ db (fun C fs => ∃ tg g, Hit K C hs tg g ∧ fs.lookup g = some (.la a ds) ∧ k (.tup [.str tg, .ob (.ref a)]) ρ) (frO (ρ.set m (some (.fr (.la a ds))))) (fun _ _ => False))
theorem lf_metW {K : PySem.W.Frag} {B : Bs} {j m n i : Nat} {P : Addr} {q : Str} {hs : Hs} {tag : Str} {db : ExD → DF} (hi : i < n) : LF K B (tLam1 P q (TMet K n i hs tag) (tLift K db)) (dMetW K j m P q hs tag db) := by
  intro σ H Q F ρ f k S h qq
  obtain ⟨hst, ⟨x, e0, h⟩ | ⟨a, ds, e0, h⟩⟩ := h
  · exact lf_met hi σ H Q F ρ f k S ⟨hst, h⟩ qq
  · obtain ⟨a1, b1, m1, e⟩ := hst
    obtain ⟨v, ev, h1, h2, h3, h4⟩ := S.at_ j _ e
    refine ⟨h4, fun H1 ex tab1 => ?_⟩
    obtain ⟨S1, s1⟩ := S.tab e ex tab1
    obtain ⟨w, ew, rfl, g2, vs, g3, g4⟩ := S1.at_ m _ e0
    have hm : m < ρ.length := (List.getElem?_eq_some_iff.mp e0).1
    have oa : Own f a := ⟨m, by rw [g2]; simp⟩
    have Fa := S1.own_fz oa
    have ff : Same F (upd F a (.lst vs)) := same_new Fa
    have Fz2 : Fz (upd F a (.lst vs)) H1 := ⟨fun b o hb => by
      by_cases z : b = a
      · subst z; rw [upd_same] at hb; rw [g3]; exact hb
      · rw [upd_ne z] at hb; exact S1.fh.s b o hb, nt_upd S1.fh.nt fun ps z => by cases z⟩
    have SL : Sat K ⟨upd F a (.lst vs), H1, fun _ => False⟩ (upd F a (.lst vs)) H1 σ (frO (ρ.set m (some (.fr (.la a ds))))) (fun _ => []) := by
      refine ⟨by simp [frO, S1.len], fun i d e => ?_, fun _ _ => rfl, fun i j a h _ => (by cases h), fun i a h => (by cases h), Fz2, Step.refl.sub fun b hb => (own_nil hb).elim⟩
      unfold frO at e
      rw [List.getElem?_map] at e
      by_cases z : i = m
      · subst z
        rw [List.getElem?_set_self hm] at e
        cases e
        exact ⟨.ref a, ew, rfl, rep_la.mpr ⟨rfl, vs, upd_same, g4.mono ff⟩⟩
      · rw [List.getElem?_set_ne (Ne.symm z)] at e
        cases hr : ρ[i]? with
        | none => rw [hr] at e; cases e
        | some o =>
          rw [hr] at e
          match o, e with
          | some (.fr x), e =>
            cases e
            obtain ⟨v, e1, o⟩ := S1.at_ i _ hr
            exact ⟨v, e1, rfl, o.2.mono ff⟩
          | some (.ol _), e => cases e
          | some (.sm _ _ _ _), e => cases e
          | some (.ow _ _), e => cases e
          | some (.rl _), e => cases e
          | none, e => cases e
    refine ⟨⟨upd F a (.lst vs), H1, fun _ => False⟩, _, ?_, upd F a (.lst vs), _, fun _ => [], _, SL, h, ?_⟩
    · intro C fs dd us F' H' P' hk bst fh hd hr σ'
      obtain ⟨tg, g, hit, lk, hk⟩ := hk
      obtain ⟨u, lu, ru⟩ := lookup_rep hr lk
      obtain ⟨rfl, _⟩ := rep_la.mp ru
      refine wAll_hit hi hd lu (fun r nr => ?_) hit
      have hh0 : Same H1 H' := fun x o hx => bst.hh x o hx fun z => z
      have nF : F r = none := S1.fh.free (by
        cases hb : H1 r with
        | none => rfl
        | some o => rw [hh0 r o hb] at nr; cases nr)
      obtain ⟨c1, c2, c3, c4⟩ := frz_new (o := .tup [V.str tg, .ref a]) (S1.fh.trans hh0) nr
      have hh : Same H1 (upd H' r (.tup [V.str tg, .ref a])) := fun x o hx => c3 x o (hh0 x o hx)
      have nf : ∀ x, upd F r (.tup [V.str tg, .ref a]) x ≠ none → F x ≠ none ∨ H1 x = none := fun x hx => by
        rcases c4 x hx with z | z
        · exact .inl z
        · cases hb : H1 x with
          | none => exact .inr rfl
          | some o => rw [hh0 x o hb] at z; cases z
      exact qq _ ρ _ _ _ f hk (s1.trans (Step.grow c1 hh nf)) (rep_tup.mpr ⟨r, _, rfl, SqT.of upd_same, repL_cons (rep_str.mpr rfl) (repL_one (rep_ob.mpr rfl))⟩) (S1.grow c1 c2 hh nf)
    · intro y ρ' u F' H' f' hk
      exact hk.elim
theorem pf_metW {X : Cx} {B : Bs} {x a : Str} {g c P : Addr} {k i j m n : Nat} {hs : Hs} {tag : Str} {db : ExD → DF} {pg : Arguments} {bg : List Stmt} {sg : Scope} {dV kV doc pm cdv ct oc : Value} {an od : Option Addr} {osl : Array (Option Value)} {Ng : List Str} {params : Arguments} {body : Expr} {scope : Scope} {p lpos pos : Pos}
    (hi : i < n) (hg : Gl X x) (hm : X.mg x = some (.ref g)) (hk : PySem.W.keepIn X.K (.ref g) = true) (lk : X.K.lookup g = some ⟨oc, od, .func (PySem.W.fnOf x x pg bg sg dV kV doc pm an cdv ct), osl⟩) (hcg : PySem.W.codeIn X.K cdv x = true)
    (hb : L2.Binds X.K (PySem.W.fnOf x x pg bg sg dV kV doc pm an cdv ct) [a] []) (Sg : FnScope Ng [a] sg) (first : Ng[0]? = some a) (vis : Vis sg a) (gives : GivesTo X Ng x sg g cdv bg a (lamQ X) (TMet X.K n i hs tag)) (TB : TabB X.base X.mg c P) (code : X.env.code = .ref c) (hr : Room (k + 2) X.A)
    (L : LamS X.env.scope scope) (nodef : defaultsOf params X.env = ([], [])) (noargs : ∀ (q : Str) (cl : List (Str × Addr)) (pm cv ctv : Value), bindArgs (PySem.W.kla_fn "<lambda>" q params body scope cl pm cv ctv) ⟨[], []⟩ = pure [])
    (hbody : ∀ (A : Around) (outer : List Env) (s : Shared) (H : Hp) (E : XK) (f c' : Addr) (B' : Bs) (kx : ExD), Room k (A.deeper (lamEnv X scope s.heap.objs.size f c')) → ExOk X.K B' kx E → PF (lamCx X A outer s H E scope f c') B' body (db kx))
    (d1 : (x == ("__debug__" : Str)) = false := by decide) (d2 : (a == ("__debug__" : Str)) = false := by decide) (d3 : (a == ("__classdict__" : Str)) = false := by decide) : PF X B (.Call (.Name x p) [.Lambda params body scope lpos] [] pos) (dMetW X.K j m P (lamQ X) hs tag db) := by
  refine ⟨_, pe_lam1 (t := tLift X.K db) hg hm hk lk hcg hb Sg first vis gives TB code hr L nodef noargs (fun A outer s H E f c' room => ⟨fun pins s2 σ H2 Q I h => ?_⟩) d1 d2 d3, lf_metW hi⟩
  obtain ⟨B', kx, hE, h⟩ := h
  exact (hbody A outer s H E f c' B' kx room hE).pe.run pins s2 σ H2 Q I h
end Sa
end

section
namespace Sa
open PySem PySem.Spec PyProof.Rows L2
/-! ### zip of two lists or of two tuples; a list or a tuple walked -/
section
variable {K : PySem.W.Frag} {F H : Hp}
theorem walk_zipT {a b : Addr} {us ws : List V} {n : Nat} (hn : n = min us.length ws.length) : Walk (RZ.ItzT K a b) n (fun H => SqT K H a us ∧ SqT K H b ws) (YPair (fun i => us[i]?) (fun i => ws[i]?)) := by
  refine ⟨fun i _ hi g => ?_, fun _ g => ⟨us, ws, g.1, g.2, by omega⟩, fun i H v H' _ g y => ?_⟩
  · have l1 : i < us.length := by omega
    have l2 : i < ws.length := by omega
    exact ⟨us, ws, us[i], ws[i], g.1, g.2, List.getElem?_eq_getElem l1, List.getElem?_eq_getElem l2⟩
  · obtain ⟨T, x, z, e1, e2, e3, at1, at2⟩ := y
    exact ⟨T, x, z, e1, e2, e3, at1 us g.1, at2 ws g.2⟩
theorem src_zipT {a b : Addr} {vs us : List V} {ds es : List D} (h : SqT K F a vs) (r : RepL K F ds vs) (g : SqT K F b us) (q : RepL K F es us) : SrcOk K F H (zipD ds es) (RZ.ItzT K a b) := by
  refine ⟨_, _, walk_zipT (K := K) (a := a) (b := b) (us := vs) (ws := us) (by rw [zipD_len, r.length, q.length]), fun F2 H2 e1 e2 => ⟨Same.seqT (e1.trans e2.s) h, Same.seqT (e1.trans e2.s) g⟩, fun i H2 F2 x H3 hi e1 e2 y => ?_⟩
  obtain ⟨T, x1, x2, rfl, nT, rfl, h1, h2⟩ := y
  obtain ⟨d, hd, rd⟩ := r.getV h1
  obtain ⟨e, he, re⟩ := q.getV h2
  obtain ⟨F3, c1, c2, c3, c4, c5⟩ := pair_new (d := d) (e := e) e2 nT (rd.mono e1) (re.mono e1)
  exact ⟨F3, c1, c2, c3, c4, _, zipD_get hd he, c5⟩
end
section
variable {X : Cx} {B : Bs} {tg e e2 a b c : Expr} {p pos tpos : Pos} {elts : List Expr} {kk : Nat} {st : Stmt}
def dZipA (d e : DF) : DA := fun ρ k => d ρ fun y ρ1 => e ρ1 fun z ρ2 => ∃ ds es, ((y = .lst ds ∧ z = .lst es) ∨ (y = .tup ds ∧ z = .tup es)) ∧ k (zipD ds es) ρ2
theorem pid_zipA {d d2 : DF} (hg : Gl X "zip") (hm : X.mg "zip" = none) (h : PF X B e d) (h2 : PF X B e2 d2)
    (hs : starEach [e, e2] X.env = (false, eval e X.env) :: starEach [e2] X.env := by rfl) (hs2 : starEach [e2] X.env = [(false, eval e2 X.env)] := by rfl) (hpl : (backTo pos (starEach [e2] X.env)).any (·.1) = false := by rfl) :
    PId X B (.Tuple elts kk tpos) (.Call (.Name "zip" p) [e, e2] [] pos) (dZipA d d2) := by
  obtain ⟨t, p, l⟩ := h
  obtain ⟨t2, p2, l2⟩ := h2
  refine ⟨_, RZ.pi_zipA hg hm (pa_cons p (pa_cons p2 pa_nil hs2) hs) hs hpl, fun σ H R F ρ f k S h q => ?_⟩
  refine l σ H _ F ρ f _ S h fun y ρ1 v F1 H1 f1 k1 s1 r1 S1 => ?_
  refine l2 σ H1 _ F1 ρ1 f1 _ S1 k1 fun z ρ2 u F2 H2 f2 k2 s2 r2 S2 => ?_
  obtain ⟨ds, es, ⟨rfl, rfl⟩ | ⟨rfl, rfl⟩, k2⟩ := k2
  · obtain ⟨a, vs, rfl, h1, h2⟩ := rep_lstS (r1.mono s2.ff)
    obtain ⟨b, us, rfl, h3, h4⟩ := rep_lstS r2
    exact ⟨a, b, vs, us, rfl, .inl ⟨S2.fh.seq h1, S2.fh.seq h3, q _ ρ2 _ F2 H2 f2 k2 (s1.trans s2) S2 (src_zip h1 h2 h3 h4)⟩⟩
  · obtain ⟨a, vs, rfl, h1, h2⟩ := rep_tup.mp (r1.mono s2.ff)
    obtain ⟨b, us, rfl, h3, h4⟩ := rep_tup.mp r2
    exact ⟨a, b, vs, us, rfl, .inr ⟨Same.seqT S2.fh.s h1, Same.seqT S2.fh.s h3, q _ ρ2 _ F2 H2 f2 k2 (s1.trans s2) S2 (src_zipT h1 h2 h3 h4)⟩⟩
theorem pi_either {w1 w2 : TI} (h1 : PI X tg e w1) (h2 : PI X tg e w2) : PI X tg e (fun σ H R => w1 σ H R ∨ w2 σ H R) := ⟨fun pins s σ H R I h => h.elim (h1.run pins s σ H R I) (h2.run pins s σ H R I)⟩
/-- a list or a tuple in a slot -/
def dSeqV (i : Nat) : DA := fun ρ k => ∃ y ds, ρ[i]? = some (some (.fr y)) ∧ (y = .lst ds ∨ y = .tup ds) ∧ k ds ρ
theorem pid_seqV {i : Nat} (h : PE X e (tVar i)) : PId X B tg e (dSeqV i) := by
  refine ⟨_, pi_either (pi_list h) (pi_tup h), fun σ H R F ρ f k S h q => ?_⟩
  obtain ⟨y, ds, e0, h1, hk⟩ := h
  obtain ⟨v, ev, r⟩ := S.get e0
  rcases h1 with rfl | rfl
  · obtain ⟨a, vs, rfl, h1, h2⟩ := rep_lstS r
    exact .inl ⟨_, ev, a, rfl, ⟨vs, S.fh.seq h1⟩, q ds ρ _ F H f hk Step.refl S (src_list h1 h2)⟩
  · obtain ⟨a, vs, rfl, h1, h2⟩ := rep_tup.mp r
    exact .inr ⟨_, ev, a, rfl, ⟨vs, Same.seqT S.fh.s h1⟩, q ds ρ _ F H f hk Step.refl S (src_tup h1 h2)⟩
/-- return x if c else y, x a list of its own -/
def dRetIf (t : DTs) (da : DO) (db : DF) : DSt := fun kd ρ => t ρ fun c ρ1 => if c = true then da ρ1 fun ds ρ2 => kd.rt (.ol ds) ρ2 else db ρ1 fun y ρ2 => kd.rt (.fr y) ρ2
theorem psd_retIf {dc : DTs} {da : DO} {db : DF} {pos2 : Pos} (hc : PQ X B c dc) (ha : PO X B a da) (hb : PF X B b db) : PSd X B (.Return (some (.IfExp c a b pos)) pos2) (dRetIf dc da db) := by
  obtain ⟨t, p, l⟩ := hc
  obtain ⟨t2, p2, l2⟩ := ha
  obtain ⟨t3, p3, l3⟩ := hb
  refine ⟨_, ps_ret (pe_ifExp p p2 p3), fun En σ H F ρ f kd S h q => ?_⟩
  refine l σ H _ F ρ f _ S h fun c ρ1 F1 H1 f1 k1 s1 S1 => ?_
  cases c with
  | true =>
    refine l2 σ H1 _ F1 ρ1 f1 _ S1 k1 fun ds ρ2 a vs F2 H2 f2 k2 s2 ha r2 na fa S2 => ?_
    exact q.rt (.ol ds) ρ2 (.ref a) σ F2 H2 [a] f2 k2 ((s1.trans s2).sub fun b h => h.imp (fun z => by simpa using z) id) ⟨a, vs, rfl, rfl, ha, r2⟩ (fun b hb => by
      have z : b = a := by simpa using hb
      rw [z]; exact ⟨na, fa⟩) S2
  | false =>
    refine l3 σ H1 _ F1 ρ1 f1 _ S1 k1 fun y ρ2 v F2 H2 f2 k2 s2 r2 S2 => ?_
    exact q.rt (.fr y) ρ2 v σ F2 H2 [] f2 k2 ((s1.trans s2).sub fun b h => h.resolve_left (by simp)) ⟨rfl, r2⟩ (by simp) S2
theorem pa_tys2 {t1 t2 : String} (h1 : PE X a (tC (.ty t1))) (h2 : PE X b (tC (.ty t2))) (s1 : starEach [a, b] X.env = (false, eval a X.env) :: starEach [b] X.env := by rfl) (s2 : starEach [b] X.env = [(false, eval b X.env)] := by rfl) : PA X [a, b] (tTys [t1, t2]) := pa_cons h1 (pa_cons h2 pa_nil s2) s1
theorem pa_tys3 {t1 t2 t3 : String} (h1 : PE X a (tC (.ty t1))) (h2 : PE X b (tC (.ty t2))) (h3 : PE X c (tC (.ty t3))) (s1 : starEach [a, b, c] X.env = (false, eval a X.env) :: starEach [b, c] X.env := by rfl) (s2 : starEach [b, c] X.env = (false, eval b X.env) :: starEach [c] X.env := by rfl) (s3 : starEach [c] X.env = [(false, eval c X.env)] := by rfl) : PA X [a, b, c] (tTys [t1, t2, t3]) := pa_cons h1 (pa_cons h2 (pa_cons h3 pa_nil s3) s2) s1
theorem pssd_never {sts : List Stmt} : PSsd X B sts dNever := ⟨_, pss_never, fun _ _ _ _ _ _ _ _ h _ => h.elim⟩
/-! ### dicts without entries -/
theorem rep_dic0 {K : PySem.W.Frag} {F : Hp} {v : V} : Rep K F (.dic []) v ↔ ∃ a, v = .ref a ∧ F a = some (.dK []) := by
  rw [rep_dic]
  constructor
  · rintro ⟨a, kvs, h1, h2, h3⟩
    unfold RepK at h3
    subst h3
    exact ⟨a, h1, h2⟩
  · rintro ⟨a, h1, h2⟩
    exact ⟨a, [], h1, h2, by unfold RepK; rfl⟩
theorem pf_dict0 : PF X B (.Dict [] [] pos) (dC (.dic [])) := by
  refine ⟨_, pe_dnewK, fun σ H Q F ρ f k S h q a na => ?_⟩
  obtain ⟨c1, c2, c3, c4⟩ := frz_new (o := .dK []) S.fh na
  exact q (.dic []) ρ (.ref a) _ _ f h (Step.grow c1 c3 c4) (rep_dic0.mpr ⟨a, rfl, upd_same⟩) (S.grow c1 c2 c3 c4)
/-- dict([.. for key in thing]), thing a dict without entries -/
def dCopyDic (i : Nat) : DF := fun ρ k => ρ[i]? = some (some (.fr (.dic []))) ∧ k (.dic []) ρ
theorem pe_noway : PE X e (fun _ _ _ => False) := ⟨fun _ _ _ _ _ _ h => h.elim⟩
theorem pf_copyDic {i j : Nat} {elt tg iter : Expr} {scope : Scope} {own : List (Str × Nat)} {lp p2 : Pos} (hc : X.calm = true) (hN : X.N.Nodup) (hg : Gl X "dict") (hm : X.mg "dict" = none) (hv : PE X iter (tVar i)) (ok : BlkOk X.N X.env.scope scope own)
    (tgk : ∀ (s : Shared) (H : Hp) (C : Addr) (cl : List (Str × Addr)) (fp : List Addr), PG (X.blk s H scope (compEnvC scope cl C X.env) fp) tg (gName j)) (hs : ∀ x, foldedSetIterable iter X.env x = pure x := by intro _; rfl)
    (h1 : starEach [.ListComp elt [⟨tg, iter, [], 0⟩] scope lp] X.env = [(false, eval (.ListComp elt [⟨tg, iter, [], 0⟩] scope lp) X.env)] := by rfl) (hpl : (backTo pos (starEach [] X.env)).any (·.1) = false := by rfl) :
    PF X B (.Call (.Name "dict" p2) [.ListComp elt [⟨tg, iter, [], 0⟩] scope lp] [] pos) (dCopyDic i) := by
  refine ⟨_, pe_callTy (call_dictP hc) hg hm PyProof.Rows.boot_dict (pa_cons (pe_lock (pe_lc hc hN (pi_keys hv) ok tgk (fun _ _ _ _ _ => pts_nil) (fun _ _ _ _ _ => pe_noway) hs)) pa_nil h1) (he := h1) (hpl := hpl), fun σ H Q F ρ f k S h q => ?_⟩
  obtain ⟨e0, hk⟩ := h
  obtain ⟨v, ev, r⟩ := S.get e0
  obtain ⟨d, rfl, Fd⟩ := rep_dic0.mp r
  have Hd : H d = some (.dK []) := S.fh.s _ _ Fd
  refine ⟨d, .dK [], Hd, trivial, fun od => ⟨.ref d, ev, d, od, rfl, .inl ⟨[], upd_same, fun D nD => ?_⟩⟩⟩
  have nDd : D ≠ d := by
    rintro rfl
    rw [upd_same] at nD; cases nD
  have hD : H D = none := by rw [upd_ne nDd] at nD; exact nD
  refine ⟨fun i m H' => i = 0 ∧ H' = upd (upd H d (.frz od (.dK []))) D (.lst []), ⟨0, rfl, rfl⟩, ?_⟩
  rintro i m H' ⟨rfl, rfl⟩
  refine .inl ⟨⟨by rw [upd_ne (Ne.symm nDd)]; exact upd_same, Nat.le_refl _⟩, by rw [upd_ne (Ne.symm nDd)]; exact upd_same, ?_⟩
  have e1 : upd (upd (upd H d (.frz od (.dK []))) D (.lst [])) d (.dK []) = upd H D (.lst []) := by
    funext x
    by_cases z : x = d
    · rw [z, upd_same, upd_ne (Ne.symm nDd)]; exact Hd.symm
    · rw [upd_ne z]
      by_cases y : x = D
      · rw [y, upd_same, upd_same]
      · rw [upd_ne y, upd_ne y, upd_ne z]
  rw [e1]
  refine ⟨D, [], [], rfl, SqL.of upd_same, .nil, fun a na => ?_⟩
  have s1 : Same H (upd H D (.lst [])) := same_new hD
  obtain ⟨c1, c2, c3, c4⟩ := frz_new (o := .dK []) (S.fh.trans s1) na
  have nf : ∀ x, upd F a (.dK []) x ≠ none → F x ≠ none ∨ H x = none := fun x hx => by
    rcases c4 x hx with z | z
    · exact .inl z
    · cases hb : H x with
      | none => exact .inr rfl
      | some o => rw [s1 x o hb] at z; cases z
  exact q (.dic []) ρ (.ref a) _ _ f hk (Step.grow c1 (s1.trans c3) nf) (rep_dic0.mpr ⟨a, rfl, upd_same⟩) (S.grow c1 c2 (s1.trans c3) nf)
/-- list(x.items()), x a dict without entries -/
def dItems0 (d : DF) : DF := fun ρ k => d ρ fun y ρ1 => y = .dic [] ∧ k (.lst []) ρ1
theorem pf_items0 {d : DF} {apos cpos p2 : Pos} (hc : X.calm = true) (hg : Gl X "list") (hm : X.mg "list" = none) (h : PF X B e d) (hbase : attributeBase e "items" X.env (eval e X.env) = eval e X.env := by rfl) (hline : (apos.endLine == cpos.line) = true := by rfl)
    (hs : starEach [.Call (.Attribute e "items" apos) [] [] cpos] X.env = (false, eval (.Call (.Attribute e "items" apos) [] [] cpos) X.env) :: starEach [] X.env := by rfl) : PF X B (.Call (.Name "list" p2) [.Call (.Attribute e "items" apos) [] [] cpos] [] pos) (dItems0 d) := by
  obtain ⟨t, pt, l⟩ := h
  refine ⟨_, LiI.pe_listItems hc pt hg hm PyProof.Rows.boot_list hbase hline hs, fun σ H Q F ρ f k S h q => ?_⟩
  refine l σ H _ F ρ f _ S h fun y ρ1 v F1 H1 f1 k1 s1 r1 S1 => ?_
  obtain ⟨rfl, k1⟩ := k1
  obtain ⟨d, rfl, Fd⟩ := rep_dic0.mp r1
  refine ⟨d, [], rfl, S1.fh.s _ _ Fd, fun H' a ts keep na new _ at_ pr => ?_⟩
  cases pr
  have at_ : H' a = some (.lst []) := at_
  have nF : F1 a = none := S1.fh.free na
  have ff : Same F1 (upd F1 a (.lst [])) := same_new nF
  have fz : Fz (upd F1 a (.lst [])) H' := ⟨fun x o hx => by
    by_cases z : x = a
    · rw [z, upd_same] at hx; rw [z, at_]; exact hx
    · rw [upd_ne z] at hx; exact keep x o (S1.fh.s x o hx), nt_upd S1.fh.nt fun ps z => by cases z⟩
  have nf : ∀ x, upd F1 a (.lst []) x ≠ none → F1 x ≠ none ∨ H1 x = none := fun x hx => by
    by_cases z : x = a
    · rw [z]; exact .inr na
    · rw [upd_ne z] at hx; exact .inl hx
  exact q (.lst []) ρ1 (.ref a) _ H' f1 k1 (s1.trans (Step.grow ff keep nf)) (rep_lst.mpr ⟨a, [], rfl, upd_same, repL_nil⟩) (S1.grow ff fz keep nf)
/-- minus a number -/
def dNeg (d : DF) : DF := fun ρ k => d ρ fun y ρ1 => ∃ i, y = .int i ∧ k (.int (-i)) ρ1
theorem pf_neg {d : DF} (h : PF X B e d) : PF X B (.UnaryOp .USub e pos) (dNeg d) := by
  obtain ⟨t, p, l⟩ := h
  refine ⟨_, pe_un un_neg p, fun σ H Q F ρ f k S h q => ?_⟩
  refine l σ H _ F ρ f _ S h fun y ρ1 v F1 H1 f1 k1 s1 r1 S1 => ?_
  obtain ⟨i, rfl, k1⟩ := k1
  rw [rep_int] at r1
  exact ⟨i, r1, q _ ρ1 _ F1 H1 f1 k1 s1 (rep_int.mpr rfl) S1⟩
end
end Sa
end

section
namespace K24
open PySem PySem.Spec PyProof.Rows L2 Sa
abbrev pg : Program := PySem.Challenge.pw_standapart_k24_whole_tokens_of_texts
def topS (i : Nat) : Stmt := pg.main.body.getD i (.Pass ⟨0, 0, 0, 0⟩)
abbrev s_run_end : Stmt := topS 9
theorem sc_run_end : FnScope ["row", "place", "signs", "end"] ["row", "place", "signs"] (defScope s_run_end) := ⟨rfl, rfl, rfl, by decide +kernel, rfl, by decide +kernel, by decide +kernel⟩
abbrev s_row_tokens : Stmt := topS 10
theorem sc_row_tokens : FnScope ["row", "found", "place", "sign", "end"] ["row"] (defScope s_row_tokens) := ⟨rfl, rfl, rfl, by decide +kernel, rfl, by decide +kernel, by decide +kernel⟩
abbrev s__law_span : Stmt := topS 19
theorem sc__law_span : FnScope ["row", "place", "signs", "found", "sign"] ["row", "place", "signs"] (defScope s__law_span) := ⟨rfl, rfl, rfl, by decide +kernel, rfl, by decide +kernel, by decide +kernel⟩
abbrev s__law_row_tokens : Stmt := topS 20
theorem sc__law_row_tokens : FnScope ["row", "found", "skip", "place", "sign", "word", "figures", "quoted"] ["row"] (defScope s__law_row_tokens) := ⟨rfl, rfl, rfl, by decide +kernel, rfl, by decide +kernel, by decide +kernel⟩
/-- how many of these signs stand at the head of a list -/
def runL (ok : Nat → Bool) : List Nat → Nat
  | [] => 0
  | c :: r => if ok c then runL ok r + 1 else 0
theorem runL_le (ok : Nat → Bool) : ∀ l : List Nat, runL ok l ≤ l.length
  | [] => Nat.le_refl _
  | c :: r => by
    unfold runL
    split
    · have := runL_le ok r
      simp; omega
    · exact Nat.zero_le _
theorem runL_step {ok : Nat → Bool} {l : List Nat} {n c : Nat} (h : l[n]? = some c) : runL ok (l.drop n) = if ok c then runL ok (l.drop (n + 1)) + 1 else 0 := by
  have e : l.drop n = c :: l.drop (n + 1) := by
    rw [List.drop_eq_getElem_cons (List.getElem?_eq_some_iff.mp h).1]
    congr 1
    have := (List.getElem?_eq_some_iff.mp h).2
    exact this
  rw [e]
  rfl
def inS (g : Str) : Nat → Bool := fun c => decide (c ∈ g.cps.toList)
/-- run_end(row, place, signs) -/
def PhiRunEnd : Phi := fun ds k => ∃ (x g : Str) (p : Nat), ds = [.str x, .int (p : Nat), .str g] ∧ x.length ≤ 100000 ∧ p ≤ x.length ∧
  k (.fr (.int ((p + runL (inS g) (x.cps.toList.drop p) : Nat))))

/-! ### the tokens of a row, as plain lists -/
abbrev LET : Str := "abcdefghijklmnopqrstuvwxyz"
abbrev FIG : Str := "0123456789"
abbrev SGN : Str := "(),"
def okL : Nat → Bool := inS LET
def okF : Nat → Bool := inS FIG
def wordD (l : List Nat) (p : Nat) : D := .tup [.str "word", .str (txt l), .int (p : Nat)]
def numD (l : List Nat) (p : Nat) : D := .tup [.str "number", .int ((PySem.intText? (txt l)).getD 0), .int (p : Nat)]
def quoD (l : List Nat) (p : Nat) : D := .tup [.str "quote", .str (txt l), .int (p : Nat)]
def sgnD (c : Nat) (p : Nat) : D := .tup [.str "sign", .str (txt [c]), .int (p : Nat)]
def put (t : D) (r : List D × D) : List D × D := (t :: r.1, r.2)
theorem runL_pos {ok : Nat → Bool} {c : Nat} {r : List Nat} (h : ok c = true) : 0 < runL ok (c :: r) := by
  unfold runL
  rw [if_pos h]
  omega
theorem runL_zero {ok : Nat → Bool} {c : Nat} {r : List Nat} (h : ok c = false) : runL ok (c :: r) = 0 := by
  unfold runL
  rw [if_neg (by rw [h]; decide)]
def tk (l : List Nat) (p : Nat) : List D × D :=
  match l with
  | [] => ([], .non)
  | c :: r =>
    if okL c then put (wordD ((c :: r).take (runL okL (c :: r))) p) (tk (r.drop (runL okL (c :: r) - 1)) (p + runL okL (c :: r)))
    else if okF c then put (numD ((c :: r).take (runL okF (c :: r))) p) (tk (r.drop (runL okF (c :: r) - 1)) (p + runL okF (c :: r)))
    else if inS SGN c then put (sgnD c p) (tk r (p + 1))
    else if c = 32 then tk r (p + 1)
    else if c = 39 ∧ 0 < runL okL r then put (quoD (r.take (runL okL r)) p) (tk (r.drop (runL okL r)) (p + 1 + runL okL r))
    else ([], .int (p : Nat))
termination_by l.length
decreasing_by all_goals (simp only [List.length_cons, List.length_drop]; omega)
/-- what stands ahead of the first sign # -/
def ahead (l : List Nat) : List Nat := l.takeWhile fun c => decide (c ≠ 35)
def rowTok (l : List Nat) : List D × D := tk (ahead l) 0
def resD (r : List D × D) : D := .tup [.lst r.1, r.2]
section
variable {P : Program} {w : World} {K : PySem.W.Frag} {mg : Str → Option Value} {base : Heap}
theorem ok_run_end {f : Addr} {fd : FuncData} {k : Nat} (Fu : Fun K "run_end" "run_end" s_run_end f fd) (ml : mg "len" = none) : FnOk P w K mg base CX0 (k + 1) f fd ["row", "place", "signs"] (SpF K PhiRunEnd) := by
  refine fnF Fu sc_run_end (fun ds kk h => by obtain ⟨x, g, p, rfl, _⟩ := h; rfl) fun cdv A outer s H E B hr => ⟨_,
    psd_cons (psd_set (i := 3) (fun t pt => ps_set (i := 3) sc_run_end.nd rfl (.inl rfl) pt) (pf_var (pv 1)))
    (psd_cons (psd_while PassesOwn.never (PV.pq (pv_and (pq_lt (pf_var (pv 3)) (pf_len rfl ml (pf_var (pv 0)))) (pv_and1 (pq_inS (pf_ix (pf_var (pv 0)) (pf_var (pv 3))) (pf_var (pv 2)))))) (psd_one (psd_set (i := 3) (fun t pt => ps_set (i := 3) sc_run_end.nd rfl (.inl rfl) pt) (pf_add (pf_var (pv 3)) pf_int))))
    (psd_one (psd_ret (pf_var (pv 3))))), fun ds kk h => ?_⟩
  obtain ⟨x, g, p, rfl, hx, hp, hk⟩ := h
  -- end = place
  refine ⟨_, rfl, ?_⟩
  simp only [dSeq, dNext, dSet, dSetO, dVar, dFrz, dC, dOp, dTest, rdI, rdI0, rdEq_ss, rdEq_gs, rdEq_gg, rdEq_ii, rdEq_bb, rdNe_ss, rdNe_gs, rdNe_gg, rdNe_ii, rdNe_bb, dAnd, dOr, dNot, dAndV, dOrV, dNotV, dIf, dNil, dCons, dTup, dLst, dFz, dBreak, dCont, dRet, dRetO, dMove, dIfS, dNever, dDrop, dWhile, dFor, dLc, dSrcL, dSrcT, dSrcS, dRng1, dRng2, dEnumL, dEnumS, dZip, dgName, dgNil, dgCons, dgTup, dPar, mNil, mConsF, mConsO, putD, dAsg, dCB, rdLen, lenD_str, lenD_lst, lenD_tup, dIxV, dLenV, dCall, dCallO, dCallX, dCallXO, dRaise, dCallS, dCallSO, frz_fr, frz_ol, rdAddS, dSlS, dPart, dNoPart, dM0, dM1, rdSplit, rdJoin, rdStr0, rdStr1, rdIndex, rdIsN, isn_non, isn_int, isn_str, isn_lst, isn_tup, rdEqD, rdCat, rdRep, dOpO, dCBO, rdList_lst, rdList_tup, rdList_str, rdTuple_lst, rdTuple_tup, rdAll, rdIn_sg, rdIx_str, rdIx_lst, rdIx_tup, rdInt_str, rdInt_int, at0, at1, at2, one_len, cast1, castA, castP, Int.ofNat_lt, Int.ofNat_le, Int.ofNat_inj, dYes, dApp, dSeqV, dRetIf, dCopyDic, dItems0, dNeg, dZipA, wipeD, noOwn, dSetRL, dAppRL, dBor1, dSpoil, dSetW, putW, dIsiW, dAppW, dThaw, dMet, dMetN, dMetW, dCallXk, frO, frO1, frS, frS1, thawS1, thawD, thawL, List.mem_singleton, implies_true, false_implies, forall_const, forall_eq', List.map_set, dCut, dCutS, ae_len, dIsi, startD, and_assoc, exists_eq_left, exists_eq_left', exists_eq_right, exists_eq_right', exists_eq, exists_eq', exists_and_left, exists_and_right, exists_const, exists_false, false_and, and_false, true_and, and_true, false_or, or_false, or_true, true_or, if_true, if_false, Bool.false_eq_true, reduceCtorEq, reduceIte, ite_true, ite_false, Option.some.injEq, DS.fr.injEq, DS.ol.injEq, DS.sm.injEq, D.int.injEq, D.str.injEq, D.bl.injEq, D.lst.injEq, D.tup.injEq, V.str.injEq, V.int.injEq, V.bl.injEq, List.cons.injEq, List.getElem?_cons_zero, List.getElem?_cons_succ, List.set_cons_zero, List.set_cons_succ, List.length_cons, List.length_nil, List.length_set, List.map_cons, List.map_nil, List.cons_append, List.nil_append, List.append_nil, List.replicate_succ, List.replicate_zero, List.mem_cons, List.not_mem_nil, forall_eq_or_imp, forall_eq, Nat.reduceAdd, Nat.reduceSub, Nat.reduceLT, Nat.reduceLeDiff, Nat.zero_add, Nat.add_zero, decide_eq_true_eq, decide_eq_false_iff_not, Bool.not_eq_true', Bool.and_eq_true, Bool.or_eq_true, decide_true, decide_false, Bool.not_true, Bool.not_false, id_eq, Option.map_some, Option.map_none]
  refine ⟨fun m ρ => ∃ n : Nat, ρ = [some (.fr (.str x)), some (.fr (.int (p : Nat))), some (.fr (.str g)), some (.fr (.int (n : Nat)))] ∧ p ≤ n ∧ n ≤ x.length ∧ m = x.length - n ∧
    p + runL (inS g) (x.cps.toList.drop p) = n + runL (inS g) (x.cps.toList.drop n), ⟨x.length - p, p, rfl, Nat.le_refl _, hp, rfl, rfl⟩, ?_⟩
  rintro m ρ ⟨n, rfl, h1, h2, rfl, h3⟩
  simp only [dSeq, dNext, dSet, dSetO, dVar, dFrz, dC, dOp, dTest, rdI, rdI0, rdEq_ss, rdEq_gs, rdEq_gg, rdEq_ii, rdEq_bb, rdNe_ss, rdNe_gs, rdNe_gg, rdNe_ii, rdNe_bb, dAnd, dOr, dNot, dAndV, dOrV, dNotV, dIf, dNil, dCons, dTup, dLst, dFz, dBreak, dCont, dRet, dRetO, dMove, dIfS, dNever, dDrop, dWhile, dFor, dLc, dSrcL, dSrcT, dSrcS, dRng1, dRng2, dEnumL, dEnumS, dZip, dgName, dgNil, dgCons, dgTup, dPar, mNil, mConsF, mConsO, putD, dAsg, dCB, rdLen, lenD_str, lenD_lst, lenD_tup, dIxV, dLenV, dCall, dCallO, dCallX, dCallXO, dRaise, dCallS, dCallSO, frz_fr, frz_ol, rdAddS, dSlS, dPart, dNoPart, dM0, dM1, rdSplit, rdJoin, rdStr0, rdStr1, rdIndex, rdIsN, isn_non, isn_int, isn_str, isn_lst, isn_tup, rdEqD, rdCat, rdRep, dOpO, dCBO, rdList_lst, rdList_tup, rdList_str, rdTuple_lst, rdTuple_tup, rdAll, rdIn_sg, rdIx_str, rdIx_lst, rdIx_tup, rdInt_str, rdInt_int, at0, at1, at2, one_len, cast1, castA, castP, Int.ofNat_lt, Int.ofNat_le, Int.ofNat_inj, dYes, dApp, dSeqV, dRetIf, dCopyDic, dItems0, dNeg, dZipA, wipeD, noOwn, dSetRL, dAppRL, dBor1, dSpoil, dSetW, putW, dIsiW, dAppW, dThaw, dMet, dMetN, dMetW, dCallXk, frO, frO1, frS, frS1, thawS1, thawD, thawL, List.mem_singleton, implies_true, false_implies, forall_const, forall_eq', List.map_set, dCut, dCutS, ae_len, dIsi, startD, and_assoc, exists_eq_left, exists_eq_left', exists_eq_right, exists_eq_right', exists_eq, exists_eq', exists_and_left, exists_and_right, exists_const, exists_false, false_and, and_false, true_and, and_true, false_or, or_false, or_true, true_or, if_true, if_false, Bool.false_eq_true, reduceCtorEq, reduceIte, ite_true, ite_false, Option.some.injEq, DS.fr.injEq, DS.ol.injEq, DS.sm.injEq, D.int.injEq, D.str.injEq, D.bl.injEq, D.lst.injEq, D.tup.injEq, V.str.injEq, V.int.injEq, V.bl.injEq, List.cons.injEq, List.getElem?_cons_zero, List.getElem?_cons_succ, List.set_cons_zero, List.set_cons_succ, List.length_cons, List.length_nil, List.length_set, List.map_cons, List.map_nil, List.cons_append, List.nil_append, List.append_nil, List.replicate_succ, List.replicate_zero, List.mem_cons, List.not_mem_nil, forall_eq_or_imp, forall_eq, Nat.reduceAdd, Nat.reduceSub, Nat.reduceLT, Nat.reduceLeDiff, Nat.zero_add, Nat.add_zero, decide_eq_true_eq, decide_eq_false_iff_not, Bool.not_eq_true', Bool.and_eq_true, Bool.or_eq_true, decide_true, decide_false, Bool.not_true, Bool.not_false, id_eq, Option.map_some, Option.map_none]
  refine ⟨Nat.le_trans hx (by decide), ?_⟩
  by_cases hn : n < x.length
  · obtain ⟨c, hg⟩ : ∃ c, x.cps.toList[n]? = some c := ⟨_, List.getElem?_eq_getElem (by simp; exact hn)⟩
    have st := runL_step (ok := inS g) hg
    rw [if_pos hn]
    refine ⟨Nat.le_trans hx (by decide), c, atI_nat hg, ?_⟩
    by_cases hc : c ∈ g.cps.toList
    · rw [if_pos (by simpa [inS] using hc)] at st
      rw [if_pos hc]
      exact ⟨x.length - (n + 1), by omega, by omega, by omega, rfl, by omega⟩
    · rw [if_neg (by simpa [inS] using hc)] at st
      rw [if_neg hc]
      rw [h3, st] at hk
      exact hk
  · rw [if_neg hn]
    have e : n = x.length := by omega
    have h4 : runL (inS g) (x.cps.toList.drop n) = 0 := by
      rw [List.drop_of_length_le (by rw [len_toList]; omega)]
      rfl
    rw [h3, h4] at hk
    exact hk
theorem phiRunEnd {x g : Str} {p : Nat} {k : DS → Prop} : PhiRunEnd [.str x, .int (p : Nat), .str g] k ↔ x.length ≤ 100000 ∧ p ≤ x.length ∧ k (.fr (.int ((p + runL (inS g) (x.cps.toList.drop p) : Nat)))) := by
  constructor
  · rintro ⟨x', g', p', e, h1, h2, h3⟩
    injection e with e1 e2
    injection e2 with e2 e3
    injection e3 with e3 _
    injection e1 with e1
    injection e2 with e2
    injection e3 with e3
    have e2 : p = p' := by omega
    subst e1 e2 e3
    exact ⟨h1, h2, h3⟩
  · rintro ⟨h1, h2, h3⟩
    exact ⟨x, g, p, rfl, h1, h2, h3⟩

/-- _law_span(row, place, signs) -/
def PhiSpan : Phi := fun ds k => ∃ (x g : Str) (p : Nat), ds = [.str x, .int (p : Nat), .str g] ∧ x.length ≤ 100000 ∧ p ≤ x.length ∧ k (.fr (.int ((runL (inS g) (x.cps.toList.drop p) : Nat))))
theorem ok__law_span {f : Addr} {fd : FuncData} {k : Nat} (Fu : Fun K "_law_span" "_law_span" s__law_span f fd) : FnOk P w K mg base CX0 (k + 1) f fd ["row", "place", "signs"] (SpF K PhiSpan) := by
  refine fnF Fu sc__law_span (fun ds kk h => by obtain ⟨x, g, p, rfl, _⟩ := h; rfl) fun cdv A outer s H E B hr => ⟨_,
    (psd_cons (psd_set (i := 3) (fun t pt => ps_set (i := 3) sc__law_span.nd rfl (.inl rfl) pt) pf_int)
      (psd_cons (psd_for PassesOwn.never rfl (pid_str (pf_sliceS (pf_var (pv 0)) (pp_some (pf_var (pv 1))) pp_none)) (pg_name (i := 4) sc__law_span.nd rfl (.inl rfl)) lg_name
      (psd_cons (psd_if (pq_notInS (pf_var (pv 4)) (pf_var (pv 2)))
      (psd_one (psd_ret (pf_var (pv 3))))
      psd_nil)
      (psd_one (psd_set (i := 3) (fun t pt => ps_set (i := 3) sc__law_span.nd rfl (.inl rfl) pt) (pf_add (pf_var (pv 3)) pf_int)))))
      (psd_one (psd_ret (pf_var (pv 3))))))
    , fun ds kk h => ?_⟩
  obtain ⟨x, g, p, rfl, hx, hp, hk⟩ := h
  refine ⟨_, rfl, _, rfl, _, rfl, x, rfl, Nat.le_trans hx (by decide), _, rfl, fun n ρ => ∃ o : Option DS, ρ = [some (.fr (.str x)), some (.fr (.int (p : Nat))), some (.fr (.str g)), some (.fr (.int (n : Nat))), o] ∧ n ≤ x.length - p ∧
    runL (inS g) (x.cps.toList.drop p) = n + runL (inS g) (x.cps.toList.drop (p + n)), ?_, ?_, ?_⟩
  · exact ⟨none, rfl, Nat.zero_le _, by simp⟩
  · rintro n d ρ hd hW
    obtain ⟨o, rfl, hn, e⟩ := hW
    rw [cut_from x p hp] at hd
    unfold signsD at hd
    rw [toList_txt, List.getElem?_map, List.getElem?_drop] at hd
    cases hc : x.cps.toList[p + n]? with
    | none => rw [hc] at hd; cases hd
    | some c =>
      rw [hc] at hd
      cases hd
      have st := runL_step (ok := inS g) hc
      have hlt : p + n < x.length := by
        have := (List.getElem?_eq_some_iff.mp hc).1
        rw [len_toList] at this; exact this
      refine ⟨_, rfl, _, rfl, c, g, rfl, rfl, _, rfl, ?_⟩
      by_cases hm : c ∈ g.cps.toList
      · rw [if_pos (by unfold inS; exact decide_eq_true hm)] at st
        refine (if_neg (by rw [decide_eq_true hm]; decide)).mpr ?_
        refine ⟨_, rfl, _, _, rfl, rfl, some (.fr (signD c)), rfl, by omega, ?_⟩
        rw [e, st]
        have : p + n + 1 = p + (n + 1) := by omega
        rw [this]; omega
      · rw [if_neg (by unfold inS; simpa using hm)] at st
        refine (if_pos (by rw [decide_eq_false hm]; decide)).mpr ?_
        refine ⟨_, rfl, ?_⟩
        rw [e, st] at hk
        exact hk
  · rintro ρ hW
    obtain ⟨o, rfl, hn, e⟩ := hW
    refine ⟨_, rfl, ?_⟩
    rw [cut_from x p hp, signsD_len] at e hn ⊢
    have hl : (txt (x.cps.toList.drop p)).cps.size = x.length - p := by
      have := len_txt (x.cps.toList.drop p)
      rw [List.length_drop, len_toList] at this
      exact this
    rw [hl] at e ⊢
    have h0 : x.cps.toList.drop (p + (x.length - p)) = [] := List.drop_of_length_le (by rw [len_toList]; omega)
    rw [h0] at e
    rw [e] at hk
    exact hk
theorem runL_len (ok : Nat → Bool) (l : List Nat) (n : Nat) : n ≤ l.length → n + runL ok (l.drop n) ≤ l.length := fun h => by
  have := runL_le ok (l.drop n)
  rw [List.length_drop] at this
  omega
theorem run_all (ok : Nat → Bool) : ∀ l : List Nat, ∀ c ∈ l.take (runL ok l), ok c = true
  | [], c, h => by simp at h
  | a :: l, c, h => by
    unfold runL at h
    by_cases ha : ok a = true
    · rw [if_pos ha, List.take_succ_cons] at h
      rcases List.mem_cons.mp h with e | e
      · rw [e]; exact ha
      · exact run_all ok l c e
    · rw [if_neg ha] at h
      simp at h
theorem fig_digit {c : Nat} (h : okF c = true) : 48 ≤ c ∧ c ≤ 57 := by
  have h1 : c ∈ FIG.cps.toList := of_decide_eq_true h
  have h2 : FIG.cps.toList = [48, 49, 50, 51, 52, 53, 54, 55, 56, 57] := by decide
  rw [h2] at h1
  simp at h1
  omega
theorem int_run {l : List Nat} (h : 0 < runL okF l) (hl : l.length ≤ 600) : ∃ v, PySem.intText? (txt (l.take (runL okF l))) = some v := by
  refine ⟨_, intText_digits ?_ ?_ ?_⟩
  · rw [toList_txt]
    intro c hc
    exact fig_digit (run_all okF l c hc)
  · rw [toList_txt]
    intro e
    have := congrArg List.length e
    rw [List.length_take, List.length_nil] at this
    have := runL_le okF l
    omega
  · rw [len_txt, List.length_take]
    omega
/-- between the turns of row_tokens -/
def WRow (l : List Nat) (kk : DS → Prop) (m : Nat) (ρ : Sl) : Prop := ∃ (n : Nat) (acc : List D) (o o' : Option DS), ρ = [some (.fr (.str (txt l))), some (.ol acc), some (.fr (.int (n : Nat))), o, o'] ∧ n ≤ l.length ∧ acc.length ≤ n ∧ m = l.length - n ∧
    kk (.fr (resD (acc ++ (tk (l.drop n) n).1, (tk (l.drop n) n).2)))
/-- row_tokens(row) -/
def PhiRow : Phi := fun ds k => ∃ x : Str, ds = [.str x] ∧ x.length ≤ 600 ∧ k (.fr (resD (rowTok x.cps.toList)))
theorem ok_row_tokens {f : Addr} {fd : FuncData} {k : Nat} (Fu : Fun K "row_tokens" "row_tokens" s_row_tokens f fd) {a_run_end : Addr} {d_run_end : FuncData} (G_run_end : FnOk P w K mg base CX0 (k + 1) a_run_end d_run_end ["row", "place", "signs"] (SpF K PhiRunEnd)) (g_run_end : mg "run_end" = some (.ref a_run_end)) (kp_run_end : PySem.W.keepIn K (.ref a_run_end) = true) (b_run_end : Binds K d_run_end ["row", "place", "signs"] [])
    (m_len : mg "len" = none) (m_int : mg "int" = none) {tL tF : Tok} (m_LETTERS : mg "LETTERS" = some (.str LET tL)) (m_FIGURES : mg "FIGURES" = some (.str FIG tF)) :
    FnOk P w K mg base CX0 (k + 2) f fd ["row"] (SpF K PhiRow) := by
  refine fnF Fu sc_row_tokens (fun ds kk h => by obtain ⟨x, rfl, _⟩ := h; rfl) fun cdv A outer s H E B hr => ⟨_,
    (psd_cons (psd_par3 (i := 1) (j := 2) (l := 0) (fun t pt => ps_par3 rfl sc_row_tokens.nd rfl rfl rfl (by decide) (by decide) (by decide) rfl rfl rfl pt (by rfl)) (pm_consO (po_lst pad_nil) (pm_consF pf_int (pm_consF (pf_ix (pf_split (pf_var (pv 0)) pf_str) pf_int) pm_nil))))
      (psd_cons (psd_while PassesOwn.never (pq_lt (pf_var (pv 2)) (pf_len rfl m_len (pf_var (pv 0))))
      (psd_cons (psd_par (i := 3) (j := 4) (fun t pt => ps_par rfl sc_row_tokens.nd rfl rfl (by decide) rfl rfl pt (by rfl)) (pm_consF (pf_ix (pf_var (pv 0)) (pf_var (pv 2))) (pm_consF (pf_add (pf_var (pv 2)) pf_int) pm_nil)))
      (psd_cons (psd_if (pq_inS (pf_var (pv 3)) (pf_c (v := .str LET) (pe_glob rfl m_LETTERS ⟨_, rfl⟩) fun _ => rep_str.mpr rfl))
      (psd_cons (psd_set (i := 4) (fun t pt => ps_set (i := 4) sc_row_tokens.nd rfl (.inl rfl) pt) (pf_call G_run_end (hr.mono (by omega)) rfl g_run_end kp_run_end b_run_end (pad_cons (pf_var (pv 0)) (pad_cons (pf_var (pv 2)) (pad_cons (pf_c (v := .str LET) (pe_glob rfl m_LETTERS ⟨_, rfl⟩) fun _ => rep_str.mpr rfl) pad_nil)))))
      (psd_one (psd_app (i := 1) (pf_tup (pad_cons pf_str (pad_cons (pf_sliceS (pf_var (pv 0)) (pp_some (pf_var (pv 2))) (pp_some (pf_var (pv 4)))) (pad_cons (pf_var (pv 2)) pad_nil)))) (fun t pt => ps_expr (pe_bm PySem.F.plainAttrs_list PySem.F.slot_list_append PySem.F.type_list_append mt_append (pv 1) (pa_cons pt pa_nil))))))
      (psd_one (psd_if (pq_inS (pf_var (pv 3)) (pf_c (v := .str FIG) (pe_glob rfl m_FIGURES ⟨_, rfl⟩) fun _ => rep_str.mpr rfl))
      (psd_cons (psd_set (i := 4) (fun t pt => ps_set (i := 4) sc_row_tokens.nd rfl (.inl rfl) pt) (pf_call G_run_end (hr.mono (by omega)) rfl g_run_end kp_run_end b_run_end (pad_cons (pf_var (pv 0)) (pad_cons (pf_var (pv 2)) (pad_cons (pf_c (v := .str FIG) (pe_glob rfl m_FIGURES ⟨_, rfl⟩) fun _ => rep_str.mpr rfl) pad_nil)))))
      (psd_one (psd_app (i := 1) (pf_tup (pad_cons pf_str (pad_cons (pf_intc rfl m_int (pf_sliceS (pf_var (pv 0)) (pp_some (pf_var (pv 2))) (pp_some (pf_var (pv 4))))) (pad_cons (pf_var (pv 2)) pad_nil)))) (fun t pt => ps_expr (pe_bm PySem.F.plainAttrs_list PySem.F.slot_list_append PySem.F.type_list_append mt_append (pv 1) (pa_cons pt pa_nil))))))
      (psd_one (psd_if (pq_inS (pf_var (pv 3)) pf_str)
      (psd_one (psd_app (i := 1) (pf_tup (pad_cons pf_str (pad_cons (pf_var (pv 3)) (pad_cons (pf_var (pv 2)) pad_nil)))) (fun t pt => ps_expr (pe_bm PySem.F.plainAttrs_list PySem.F.slot_list_append PySem.F.type_list_append mt_append (pv 1) (pa_cons pt pa_nil)))))
      (psd_one (psd_if (pq_ne (pf_var (pv 3)) pf_str)
      (psd_cons (psd_set (i := 4) (fun t pt => ps_set (i := 4) sc_row_tokens.nd rfl (.inl rfl) pt) (pf_call G_run_end (hr.mono (by omega)) rfl g_run_end kp_run_end b_run_end (pad_cons (pf_var (pv 0)) (pad_cons (pf_add (pf_var (pv 2)) pf_int) (pad_cons (pf_c (v := .str LET) (pe_glob rfl m_LETTERS ⟨_, rfl⟩) fun _ => rep_str.mpr rfl) pad_nil)))))
      (psd_cons (psd_if (PV.pq (pv_or (pq_ne (pf_var (pv 3)) pf_str) (pv_or1 (pq_eq (pf_var (pv 4)) (pf_add (pf_var (pv 2)) pf_int)))))
      (psd_one (psd_ret (pf_tup (pad_cons (pf_frz (pv 1)) (pad_cons (pf_var (pv 2)) pad_nil)))))
      psd_nil)
      (psd_one (psd_app (i := 1) (pf_tup (pad_cons pf_str (pad_cons (pf_sliceS (pf_var (pv 0)) (pp_some (pf_add (pf_var (pv 2)) pf_int)) (pp_some (pf_var (pv 4)))) (pad_cons (pf_var (pv 2)) pad_nil)))) (fun t pt => ps_expr (pe_bm PySem.F.plainAttrs_list PySem.F.slot_list_append PySem.F.type_list_append mt_append (pv 1) (pa_cons pt pa_nil)))))))
      psd_nil)))))))
      (psd_one (psd_set (i := 2) (fun t pt => ps_set (i := 2) sc_row_tokens.nd rfl (.inl rfl) pt) (pf_var (pv 4)))))))
      (psd_one (psd_ret (pf_tup (pad_cons (pf_frz (pv 1)) (pad_cons pf_non pad_nil)))))))
    , fun ds kk h => ?_⟩
  obtain ⟨x, rfl, hx, hk⟩ := h
  obtain ⟨rest, hsp⟩ := splitL_head 35 x.cps.toList
  have e1 : Txt.split x "#" = txt (ahead x.cps.toList) :: rest.map txt := by
    show Txt.split x ⟨#[35]⟩ = _
    rw [split_eq, hsp]
    rfl
  have hz := sizeLine_eq
  have lay : (ahead x.cps.toList).length ≤ 600 := by
    have : (ahead x.cps.toList).length ≤ x.cps.toList.length := (List.takeWhile_sublist _).length_le
    rw [len_toList] at this
    omega
  unfold rowTok at hk
  generalize ahead x.cps.toList = l at e1 hk lay
  simp only [dSeq, dNext, dSet, dSetO, dVar, dFrz, dC, dOp, dTest, rdI, rdI0, rdEq_ss, rdEq_gs, rdEq_gg, rdEq_ii, rdEq_bb, rdNe_ss, rdNe_gs, rdNe_gg, rdNe_ii, rdNe_bb, dAnd, dOr, dNot, dAndV, dOrV, dNotV, dIf, dNil, dCons, dTup, dLst, dFz, dBreak, dCont, dRet, dRetO, dMove, dIfS, dNever, dDrop, dWhile, dFor, dLc, dSrcL, dSrcT, dSrcS, dRng1, dRng2, dEnumL, dEnumS, dZip, dgName, dgNil, dgCons, dgTup, dPar, mNil, mConsF, mConsO, putD, dAsg, dCB, rdLen, lenD_str, lenD_lst, lenD_tup, dIxV, dLenV, dCall, dCallO, dCallX, dCallXO, dRaise, dCallS, dCallSO, frz_fr, frz_ol, rdAddS, dSlS, dPart, dNoPart, dM0, dM1, rdSplit, rdJoin, rdStr0, rdStr1, rdIndex, rdIsN, isn_non, isn_int, isn_str, isn_lst, isn_tup, rdEqD, rdCat, rdRep, dOpO, dCBO, rdList_lst, rdList_tup, rdList_str, rdTuple_lst, rdTuple_tup, rdAll, rdIn_sg, rdIx_str, rdIx_lst, rdIx_tup, rdInt_str, rdInt_int, at0, at1, at2, one_len, cast1, castA, castP, Int.ofNat_lt, Int.ofNat_le, Int.ofNat_inj, dYes, dApp, dSeqV, dRetIf, dCopyDic, dItems0, dNeg, dZipA, wipeD, noOwn, dSetRL, dAppRL, dBor1, dSpoil, dSetW, putW, dIsiW, dAppW, dThaw, dMet, dMetN, dMetW, dCallXk, frO, frO1, frS, frS1, thawS1, thawD, thawL, List.mem_singleton, implies_true, false_implies, forall_const, forall_eq', List.map_set, dCut, dCutS, ae_len, dIsi, startD, and_assoc, exists_eq_left, exists_eq_left', exists_eq_right, exists_eq_right', exists_eq, exists_eq', exists_and_left, exists_and_right, exists_const, exists_false, false_and, and_false, true_and, and_true, false_or, or_false, or_true, true_or, if_true, if_false, Bool.false_eq_true, reduceCtorEq, reduceIte, ite_true, ite_false, Option.some.injEq, DS.fr.injEq, DS.ol.injEq, DS.sm.injEq, D.int.injEq, D.str.injEq, D.bl.injEq, D.lst.injEq, D.tup.injEq, V.str.injEq, V.int.injEq, V.bl.injEq, List.cons.injEq, List.getElem?_cons_zero, List.getElem?_cons_succ, List.set_cons_zero, List.set_cons_succ, List.length_cons, List.length_nil, List.length_set, List.map_cons, List.map_nil, List.cons_append, List.nil_append, List.append_nil, List.replicate_succ, List.replicate_zero, List.mem_cons, List.not_mem_nil, forall_eq_or_imp, forall_eq, Nat.reduceAdd, Nat.reduceSub, Nat.reduceLT, Nat.reduceLeDiff, Nat.zero_add, Nat.add_zero, decide_eq_true_eq, decide_eq_false_iff_not, Bool.not_eq_true', Bool.and_eq_true, Bool.or_eq_true, decide_true, decide_false, Bool.not_true, Bool.not_false, id_eq, Option.map_some, Option.map_none, e1]
  refine ⟨by omega, rfl, by omega, ?_⟩
  refine ⟨WRow l kk, ⟨l.length, 0, [], none, none, rfl, by omega, by simp, by omega, hk⟩, ?_⟩
  rintro m ρ ⟨n, acc, o, o', rfl, h1, h2, rfl, hk⟩
  have hlt : (txt l).length = l.length := len_txt l
  have hsz : (txt l).length ≤ sizeLine := by omega
  simp only [dSeq, dNext, dSet, dSetO, dVar, dFrz, dC, dOp, dTest, rdI, rdI0, rdEq_ss, rdEq_gs, rdEq_gg, rdEq_ii, rdEq_bb, rdNe_ss, rdNe_gs, rdNe_gg, rdNe_ii, rdNe_bb, dAnd, dOr, dNot, dAndV, dOrV, dNotV, dIf, dNil, dCons, dTup, dLst, dFz, dBreak, dCont, dRet, dRetO, dMove, dIfS, dNever, dDrop, dWhile, dFor, dLc, dSrcL, dSrcT, dSrcS, dRng1, dRng2, dEnumL, dEnumS, dZip, dgName, dgNil, dgCons, dgTup, dPar, mNil, mConsF, mConsO, putD, dAsg, dCB, rdLen, lenD_str, lenD_lst, lenD_tup, dIxV, dLenV, dCall, dCallO, dCallX, dCallXO, dRaise, dCallS, dCallSO, frz_fr, frz_ol, rdAddS, dSlS, dPart, dNoPart, dM0, dM1, rdSplit, rdJoin, rdStr0, rdStr1, rdIndex, rdIsN, isn_non, isn_int, isn_str, isn_lst, isn_tup, rdEqD, rdCat, rdRep, dOpO, dCBO, rdList_lst, rdList_tup, rdList_str, rdTuple_lst, rdTuple_tup, rdAll, rdIn_sg, rdIx_str, rdIx_lst, rdIx_tup, rdInt_str, rdInt_int, at0, at1, at2, one_len, cast1, castA, castP, Int.ofNat_lt, Int.ofNat_le, Int.ofNat_inj, dYes, dApp, dSeqV, dRetIf, dCopyDic, dItems0, dNeg, dZipA, wipeD, noOwn, dSetRL, dAppRL, dBor1, dSpoil, dSetW, putW, dIsiW, dAppW, dThaw, dMet, dMetN, dMetW, dCallXk, frO, frO1, frS, frS1, thawS1, thawD, thawL, List.mem_singleton, implies_true, false_implies, forall_const, forall_eq', List.map_set, dCut, dCutS, ae_len, dIsi, startD, and_assoc, exists_eq_left, exists_eq_left', exists_eq_right, exists_eq_right', exists_eq, exists_eq', exists_and_left, exists_and_right, exists_const, exists_false, false_and, and_false, true_and, and_true, false_or, or_false, or_true, true_or, if_true, if_false, Bool.false_eq_true, reduceCtorEq, reduceIte, ite_true, ite_false, Option.some.injEq, DS.fr.injEq, DS.ol.injEq, DS.sm.injEq, D.int.injEq, D.str.injEq, D.bl.injEq, D.lst.injEq, D.tup.injEq, V.str.injEq, V.int.injEq, V.bl.injEq, List.cons.injEq, List.getElem?_cons_zero, List.getElem?_cons_succ, List.set_cons_zero, List.set_cons_succ, List.length_cons, List.length_nil, List.length_set, List.map_cons, List.map_nil, List.cons_append, List.nil_append, List.append_nil, List.replicate_succ, List.replicate_zero, List.mem_cons, List.not_mem_nil, forall_eq_or_imp, forall_eq, Nat.reduceAdd, Nat.reduceSub, Nat.reduceLT, Nat.reduceLeDiff, Nat.zero_add, Nat.add_zero, decide_eq_true_eq, decide_eq_false_iff_not, Bool.not_eq_true', Bool.and_eq_true, Bool.or_eq_true, decide_true, decide_false, Bool.not_true, Bool.not_false, id_eq, Option.map_some, Option.map_none]
  refine ⟨hsz, ?_⟩
  by_cases hn : n < l.length
  · rw [if_pos (by omega)]
    obtain ⟨c, hg⟩ : ∃ c, l[n]? = some c := ⟨_, List.getElem?_eq_getElem hn⟩
    have hd := drop_cons hg
    have hrl : ∀ ok : Nat → Bool, n + runL ok (c :: l.drop (n + 1)) ≤ l.length := fun ok => by rw [← hd]; exact runL_len ok l n h1
    have hdd : ∀ r : Nat, 1 ≤ r → (l.drop (n + 1)).drop (r - 1) = l.drop (n + r) := fun r h => by rw [List.drop_drop]; congr 1; omega
    rw [hd, tk] at hk
    refine ⟨hsz, c, atI_nat (by rw [toList_txt]; exact hg), ?_⟩
    by_cases hL : c ∈ LET.cps.toList
    · rw [if_pos hL]
      have hok : okL c = true := decide_eq_true hL
      rw [if_pos hok] at hk
      have hr := runL_pos (ok := okL) (r := l.drop (n + 1)) hok
      have hb := hrl okL
      rw [hdd _ hr] at hk
      simp only [dSeq, dNext, dSet, dSetO, dVar, dFrz, dC, dOp, dTest, rdI, rdI0, rdEq_ss, rdEq_gs, rdEq_gg, rdEq_ii, rdEq_bb, rdNe_ss, rdNe_gs, rdNe_gg, rdNe_ii, rdNe_bb, dAnd, dOr, dNot, dAndV, dOrV, dNotV, dIf, dNil, dCons, dTup, dLst, dFz, dBreak, dCont, dRet, dRetO, dMove, dIfS, dNever, dDrop, dWhile, dFor, dLc, dSrcL, dSrcT, dSrcS, dRng1, dRng2, dEnumL, dEnumS, dZip, dgName, dgNil, dgCons, dgTup, dPar, mNil, mConsF, mConsO, putD, dAsg, dCB, rdLen, lenD_str, lenD_lst, lenD_tup, dIxV, dLenV, dCall, dCallO, dCallX, dCallXO, dRaise, dCallS, dCallSO, frz_fr, frz_ol, rdAddS, dSlS, dPart, dNoPart, dM0, dM1, rdSplit, rdJoin, rdStr0, rdStr1, rdIndex, rdIsN, isn_non, isn_int, isn_str, isn_lst, isn_tup, rdEqD, rdCat, rdRep, dOpO, dCBO, rdList_lst, rdList_tup, rdList_str, rdTuple_lst, rdTuple_tup, rdAll, rdIn_sg, rdIx_str, rdIx_lst, rdIx_tup, rdInt_str, rdInt_int, at0, at1, at2, one_len, cast1, castA, castP, Int.ofNat_lt, Int.ofNat_le, Int.ofNat_inj, dYes, dApp, dSeqV, dRetIf, dCopyDic, dItems0, dNeg, dZipA, wipeD, noOwn, dSetRL, dAppRL, dBor1, dSpoil, dSetW, putW, dIsiW, dAppW, dThaw, dMet, dMetN, dMetW, dCallXk, frO, frO1, frS, frS1, thawS1, thawD, thawL, List.mem_singleton, implies_true, false_implies, forall_const, forall_eq', List.map_set, dCut, dCutS, ae_len, dIsi, startD, and_assoc, exists_eq_left, exists_eq_left', exists_eq_right, exists_eq_right', exists_eq, exists_eq', exists_and_left, exists_and_right, exists_const, exists_false, false_and, and_false, true_and, and_true, false_or, or_false, or_true, true_or, if_true, if_false, Bool.false_eq_true, reduceCtorEq, reduceIte, ite_true, ite_false, Option.some.injEq, DS.fr.injEq, DS.ol.injEq, DS.sm.injEq, D.int.injEq, D.str.injEq, D.bl.injEq, D.lst.injEq, D.tup.injEq, V.str.injEq, V.int.injEq, V.bl.injEq, List.cons.injEq, List.getElem?_cons_zero, List.getElem?_cons_succ, List.set_cons_zero, List.set_cons_succ, List.length_cons, List.length_nil, List.length_set, List.map_cons, List.map_nil, List.cons_append, List.nil_append, List.append_nil, List.replicate_succ, List.replicate_zero, List.mem_cons, List.not_mem_nil, forall_eq_or_imp, forall_eq, Nat.reduceAdd, Nat.reduceSub, Nat.reduceLT, Nat.reduceLeDiff, Nat.zero_add, Nat.add_zero, decide_eq_true_eq, decide_eq_false_iff_not, Bool.not_eq_true', Bool.and_eq_true, Bool.or_eq_true, decide_true, decide_false, Bool.not_true, Bool.not_false, id_eq, Option.map_some, Option.map_none, phiRunEnd, toList_txt, hd]
      have e2 : inS LET = okL := rfl
      rw [e2]
      refine ⟨by omega, by omega, hsz, by omega, by omega, _, ?_, n + _, _, _, _, rfl, hb, ?_, rfl, ?_⟩
      · omega
      · simp; omega
      · rw [cut_nat _ _ _ (by omega) (by rw [hlt]; exact hb), toList_txt, hd, Nat.add_sub_cancel_left]
        simpa [put, wordD, okL, List.append_assoc] using hk
    · rw [if_neg hL]
      have hok : ¬ okL c = true := fun h => hL (of_decide_eq_true h)
      rw [if_neg hok] at hk
      by_cases hF : c ∈ FIG.cps.toList
      · rw [if_pos hF]
        have hok : okF c = true := decide_eq_true hF
        rw [if_pos hok] at hk
        have hr := runL_pos (ok := okF) (r := l.drop (n + 1)) hok
        have hb := hrl okF
        rw [hdd _ hr] at hk
        simp only [dSeq, dNext, dSet, dSetO, dVar, dFrz, dC, dOp, dTest, rdI, rdI0, rdEq_ss, rdEq_gs, rdEq_gg, rdEq_ii, rdEq_bb, rdNe_ss, rdNe_gs, rdNe_gg, rdNe_ii, rdNe_bb, dAnd, dOr, dNot, dAndV, dOrV, dNotV, dIf, dNil, dCons, dTup, dLst, dFz, dBreak, dCont, dRet, dRetO, dMove, dIfS, dNever, dDrop, dWhile, dFor, dLc, dSrcL, dSrcT, dSrcS, dRng1, dRng2, dEnumL, dEnumS, dZip, dgName, dgNil, dgCons, dgTup, dPar, mNil, mConsF, mConsO, putD, dAsg, dCB, rdLen, lenD_str, lenD_lst, lenD_tup, dIxV, dLenV, dCall, dCallO, dCallX, dCallXO, dRaise, dCallS, dCallSO, frz_fr, frz_ol, rdAddS, dSlS, dPart, dNoPart, dM0, dM1, rdSplit, rdJoin, rdStr0, rdStr1, rdIndex, rdIsN, isn_non, isn_int, isn_str, isn_lst, isn_tup, rdEqD, rdCat, rdRep, dOpO, dCBO, rdList_lst, rdList_tup, rdList_str, rdTuple_lst, rdTuple_tup, rdAll, rdIn_sg, rdIx_str, rdIx_lst, rdIx_tup, rdInt_str, rdInt_int, at0, at1, at2, one_len, cast1, castA, castP, Int.ofNat_lt, Int.ofNat_le, Int.ofNat_inj, dYes, dApp, dSeqV, dRetIf, dCopyDic, dItems0, dNeg, dZipA, wipeD, noOwn, dSetRL, dAppRL, dBor1, dSpoil, dSetW, putW, dIsiW, dAppW, dThaw, dMet, dMetN, dMetW, dCallXk, frO, frO1, frS, frS1, thawS1, thawD, thawL, List.mem_singleton, implies_true, false_implies, forall_const, forall_eq', List.map_set, dCut, dCutS, ae_len, dIsi, startD, and_assoc, exists_eq_left, exists_eq_left', exists_eq_right, exists_eq_right', exists_eq, exists_eq', exists_and_left, exists_and_right, exists_const, exists_false, false_and, and_false, true_and, and_true, false_or, or_false, or_true, true_or, if_true, if_false, Bool.false_eq_true, reduceCtorEq, reduceIte, ite_true, ite_false, Option.some.injEq, DS.fr.injEq, DS.ol.injEq, DS.sm.injEq, D.int.injEq, D.str.injEq, D.bl.injEq, D.lst.injEq, D.tup.injEq, V.str.injEq, V.int.injEq, V.bl.injEq, List.cons.injEq, List.getElem?_cons_zero, List.getElem?_cons_succ, List.set_cons_zero, List.set_cons_succ, List.length_cons, List.length_nil, List.length_set, List.map_cons, List.map_nil, List.cons_append, List.nil_append, List.append_nil, List.replicate_succ, List.replicate_zero, List.mem_cons, List.not_mem_nil, forall_eq_or_imp, forall_eq, Nat.reduceAdd, Nat.reduceSub, Nat.reduceLT, Nat.reduceLeDiff, Nat.zero_add, Nat.add_zero, decide_eq_true_eq, decide_eq_false_iff_not, Bool.not_eq_true', Bool.and_eq_true, Bool.or_eq_true, decide_true, decide_false, Bool.not_true, Bool.not_false, id_eq, Option.map_some, Option.map_none, phiRunEnd, toList_txt, hd]
        have ec := cut_nat (txt l) n (n + runL okF (c :: l.drop (n + 1))) (by omega) (by rw [hlt]; exact hb)
        rw [toList_txt, hd, Nat.add_sub_cancel_left] at ec
        obtain ⟨v, hv⟩ := int_run (l := c :: l.drop (n + 1)) hr (by simp; omega)
        have e2 : inS FIG = okF := rfl
        rw [e2, ec]
        refine ⟨by omega, by omega, hsz, v, hv, ?_, by omega, by omega, _, ?_, n + runL okF (c :: l.drop (n + 1)), _, _, _, rfl, hb, ?_, rfl, ?_⟩
        · rw [len_txt, List.length_take]; simp; omega
        · omega
        · simp; omega
        · simp only [put, numD, hv, Option.getD_some] at hk
          simpa [List.append_assoc] using hk
      · rw [if_neg hF]
        have hok : ¬ okF c = true := fun h => hF (of_decide_eq_true h)
        rw [if_neg hok] at hk
        by_cases hS : c ∈ SGN.cps.toList
        · rw [if_pos hS]
          have hok : inS SGN c = true := decide_eq_true hS
          rw [if_pos hok] at hk
          refine ⟨by omega, by omega, _, ?_, n + 1, _, _, _, rfl, by omega, ?_, rfl, ?_⟩
          · omega
          · simp; omega
          · simpa [put, sgnD, signD, txt, List.append_assoc] using hk
        · rw [if_neg hS]
          have hok : ¬ inS SGN c = true := fun h => hS (of_decide_eq_true h)
          rw [if_neg hok] at hk
          have es : (({ cps := #[c] } : Str) = " ") ↔ c = 32 := by
            show (({ cps := #[c] } : Str) = ⟨#[32]⟩) ↔ c = 32
            exact sgn_eq
          have eq : (({ cps := #[c] } : Str) = "'") ↔ c = 39 := by
            show (({ cps := #[c] } : Str) = ⟨#[39]⟩) ↔ c = 39
            exact sgn_eq
          simp only [dSeq, dNext, dSet, dSetO, dVar, dFrz, dC, dOp, dTest, rdI, rdI0, rdEq_ss, rdEq_gs, rdEq_gg, rdEq_ii, rdEq_bb, rdNe_ss, rdNe_gs, rdNe_gg, rdNe_ii, rdNe_bb, dAnd, dOr, dNot, dAndV, dOrV, dNotV, dIf, dNil, dCons, dTup, dLst, dFz, dBreak, dCont, dRet, dRetO, dMove, dIfS, dNever, dDrop, dWhile, dFor, dLc, dSrcL, dSrcT, dSrcS, dRng1, dRng2, dEnumL, dEnumS, dZip, dgName, dgNil, dgCons, dgTup, dPar, mNil, mConsF, mConsO, putD, dAsg, dCB, rdLen, lenD_str, lenD_lst, lenD_tup, dIxV, dLenV, dCall, dCallO, dCallX, dCallXO, dRaise, dCallS, dCallSO, frz_fr, frz_ol, rdAddS, dSlS, dPart, dNoPart, dM0, dM1, rdSplit, rdJoin, rdStr0, rdStr1, rdIndex, rdIsN, isn_non, isn_int, isn_str, isn_lst, isn_tup, rdEqD, rdCat, rdRep, dOpO, dCBO, rdList_lst, rdList_tup, rdList_str, rdTuple_lst, rdTuple_tup, rdAll, rdIn_sg, rdIx_str, rdIx_lst, rdIx_tup, rdInt_str, rdInt_int, at0, at1, at2, one_len, cast1, castA, castP, Int.ofNat_lt, Int.ofNat_le, Int.ofNat_inj, dYes, dApp, dSeqV, dRetIf, dCopyDic, dItems0, dNeg, dZipA, wipeD, noOwn, dSetRL, dAppRL, dBor1, dSpoil, dSetW, putW, dIsiW, dAppW, dThaw, dMet, dMetN, dMetW, dCallXk, frO, frO1, frS, frS1, thawS1, thawD, thawL, List.mem_singleton, implies_true, false_implies, forall_const, forall_eq', List.map_set, dCut, dCutS, ae_len, dIsi, startD, and_assoc, exists_eq_left, exists_eq_left', exists_eq_right, exists_eq_right', exists_eq, exists_eq', exists_and_left, exists_and_right, exists_const, exists_false, false_and, and_false, true_and, and_true, false_or, or_false, or_true, true_or, if_true, if_false, Bool.false_eq_true, reduceCtorEq, reduceIte, ite_true, ite_false, Option.some.injEq, DS.fr.injEq, DS.ol.injEq, DS.sm.injEq, D.int.injEq, D.str.injEq, D.bl.injEq, D.lst.injEq, D.tup.injEq, V.str.injEq, V.int.injEq, V.bl.injEq, List.cons.injEq, List.getElem?_cons_zero, List.getElem?_cons_succ, List.set_cons_zero, List.set_cons_succ, List.length_cons, List.length_nil, List.length_set, List.map_cons, List.map_nil, List.cons_append, List.nil_append, List.append_nil, List.replicate_succ, List.replicate_zero, List.mem_cons, List.not_mem_nil, forall_eq_or_imp, forall_eq, Nat.reduceAdd, Nat.reduceSub, Nat.reduceLT, Nat.reduceLeDiff, Nat.zero_add, Nat.add_zero, decide_eq_true_eq, decide_eq_false_iff_not, Bool.not_eq_true', Bool.and_eq_true, Bool.or_eq_true, decide_true, decide_false, Bool.not_true, Bool.not_false, id_eq, Option.map_some, Option.map_none, phiRunEnd, toList_txt, es, eq]
          by_cases h32 : c = 32
          · rw [if_pos h32] at hk
            rw [if_neg (by simp [h32])]
            exact ⟨_, by omega, n + 1, _, _, _, rfl, by omega, by omega, rfl, hk⟩
          · rw [if_neg h32] at hk
            rw [if_pos h32]
            have hb : n + 1 + runL okL (l.drop (n + 1)) ≤ l.length := runL_len okL l (n + 1) (by omega)
            have e2 : inS LET = okL := rfl
            rw [e2]
            refine ⟨by omega, by omega, ?_⟩
            by_cases h39 : c = 39
            · rw [if_neg (by simp [h39])]
              by_cases h0 : 0 < runL okL (l.drop (n + 1))
              · rw [if_pos ⟨h39, h0⟩] at hk
                rw [if_neg (by omega)]
                have ec := cut_nat (txt l) (n + 1) (n + 1 + runL okL (l.drop (n + 1))) (by omega) (by rw [hlt]; exact hb)
                rw [toList_txt, Nat.add_sub_cancel_left] at ec
                rw [List.drop_drop] at hk
                rw [ec]
                refine ⟨hsz, by omega, by omega, _, ?_, n + 1 + runL okL (l.drop (n + 1)), _, _, _, rfl, hb, ?_, rfl, ?_⟩
                · omega
                · simp; omega
                · simpa [put, quoD, List.append_assoc] using hk
              · rw [if_neg (fun h => h0 h.2)] at hk
                rw [if_pos (by omega)]
                exact ⟨by omega, by simpa [resD] using hk⟩
            · rw [if_neg (fun h => h39 h.1)] at hk
              rw [if_pos h39]
              exact ⟨by omega, by simpa [resD] using hk⟩
  · rw [if_neg (by omega)]
    have : l.drop n = [] := List.drop_of_length_le (by omega)
    rw [this, tk] at hk
    exact ⟨by omega, by simpa [resD] using hk⟩
theorem phiSpan {x g : Str} {p : Nat} {k : DS → Prop} : PhiSpan [.str x, .int (p : Nat), .str g] k ↔ x.length ≤ 100000 ∧ p ≤ x.length ∧ k (.fr (.int ((runL (inS g) (x.cps.toList.drop p) : Nat)))) := by
  constructor
  · rintro ⟨x', g', p', e, h1, h2, h3⟩
    injection e with e1 e2
    injection e2 with e2 e3
    injection e3 with e3 _
    injection e1 with e1
    injection e2 with e2
    injection e3 with e3
    have e2 : p = p' := by omega
    subst e1 e2 e3
    exact ⟨h1, h2, h3⟩
  · rintro ⟨h1, h2, h3⟩
    exact ⟨x, g, p, rfl, h1, h2, h3⟩
/-- between the turns of _law_row_tokens -/
def WLaw (l : List Nat) (kk : DS → Prop) (n : Nat) (ρ : Sl) : Prop := ∃ (acc : List D) (t : Nat) (o1 o2 o3 o4 o5 : Option DS), ρ = [some (.fr (.str (txt l))), some (.ol acc), some (.fr (.int (t : Nat))), o1, o2, o3, o4, o5] ∧ n + t ≤ l.length ∧ acc.length ≤ n + t ∧
    kk (.fr (resD (acc ++ (tk (l.drop (n + t)) (n + t)).1, (tk (l.drop (n + t)) (n + t)).2)))
theorem wlaw {l : List Nat} {kk : DS → Prop} {n m : Nat} {acc : List D} {v : Int} (t : Nat) {o1 o2 o3 o4 o5 : Option DS} (hv : v = (t : Nat)) (hm : n + t = m) (h1 : m ≤ l.length) (h2 : acc.length ≤ m) (hk : kk (.fr (resD (acc ++ (tk (l.drop m) m).1, (tk (l.drop m) m).2)))) :
    WLaw l kk n [some (.fr (.str (txt l))), some (.ol acc), some (.fr (.int v)), o1, o2, o3, o4, o5] := by
  subst hv hm
  exact ⟨acc, t, o1, o2, o3, o4, o5, rfl, h1, h2, hk⟩
theorem ok__law_row_tokens {f : Addr} {fd : FuncData} {k : Nat} (Fu : Fun K "_law_row_tokens" "_law_row_tokens" s__law_row_tokens f fd) {a__law_span : Addr} {d__law_span : FuncData} (G__law_span : FnOk P w K mg base CX0 (k + 1) a__law_span d__law_span ["row", "place", "signs"] (SpF K PhiSpan)) (g__law_span : mg "_law_span" = some (.ref a__law_span)) (kp__law_span : PySem.W.keepIn K (.ref a__law_span) = true) (b__law_span : Binds K d__law_span ["row", "place", "signs"] [])
    (m_len : mg "len" = none) (m_int : mg "int" = none) (m_enumerate : mg "enumerate" = none) :
    FnOk P w K mg base CX0 (k + 2) f fd ["row"] (SpF K PhiRow) := by
  refine fnF Fu sc__law_row_tokens (fun ds kk h => by obtain ⟨x, rfl, _⟩ := h; rfl) fun cdv A outer s H E B hr => ⟨_,
    (psd_cons (psd_par3 (i := 0) (j := 1) (l := 2) (fun t pt => ps_par3 rfl sc__law_row_tokens.nd rfl rfl rfl (by decide) (by decide) (by decide) rfl rfl rfl pt (by rfl)) (pm_consF (pf_cut (pf_if (pq_inS pf_str (pf_var (pv 0))) (pf_sliceS (pf_var (pv 0)) pp_none (pp_some (pf_index (pf_var (pv 0)) pf_str))) (pf_var (pv 0)))) (pm_consO (po_lst pad_nil) (pm_consF pf_int pm_nil))))
      (psd_cons (psd_for PassesOwn.never rfl (pid_enumS rfl m_enumerate (pf_var (pv 0))) (pg_tup (n := 2) rfl (pgs_cons (pg_name (i := 3) sc__law_row_tokens.nd rfl (.inl rfl)) (pgs_cons (pg_name (i := 4) sc__law_row_tokens.nd rfl (.inl rfl)) pgs_nil))) (lg_tup (lgs_cons lg_name (lgs_cons lg_name lgs_nil)))
      (psd_cons (psd_par (i := 5) (j := 6) (fun t pt => ps_par rfl sc__law_row_tokens.nd rfl rfl (by decide) rfl rfl pt (by rfl)) (pm_consF (pf_call G__law_span (hr.mono (by omega)) rfl g__law_span kp__law_span b__law_span (pad_cons (pf_var (pv 0)) (pad_cons (pf_var (pv 3)) (pad_cons pf_str pad_nil)))) (pm_consF (pf_call G__law_span (hr.mono (by omega)) rfl g__law_span kp__law_span b__law_span (pad_cons (pf_var (pv 0)) (pad_cons (pf_var (pv 3)) (pad_cons pf_str pad_nil)))) pm_nil)))
      (psd_cons (psd_cut (psd_set (i := 7) (fun t pt => ps_set (i := 7) sc__law_row_tokens.nd rfl (.inl rfl) pt) (pf_if (pq_eq (pf_var (pv 4)) pf_str) (pf_call G__law_span (hr.mono (by omega)) rfl g__law_span kp__law_span b__law_span (pad_cons (pf_var (pv 0)) (pad_cons (pf_add (pf_var (pv 3)) pf_int) (pad_cons pf_str pad_nil)))) pf_int)))
      (psd_one (psd_if (pq_gt (pf_var (pv 2)) pf_int)
      (psd_one (psd_set (i := 2) (fun t pt => ps_set (i := 2) sc__law_row_tokens.nd rfl (.inl rfl) pt) (pf_sub (pf_var (pv 2)) pf_int)))
      (psd_one (psd_if (pq_gt (pf_var (pv 5)) pf_int)
      (psd_cons (psd_app (i := 1) (pf_tup (pad_cons pf_str (pad_cons (pf_sliceS (pf_var (pv 0)) (pp_some (pf_var (pv 3))) (pp_some (pf_add (pf_var (pv 3)) (pf_var (pv 5))))) (pad_cons (pf_var (pv 3)) pad_nil)))) (fun t pt => ps_expr (pe_bm PySem.F.plainAttrs_list PySem.F.slot_list_append PySem.F.type_list_append mt_append (pv 1) (pa_cons pt pa_nil))))
      (psd_one (psd_set (i := 2) (fun t pt => ps_set (i := 2) sc__law_row_tokens.nd rfl (.inl rfl) pt) (pf_sub (pf_var (pv 5)) pf_int))))
      (psd_one (psd_if (pq_gt (pf_var (pv 6)) pf_int)
      (psd_cons (psd_app (i := 1) (pf_tup (pad_cons pf_str (pad_cons (pf_intc rfl m_int (pf_sliceS (pf_var (pv 0)) (pp_some (pf_var (pv 3))) (pp_some (pf_add (pf_var (pv 3)) (pf_var (pv 6)))))) (pad_cons (pf_var (pv 3)) pad_nil)))) (fun t pt => ps_expr (pe_bm PySem.F.plainAttrs_list PySem.F.slot_list_append PySem.F.type_list_append mt_append (pv 1) (pa_cons pt pa_nil))))
      (psd_one (psd_set (i := 2) (fun t pt => ps_set (i := 2) sc__law_row_tokens.nd rfl (.inl rfl) pt) (pf_sub (pf_var (pv 6)) pf_int))))
      (psd_one (psd_if (pq_gt (pf_var (pv 7)) pf_int)
      (psd_cons (psd_app (i := 1) (pf_tup (pad_cons pf_str (pad_cons (pf_sliceS (pf_var (pv 0)) (pp_some (pf_add (pf_var (pv 3)) pf_int)) (pp_some (pf_add (pf_add (pf_var (pv 3)) pf_int) (pf_var (pv 7))))) (pad_cons (pf_var (pv 3)) pad_nil)))) (fun t pt => ps_expr (pe_bm PySem.F.plainAttrs_list PySem.F.slot_list_append PySem.F.type_list_append mt_append (pv 1) (pa_cons pt pa_nil))))
      (psd_one (psd_set (i := 2) (fun t pt => ps_set (i := 2) sc__law_row_tokens.nd rfl (.inl rfl) pt) (pf_var (pv 7)))))
      (psd_one (psd_if (pq_inS (pf_var (pv 4)) pf_str)
      (psd_one (psd_app (i := 1) (pf_tup (pad_cons pf_str (pad_cons (pf_var (pv 4)) (pad_cons (pf_var (pv 3)) pad_nil)))) (fun t pt => ps_expr (pe_bm PySem.F.plainAttrs_list PySem.F.slot_list_append PySem.F.type_list_append mt_append (pv 1) (pa_cons pt pa_nil)))))
      (psd_one (psd_if (pq_ne (pf_var (pv 4)) pf_str)
      (psd_one (psd_ret (pf_tup (pad_cons (pf_frz (pv 1)) (pad_cons (pf_var (pv 3)) pad_nil)))))
      psd_nil)))))))))))))))
      (psd_one (psd_ret (pf_tup (pad_cons (pf_frz (pv 1)) (pad_cons pf_non pad_nil)))))))
    , fun ds kk h => ?_⟩
  obtain ⟨x, rfl, hx, hk⟩ := h
  have hz := sizeLine_eq
  simp only [dSeq, dNext, dSet, dSetO, dVar, dFrz, dC, dOp, dTest, rdI, rdI0, rdEq_ss, rdEq_gs, rdEq_gg, rdEq_ii, rdEq_bb, rdNe_ss, rdNe_gs, rdNe_gg, rdNe_ii, rdNe_bb, dAnd, dOr, dNot, dAndV, dOrV, dNotV, dIf, dNil, dCons, dTup, dLst, dFz, dBreak, dCont, dRet, dRetO, dMove, dIfS, dNever, dDrop, dWhile, dFor, dLc, dSrcL, dSrcT, dSrcS, dRng1, dRng2, dEnumL, dEnumS, dZip, dgName, dgNil, dgCons, dgTup, dPar, mNil, mConsF, mConsO, putD, dAsg, dCB, rdLen, lenD_str, lenD_lst, lenD_tup, dIxV, dLenV, dCall, dCallO, dCallX, dCallXO, dRaise, dCallS, dCallSO, frz_fr, frz_ol, rdAddS, dSlS, dPart, dNoPart, dM0, dM1, rdSplit, rdJoin, rdStr0, rdStr1, rdIndex, rdIsN, isn_non, isn_int, isn_str, isn_lst, isn_tup, rdEqD, rdCat, rdRep, dOpO, dCBO, rdList_lst, rdList_tup, rdList_str, rdTuple_lst, rdTuple_tup, rdAll, rdIn_sg, rdIx_str, rdIx_lst, rdIx_tup, rdInt_str, rdInt_int, at0, at1, at2, one_len, cast1, castA, castP, Int.ofNat_lt, Int.ofNat_le, Int.ofNat_inj, dYes, dApp, dSeqV, dRetIf, dCopyDic, dItems0, dNeg, dZipA, wipeD, noOwn, dSetRL, dAppRL, dBor1, dSpoil, dSetW, putW, dIsiW, dAppW, dThaw, dMet, dMetN, dMetW, dCallXk, frO, frO1, frS, frS1, thawS1, thawD, thawL, List.mem_singleton, implies_true, false_implies, forall_const, forall_eq', List.map_set, dCut, dCutS, ae_len, dIsi, startD, and_assoc, exists_eq_left, exists_eq_left', exists_eq_right, exists_eq_right', exists_eq, exists_eq', exists_and_left, exists_and_right, exists_const, exists_false, false_and, and_false, true_and, and_true, false_or, or_false, or_true, true_or, if_true, if_false, Bool.false_eq_true, reduceCtorEq, reduceIte, ite_true, ite_false, Option.some.injEq, DS.fr.injEq, DS.ol.injEq, DS.sm.injEq, D.int.injEq, D.str.injEq, D.bl.injEq, D.lst.injEq, D.tup.injEq, V.str.injEq, V.int.injEq, V.bl.injEq, List.cons.injEq, List.getElem?_cons_zero, List.getElem?_cons_succ, List.set_cons_zero, List.set_cons_succ, List.length_cons, List.length_nil, List.length_set, List.map_cons, List.map_nil, List.cons_append, List.nil_append, List.append_nil, List.replicate_succ, List.replicate_zero, List.mem_cons, List.not_mem_nil, forall_eq_or_imp, forall_eq, Nat.reduceAdd, Nat.reduceSub, Nat.reduceLT, Nat.reduceLeDiff, Nat.zero_add, Nat.add_zero, decide_eq_true_eq, decide_eq_false_iff_not, Bool.not_eq_true', Bool.and_eq_true, Bool.or_eq_true, decide_true, decide_false, Bool.not_true, Bool.not_false, id_eq, Option.map_some, Option.map_none]
  refine ⟨fun y ρ' => y = .str (txt (ahead x.cps.toList)) ∧ ρ' = [some (.fr (.str x)), none, none, none, none, none, none, none], ?_, ?_⟩
  · have e35 : D.str "#" = signD 35 := rfl
    rw [e35]
    simp only [dSeq, dNext, dSet, dSetO, dVar, dFrz, dC, dOp, dTest, rdI, rdI0, rdEq_ss, rdEq_gs, rdEq_gg, rdEq_ii, rdEq_bb, rdNe_ss, rdNe_gs, rdNe_gg, rdNe_ii, rdNe_bb, dAnd, dOr, dNot, dAndV, dOrV, dNotV, dIf, dNil, dCons, dTup, dLst, dFz, dBreak, dCont, dRet, dRetO, dMove, dIfS, dNever, dDrop, dWhile, dFor, dLc, dSrcL, dSrcT, dSrcS, dRng1, dRng2, dEnumL, dEnumS, dZip, dgName, dgNil, dgCons, dgTup, dPar, mNil, mConsF, mConsO, putD, dAsg, dCB, rdLen, lenD_str, lenD_lst, lenD_tup, dIxV, dLenV, dCall, dCallO, dCallX, dCallXO, dRaise, dCallS, dCallSO, frz_fr, frz_ol, rdAddS, dSlS, dPart, dNoPart, dM0, dM1, rdSplit, rdJoin, rdStr0, rdStr1, rdIndex, rdIsN, isn_non, isn_int, isn_str, isn_lst, isn_tup, rdEqD, rdCat, rdRep, dOpO, dCBO, rdList_lst, rdList_tup, rdList_str, rdTuple_lst, rdTuple_tup, rdAll, rdIn_sg, rdIx_str, rdIx_lst, rdIx_tup, rdInt_str, rdInt_int, at0, at1, at2, one_len, cast1, castA, castP, Int.ofNat_lt, Int.ofNat_le, Int.ofNat_inj, dYes, dApp, dSeqV, dRetIf, dCopyDic, dItems0, dNeg, dZipA, wipeD, noOwn, dSetRL, dAppRL, dBor1, dSpoil, dSetW, putW, dIsiW, dAppW, dThaw, dMet, dMetN, dMetW, dCallXk, frO, frO1, frS, frS1, thawS1, thawD, thawL, List.mem_singleton, implies_true, false_implies, forall_const, forall_eq', List.map_set, dCut, dCutS, ae_len, dIsi, startD, and_assoc, exists_eq_left, exists_eq_left', exists_eq_right, exists_eq_right', exists_eq, exists_eq', exists_and_left, exists_and_right, exists_const, exists_false, false_and, and_false, true_and, and_true, false_or, or_false, or_true, true_or, if_true, if_false, Bool.false_eq_true, reduceCtorEq, reduceIte, ite_true, ite_false, Option.some.injEq, DS.fr.injEq, DS.ol.injEq, DS.sm.injEq, D.int.injEq, D.str.injEq, D.bl.injEq, D.lst.injEq, D.tup.injEq, V.str.injEq, V.int.injEq, V.bl.injEq, List.cons.injEq, List.getElem?_cons_zero, List.getElem?_cons_succ, List.set_cons_zero, List.set_cons_succ, List.length_cons, List.length_nil, List.length_set, List.map_cons, List.map_nil, List.cons_append, List.nil_append, List.append_nil, List.replicate_succ, List.replicate_zero, List.mem_cons, List.not_mem_nil, forall_eq_or_imp, forall_eq, Nat.reduceAdd, Nat.reduceSub, Nat.reduceLT, Nat.reduceLeDiff, Nat.zero_add, Nat.add_zero, decide_eq_true_eq, decide_eq_false_iff_not, Bool.not_eq_true', Bool.and_eq_true, Bool.or_eq_true, decide_true, decide_false, Bool.not_true, Bool.not_false, id_eq, Option.map_some, Option.map_none]
    by_cases h : 35 ∈ x.cps.toList
    · rw [if_pos h]
      obtain ⟨i, r, h1, h2, h3⟩ := index_one h
      exact ⟨i, ⟨r, h1⟩, by omega, by rw [cut_to _ _ (by omega), h3]; rfl⟩
    · rw [if_neg h, ahead, takeWhile_all h, txt_toList]
  · rintro y ρ' ⟨rfl, rfl⟩
    have lay : (ahead x.cps.toList).length ≤ 600 := by
      have : (ahead x.cps.toList).length ≤ x.cps.toList.length := (List.takeWhile_sublist _).length_le
      rw [len_toList] at this
      omega
    unfold rowTok at hk
    generalize ahead x.cps.toList = l at hk lay ⊢
    have hlt : (txt l).length = l.length := len_txt l
    simp only [dSeq, dNext, dSet, dSetO, dVar, dFrz, dC, dOp, dTest, rdI, rdI0, rdEq_ss, rdEq_gs, rdEq_gg, rdEq_ii, rdEq_bb, rdNe_ss, rdNe_gs, rdNe_gg, rdNe_ii, rdNe_bb, dAnd, dOr, dNot, dAndV, dOrV, dNotV, dIf, dNil, dCons, dTup, dLst, dFz, dBreak, dCont, dRet, dRetO, dMove, dIfS, dNever, dDrop, dWhile, dFor, dLc, dSrcL, dSrcT, dSrcS, dRng1, dRng2, dEnumL, dEnumS, dZip, dgName, dgNil, dgCons, dgTup, dPar, mNil, mConsF, mConsO, putD, dAsg, dCB, rdLen, lenD_str, lenD_lst, lenD_tup, dIxV, dLenV, dCall, dCallO, dCallX, dCallXO, dRaise, dCallS, dCallSO, frz_fr, frz_ol, rdAddS, dSlS, dPart, dNoPart, dM0, dM1, rdSplit, rdJoin, rdStr0, rdStr1, rdIndex, rdIsN, isn_non, isn_int, isn_str, isn_lst, isn_tup, rdEqD, rdCat, rdRep, dOpO, dCBO, rdList_lst, rdList_tup, rdList_str, rdTuple_lst, rdTuple_tup, rdAll, rdIn_sg, rdIx_str, rdIx_lst, rdIx_tup, rdInt_str, rdInt_int, at0, at1, at2, one_len, cast1, castA, castP, Int.ofNat_lt, Int.ofNat_le, Int.ofNat_inj, dYes, dApp, dSeqV, dRetIf, dCopyDic, dItems0, dNeg, dZipA, wipeD, noOwn, dSetRL, dAppRL, dBor1, dSpoil, dSetW, putW, dIsiW, dAppW, dThaw, dMet, dMetN, dMetW, dCallXk, frO, frO1, frS, frS1, thawS1, thawD, thawL, List.mem_singleton, implies_true, false_implies, forall_const, forall_eq', List.map_set, dCut, dCutS, ae_len, dIsi, startD, and_assoc, exists_eq_left, exists_eq_left', exists_eq_right, exists_eq_right', exists_eq, exists_eq', exists_and_left, exists_and_right, exists_const, exists_false, false_and, and_false, true_and, and_true, false_or, or_false, or_true, true_or, if_true, if_false, Bool.false_eq_true, reduceCtorEq, reduceIte, ite_true, ite_false, Option.some.injEq, DS.fr.injEq, DS.ol.injEq, DS.sm.injEq, D.int.injEq, D.str.injEq, D.bl.injEq, D.lst.injEq, D.tup.injEq, V.str.injEq, V.int.injEq, V.bl.injEq, List.cons.injEq, List.getElem?_cons_zero, List.getElem?_cons_succ, List.set_cons_zero, List.set_cons_succ, List.length_cons, List.length_nil, List.length_set, List.map_cons, List.map_nil, List.cons_append, List.nil_append, List.append_nil, List.replicate_succ, List.replicate_zero, List.mem_cons, List.not_mem_nil, forall_eq_or_imp, forall_eq, Nat.reduceAdd, Nat.reduceSub, Nat.reduceLT, Nat.reduceLeDiff, Nat.zero_add, Nat.add_zero, decide_eq_true_eq, decide_eq_false_iff_not, Bool.not_eq_true', Bool.and_eq_true, Bool.or_eq_true, decide_true, decide_false, Bool.not_true, Bool.not_false, id_eq, Option.map_some, Option.map_none]
    refine ⟨by omega, WLaw l kk, ⟨[], 0, none, none, none, none, none, rfl, by omega, by simp, hk⟩, ?_, ?_⟩
    · rintro n d ρ hd ⟨acc, t, o1, o2, o3, o4, o5, rfl, h1, h2, hk⟩
      obtain ⟨c, hg, rfl⟩ := enumS_inv hd
      rw [toList_txt] at hg
      simp only [dSeq, dNext, dSet, dSetO, dVar, dFrz, dC, dOp, dTest, rdI, rdI0, rdEq_ss, rdEq_gs, rdEq_gg, rdEq_ii, rdEq_bb, rdNe_ss, rdNe_gs, rdNe_gg, rdNe_ii, rdNe_bb, dAnd, dOr, dNot, dAndV, dOrV, dNotV, dIf, dNil, dCons, dTup, dLst, dFz, dBreak, dCont, dRet, dRetO, dMove, dIfS, dNever, dDrop, dWhile, dFor, dLc, dSrcL, dSrcT, dSrcS, dRng1, dRng2, dEnumL, dEnumS, dZip, dgName, dgNil, dgCons, dgTup, dPar, mNil, mConsF, mConsO, putD, dAsg, dCB, rdLen, lenD_str, lenD_lst, lenD_tup, dIxV, dLenV, dCall, dCallO, dCallX, dCallXO, dRaise, dCallS, dCallSO, frz_fr, frz_ol, rdAddS, dSlS, dPart, dNoPart, dM0, dM1, rdSplit, rdJoin, rdStr0, rdStr1, rdIndex, rdIsN, isn_non, isn_int, isn_str, isn_lst, isn_tup, rdEqD, rdCat, rdRep, dOpO, dCBO, rdList_lst, rdList_tup, rdList_str, rdTuple_lst, rdTuple_tup, rdAll, rdIn_sg, rdIx_str, rdIx_lst, rdIx_tup, rdInt_str, rdInt_int, at0, at1, at2, one_len, cast1, castA, castP, Int.ofNat_lt, Int.ofNat_le, Int.ofNat_inj, dYes, dApp, dSeqV, dRetIf, dCopyDic, dItems0, dNeg, dZipA, wipeD, noOwn, dSetRL, dAppRL, dBor1, dSpoil, dSetW, putW, dIsiW, dAppW, dThaw, dMet, dMetN, dMetW, dCallXk, frO, frO1, frS, frS1, thawS1, thawD, thawL, List.mem_singleton, implies_true, false_implies, forall_const, forall_eq', List.map_set, dCut, dCutS, ae_len, dIsi, startD, and_assoc, exists_eq_left, exists_eq_left', exists_eq_right, exists_eq_right', exists_eq, exists_eq', exists_and_left, exists_and_right, exists_const, exists_false, false_and, and_false, true_and, and_true, false_or, or_false, or_true, true_or, if_true, if_false, Bool.false_eq_true, reduceCtorEq, reduceIte, ite_true, ite_false, Option.some.injEq, DS.fr.injEq, DS.ol.injEq, DS.sm.injEq, D.int.injEq, D.str.injEq, D.bl.injEq, D.lst.injEq, D.tup.injEq, V.str.injEq, V.int.injEq, V.bl.injEq, List.cons.injEq, List.getElem?_cons_zero, List.getElem?_cons_succ, List.set_cons_zero, List.set_cons_succ, List.length_cons, List.length_nil, List.length_set, List.map_cons, List.map_nil, List.cons_append, List.nil_append, List.append_nil, List.replicate_succ, List.replicate_zero, List.mem_cons, List.not_mem_nil, forall_eq_or_imp, forall_eq, Nat.reduceAdd, Nat.reduceSub, Nat.reduceLT, Nat.reduceLeDiff, Nat.zero_add, Nat.add_zero, decide_eq_true_eq, decide_eq_false_iff_not, Bool.not_eq_true', Bool.and_eq_true, Bool.or_eq_true, decide_true, decide_false, Bool.not_true, Bool.not_false, id_eq, Option.map_some, Option.map_none, phiSpan, toList_txt]
      have hn : n < l.length := (List.getElem?_eq_some_iff.mp hg).1
      have hd := drop_cons hg
      have eq : (({ cps := #[c] } : Str) = "'") ↔ c = 39 := by
        show (({ cps := #[c] } : Str) = ⟨#[39]⟩) ↔ c = 39
        exact sgn_eq
      have es : (({ cps := #[c] } : Str) = " ") ↔ c = 32 := by
        show (({ cps := #[c] } : Str) = ⟨#[32]⟩) ↔ c = 32
        exact sgn_eq
      have eL : inS "abcdefghijklmnopqrstuvwxyz" = okL := rfl
      have eF : inS "0123456789" = okF := rfl
      rw [eL, eF]
      refine ⟨by omega, by omega, by omega, by omega, ?_⟩
      refine ⟨fun ρ => ρ = [some (.fr (.str (txt l))), some (.ol acc), some (.fr (.int (t : Nat))), some (.fr (.int (n : Nat))), some (.fr (signD c)), some (.fr (.int (runL okL (l.drop n) : Nat))), some (.fr (.int (runL okF (l.drop n) : Nat))),
        some (.fr (.int ((if c = 39 then runL okL (l.drop (n + 1)) else 0 : Nat))))], ?_, ?_⟩
      · by_cases h39 : c = 39
        · rw [if_pos (eq.mpr h39)]
          exact ⟨by omega, by omega, by rw [if_pos h39]⟩
        · rw [if_neg (fun h => h39 (eq.mp h))]
          show _ = _
          rw [if_neg h39]
          rfl
      rintro ρ' rfl
      simp only [dSeq, dNext, dSet, dSetO, dVar, dFrz, dC, dOp, dTest, rdI, rdI0, rdEq_ss, rdEq_gs, rdEq_gg, rdEq_ii, rdEq_bb, rdNe_ss, rdNe_gs, rdNe_gg, rdNe_ii, rdNe_bb, dAnd, dOr, dNot, dAndV, dOrV, dNotV, dIf, dNil, dCons, dTup, dLst, dFz, dBreak, dCont, dRet, dRetO, dMove, dIfS, dNever, dDrop, dWhile, dFor, dLc, dSrcL, dSrcT, dSrcS, dRng1, dRng2, dEnumL, dEnumS, dZip, dgName, dgNil, dgCons, dgTup, dPar, mNil, mConsF, mConsO, putD, dAsg, dCB, rdLen, lenD_str, lenD_lst, lenD_tup, dIxV, dLenV, dCall, dCallO, dCallX, dCallXO, dRaise, dCallS, dCallSO, frz_fr, frz_ol, rdAddS, dSlS, dPart, dNoPart, dM0, dM1, rdSplit, rdJoin, rdStr0, rdStr1, rdIndex, rdIsN, isn_non, isn_int, isn_str, isn_lst, isn_tup, rdEqD, rdCat, rdRep, dOpO, dCBO, rdList_lst, rdList_tup, rdList_str, rdTuple_lst, rdTuple_tup, rdAll, rdIn_sg, rdIx_str, rdIx_lst, rdIx_tup, rdInt_str, rdInt_int, at0, at1, at2, one_len, cast1, castA, castP, Int.ofNat_lt, Int.ofNat_le, Int.ofNat_inj, dYes, dApp, dSeqV, dRetIf, dCopyDic, dItems0, dNeg, dZipA, wipeD, noOwn, dSetRL, dAppRL, dBor1, dSpoil, dSetW, putW, dIsiW, dAppW, dThaw, dMet, dMetN, dMetW, dCallXk, frO, frO1, frS, frS1, thawS1, thawD, thawL, List.mem_singleton, implies_true, false_implies, forall_const, forall_eq', List.map_set, dCut, dCutS, ae_len, dIsi, startD, and_assoc, exists_eq_left, exists_eq_left', exists_eq_right, exists_eq_right', exists_eq, exists_eq', exists_and_left, exists_and_right, exists_const, exists_false, false_and, and_false, true_and, and_true, false_or, or_false, or_true, true_or, if_true, if_false, Bool.false_eq_true, reduceCtorEq, reduceIte, ite_true, ite_false, Option.some.injEq, DS.fr.injEq, DS.ol.injEq, DS.sm.injEq, D.int.injEq, D.str.injEq, D.bl.injEq, D.lst.injEq, D.tup.injEq, V.str.injEq, V.int.injEq, V.bl.injEq, List.cons.injEq, List.getElem?_cons_zero, List.getElem?_cons_succ, List.set_cons_zero, List.set_cons_succ, List.length_cons, List.length_nil, List.length_set, List.map_cons, List.map_nil, List.cons_append, List.nil_append, List.append_nil, List.replicate_succ, List.replicate_zero, List.mem_cons, List.not_mem_nil, forall_eq_or_imp, forall_eq, Nat.reduceAdd, Nat.reduceSub, Nat.reduceLT, Nat.reduceLeDiff, Nat.zero_add, Nat.add_zero, decide_eq_true_eq, decide_eq_false_iff_not, Bool.not_eq_true', Bool.and_eq_true, Bool.or_eq_true, decide_true, decide_false, Bool.not_true, Bool.not_false, id_eq, Option.map_some, Option.map_none, es]
      by_cases ht : 0 < t
      · rw [if_pos ht]
        exact wlaw (t - 1) (by omega) (m := n + t) (by omega) h1 h2 hk
      rw [if_neg ht]
      have ht : t = 0 := by omega
      subst ht
      rw [Nat.add_zero] at h1 h2 hk
      have hrl : ∀ ok : Nat → Bool, n + runL ok (c :: l.drop (n + 1)) ≤ l.length := fun ok => by rw [← hd]; exact runL_len ok l n h1
      have hdd : ∀ r : Nat, 1 ≤ r → (l.drop (n + 1)).drop (r - 1) = l.drop (n + r) := fun r h => by rw [List.drop_drop]; congr 1; omega
      rw [hd, tk] at hk
      rw [hd]
      by_cases hL : okL c = true
      · rw [if_pos hL] at hk
        have hr := runL_pos (ok := okL) (r := l.drop (n + 1)) hL
        have hb := hrl okL
        rw [hdd _ hr] at hk
        rw [if_pos hr]
        refine ⟨by omega, by omega, by omega, wlaw (runL okL (c :: l.drop (n + 1)) - 1) (by omega) (m := n + runL okL (c :: l.drop (n + 1))) (by omega) hb (by simp; omega) ?_⟩
        rw [cut_nat _ _ _ (by omega) (by rw [hlt]; exact hb), toList_txt, hd, Nat.add_sub_cancel_left]
        simpa [put, wordD, List.append_assoc] using hk
      rw [if_neg hL] at hk
      rw [if_neg (by rw [runL_zero (by simpa using hL)]; omega)]
      by_cases hF : okF c = true
      · rw [if_pos hF] at hk
        have hr := runL_pos (ok := okF) (r := l.drop (n + 1)) hF
        have hb := hrl okF
        rw [hdd _ hr] at hk
        rw [if_pos hr]
        have ec := cut_nat (txt l) n (n + runL okF (c :: l.drop (n + 1))) (by omega) (by rw [hlt]; exact hb)
        rw [toList_txt, hd, Nat.add_sub_cancel_left] at ec
        obtain ⟨v, hv⟩ := int_run (l := c :: l.drop (n + 1)) hr (by simp; omega)
        rw [ec]
        refine ⟨by omega, v, hv, ?_, by omega, by omega, wlaw (runL okF (c :: l.drop (n + 1)) - 1) (by omega) (m := n + runL okF (c :: l.drop (n + 1))) (by omega) hb (by simp; omega) ?_⟩
        · rw [len_txt, List.length_take]; simp; omega
        · simp only [put, numD, hv, Option.getD_some] at hk
          simpa [List.append_assoc] using hk
      rw [if_neg hF] at hk
      rw [if_neg (by rw [runL_zero (by simpa using hF)]; omega)]
      by_cases h39 : c = 39
      · subst h39
        rw [if_neg (by decide), if_neg (by decide)] at hk
        rw [if_pos rfl]
        by_cases h0 : 0 < runL okL (l.drop (n + 1))
        · rw [if_pos ⟨rfl, h0⟩] at hk
          rw [if_pos h0]
          have hb : n + 1 + runL okL (l.drop (n + 1)) ≤ l.length := runL_len okL l (n + 1) (by omega)
          refine ⟨by omega, by omega, by omega, wlaw _ rfl (m := n + 1 + runL okL (l.drop (n + 1))) rfl hb (by simp; omega) ?_⟩
          rw [List.drop_drop] at hk
          rw [cut_nat _ _ _ (by omega) (by rw [hlt]; exact hb), toList_txt, Nat.add_sub_cancel_left]
          simpa [put, quoD, List.append_assoc] using hk
        · rw [if_neg (fun h => h0 h.2)] at hk
          rw [if_neg h0, if_neg (by decide), if_pos (by decide)]
          exact ⟨by omega, by simpa [resD] using hk⟩
      rw [if_neg h39]
      rw [if_neg (by omega)]
      by_cases hS : inS SGN c = true
      · rw [if_pos hS] at hk
        rw [if_pos (of_decide_eq_true hS)]
        refine ⟨by omega, by omega, wlaw 0 rfl (m := n + 1) rfl (by omega) (by simp; omega) ?_⟩
        simpa [put, sgnD, signD, txt, List.append_assoc] using hk
      rw [if_neg hS] at hk
      rw [if_neg (fun h => hS (decide_eq_true h))]
      by_cases h32 : c = 32
      · rw [if_pos h32] at hk
        rw [if_neg (by simp [h32])]
        exact wlaw 0 rfl (m := n + 1) rfl (by omega) (by omega) hk
      · rw [if_neg h32, if_neg (fun h => h39 h.1)] at hk
        rw [if_pos h32]
        exact ⟨by omega, by simpa [resD] using hk⟩
    · rintro ρ ⟨acc, t, o1, o2, o3, o4, o5, rfl, h1, h2, hk⟩
      rw [enumS_len, hlt] at h1 hk
      have ht : t = 0 := by omega
      subst ht
      rw [Nat.add_zero, List.drop_of_length_le (Nat.le_refl _), tk] at hk
      simp only [dSeq, dNext, dSet, dSetO, dVar, dFrz, dC, dOp, dTest, rdI, rdI0, rdEq_ss, rdEq_gs, rdEq_gg, rdEq_ii, rdEq_bb, rdNe_ss, rdNe_gs, rdNe_gg, rdNe_ii, rdNe_bb, dAnd, dOr, dNot, dAndV, dOrV, dNotV, dIf, dNil, dCons, dTup, dLst, dFz, dBreak, dCont, dRet, dRetO, dMove, dIfS, dNever, dDrop, dWhile, dFor, dLc, dSrcL, dSrcT, dSrcS, dRng1, dRng2, dEnumL, dEnumS, dZip, dgName, dgNil, dgCons, dgTup, dPar, mNil, mConsF, mConsO, putD, dAsg, dCB, rdLen, lenD_str, lenD_lst, lenD_tup, dIxV, dLenV, dCall, dCallO, dCallX, dCallXO, dRaise, dCallS, dCallSO, frz_fr, frz_ol, rdAddS, dSlS, dPart, dNoPart, dM0, dM1, rdSplit, rdJoin, rdStr0, rdStr1, rdIndex, rdIsN, isn_non, isn_int, isn_str, isn_lst, isn_tup, rdEqD, rdCat, rdRep, dOpO, dCBO, rdList_lst, rdList_tup, rdList_str, rdTuple_lst, rdTuple_tup, rdAll, rdIn_sg, rdIx_str, rdIx_lst, rdIx_tup, rdInt_str, rdInt_int, at0, at1, at2, one_len, cast1, castA, castP, Int.ofNat_lt, Int.ofNat_le, Int.ofNat_inj, dYes, dApp, dSeqV, dRetIf, dCopyDic, dItems0, dNeg, dZipA, wipeD, noOwn, dSetRL, dAppRL, dBor1, dSpoil, dSetW, putW, dIsiW, dAppW, dThaw, dMet, dMetN, dMetW, dCallXk, frO, frO1, frS, frS1, thawS1, thawD, thawL, List.mem_singleton, implies_true, false_implies, forall_const, forall_eq', List.map_set, dCut, dCutS, ae_len, dIsi, startD, and_assoc, exists_eq_left, exists_eq_left', exists_eq_right, exists_eq_right', exists_eq, exists_eq', exists_and_left, exists_and_right, exists_const, exists_false, false_and, and_false, true_and, and_true, false_or, or_false, or_true, true_or, if_true, if_false, Bool.false_eq_true, reduceCtorEq, reduceIte, ite_true, ite_false, Option.some.injEq, DS.fr.injEq, DS.ol.injEq, DS.sm.injEq, D.int.injEq, D.str.injEq, D.bl.injEq, D.lst.injEq, D.tup.injEq, V.str.injEq, V.int.injEq, V.bl.injEq, List.cons.injEq, List.getElem?_cons_zero, List.getElem?_cons_succ, List.set_cons_zero, List.set_cons_succ, List.length_cons, List.length_nil, List.length_set, List.map_cons, List.map_nil, List.cons_append, List.nil_append, List.append_nil, List.replicate_succ, List.replicate_zero, List.mem_cons, List.not_mem_nil, forall_eq_or_imp, forall_eq, Nat.reduceAdd, Nat.reduceSub, Nat.reduceLT, Nat.reduceLeDiff, Nat.zero_add, Nat.add_zero, decide_eq_true_eq, decide_eq_false_iff_not, Bool.not_eq_true', Bool.and_eq_true, Bool.or_eq_true, decide_true, decide_false, Bool.not_true, Bool.not_false, id_eq, Option.map_some, Option.map_none]
      exact ⟨by omega, by simpa [resD] using hk⟩
end
end K24
end

section
namespace K24
open PySem PySem.Spec PyProof.Rows L2 Sa
abbrev s__law_draw : Stmt := topS 14
theorem sc__law_draw : FnScope ["stream", "many", "cell", "digit", "mixed"] ["stream", "many"] (defScope s__law_draw) := ⟨rfl, rfl, rfl, by decide +kernel, rfl, by decide +kernel, by decide +kernel⟩
abbrev s__law_pick : Stmt := topS 15
theorem sc__law_pick : FnScope ["stream", "things"] ["stream", "things"] (defScope s__law_pick) := ⟨rfl, rfl, rfl, by decide +kernel, rfl, by decide +kernel, by decide +kernel⟩
abbrev s__law_drawn_row : Stmt := topS 21
theorem sc__law_drawn_row : FnScope ["stream", "found", "some", "turn", "piece", "tail", "at", "odd"] ["stream"] (defScope s__law_drawn_row) := ⟨rfl, rfl, rfl, by decide +kernel, rfl, by decide +kernel, by decide +kernel⟩
section
variable {P : Program} {w : World} {K : PySem.W.Frag} {mg : Str → Option Value} {base : Heap}
/-! ### the stream's draw, by the raw rules -/
theorem rdS {σ : L2.St} {H : Hp} {Q : VK} {a : Addr} {xs : List V} {i : Int} {v : V} (e0 : σ[0]? = some (some (.ref a))) (ea : H a = some (.lst xs)) (ei : atI xs i = some v) (q : Q v H) : tOp (rIx K) (tVar 0) (tC (.int i)) σ H Q :=
  ⟨_, e0, .inl ⟨a, xs, i, v, rfl, rfl, SqL.of ea, ei, q⟩⟩
theorem wrS {σ : L2.St} {H : Hp} {Q : L2.St → Hp → Prop} {a : Addr} {xs : List V} {i : Int} {j : Nat} {v : V} (e0 : σ[0]? = some (some (.ref a))) (ea : H a = some (.lst xs)) (ei : ixN xs.length i = some j) (q : Q σ (upd H a (.lst (xs.set j v)))) : gSub (tVar 0) (tC (.int i)) rSetL v σ H Q :=
  ⟨_, e0, a, xs, i, j, rfl, rfl, ea, ei, q⟩
/-- a draw: below many -/
def PhiDraw : PhiS := fun n ds k => ∃ many : Int, ds = [.int many] ∧ 0 < many ∧ many < 1073741824 ∧ n < 2 ^ 40 ∧ ∀ d : Int, 0 ≤ d → d < many → k (.fr (.int d)) (n + 1)
structure InDraw (H0 H : Hp) (a b : Addr) (n : Nat) (σ : L2.St) (many : Int) (m : Nat) : Prop where
  s0 : σ[0]? = some (some (.ref a))
  s1 : σ[1]? = some (some (.int many))
  len : σ.length = 5
  at_ : ∃ (cells : List Int) (g c mx : Int), H a = some (.lst [.ref b, .int g, .int c, .int mx]) ∧ H b = some (.lst (cells.map V.int)) ∧ 0 ≤ g ∧ 0 ≤ c ∧ c ≤ n ∧ 0 ≤ mx ∧ mx < 2147483629 ∧ cells.length ≤ 63 ∧ cells.length = m
  oth : ∀ p o, H0 p = some o → p ≠ a → p ≠ b → H p = some o
theorem neD_ints {cells : List Int} : PyData.eqv (.list (cells.map .int)) (.list []) = decide (cells = []) := by
  cases cells <;> rfl
theorem dpAll_ints {H : Hp} : ∀ cells : List Int, DpAll K H (cells.map V.int) (cells.map PyData.int)
  | [] => .nil
  | c :: cs => .cons (.int c) (dpAll_ints cs)
theorem canLay_ints : ∀ cells : List Int, PyData.canLayAll0 (cells.map .int) = true
  | [] => rfl
  | c :: cs => by
    show (PyData.canLay0 (.int c) && PyData.canLayAll0 (cs.map .int)) = true
    rw [canLay_ints cs]
    rfl
theorem depth_ints : ∀ cells : List Int, PyData.depthAll (cells.map .int) = 0
  | [] => rfl
  | c :: cs => by
    show max (PyData.depth (.int c)) (PyData.depthAll (cs.map .int)) = 0
    rw [depth_ints cs]
    rfl
theorem shaped_ints (cells : List Int) : SeqAt.shaped (.list (cells.map .int)) = true := by
  unfold SeqAt.shaped
  have h1 : PyData.canLay0 (.list (cells.map .int)) = true := canLay_ints cells
  have h2 : PyData.depth (.list (cells.map .int)) = 1 := by
    show PyData.depthAll (cells.map .int) + 1 = 1
    rw [depth_ints]
  rw [h1, h2]
  rfl
theorem ok__law_draw {f : Addr} {fd : FuncData} {k : Nat} (Fu : Fun K "_law_draw" "_law_draw" s__law_draw f fd) (m_int : mg "int" = none) (m_abs : mg "abs" = none) : FnOk P w K mg base CX0 (k + 1) f fd ["stream", "many"] (SpS K PhiDraw) := by
  refine Fu.ok sc__law_draw (fun vs H Q E h => ?_) (fun cdv A outer s H vs Q E hr h => ?_)
  · obtain ⟨F, a, b, n, ws, ds, kk, rfl, _, _, _, _, r, ⟨many, rfl, _⟩, _⟩ := h
    rw [List.length_cons, r.length]
    rfl
  · obtain ⟨F, a, b, n, ws, ds, kk, rfl, fh, fa, fb, sm, r, ⟨many, rfl, p1, p2, p3, p⟩, q⟩ := h
    obtain ⟨u, rfl, ru⟩ := repL1 r
    rw [rep_int] at ru
    subst ru
    refine ⟨_,
      pss_cons (ps_asg (pe_op op_add (pe_ix ix_seq (pv 0) pe_int (fun _ _ => rfl)) pe_int) (pg_sub (pv 0) pe_int set_list))
      (pss_cons (ps_cut (ps_while PassesOwn.never (pw_and (pt_cmpR op_eq (pe_ix ix_seq (pv 0) pe_int (fun _ _ => rfl)) pe_int rfl) (pw_and1 (pt_cmpR (op_neD hr.units) (pe_ix ix_seq (pv 0) pe_int (fun _ _ => rfl)) (pe_lst pa_nil) rfl))).pt
        (pss_cons (ps_set (i := 2) sc__law_draw.nd rfl (.inl rfl) (pe_callB call_abs rfl m_abs boot_abs (pa_cons (pe_bm PySem.F.plainAttrs_list PySem.F.slot_list_pop PySem.F.type_list_pop mt_popAt (pe_ix ix_seq (pv 0) pe_int (fun _ _ => rfl)) (pa_cons pe_int pa_nil)) pa_nil)))
        (pss_cons (ps_asg (pe_op op_mod (pe_callTy call_int1 rfl m_int PyProof.Rows.boot_int (pa_cons (pe_op op_add (pe_op op_add (pe_op op_mul (pe_ix ix_seq (pv 0) pe_int (fun _ _ => rfl)) pe_int) (pv 2)) pe_int) pa_nil)) pe_int) (pg_sub (pv 0) pe_int set_list))
        (pss_one (ps_asg (pe_ifExp (pt_cmpR op_ge (pv 2) (pe_op op_pow pe_int pe_int) rfl) (pv 2) pe_int) (pg_sub (pv 0) pe_int set_list)))))))
      (pss_cons (ps_if (pt_cmpR op_gt (pe_ix ix_seq (pv 0) pe_int (fun _ _ => rfl)) pe_int rfl)
        (pss_cons (ps_set (i := 3) sc__law_draw.nd rfl (.inl rfl) (pe_op op_mod (pe_callTy call_int1 rfl m_int PyProof.Rows.boot_int (pa_cons (pe_ix ix_seq (pv 0) pe_int (fun _ _ => rfl)) pa_nil)) (pv 1)))
        (pss_cons (ps_asg (pe_op op_fdiv (pe_ix ix_seq (pv 0) pe_int (fun _ _ => rfl)) (pv 1)) (pg_sub (pv 0) pe_int set_list))
        (pss_one (ps_ret (pv 3))))) pss_nil)
      (pss_cons (ps_set (i := 4) sc__law_draw.nd rfl (.inl rfl) (pe_op op_mod (pe_callTy call_int1 rfl m_int PyProof.Rows.boot_int (pa_cons (pe_op op_pow (pe_op op_add (pe_op op_add (pe_ix ix_seq (pv 0) pe_int (fun _ _ => rfl)) (pe_op op_mul pe_int (pe_ix ix_seq (pv 0) pe_int (fun _ _ => rfl)))) pe_int) pe_int) pa_nil)) pe_int))
      (pss_one (ps_ret (pe_op op_mod (pe_op op_mod (pe_callTy call_int1 rfl m_int PyProof.Rows.boot_int (pa_cons (pe_op op_pow (pe_op op_add (pe_op op_add (pe_op op_mul (pv 4) pe_int) (pe_op op_mul pe_int (pe_ix ix_seq (pv 0) pe_int (fun _ _ => rfl)))) pe_int) pe_int) pa_nil)) pe_int) (pv 1))))))), ?_⟩
    obtain ⟨ne, cells, g, c, mx, ea, eb, hg, hc, hcn, hm1, hm2, hl⟩ := sm
    have fin : ∀ {σ' : L2.St} {H' : Hp} {m : Nat}, InDraw H H' a b (n + 1) σ' many m → ∀ d : Int, 0 ≤ d → d < many → Q (.int d) H' := fun I d d1 d2 => by
      obtain ⟨cells, g, c, mx, h1, h2, h3, h4, h5, h6, h7, h8, h9⟩ := I.at_
      refine q (.fr (.int d)) (n + 1) (.int d) F _ [] (p d d1 d2) (fun _ _ h => h) ⟨fun x o h => I.oth x o (fh.s x o h) ?_ ?_, fh.nt⟩ I.oth (fun _ h => .inl h) ⟨ne, cells, g, c, mx, h1, h2, h3, h4, h5, h6, h7, h8⟩ fa fb ⟨rfl, rep_int.mpr rfl⟩ (by simp)
      · rintro rfl; rw [fa] at h; cases h
      · rintro rfl; rw [fb] at h; cases h
    refine rdS rfl ea at2 ⟨_, _, rfl, rfl, wrS (j := 2) rfl ea rfl ?_⟩
    refine ⟨fun σ' H' => ∃ m, InDraw H H' a b (n + 1) σ' many m, ⟨fun m σ' H' => InDraw H H' a b (n + 1) σ' many m, ⟨cells.length, ⟨rfl, rfl, rfl, ⟨cells, g, c + 1, mx, upd_same, by rw [upd_ne (Ne.symm ne)]; exact eb, hg, by omega, by omega, hm1, hm2, hl, rfl⟩, fun x o h n1 n2 => by rw [upd_ne n1]; exact h⟩⟩, ?_⟩, ?_⟩
    all_goals clear ea eb hg hc hcn hm1 hm2 hl cells g c mx
    · intro m σ' H' I
      obtain ⟨cells, g, c, mx, ea, eb, hg, hc, hcn, hm1, hm2, hl, hm⟩ := I.at_
      refine rdS I.s0 ea at1 ⟨rfl, _, rfl, ?_⟩
      by_cases hg0 : g = 0
      · subst hg0
        refine (if_pos (decide_eq_true rfl)).mpr ?_
        refine rdS I.s0 ea at0 ⟨by decide, fun p np => ?_⟩
        have npa : a ≠ p := by rintro rfl; rw [np] at ea; cases ea
        have npb : b ≠ p := by rintro rfl; rw [np] at eb; cases eb
        refine ⟨.list (cells.map .int), .list [], .lst (SqL.of (by rw [upd_ne npb]; exact eb)) (dpAll_ints _), .lst (SqL.of upd_same) .nil, shaped_ints _, rfl, _, rfl, ?_⟩
        rw [neD_ints]
        have I1 : InDraw H (upd H' p (.lst [])) a b (n + 1) σ' many m := ⟨I.s0, I.s1, I.len, ⟨cells, 0, c, mx, by rw [upd_ne npa]; exact ea, by rw [upd_ne npb]; exact eb, hg, hc, hcn, hm1, hm2, hl, hm⟩, fun x o h n1 n2 => by
          have := I.oth x o h n1 n2
          rw [upd_ne (ne_of_none this np)]; exact this⟩
        cases cells with
        | nil => exact ⟨m, I1⟩
        | cons x xs =>
          refine (if_pos (by rfl)).mpr ?_
          refine ⟨fun σ2 H2 => ∃ m', m' < m ∧ InDraw H H2 a b (n + 1) σ2 many m', fun σ2 H2 h => h, ?_⟩
          generalize hG : upd H' p (.lst []) = G at I1
          have ga : G a = some (.lst [.ref b, .int 0, .int c, .int mx]) := by rw [← hG, upd_ne npa]; exact ea
          have gb : G b = some (.lst ((x :: xs).map V.int)) := by rw [← hG, upd_ne npb]; exact eb
          refine rdS I.s0 ga at0 ⟨.inl ⟨rfl, _, SqL.of gb⟩, b, _, 0, 0, .int x, rfl, rfl, gb, by decide, by decide, by simp [seqIndex?], rfl, x, rfl, ?_⟩
          have ga2 : ∀ o, upd G b o a = some (.lst [.ref b, .int 0, .int c, .int mx]) := fun o => by rw [upd_ne ne]; exact ga
          have s0 : ∀ v : Option V, (σ'.set 2 v)[0]? = some (some (.ref a)) := fun v => by rw [List.getElem?_set_ne (by decide)]; exact I.s0
          have s1 : ∀ v : Option V, (σ'.set 2 v)[1]? = some (some (.int many)) := fun v => by rw [List.getElem?_set_ne (by decide)]; exact I.s1
          have s2 : ∀ v : Option V, (σ'.set 2 v)[2]? = some v := fun v => List.getElem?_set_self (by rw [I.len]; decide)
          have hz : 0 ≤ (if x < 0 then -x else x) := by split <;> omega
          generalize (if x < 0 then -x else x) = z at hz ⊢
          refine rdS (s0 _) (ga2 _) at3 ⟨_, _, rfl, rfl, .inr ⟨by decide, by decide⟩, _, s2 _, _, _, rfl, rfl, _, _, rfl, rfl, .inl ⟨_, rfl, _, _, rfl, rfl, (show (0 : Int) < 2147483629 by decide), wrS (j := 3) (s0 _) (ga2 _) rfl ?_⟩⟩
          have hmx1 : 0 ≤ (mx * 6151 + z + 7) % 2147483629 := Int.emod_nonneg _ (by decide)
          have hmx2 : (mx * 6151 + z + 7) % 2147483629 < 2147483629 := Int.emod_lt_of_pos _ (by decide)
          have ga3 : ∀ o xs, (upd (upd G b o) a (.lst xs)) a = some (.lst xs) := fun o xs => upd_same
          have fin2 : ∀ my y : Int, 0 ≤ my → my < 2147483629 → 0 ≤ y → ∃ m', m' < m ∧ InDraw H (upd (upd (upd G b (.lst (((x :: xs).map V.int).eraseIdx 0))) a (.lst ([.ref b, .int 0, .int c, .int mx].set 3 (.int my)))) a (.lst (([.ref b, .int 0, .int c, .int mx].set 3 (.int my)).set 1 (.int y)))) a b (n + 1) (σ'.set 2 (some (.int z))) many m' := fun my y hmx1 hmx2 hy => by
            refine ⟨xs.length, by rw [← hm]; simp, s0 _, s1 _, by rw [List.length_set]; exact I.len, ⟨xs, y, c, my, upd_same, by rw [upd_ne (Ne.symm ne), upd_ne (Ne.symm ne), upd_same]; rfl, hy, hc, hcn, hmx1, hmx2, by simp at hl; omega, rfl⟩, fun u o h n1 n2 => ?_⟩
            rw [upd_ne n1, upd_ne n1, upd_ne n2]
            exact I1.oth u o h n1 n2
          refine ⟨_, s2 _, _, _, rfl, rfl, ⟨by decide, by decide, by decide⟩, _, _, rfl, rfl, _, rfl, ?_⟩
          by_cases hb : (10 : Int) ^ (18 : Int).toNat ≤ z
          · refine (if_pos (decide_eq_true hb)).mpr ⟨_, s2 _, wrS (j := 1) (s0 _) (ga3 _ _) rfl (fin2 _ z hmx1 hmx2 hz)⟩
          · refine (if_neg (by simpa using hb)).mpr (wrS (j := 1) (s0 _) (ga3 _ _) rfl (fin2 _ 0 hmx1 hmx2 (by decide)))
      · refine (if_neg (by simpa using hg0)).mpr ?_
        exact ⟨m, I⟩
    · rintro σ' H' ⟨m, I⟩
      obtain ⟨cells, g, c, mx, ea, eb, hg, hc, hcn, hm1, hm2, hl, hm⟩ := I.at_
      refine rdS I.s0 ea at1 ⟨_, _, rfl, rfl, _, rfl, ?_⟩
      by_cases hg0 : 0 < g
      · refine (if_pos (decide_eq_true hg0)).mpr ?_
        refine rdS I.s0 ea at1 (.inl ⟨_, rfl, _, I.s1, _, _, rfl, rfl, p1, ?_⟩)
        have s0 : ∀ v : Option V, (σ'.set 3 v)[0]? = some (some (.ref a)) := fun v => by rw [List.getElem?_set_ne (by decide)]; exact I.s0
        have s1 : ∀ v : Option V, (σ'.set 3 v)[1]? = some (some (.int many)) := fun v => by rw [List.getElem?_set_ne (by decide)]; exact I.s1
        have s3 : ∀ v : Option V, (σ'.set 3 v)[3]? = some v := fun v => List.getElem?_set_self (by rw [I.len]; decide)
        refine rdS (s0 _) ea at1 ⟨_, s1 _, _, _, rfl, rfl, ⟨p1, p2⟩, wrS (j := 1) (s0 _) ea rfl ⟨_, s3 _, fin (m := m) (σ' := σ'.set 3 (some (.int (g % many)))) ⟨s0 _, s1 _, by rw [List.length_set]; exact I.len, ⟨cells, g / many, c, mx, upd_same, by rw [upd_ne (Ne.symm ne)]; exact eb, Int.ediv_nonneg hg (by omega), hc, hcn, hm1, hm2, hl, hm⟩, fun u o h n1 n2 => ?_⟩ _ (Int.emod_nonneg _ (by omega)) (Int.emod_lt_of_pos _ p1)⟩⟩
        rw [upd_ne n1]
        exact I.oth u o h n1 n2
      · refine (if_neg (by simpa using hg0)).mpr ?_
        have hn : (n : Int) < 2 ^ 40 := by exact_mod_cast p3
        refine rdS I.s0 ea at3 (rdS I.s0 ea at2 ⟨_, _, rfl, rfl, .inl ⟨by decide, by decide⟩, _, _, rfl, rfl, _, _, rfl, rfl, _, _, rfl, rfl, ⟨by decide, by decide, ?_⟩, .inl ⟨_, rfl, _, _, rfl, rfl, (show (0 : Int) < 2147483587 by decide), ?_⟩⟩)
        · omega
        have hx1 : 0 ≤ (mx + 8191 * c + 50021) ^ (5 : Int).toNat % 2147483587 := Int.emod_nonneg _ (by decide)
        have hx2 : (mx + 8191 * c + 50021) ^ (5 : Int).toNat % 2147483587 < 2147483587 := Int.emod_lt_of_pos _ (by decide)
        have s0 : ∀ v : Option V, (σ'.set 4 v)[0]? = some (some (.ref a)) := fun v => by rw [List.getElem?_set_ne (by decide)]; exact I.s0
        have s1 : ∀ v : Option V, (σ'.set 4 v)[1]? = some (some (.int many)) := fun v => by rw [List.getElem?_set_ne (by decide)]; exact I.s1
        have s4 : ∀ v : Option V, (σ'.set 4 v)[4]? = some v := fun v => List.getElem?_set_self (by rw [I.len]; decide)
        refine ⟨_, s4 _, _, _, rfl, rfl, .inr ⟨by decide, by decide⟩, rdS (s0 _) ea at2 ⟨_, _, rfl, rfl, .inl ⟨by decide, by decide⟩, _, _, rfl, rfl, _, _, rfl, rfl, _, _, rfl, rfl, ⟨by decide, by decide, ?_⟩, .inl ⟨_, rfl, _, _, rfl, rfl, (show (0 : Int) < 1000000009 by decide), _, s1 _, _, _, rfl, rfl, p1, fin I _ (Int.emod_nonneg _ (by omega)) (Int.emod_lt_of_pos _ p1)⟩⟩⟩
        show ((mx + 8191 * c + 50021) ^ (5 : Int).toNat % 2147483587 * 40009 + 20011 * c + 31).natAbs < 2 ^ 64
        generalize (mx + 8191 * c + 50021) ^ (5 : Int).toNat % 2147483587 = mix at hx1 hx2 ⊢
        omega
theorem phiDraw {n : Nat} {m : Int} {k : DS → Nat → Prop} : PhiDraw n [.int m] k ↔ 0 < m ∧ m < 1073741824 ∧ n < 2 ^ 40 ∧ ∀ d : Int, 0 ≤ d → d < m → k (.fr (.int d)) (n + 1) := by
  constructor
  · rintro ⟨m', h, r⟩
    injection h with h _
    injection h with h
    subst h
    exact r
  · intro h
    exact ⟨m, rfl, h⟩
/-- one of these things -/
def PhiPick : PhiS := fun n ds k => ∃ xs : List D, ds = [.lst xs] ∧ 0 < xs.length ∧ xs.length < 1073741824 ∧ n < 2 ^ 40 ∧ ∀ d ∈ xs, k (.fr d) (n + 1)
theorem phiPick {n : Nat} {xs : List D} {k : DS → Nat → Prop} : PhiPick n [.lst xs] k ↔ 0 < xs.length ∧ xs.length < 1073741824 ∧ n < 2 ^ 40 ∧ ∀ d ∈ xs, k (.fr d) (n + 1) := by
  constructor
  · rintro ⟨m', h, r⟩
    injection h with h _
    injection h with h
    subst h
    exact r
  · intro h
    exact ⟨xs, rfl, h⟩
theorem ok__law_pick {f : Addr} {fd : FuncData} {k : Nat} (Fu : Fun K "_law_pick" "_law_pick" s__law_pick f fd) {a__law_draw : Addr} {d__law_draw : FuncData} (G__law_draw : FnOk P w K mg base CX0 (k + 1) a__law_draw d__law_draw ["stream", "many"] (SpS K PhiDraw)) (g__law_draw : mg "_law_draw" = some (.ref a__law_draw)) (kp__law_draw : PySem.W.keepIn K (.ref a__law_draw) = true) (b__law_draw : Binds K d__law_draw ["stream", "many"] [])
    (m_len : mg "len" = none) : FnOk P w K mg base CX0 (k + 2) f fd ["stream", "things"] (SpS K PhiPick) := by
  refine fnS Fu sc__law_pick (fun n ds kk h => by obtain ⟨xs, rfl, _⟩ := h; rfl) fun cdv A outer s H E B hr => ⟨_,
    (psd_one (psd_ret (pf_ix (pf_var (pv 1)) (pf_callS (i := 0) G__law_draw (hr.mono (by omega)) rfl g__law_draw kp__law_draw b__law_draw (pv 0) (pad_cons (pf_len rfl m_len (pf_var (pv 1))) pad_nil)))))
    , fun a b n ds kk h => ?_⟩
  obtain ⟨xs, rfl, h0, h1, h2, hk⟩ := h
  simp only [dSeq, dNext, dSet, dSetO, dVar, dFrz, dC, dOp, dTest, rdI, rdI0, rdEq_ss, rdEq_gs, rdEq_gg, rdEq_ii, rdEq_bb, rdNe_ss, rdNe_gs, rdNe_gg, rdNe_ii, rdNe_bb, dAnd, dOr, dNot, dAndV, dOrV, dNotV, dIf, dNil, dCons, dTup, dLst, dFz, dBreak, dCont, dRet, dRetO, dMove, dIfS, dNever, dDrop, dWhile, dFor, dLc, dSrcL, dSrcT, dSrcS, dRng1, dRng2, dEnumL, dEnumS, dZip, dgName, dgNil, dgCons, dgTup, dPar, mNil, mConsF, mConsO, putD, dAsg, dCB, rdLen, lenD_str, lenD_lst, lenD_tup, dIxV, dLenV, dCall, dCallO, dCallX, dCallXO, dRaise, dCallS, dCallSO, frz_fr, frz_ol, rdAddS, dSlS, dPart, dNoPart, dM0, dM1, rdSplit, rdJoin, rdStr0, rdStr1, rdIndex, rdIsN, isn_non, isn_int, isn_str, isn_lst, isn_tup, rdEqD, rdCat, rdRep, dOpO, dCBO, rdList_lst, rdList_tup, rdList_str, rdTuple_lst, rdTuple_tup, rdAll, rdIn_sg, rdIx_str, rdIx_lst, rdIx_tup, rdInt_str, rdInt_int, at0, at1, at2, one_len, cast1, castA, castP, Int.ofNat_lt, Int.ofNat_le, Int.ofNat_inj, dYes, dApp, dSeqV, dRetIf, dCopyDic, dItems0, dNeg, dZipA, wipeD, noOwn, dSetRL, dAppRL, dBor1, dSpoil, dSetW, putW, dIsiW, dAppW, dThaw, dMet, dMetN, dMetW, dCallXk, frO, frO1, frS, frS1, thawS1, thawD, thawL, List.mem_singleton, implies_true, false_implies, forall_const, forall_eq', List.map_set, dCut, dCutS, ae_len, dIsi, startD, and_assoc, exists_eq_left, exists_eq_left', exists_eq_right, exists_eq_right', exists_eq, exists_eq', exists_and_left, exists_and_right, exists_const, exists_false, false_and, and_false, true_and, and_true, false_or, or_false, or_true, true_or, if_true, if_false, Bool.false_eq_true, reduceCtorEq, reduceIte, ite_true, ite_false, Option.some.injEq, DS.fr.injEq, DS.ol.injEq, DS.sm.injEq, D.int.injEq, D.str.injEq, D.bl.injEq, D.lst.injEq, D.tup.injEq, V.str.injEq, V.int.injEq, V.bl.injEq, List.cons.injEq, List.getElem?_cons_zero, List.getElem?_cons_succ, List.set_cons_zero, List.set_cons_succ, List.length_cons, List.length_nil, List.length_set, List.map_cons, List.map_nil, List.cons_append, List.nil_append, List.append_nil, List.replicate_succ, List.replicate_zero, List.mem_cons, List.not_mem_nil, forall_eq_or_imp, forall_eq, Nat.reduceAdd, Nat.reduceSub, Nat.reduceLT, Nat.reduceLeDiff, Nat.zero_add, Nat.add_zero, decide_eq_true_eq, decide_eq_false_iff_not, Bool.not_eq_true', Bool.and_eq_true, Bool.or_eq_true, decide_true, decide_false, Bool.not_true, Bool.not_false, id_eq, Option.map_some, Option.map_none, phiDraw]
  refine ⟨by omega, by omega, h2, fun d h3 h4 => ?_⟩
  obtain ⟨m, rfl⟩ : ∃ m : Nat, d = (m : Nat) := ⟨d.toNat, by omega⟩
  have hm : m < xs.length := by omega
  exact ⟨xs[m], atI_nat (List.getElem?_eq_getElem hm), hk _ (List.getElem_mem hm)⟩
def WORDS : List D := [.str "letters", .str "given", .str "a", .str "zz", .str "'a", .str "'", .str "''b", .str "unless", .str "abcdefgh", .str "0", .str "7", .str "0012", .str "345678901234"]
def okP (m : Nat) : D → Bool
  | .str s => decide (s.length ≤ m ∧ 10 ∉ s.cps.toList)
  | _ => false
theorem okP_all {m : Nat} {l : List D} (h : l.all (okP m) = true) : ∀ d ∈ l, ∃ s, d = .str s ∧ s.length ≤ m ∧ 10 ∉ s.cps.toList := fun d hd => by
  have := List.all_eq_true.mp h d hd
  cases d with
  | str s => exact ⟨s, rfl, of_decide_eq_true this⟩
  | non => cases this
  | bl _ => cases this
  | int _ => cases this
  | lst _ => cases this
  | tup _ => cases this
  | dic _ => cases this
  | ob _ => cases this
  | la _ _ => cases this
theorem len_app (x y : Str) : (x ++ y).length = x.length + y.length := PySem.Str.length_append x y
theorem not10_app {x y : Str} (h1 : 10 ∉ x.cps.toList) (h2 : 10 ∉ y.cps.toList) : 10 ∉ (x ++ y).cps.toList := by
  rw [toList_app, List.mem_append]
  exact fun h => h.elim h1 h2
/-- between the turns of _law_drawn_row -/
def WDrawn (a b : Addr) (n i : Nat) (ρ : Sl) : Prop := ∃ (x : Str) (o3 o4 o5 o6 o7 : Option DS), ρ = [some (.sm a b (n + 1 + i) none), some (.fr (.str x)), some (.fr (.lst WORDS)), o3, o4, o5, o6, o7] ∧ x.length ≤ 13 * i ∧ 10 ∉ x.cps.toList
/-- a drawn row -/
def PhiDrawn : PhiS := fun n ds k => ds = [] ∧ n < 2 ^ 39 ∧ ∀ (x : Str) (n' : Nat), x.length ≤ 200 → 10 ∉ x.cps.toList → n' ≤ n + 20 → k (.fr (.str x)) n'
theorem ok__law_drawn_row {f : Addr} {fd : FuncData} {k : Nat} (Fu : Fun K "_law_drawn_row" "_law_drawn_row" s__law_drawn_row f fd) {a__law_draw : Addr} {d__law_draw : FuncData} (G__law_draw : FnOk P w K mg base CX0 (k + 1) a__law_draw d__law_draw ["stream", "many"] (SpS K PhiDraw)) (g__law_draw : mg "_law_draw" = some (.ref a__law_draw)) (kp__law_draw : PySem.W.keepIn K (.ref a__law_draw) = true) (b__law_draw : Binds K d__law_draw ["stream", "many"] []) {a__law_pick : Addr} {d__law_pick : FuncData} (G__law_pick : FnOk P w K mg base CX0 (k + 2) a__law_pick d__law_pick ["stream", "things"] (SpS K PhiPick)) (g__law_pick : mg "_law_pick" = some (.ref a__law_pick)) (kp__law_pick : PySem.W.keepIn K (.ref a__law_pick) = true) (b__law_pick : Binds K d__law_pick ["stream", "things"] [])
    (m_len : mg "len" = none) (m_range : mg "range" = none) (m_list : mg "list" = none) : FnOk P w K mg base CX0 (k + 3) f fd ["stream"] (SpS K PhiDrawn) := by
  refine fnS Fu sc__law_drawn_row (fun n ds kk h => by obtain ⟨rfl, _⟩ := h; rfl) fun cdv A outer s H E B hr => ⟨_,
    (psd_cons (psd_par (i := 1) (j := 2) (fun t pt => ps_par rfl sc__law_drawn_row.nd rfl rfl (by decide) rfl rfl pt (by rfl)) (pm_consF pf_str (pm_consF (PO.pf (po_lst (pad_cons pf_str (pad_cons pf_str (pad_cons pf_str (pad_cons pf_str (pad_cons pf_str (pad_cons pf_str (pad_cons pf_str (pad_cons pf_str (pad_cons pf_str (pad_cons pf_str (pad_cons pf_str (pad_cons pf_str (pad_cons pf_str pad_nil))))))))))))))) pm_nil)))
      (psd_cons (psd_for PassesOwn.never rfl (pid_range1 rfl m_range (pf_callS (i := 0) G__law_draw (hr.mono (by omega)) rfl g__law_draw kp__law_draw b__law_draw (pv 0) (pad_cons pf_int pad_nil))) (pg_name (i := 3) sc__law_drawn_row.nd rfl (.inl rfl)) lg_name
      (psd_cons (psd_set (i := 4) (fun t pt => ps_set (i := 4) sc__law_drawn_row.nd rfl (.inl rfl) pt) (pf_callS (i := 0) G__law_pick (hr.mono (by omega)) rfl g__law_pick kp__law_pick b__law_pick (pv 0) (pad_cons (PO.pf (po_cat (PO.pf (po_cat (pf_var (pv 2)) (PO.pf (po_list rfl rfl m_list pf_str)))) (PO.pf (po_lst (pad_cons pf_str (pad_cons pf_str (pad_cons pf_str (pad_cons pf_str pad_nil)))))))) pad_nil)))
      (psd_cons (psd_set (i := 5) (fun t pt => ps_set (i := 5) sc__law_drawn_row.nd rfl (.inl rfl) pt) (pf_sub (pf_len rfl m_len (pf_var (pv 1))) (pf_len rfl m_len (pf_rstrip (pf_var (pv 1)) pf_str))))
      (psd_one (psd_set (i := 1) (fun t pt => ps_set (i := 1) sc__law_drawn_row.nd rfl (.inl rfl) pt) (pf_addS (pf_var (pv 1)) (pf_cut (pf_if (PV.pq (pv_and (pq_val (pf_isdigit (pf_var (pv 4)))) (pv_and1 (pq_gt (pf_add (pf_var (pv 5)) (pf_len rfl m_len (pf_var (pv 4)))) pf_int)))) (pf_addS pf_str (pf_var (pv 4))) (pf_var (pv 4))))))))))
      (psd_cons (psd_cut (psd_if (pq_eq (pf_callS (i := 0) G__law_draw (hr.mono (by omega)) rfl g__law_draw kp__law_draw b__law_draw (pv 0) (pad_cons pf_int pad_nil)) pf_int)
      (psd_cons (psd_set (i := 6) (fun t pt => ps_set (i := 6) sc__law_drawn_row.nd rfl (.inl rfl) pt) (pf_callS (i := 0) G__law_draw (hr.mono (by omega)) rfl g__law_draw kp__law_draw b__law_draw (pv 0) (pad_cons (pf_add (pf_len rfl m_len (pf_var (pv 1))) pf_int) pad_nil)))
      (psd_cons (psd_set (i := 7) (fun t pt => ps_set (i := 7) sc__law_drawn_row.nd rfl (.inl rfl) pt) (pf_callS (i := 0) G__law_pick (hr.mono (by omega)) rfl g__law_pick kp__law_pick b__law_pick (pv 0) (pad_cons (PO.pf (po_cat (PO.pf (po_list rfl rfl m_list pf_str)) (PO.pf (po_lst (pad_cons pf_str (pad_cons pf_str (pad_cons pf_str pad_nil))))))) pad_nil)))
      (psd_one (psd_set (i := 1) (fun t pt => ps_set (i := 1) sc__law_drawn_row.nd rfl (.inl rfl) pt) (pf_addS (pf_addS (pf_sliceS (pf_var (pv 1)) pp_none (pp_some (pf_var (pv 6)))) (pf_var (pv 7))) (pf_sliceS (pf_var (pv 1)) (pp_some (pf_var (pv 6))) pp_none))))))
      psd_nil))
      (psd_one (psd_ret (pf_addS (pf_var (pv 1)) (pf_if (pq_eq (pf_callS (i := 0) G__law_draw (hr.mono (by omega)) rfl g__law_draw kp__law_draw b__law_draw (pv 0) (pad_cons pf_int pad_nil)) pf_int) (pf_callS (i := 0) G__law_pick (hr.mono (by omega)) rfl g__law_pick kp__law_pick b__law_pick (pv 0) (pad_cons (PO.pf (po_lst (pad_cons pf_str (pad_cons pf_str (pad_cons pf_str pad_nil))))) pad_nil)) pf_str)))))))
    , fun a b n ds kk h => ?_⟩
  obtain ⟨rfl, hn, hk⟩ := h
  have hz := sizeLine_eq
  simp only [dSeq, dNext, dSet, dSetO, dVar, dFrz, dC, dOp, dTest, rdI, rdI0, rdEq_ss, rdEq_gs, rdEq_gg, rdEq_ii, rdEq_bb, rdNe_ss, rdNe_gs, rdNe_gg, rdNe_ii, rdNe_bb, dAnd, dOr, dNot, dAndV, dOrV, dNotV, dIf, dNil, dCons, dTup, dLst, dFz, dBreak, dCont, dRet, dRetO, dMove, dIfS, dNever, dDrop, dWhile, dFor, dLc, dSrcL, dSrcT, dSrcS, dRng1, dRng2, dEnumL, dEnumS, dZip, dgName, dgNil, dgCons, dgTup, dPar, mNil, mConsF, mConsO, putD, dAsg, dCB, rdLen, lenD_str, lenD_lst, lenD_tup, dIxV, dLenV, dCall, dCallO, dCallX, dCallXO, dRaise, dCallS, dCallSO, frz_fr, frz_ol, rdAddS, dSlS, dPart, dNoPart, dM0, dM1, rdSplit, rdJoin, rdStr0, rdStr1, rdIndex, rdIsN, isn_non, isn_int, isn_str, isn_lst, isn_tup, rdEqD, rdCat, rdRep, dOpO, dCBO, rdList_lst, rdList_tup, rdList_str, rdTuple_lst, rdTuple_tup, rdAll, rdIn_sg, rdIx_str, rdIx_lst, rdIx_tup, rdInt_str, rdInt_int, at0, at1, at2, one_len, cast1, castA, castP, Int.ofNat_lt, Int.ofNat_le, Int.ofNat_inj, dYes, dApp, dSeqV, dRetIf, dCopyDic, dItems0, dNeg, dZipA, wipeD, noOwn, dSetRL, dAppRL, dBor1, dSpoil, dSetW, putW, dIsiW, dAppW, dThaw, dMet, dMetN, dMetW, dCallXk, frO, frO1, frS, frS1, thawS1, thawD, thawL, List.mem_singleton, implies_true, false_implies, forall_const, forall_eq', List.map_set, dCut, dCutS, ae_len, dIsi, startD, and_assoc, exists_eq_left, exists_eq_left', exists_eq_right, exists_eq_right', exists_eq, exists_eq', exists_and_left, exists_and_right, exists_const, exists_false, false_and, and_false, true_and, and_true, false_or, or_false, or_true, true_or, if_true, if_false, Bool.false_eq_true, reduceCtorEq, reduceIte, ite_true, ite_false, Option.some.injEq, DS.fr.injEq, DS.ol.injEq, DS.sm.injEq, D.int.injEq, D.str.injEq, D.bl.injEq, D.lst.injEq, D.tup.injEq, V.str.injEq, V.int.injEq, V.bl.injEq, List.cons.injEq, List.getElem?_cons_zero, List.getElem?_cons_succ, List.set_cons_zero, List.set_cons_succ, List.length_cons, List.length_nil, List.length_set, List.map_cons, List.map_nil, List.cons_append, List.nil_append, List.append_nil, List.replicate_succ, List.replicate_zero, List.mem_cons, List.not_mem_nil, forall_eq_or_imp, forall_eq, Nat.reduceAdd, Nat.reduceSub, Nat.reduceLT, Nat.reduceLeDiff, Nat.zero_add, Nat.add_zero, decide_eq_true_eq, decide_eq_false_iff_not, Bool.not_eq_true', Bool.and_eq_true, Bool.or_eq_true, decide_true, decide_false, Bool.not_true, Bool.not_false, id_eq, Option.map_some, Option.map_none, phiDraw, phiPick]
  refine ⟨by omega, by omega, by omega, by omega, fun d hd0 hd1 => ⟨by omega, by omega, WDrawn a b n, ⟨"", none, none, none, none, none, rfl, by decide, by decide⟩, ?_, ?_⟩⟩
  · rintro i y ρ hi ⟨x, o3, o4, o5, o6, o7, rfl, hx, hn10⟩
    obtain ⟨hid, rfl⟩ := rangeD_inv hi
    simp only [dSeq, dNext, dSet, dSetO, dVar, dFrz, dC, dOp, dTest, rdI, rdI0, rdEq_ss, rdEq_gs, rdEq_gg, rdEq_ii, rdEq_bb, rdNe_ss, rdNe_gs, rdNe_gg, rdNe_ii, rdNe_bb, dAnd, dOr, dNot, dAndV, dOrV, dNotV, dIf, dNil, dCons, dTup, dLst, dFz, dBreak, dCont, dRet, dRetO, dMove, dIfS, dNever, dDrop, dWhile, dFor, dLc, dSrcL, dSrcT, dSrcS, dRng1, dRng2, dEnumL, dEnumS, dZip, dgName, dgNil, dgCons, dgTup, dPar, mNil, mConsF, mConsO, putD, dAsg, dCB, rdLen, lenD_str, lenD_lst, lenD_tup, dIxV, dLenV, dCall, dCallO, dCallX, dCallXO, dRaise, dCallS, dCallSO, frz_fr, frz_ol, rdAddS, dSlS, dPart, dNoPart, dM0, dM1, rdSplit, rdJoin, rdStr0, rdStr1, rdIndex, rdIsN, isn_non, isn_int, isn_str, isn_lst, isn_tup, rdEqD, rdCat, rdRep, dOpO, dCBO, rdList_lst, rdList_tup, rdList_str, rdTuple_lst, rdTuple_tup, rdAll, rdIn_sg, rdIx_str, rdIx_lst, rdIx_tup, rdInt_str, rdInt_int, at0, at1, at2, one_len, cast1, castA, castP, Int.ofNat_lt, Int.ofNat_le, Int.ofNat_inj, dYes, dApp, dSeqV, dRetIf, dCopyDic, dItems0, dNeg, dZipA, wipeD, noOwn, dSetRL, dAppRL, dBor1, dSpoil, dSetW, putW, dIsiW, dAppW, dThaw, dMet, dMetN, dMetW, dCallXk, frO, frO1, frS, frS1, thawS1, thawD, thawL, List.mem_singleton, implies_true, false_implies, forall_const, forall_eq', List.map_set, dCut, dCutS, ae_len, dIsi, startD, and_assoc, exists_eq_left, exists_eq_left', exists_eq_right, exists_eq_right', exists_eq, exists_eq', exists_and_left, exists_and_right, exists_const, exists_false, false_and, and_false, true_and, and_true, false_or, or_false, or_true, true_or, if_true, if_false, Bool.false_eq_true, reduceCtorEq, reduceIte, ite_true, ite_false, Option.some.injEq, DS.fr.injEq, DS.ol.injEq, DS.sm.injEq, D.int.injEq, D.str.injEq, D.bl.injEq, D.lst.injEq, D.tup.injEq, V.str.injEq, V.int.injEq, V.bl.injEq, List.cons.injEq, List.getElem?_cons_zero, List.getElem?_cons_succ, List.set_cons_zero, List.set_cons_succ, List.length_cons, List.length_nil, List.length_set, List.map_cons, List.map_nil, List.cons_append, List.nil_append, List.append_nil, List.replicate_succ, List.replicate_zero, List.mem_cons, List.not_mem_nil, forall_eq_or_imp, forall_eq, Nat.reduceAdd, Nat.reduceSub, Nat.reduceLT, Nat.reduceLeDiff, Nat.zero_add, Nat.add_zero, decide_eq_true_eq, decide_eq_false_iff_not, Bool.not_eq_true', Bool.and_eq_true, Bool.or_eq_true, decide_true, decide_false, Bool.not_true, Bool.not_false, id_eq, Option.map_some, Option.map_none, phiPick]
    have hw := okP_all (m := 12) (l := WORDS ++ signsD "(),"
      ++ [D.str " ", D.str "  ", D.str " ", D.str " "]) (by decide +kernel)
    refine ⟨by decide, by decide, by omega, by decide, by decide, by decide, by omega, fun d hd => ?_⟩
    obtain ⟨z, rfl, hz1, hz2⟩ := hw d hd
    simp only [dSeq, dNext, dSet, dSetO, dVar, dFrz, dC, dOp, dTest, rdI, rdI0, rdEq_ss, rdEq_gs, rdEq_gg, rdEq_ii, rdEq_bb, rdNe_ss, rdNe_gs, rdNe_gg, rdNe_ii, rdNe_bb, dAnd, dOr, dNot, dAndV, dOrV, dNotV, dIf, dNil, dCons, dTup, dLst, dFz, dBreak, dCont, dRet, dRetO, dMove, dIfS, dNever, dDrop, dWhile, dFor, dLc, dSrcL, dSrcT, dSrcS, dRng1, dRng2, dEnumL, dEnumS, dZip, dgName, dgNil, dgCons, dgTup, dPar, mNil, mConsF, mConsO, putD, dAsg, dCB, rdLen, lenD_str, lenD_lst, lenD_tup, dIxV, dLenV, dCall, dCallO, dCallX, dCallXO, dRaise, dCallS, dCallSO, frz_fr, frz_ol, rdAddS, dSlS, dPart, dNoPart, dM0, dM1, rdSplit, rdJoin, rdStr0, rdStr1, rdIndex, rdIsN, isn_non, isn_int, isn_str, isn_lst, isn_tup, rdEqD, rdCat, rdRep, dOpO, dCBO, rdList_lst, rdList_tup, rdList_str, rdTuple_lst, rdTuple_tup, rdAll, rdIn_sg, rdIx_str, rdIx_lst, rdIx_tup, rdInt_str, rdInt_int, at0, at1, at2, one_len, cast1, castA, castP, Int.ofNat_lt, Int.ofNat_le, Int.ofNat_inj, dYes, dApp, dSeqV, dRetIf, dCopyDic, dItems0, dNeg, dZipA, wipeD, noOwn, dSetRL, dAppRL, dBor1, dSpoil, dSetW, putW, dIsiW, dAppW, dThaw, dMet, dMetN, dMetW, dCallXk, frO, frO1, frS, frS1, thawS1, thawD, thawL, List.mem_singleton, implies_true, false_implies, forall_const, forall_eq', List.map_set, dCut, dCutS, ae_len, dIsi, startD, and_assoc, exists_eq_left, exists_eq_left', exists_eq_right, exists_eq_right', exists_eq, exists_eq', exists_and_left, exists_and_right, exists_const, exists_false, false_and, and_false, true_and, and_true, false_or, or_false, or_true, true_or, if_true, if_false, Bool.false_eq_true, reduceCtorEq, reduceIte, ite_true, ite_false, Option.some.injEq, DS.fr.injEq, DS.ol.injEq, DS.sm.injEq, D.int.injEq, D.str.injEq, D.bl.injEq, D.lst.injEq, D.tup.injEq, V.str.injEq, V.int.injEq, V.bl.injEq, List.cons.injEq, List.getElem?_cons_zero, List.getElem?_cons_succ, List.set_cons_zero, List.set_cons_succ, List.length_cons, List.length_nil, List.length_set, List.map_cons, List.map_nil, List.cons_append, List.nil_append, List.append_nil, List.replicate_succ, List.replicate_zero, List.mem_cons, List.not_mem_nil, forall_eq_or_imp, forall_eq, Nat.reduceAdd, Nat.reduceSub, Nat.reduceLT, Nat.reduceLeDiff, Nat.zero_add, Nat.add_zero, decide_eq_true_eq, decide_eq_false_iff_not, Bool.not_eq_true', Bool.and_eq_true, Bool.or_eq_true, decide_true, decide_false, Bool.not_true, Bool.not_false, id_eq, Option.map_some, Option.map_none]
    have hrs := len_rstripChars x "0123456789"
    refine ⟨by omega, by omega, by omega, fun y ρ => (∃ u, y = .str u ∧ u.length ≤ 13 ∧ 10 ∉ u.cps.toList) ∧ ∃ o3 o4 o5 o6 o7, ρ = [some (.sm a b (n + 1 + (i + 1)) none), some (.fr (.str x)), some (.fr (.lst WORDS)), o3, o4, o5, o6, o7], ?_, ?_⟩
    · split
      · refine ⟨by omega, ?_⟩
        split
        · exact ⟨by show 1 + _ ≤ _; omega, ⟨_, rfl, by rw [len_app]; show 1 + _ ≤ _; omega, not10_app (by decide) hz2⟩, _, _, _, _, _, rfl⟩
        · exact ⟨⟨z, rfl, by omega, hz2⟩, _, _, _, _, _, rfl⟩
      · exact ⟨⟨z, rfl, by omega, hz2⟩, _, _, _, _, _, rfl⟩
    · rintro y ρ' ⟨⟨u, rfl, hu1, hu2⟩, o3, o4, o5, o6, o7, rfl⟩
      simp only [dSeq, dNext, dSet, dSetO, dVar, dFrz, dC, dOp, dTest, rdI, rdI0, rdEq_ss, rdEq_gs, rdEq_gg, rdEq_ii, rdEq_bb, rdNe_ss, rdNe_gs, rdNe_gg, rdNe_ii, rdNe_bb, dAnd, dOr, dNot, dAndV, dOrV, dNotV, dIf, dNil, dCons, dTup, dLst, dFz, dBreak, dCont, dRet, dRetO, dMove, dIfS, dNever, dDrop, dWhile, dFor, dLc, dSrcL, dSrcT, dSrcS, dRng1, dRng2, dEnumL, dEnumS, dZip, dgName, dgNil, dgCons, dgTup, dPar, mNil, mConsF, mConsO, putD, dAsg, dCB, rdLen, lenD_str, lenD_lst, lenD_tup, dIxV, dLenV, dCall, dCallO, dCallX, dCallXO, dRaise, dCallS, dCallSO, frz_fr, frz_ol, rdAddS, dSlS, dPart, dNoPart, dM0, dM1, rdSplit, rdJoin, rdStr0, rdStr1, rdIndex, rdIsN, isn_non, isn_int, isn_str, isn_lst, isn_tup, rdEqD, rdCat, rdRep, dOpO, dCBO, rdList_lst, rdList_tup, rdList_str, rdTuple_lst, rdTuple_tup, rdAll, rdIn_sg, rdIx_str, rdIx_lst, rdIx_tup, rdInt_str, rdInt_int, at0, at1, at2, one_len, cast1, castA, castP, Int.ofNat_lt, Int.ofNat_le, Int.ofNat_inj, dYes, dApp, dSeqV, dRetIf, dCopyDic, dItems0, dNeg, dZipA, wipeD, noOwn, dSetRL, dAppRL, dBor1, dSpoil, dSetW, putW, dIsiW, dAppW, dThaw, dMet, dMetN, dMetW, dCallXk, frO, frO1, frS, frS1, thawS1, thawD, thawL, List.mem_singleton, implies_true, false_implies, forall_const, forall_eq', List.map_set, dCut, dCutS, ae_len, dIsi, startD, and_assoc, exists_eq_left, exists_eq_left', exists_eq_right, exists_eq_right', exists_eq, exists_eq', exists_and_left, exists_and_right, exists_const, exists_false, false_and, and_false, true_and, and_true, false_or, or_false, or_true, true_or, if_true, if_false, Bool.false_eq_true, reduceCtorEq, reduceIte, ite_true, ite_false, Option.some.injEq, DS.fr.injEq, DS.ol.injEq, DS.sm.injEq, D.int.injEq, D.str.injEq, D.bl.injEq, D.lst.injEq, D.tup.injEq, V.str.injEq, V.int.injEq, V.bl.injEq, List.cons.injEq, List.getElem?_cons_zero, List.getElem?_cons_succ, List.set_cons_zero, List.set_cons_succ, List.length_cons, List.length_nil, List.length_set, List.map_cons, List.map_nil, List.cons_append, List.nil_append, List.append_nil, List.replicate_succ, List.replicate_zero, List.mem_cons, List.not_mem_nil, forall_eq_or_imp, forall_eq, Nat.reduceAdd, Nat.reduceSub, Nat.reduceLT, Nat.reduceLeDiff, Nat.zero_add, Nat.add_zero, decide_eq_true_eq, decide_eq_false_iff_not, Bool.not_eq_true', Bool.and_eq_true, Bool.or_eq_true, decide_true, decide_false, Bool.not_true, Bool.not_false, id_eq, Option.map_some, Option.map_none]
      exact ⟨by omega, _, _, _, _, _, _, rfl, by rw [len_app]; omega, not10_app hn10 hu2⟩
  · rintro ρ ⟨x, o3, o4, o5, o6, o7, rfl, hx, hn10⟩
    rw [rangeD_len] at hx ⊢
    simp only [dSeq, dNext, dSet, dSetO, dVar, dFrz, dC, dOp, dTest, rdI, rdI0, rdEq_ss, rdEq_gs, rdEq_gg, rdEq_ii, rdEq_bb, rdNe_ss, rdNe_gs, rdNe_gg, rdNe_ii, rdNe_bb, dAnd, dOr, dNot, dAndV, dOrV, dNotV, dIf, dNil, dCons, dTup, dLst, dFz, dBreak, dCont, dRet, dRetO, dMove, dIfS, dNever, dDrop, dWhile, dFor, dLc, dSrcL, dSrcT, dSrcS, dRng1, dRng2, dEnumL, dEnumS, dZip, dgName, dgNil, dgCons, dgTup, dPar, mNil, mConsF, mConsO, putD, dAsg, dCB, rdLen, lenD_str, lenD_lst, lenD_tup, dIxV, dLenV, dCall, dCallO, dCallX, dCallXO, dRaise, dCallS, dCallSO, frz_fr, frz_ol, rdAddS, dSlS, dPart, dNoPart, dM0, dM1, rdSplit, rdJoin, rdStr0, rdStr1, rdIndex, rdIsN, isn_non, isn_int, isn_str, isn_lst, isn_tup, rdEqD, rdCat, rdRep, dOpO, dCBO, rdList_lst, rdList_tup, rdList_str, rdTuple_lst, rdTuple_tup, rdAll, rdIn_sg, rdIx_str, rdIx_lst, rdIx_tup, rdInt_str, rdInt_int, at0, at1, at2, one_len, cast1, castA, castP, Int.ofNat_lt, Int.ofNat_le, Int.ofNat_inj, dYes, dApp, dSeqV, dRetIf, dCopyDic, dItems0, dNeg, dZipA, wipeD, noOwn, dSetRL, dAppRL, dBor1, dSpoil, dSetW, putW, dIsiW, dAppW, dThaw, dMet, dMetN, dMetW, dCallXk, frO, frO1, frS, frS1, thawS1, thawD, thawL, List.mem_singleton, implies_true, false_implies, forall_const, forall_eq', List.map_set, dCut, dCutS, ae_len, dIsi, startD, and_assoc, exists_eq_left, exists_eq_left', exists_eq_right, exists_eq_right', exists_eq, exists_eq', exists_and_left, exists_and_right, exists_const, exists_false, false_and, and_false, true_and, and_true, false_or, or_false, or_true, true_or, if_true, if_false, Bool.false_eq_true, reduceCtorEq, reduceIte, ite_true, ite_false, Option.some.injEq, DS.fr.injEq, DS.ol.injEq, DS.sm.injEq, D.int.injEq, D.str.injEq, D.bl.injEq, D.lst.injEq, D.tup.injEq, V.str.injEq, V.int.injEq, V.bl.injEq, List.cons.injEq, List.getElem?_cons_zero, List.getElem?_cons_succ, List.set_cons_zero, List.set_cons_succ, List.length_cons, List.length_nil, List.length_set, List.map_cons, List.map_nil, List.cons_append, List.nil_append, List.append_nil, List.replicate_succ, List.replicate_zero, List.mem_cons, List.not_mem_nil, forall_eq_or_imp, forall_eq, Nat.reduceAdd, Nat.reduceSub, Nat.reduceLT, Nat.reduceLeDiff, Nat.zero_add, Nat.add_zero, decide_eq_true_eq, decide_eq_false_iff_not, Bool.not_eq_true', Bool.and_eq_true, Bool.or_eq_true, decide_true, decide_false, Bool.not_true, Bool.not_false, id_eq, Option.map_some, Option.map_none, phiDraw, phiPick]
    have hw := okP_all (m := 2) (l := signsD "@-:A_+;{}~Z.[]" ++ [D.str "\t", D.str "'", D.str "'1"]) (by decide +kernel)
    have hd : 13 * d.toNat ≤ 117 := by omega
    refine ⟨by omega, by omega, by omega, fun ρ => ∃ (y : Str) (n' : Nat) (o2 o3 o4 o5 o6 o7 : Option DS), ρ = [some (.sm a b n' none), some (.fr (.str y)), o2, o3, o4, o5, o6, o7] ∧ n' ≤ n + 15 ∧ y.length ≤ 120 ∧ 10 ∉ y.cps.toList, fun d1 h1 h2 => ?_, ?_⟩
    · split
      · refine ⟨by omega, by omega, by omega, by omega, fun d2 h3 h4 => ?_⟩
        refine ⟨by decide, by omega, by decide, by decide, by decide, by omega, fun d3 hd3 => ?_⟩
        obtain ⟨z, rfl, hz1, hz2⟩ := hw d3 hd3
        obtain ⟨m, rfl⟩ : ∃ m : Nat, d2 = (m : Nat) := ⟨d2.toNat, by omega⟩
        have hm : m ≤ x.length := by omega
        have l1 := len_toList x
        rw [cut_to x m hm, cut_from x m hm]
        have t1 : (txt (x.cps.toList.take m)).length = m := by rw [len_txt, List.length_take]; omega
        have t2 : (txt (x.cps.toList.drop m)).length = x.length - m := by rw [len_txt, List.length_drop]; omega
        refine ⟨by omega, z, rfl, by omega, by omega, by rw [len_app]; omega, _, _, _, _, _, _, _, _, rfl, by omega, ?_, ?_⟩
        · rw [len_app, len_app]
          omega
        · refine not10_app (not10_app ?_ hz2) ?_
          · rw [toList_txt]; exact fun h => hn10 (List.mem_of_mem_take h)
          · rw [toList_txt]; exact fun h => hn10 (List.mem_of_mem_drop h)
      · exact ⟨_, _, _, _, _, _, _, _, rfl, by omega, by omega, hn10⟩
    · rintro ρ ⟨y, n', o2, o3, o4, o5, o6, o7, rfl, hn', hy, hy10⟩
      simp only [dSeq, dNext, dSet, dSetO, dVar, dFrz, dC, dOp, dTest, rdI, rdI0, rdEq_ss, rdEq_gs, rdEq_gg, rdEq_ii, rdEq_bb, rdNe_ss, rdNe_gs, rdNe_gg, rdNe_ii, rdNe_bb, dAnd, dOr, dNot, dAndV, dOrV, dNotV, dIf, dNil, dCons, dTup, dLst, dFz, dBreak, dCont, dRet, dRetO, dMove, dIfS, dNever, dDrop, dWhile, dFor, dLc, dSrcL, dSrcT, dSrcS, dRng1, dRng2, dEnumL, dEnumS, dZip, dgName, dgNil, dgCons, dgTup, dPar, mNil, mConsF, mConsO, putD, dAsg, dCB, rdLen, lenD_str, lenD_lst, lenD_tup, dIxV, dLenV, dCall, dCallO, dCallX, dCallXO, dRaise, dCallS, dCallSO, frz_fr, frz_ol, rdAddS, dSlS, dPart, dNoPart, dM0, dM1, rdSplit, rdJoin, rdStr0, rdStr1, rdIndex, rdIsN, isn_non, isn_int, isn_str, isn_lst, isn_tup, rdEqD, rdCat, rdRep, dOpO, dCBO, rdList_lst, rdList_tup, rdList_str, rdTuple_lst, rdTuple_tup, rdAll, rdIn_sg, rdIx_str, rdIx_lst, rdIx_tup, rdInt_str, rdInt_int, at0, at1, at2, one_len, cast1, castA, castP, Int.ofNat_lt, Int.ofNat_le, Int.ofNat_inj, dYes, dApp, dSeqV, dRetIf, dCopyDic, dItems0, dNeg, dZipA, wipeD, noOwn, dSetRL, dAppRL, dBor1, dSpoil, dSetW, putW, dIsiW, dAppW, dThaw, dMet, dMetN, dMetW, dCallXk, frO, frO1, frS, frS1, thawS1, thawD, thawL, List.mem_singleton, implies_true, false_implies, forall_const, forall_eq', List.map_set, dCut, dCutS, ae_len, dIsi, startD, and_assoc, exists_eq_left, exists_eq_left', exists_eq_right, exists_eq_right', exists_eq, exists_eq', exists_and_left, exists_and_right, exists_const, exists_false, false_and, and_false, true_and, and_true, false_or, or_false, or_true, true_or, if_true, if_false, Bool.false_eq_true, reduceCtorEq, reduceIte, ite_true, ite_false, Option.some.injEq, DS.fr.injEq, DS.ol.injEq, DS.sm.injEq, D.int.injEq, D.str.injEq, D.bl.injEq, D.lst.injEq, D.tup.injEq, V.str.injEq, V.int.injEq, V.bl.injEq, List.cons.injEq, List.getElem?_cons_zero, List.getElem?_cons_succ, List.set_cons_zero, List.set_cons_succ, List.length_cons, List.length_nil, List.length_set, List.map_cons, List.map_nil, List.cons_append, List.nil_append, List.append_nil, List.replicate_succ, List.replicate_zero, List.mem_cons, List.not_mem_nil, forall_eq_or_imp, forall_eq, Nat.reduceAdd, Nat.reduceSub, Nat.reduceLT, Nat.reduceLeDiff, Nat.zero_add, Nat.add_zero, decide_eq_true_eq, decide_eq_false_iff_not, Bool.not_eq_true', Bool.and_eq_true, Bool.or_eq_true, decide_true, decide_false, Bool.not_true, Bool.not_false, id_eq, Option.map_some, Option.map_none]
      have fin : ∀ (z : Str) (m : Nat), z.length ≤ 20 → 10 ∉ z.cps.toList → m ≤ n + 20 → kk (.fr (.str (y ++ z))) m := fun z m h1 h2 h3 => hk _ _ (by rw [len_app]; omega) (not10_app hy10 h2) h3
      refine ⟨by omega, by omega, by omega, fun d1 h1 h2 => ?_⟩
      split
      · exact ⟨by omega, by omega, by show _ + 16 ≤ _; omega, fin _ _ (by decide) (by decide) (by omega), by show _ + 1 ≤ _; omega, fin _ _ (by decide) (by decide) (by omega), by show _ + 4 ≤ _; omega, fin _ _ (by decide) (by decide) (by omega)⟩
      · exact ⟨by show _ + 0 ≤ _; omega, fin _ _ (by decide) (by decide) (by omega)⟩
end
end K24
end

section
namespace K24
open PySem PySem.Spec PyProof.Rows L2 Sa
def methS (i j : Nat) : Stmt := match topS i with
  | .ClassDef _ _ _ b _ _ _ _ _ _ _ => b.getD j (.Pass ⟨0, 0, 0, 0⟩)
  | s => s
abbrev s_NoText : Stmt := methS 4 0
theorem sc_NoText : FnScope ["self", "text"] ["self", "text"] (defScope s_NoText) := ⟨rfl, rfl, rfl, by decide +kernel, rfl, by decide +kernel, by decide +kernel⟩
theorem ok_NoText {P : Program} {w : World} {K : PySem.W.Frag} {mg : Str → Option Value} {base : Heap} {C f : Addr} {fd : FuncData} {k : Nat} (Fu : Fun K "__init__" "NoText.__init__" s_NoText f fd) (T : OexC K C) (hno : PySem.W.findIn K (.ref C) "text" = some none) : FnOk P w K mg base CX0 (k + 1) f fd ["self", "text"] (SpInit C ["text"]) := by
  refine Fu.ok sc_NoText (fun vs H Q E h => by obtain ⟨a, ws, rfl, h, _⟩ := h; simp [h]) (fun cdv A outer s H vs Q E hr h => ⟨_, pss_one (ps_ost (pv 0) (pv 1)), ?_⟩)
  obtain ⟨a, ws, rfl, h1, h2, q⟩ := h
  match ws, h1 with
  | [v], _ => exact ⟨v, rfl, .ref a, rfl, a, C, rfl, T, hno, .inl ⟨h2, fun dx n ne => q dx _ ne n (fun b n1 n2 => by rw [upd_ne n1, upd_ne n2]) upd_same (by rw [upd_ne ne]; exact upd_same)⟩⟩
abbrev s_Unread : Stmt := methS 5 0
theorem sc_Unread : FnScope ["self", "at"] ["self", "at"] (defScope s_Unread) := ⟨rfl, rfl, rfl, by decide +kernel, rfl, by decide +kernel, by decide +kernel⟩
theorem ok_Unread {P : Program} {w : World} {K : PySem.W.Frag} {mg : Str → Option Value} {base : Heap} {C f : Addr} {fd : FuncData} {k : Nat} (Fu : Fun K "__init__" "Unread.__init__" s_Unread f fd) (T : OexC K C) (hno : PySem.W.findIn K (.ref C) "at" = some none) : FnOk P w K mg base CX0 (k + 1) f fd ["self", "at"] (SpInit C ["at"]) := by
  refine Fu.ok sc_Unread (fun vs H Q E h => by obtain ⟨a, ws, rfl, h, _⟩ := h; simp [h]) (fun cdv A outer s H vs Q E hr h => ⟨_, pss_one (ps_ost (pv 0) (pv 1)), ?_⟩)
  obtain ⟨a, ws, rfl, h1, h2, q⟩ := h
  match ws, h1 with
  | [v], _ => exact ⟨v, rfl, .ref a, rfl, a, C, rfl, T, hno, .inl ⟨h2, fun dx n ne => q dx _ ne n (fun b n1 n2 => by rw [upd_ne n1, upd_ne n2]) upd_same (by rw [upd_ne ne]; exact upd_same)⟩⟩
abbrev s_check_text : Stmt := topS 8
theorem sc_check_text : FnScope ["text"] ["text"] (defScope s_check_text) := ⟨rfl, rfl, rfl, by decide +kernel, rfl, by decide +kernel, by decide +kernel⟩
abbrev s_tokens : Stmt := topS 11
theorem sc_tokens : FnScope ["text", "found", "line", "row", "some", "bad"] ["text"] (defScope s_tokens) := ⟨rfl, rfl, rfl, by decide +kernel, rfl, by decide +kernel, by decide +kernel⟩
section
variable {P : Program} {w : World} {K : PySem.W.Frag} {mg : Str → Option Value} {base : Heap}
/-- check_text(text) -/
def PhiCheck (C : Addr) : PhiX := fun ds k kx => ∃ d b, ds = [d] ∧ isD d ["str"] = some b ∧ if b = true then k (.fr .non) else kx C [("text", d)]
theorem ok_check_text {f : Addr} {fd : FuncData} {k : Nat} (Fu : Fun K "check_text" "check_text" s_check_text f fd) {C_NoText f_NoText : Addr} {d_NoText : FuncData} (T_NoText : OexC K C_NoText) (i_NoText : PySem.W.findIn K (.ref C_NoText) "__init__" = some (some (.ref f_NoText))) (t_NoText : PySem.W.typeIn K (.ref f_NoText) = some (.type "function")) (G_NoText : FnOk P w K mg base CX0 (k + 1) f_NoText d_NoText ["self", "text"] (SpInit C_NoText ["text"])) (b_NoText : Binds K d_NoText ["self", "text"] []) (g_NoText : mg "NoText" = some (.ref C_NoText))
    (m_isinstance : mg "isinstance" = none) (m_str : mg "str" = none) : FnOk P w K mg base (L2.CX P w) (k + 3) f fd ["text"] (SpFX K (PhiCheck C_NoText)) := by
  refine fnX Fu sc_check_text (fun ds kk kx h => by obtain ⟨d, b, rfl, _⟩ := h; rfl) fun cdv A outer s H E B kx hr hE => ⟨_,
    (psd_one (psd_if (pq_not (pq_val (pf_isi (tn := "str") rfl m_isinstance rfl (pf_var (pv 0)) (pe_bltn rfl m_str PyProof.Rows.boot_str rfl))))
      (psd_one (psd_raise rfl (takes_of rfl rfl rfl rfl) hE T_NoText i_NoText t_NoText G_NoText (hr.mono (by omega)) b_NoText rfl g_NoText (pad_cons (pf_var (pv 0)) pad_nil)))
      psd_nil))
    , fun ds kk h => ?_⟩
  obtain ⟨d, b, rfl, h1, h2⟩ := h
  simp only [dSeq, dNext, dSet, dSetO, dVar, dFrz, dC, dOp, dTest, rdI, rdI0, rdEq_ss, rdEq_gs, rdEq_gg, rdEq_ii, rdEq_bb, rdNe_ss, rdNe_gs, rdNe_gg, rdNe_ii, rdNe_bb, dAnd, dOr, dNot, dAndV, dOrV, dNotV, dIf, dNil, dCons, dTup, dLst, dFz, dBreak, dCont, dRet, dRetO, dMove, dIfS, dNever, dDrop, dWhile, dFor, dLc, dSrcL, dSrcT, dSrcS, dRng1, dRng2, dEnumL, dEnumS, dZip, dgName, dgNil, dgCons, dgTup, dPar, mNil, mConsF, mConsO, putD, dAsg, dCB, rdLen, lenD_str, lenD_lst, lenD_tup, dIxV, dLenV, dCall, dCallO, dCallX, dCallXO, dRaise, dCallS, dCallSO, frz_fr, frz_ol, rdAddS, dSlS, dPart, dNoPart, dM0, dM1, rdSplit, rdJoin, rdStr0, rdStr1, rdIndex, rdIsN, isn_non, isn_int, isn_str, isn_lst, isn_tup, rdEqD, rdCat, rdRep, dOpO, dCBO, rdList_lst, rdList_tup, rdList_str, rdTuple_lst, rdTuple_tup, rdAll, rdIn_sg, rdIx_str, rdIx_lst, rdIx_tup, rdInt_str, rdInt_int, at0, at1, at2, one_len, cast1, castA, castP, Int.ofNat_lt, Int.ofNat_le, Int.ofNat_inj, dYes, dApp, dSeqV, dRetIf, dCopyDic, dItems0, dNeg, dZipA, wipeD, noOwn, dSetRL, dAppRL, dBor1, dSpoil, dSetW, putW, dIsiW, dAppW, dThaw, dMet, dMetN, dMetW, dCallXk, frO, frO1, frS, frS1, thawS1, thawD, thawL, List.mem_singleton, implies_true, false_implies, forall_const, forall_eq', List.map_set, dCut, dCutS, ae_len, dIsi, startD, and_assoc, exists_eq_left, exists_eq_left', exists_eq_right, exists_eq_right', exists_eq, exists_eq', exists_and_left, exists_and_right, exists_const, exists_false, false_and, and_false, true_and, and_true, false_or, or_false, or_true, true_or, if_true, if_false, Bool.false_eq_true, reduceCtorEq, reduceIte, ite_true, ite_false, Option.some.injEq, DS.fr.injEq, DS.ol.injEq, DS.sm.injEq, D.int.injEq, D.str.injEq, D.bl.injEq, D.lst.injEq, D.tup.injEq, V.str.injEq, V.int.injEq, V.bl.injEq, List.cons.injEq, List.getElem?_cons_zero, List.getElem?_cons_succ, List.set_cons_zero, List.set_cons_succ, List.length_cons, List.length_nil, List.length_set, List.map_cons, List.map_nil, List.cons_append, List.nil_append, List.append_nil, List.replicate_succ, List.replicate_zero, List.mem_cons, List.not_mem_nil, forall_eq_or_imp, forall_eq, Nat.reduceAdd, Nat.reduceSub, Nat.reduceLT, Nat.reduceLeDiff, Nat.zero_add, Nat.add_zero, decide_eq_true_eq, decide_eq_false_iff_not, Bool.not_eq_true', Bool.and_eq_true, Bool.or_eq_true, decide_true, decide_false, Bool.not_true, Bool.not_false, id_eq, Option.map_some, Option.map_none]
  refine ⟨b, h1, ?_⟩
  cases b
  · exact h2
  · exact h2
theorem phiCheck_str {C : Addr} {x : Str} {k : DS → Prop} {kx : ExD} : PhiCheck C [.str x] k kx ↔ k (.fr .non) := by
  constructor
  · rintro ⟨d, b, h, h1, h2⟩
    cases h
    cases h1
    exact h2
  · intro h
    exact ⟨_, true, rfl, rfl, h⟩
theorem phiCheck_no {C : Addr} {d : D} {k : DS → Prop} {kx : ExD} (hd : isD d ["str"] = some false) : PhiCheck C [d] k kx ↔ kx C [("text", d)] := by
  constructor
  · rintro ⟨d', b, h, h1, h2⟩
    cases h
    rw [hd] at h1
    cases h1
    exact h2
  · intro h
    exact ⟨_, false, rfl, hd, h⟩
/-- the tokens of the lines, or the first line with a fault -/
def toksL : Nat → List (List Nat) → List D ⊕ D
  | _, [] => .inl []
  | n, l :: r => if isNonD (rowTok l).2 = true then (match toksL (n + 1) r with
    | .inl ds => .inl (.lst (rowTok l).1 :: ds)
    | .inr e => .inr e) else .inr (.tup [.int (n : Nat), (rowTok l).2])
def toksX (C : Addr) (k : DS → Prop) (kx : ExD) (acc : List D) : List D ⊕ D → Prop
  | .inl ds => k (.ol (acc ++ ds))
  | .inr e => kx C [("at", e)]
/-- tokens(text) -/
def PhiTokens (C1 C2 : Addr) : PhiX := fun ds k kx => ∃ d, ds = [d] ∧ ((∃ x, d = .str x ∧ x.length ≤ 100000 ∧ (∀ l ∈ splitL 10 x.cps.toList, l.length ≤ 600) ∧ toksX C2 k kx [] (toksL 0 (splitL 10 x.cps.toList))) ∨ (isD d ["str"] = some false ∧ kx C1 [("text", d)]))
theorem phiRow {x : Str} {k : DS → Prop} : PhiRow [.str x] k ↔ x.length ≤ 600 ∧ k (.fr (resD (rowTok x.cps.toList))) := by
  constructor
  · rintro ⟨x', h, r⟩
    cases h
    exact r
  · intro h
    exact ⟨x, rfl, h⟩
theorem rowTok_ob : ∀ l : List Nat, ∀ u, (rowTok l).2 ≠ .ob u := by
  have : ∀ (n : Nat) (l : List Nat) (p : Nat), l.length ≤ n → ∀ u, (tk l p).2 ≠ .ob u := by
    intro n
    induction n with
    | zero =>
      intro l p h u
      cases l with
      | nil => rw [tk]; simp
      | cons c r => simp at h
    | succ n ih =>
      intro l p h u
      cases l with
      | nil => rw [tk]; simp
      | cons c r =>
        have hr : r.length ≤ n := by simpa using h
        have hd : ∀ m : Nat, (r.drop m).length ≤ n := fun m => by rw [List.length_drop]; omega
        rw [tk]
        repeat' split
        all_goals first | exact ih _ _ (hd _) u | exact ih _ _ hr u | simp
  intro l
  exact this _ _ _ (Nat.le_refl _)
def WTok (ls : List (List Nat)) (t : D) (C : Addr) (kk : DS → Prop) (kx : ExD) (i : Nat) (ρ : Sl) : Prop := ∃ (acc : List D) (o2 o3 o4 o5 : Option DS), ρ = [some (.fr t), some (.ol acc), o2, o3, o4, o5] ∧ acc.length = i ∧ toksX C kk kx acc (toksL i (ls.drop i))
theorem ok_tokens {f : Addr} {fd : FuncData} {k : Nat} (Fu : Fun K "tokens" "tokens" s_tokens f fd) {C_Unread f_Unread : Addr} {d_Unread : FuncData} (T_Unread : OexC K C_Unread) (i_Unread : PySem.W.findIn K (.ref C_Unread) "__init__" = some (some (.ref f_Unread))) (t_Unread : PySem.W.typeIn K (.ref f_Unread) = some (.type "function")) (G_Unread : FnOk P w K mg base CX0 (k + 1) f_Unread d_Unread ["self", "at"] (SpInit C_Unread ["at"])) (b_Unread : Binds K d_Unread ["self", "at"] []) (g_Unread : mg "Unread" = some (.ref C_Unread)) {C_NoText : Addr} {a_check_text : Addr} {d_check_text : FuncData} (G_check_text : FnOk P w K mg base (L2.CX P w) (k + 3) a_check_text d_check_text ["text"] (SpFX K (PhiCheck C_NoText))) (g_check_text : mg "check_text" = some (.ref a_check_text)) (kp_check_text : PySem.W.keepIn K (.ref a_check_text) = true) (b_check_text : Binds K d_check_text ["text"] []) {a_row_tokens : Addr} {d_row_tokens : FuncData} (G_row_tokens : FnOk P w K mg base CX0 (k + 2) a_row_tokens d_row_tokens ["row"] (SpF K PhiRow)) (g_row_tokens : mg "row_tokens" = some (.ref a_row_tokens)) (kp_row_tokens : PySem.W.keepIn K (.ref a_row_tokens) = true) (b_row_tokens : Binds K d_row_tokens ["row"] [])
    (m_enumerate : mg "enumerate" = none) : FnOk P w K mg base (L2.CX P w) (k + 4) f fd ["text"] (SpFX K (PhiTokens C_NoText C_Unread)) := by
  refine fnX Fu sc_tokens (fun ds kk kx h => by obtain ⟨d, rfl, _⟩ := h; rfl) fun cdv A outer s H E B kx hr hE => ⟨_,
    (psd_cons (psd_expr (pf_callX G_check_text (takes_of rfl rfl rfl rfl) hE (hr.mono (by omega)) rfl g_check_text kp_check_text b_check_text (pad_cons (pf_var (pv 0)) pad_nil)))
      (psd_cons (psd_setO (i := 1) (fun t pt => ps_set (i := 1) sc_tokens.nd rfl (.inl rfl) pt) (po_lst pad_nil))
      (psd_cons (psd_for (passes_of rfl) rfl (pid_enumL rfl m_enumerate (pf_split (pf_var (pv 0)) pf_str)) (pg_tup (n := 2) rfl (pgs_cons (pg_name (i := 2) sc_tokens.nd rfl (.inl rfl)) (pgs_cons (pg_name (i := 3) sc_tokens.nd rfl (.inl rfl)) pgs_nil))) (lg_tup (lgs_cons lg_name (lgs_cons lg_name lgs_nil)))
      (psd_cons (psd_asg (pf_call G_row_tokens (hr.mono (by omega)) rfl g_row_tokens kp_row_tokens b_row_tokens (pad_cons (pf_var (pv 3)) pad_nil)) (pg_tup (n := 2) rfl (pgs_cons (pg_name (i := 4) sc_tokens.nd rfl (.inl rfl)) (pgs_cons (pg_name (i := 5) sc_tokens.nd rfl (.inl rfl)) pgs_nil))) (lg_tup (lgs_cons lg_name (lgs_cons lg_name lgs_nil))))
      (psd_cons (psd_if (pq_notN (pf_var (pv 5)))
      (psd_one (psd_raise rfl (takes_of rfl rfl rfl rfl) hE T_Unread i_Unread t_Unread G_Unread (hr.mono (by omega)) b_Unread rfl g_Unread (pad_cons (pf_tup (pad_cons (pf_var (pv 2)) (pad_cons (pf_var (pv 5)) pad_nil))) pad_nil)))
      psd_nil)
      (psd_one (psd_app (i := 1) (pf_var (pv 4)) (fun t pt => ps_expr (pe_bm PySem.F.plainAttrs_list PySem.F.slot_list_append PySem.F.type_list_append mt_append (pv 1) (pa_cons pt pa_nil))))))))
      (psd_one (psd_retO (po_move (pv 1)))))))
    , fun ds kk h => ?_⟩
  obtain ⟨d, rfl, ⟨x, rfl, hx, hl, h⟩ | ⟨hd, hk⟩⟩ := h
  · have hz := sizeLine_eq
    have e1 : Txt.split x "\n" = (splitL 10 x.cps.toList).map txt := split_eq x 10
    have hsl := splitL_len 10 x.cps.toList
    rw [len_toList] at hsl
    simp only [dSeq, dNext, dSet, dSetO, dVar, dFrz, dC, dOp, dTest, rdI, rdI0, rdEq_ss, rdEq_gs, rdEq_gg, rdEq_ii, rdEq_bb, rdNe_ss, rdNe_gs, rdNe_gg, rdNe_ii, rdNe_bb, dAnd, dOr, dNot, dAndV, dOrV, dNotV, dIf, dNil, dCons, dTup, dLst, dFz, dBreak, dCont, dRet, dRetO, dMove, dIfS, dNever, dDrop, dWhile, dFor, dLc, dSrcL, dSrcT, dSrcS, dRng1, dRng2, dEnumL, dEnumS, dZip, dgName, dgNil, dgCons, dgTup, dPar, mNil, mConsF, mConsO, putD, dAsg, dCB, rdLen, lenD_str, lenD_lst, lenD_tup, dIxV, dLenV, dCall, dCallO, dCallX, dCallXO, dRaise, dCallS, dCallSO, frz_fr, frz_ol, rdAddS, dSlS, dPart, dNoPart, dM0, dM1, rdSplit, rdJoin, rdStr0, rdStr1, rdIndex, rdIsN, isn_non, isn_int, isn_str, isn_lst, isn_tup, rdEqD, rdCat, rdRep, dOpO, dCBO, rdList_lst, rdList_tup, rdList_str, rdTuple_lst, rdTuple_tup, rdAll, rdIn_sg, rdIx_str, rdIx_lst, rdIx_tup, rdInt_str, rdInt_int, at0, at1, at2, one_len, cast1, castA, castP, Int.ofNat_lt, Int.ofNat_le, Int.ofNat_inj, dYes, dApp, dSeqV, dRetIf, dCopyDic, dItems0, dNeg, dZipA, wipeD, noOwn, dSetRL, dAppRL, dBor1, dSpoil, dSetW, putW, dIsiW, dAppW, dThaw, dMet, dMetN, dMetW, dCallXk, frO, frO1, frS, frS1, thawS1, thawD, thawL, List.mem_singleton, implies_true, false_implies, forall_const, forall_eq', List.map_set, dCut, dCutS, ae_len, dIsi, startD, and_assoc, exists_eq_left, exists_eq_left', exists_eq_right, exists_eq_right', exists_eq, exists_eq', exists_and_left, exists_and_right, exists_const, exists_false, false_and, and_false, true_and, and_true, false_or, or_false, or_true, true_or, if_true, if_false, Bool.false_eq_true, reduceCtorEq, reduceIte, ite_true, ite_false, Option.some.injEq, DS.fr.injEq, DS.ol.injEq, DS.sm.injEq, D.int.injEq, D.str.injEq, D.bl.injEq, D.lst.injEq, D.tup.injEq, V.str.injEq, V.int.injEq, V.bl.injEq, List.cons.injEq, List.getElem?_cons_zero, List.getElem?_cons_succ, List.set_cons_zero, List.set_cons_succ, List.length_cons, List.length_nil, List.length_set, List.map_cons, List.map_nil, List.cons_append, List.nil_append, List.append_nil, List.replicate_succ, List.replicate_zero, List.mem_cons, List.not_mem_nil, forall_eq_or_imp, forall_eq, Nat.reduceAdd, Nat.reduceSub, Nat.reduceLT, Nat.reduceLeDiff, Nat.zero_add, Nat.add_zero, decide_eq_true_eq, decide_eq_false_iff_not, Bool.not_eq_true', Bool.and_eq_true, Bool.or_eq_true, decide_true, decide_false, Bool.not_true, Bool.not_false, id_eq, Option.map_some, Option.map_none, phiCheck_str, e1]
    generalize splitL 10 x.cps.toList = ls at hl h hsl ⊢
    refine ⟨by omega, rfl, by omega, WTok ls (.str x) C_Unread kk kx, ⟨[], none, none, none, none, rfl, rfl, h⟩, ?_, ?_⟩
    · rintro i y ρ hi ⟨acc, o2, o3, o4, o5, rfl, hacc, hw⟩
      obtain ⟨d, hd, rfl⟩ := enumD_inv hi
      rw [List.map_map, List.getElem?_map] at hd
      cases hls : ls[i]? with
      | none => rw [hls] at hd; cases hd
      | some l =>
        rw [hls] at hd
        cases hd
        have hil : i < ls.length := (List.getElem?_eq_some_iff.mp hls).1
        have hdr : ls.drop i = l :: ls.drop (i + 1) := by
          rw [List.drop_eq_getElem_cons hil, (List.getElem?_eq_some_iff.mp hls).2]
        rw [hdr, toksL] at hw
        simp only [dSeq, dNext, dSet, dSetO, dVar, dFrz, dC, dOp, dTest, rdI, rdI0, rdEq_ss, rdEq_gs, rdEq_gg, rdEq_ii, rdEq_bb, rdNe_ss, rdNe_gs, rdNe_gg, rdNe_ii, rdNe_bb, dAnd, dOr, dNot, dAndV, dOrV, dNotV, dIf, dNil, dCons, dTup, dLst, dFz, dBreak, dCont, dRet, dRetO, dMove, dIfS, dNever, dDrop, dWhile, dFor, dLc, dSrcL, dSrcT, dSrcS, dRng1, dRng2, dEnumL, dEnumS, dZip, dgName, dgNil, dgCons, dgTup, dPar, mNil, mConsF, mConsO, putD, dAsg, dCB, rdLen, lenD_str, lenD_lst, lenD_tup, dIxV, dLenV, dCall, dCallO, dCallX, dCallXO, dRaise, dCallS, dCallSO, frz_fr, frz_ol, rdAddS, dSlS, dPart, dNoPart, dM0, dM1, rdSplit, rdJoin, rdStr0, rdStr1, rdIndex, rdIsN, isn_non, isn_int, isn_str, isn_lst, isn_tup, rdEqD, rdCat, rdRep, dOpO, dCBO, rdList_lst, rdList_tup, rdList_str, rdTuple_lst, rdTuple_tup, rdAll, rdIn_sg, rdIx_str, rdIx_lst, rdIx_tup, rdInt_str, rdInt_int, at0, at1, at2, one_len, cast1, castA, castP, Int.ofNat_lt, Int.ofNat_le, Int.ofNat_inj, dYes, dApp, dSeqV, dRetIf, dCopyDic, dItems0, dNeg, dZipA, wipeD, noOwn, dSetRL, dAppRL, dBor1, dSpoil, dSetW, putW, dIsiW, dAppW, dThaw, dMet, dMetN, dMetW, dCallXk, frO, frO1, frS, frS1, thawS1, thawD, thawL, List.mem_singleton, implies_true, false_implies, forall_const, forall_eq', List.map_set, dCut, dCutS, ae_len, dIsi, startD, and_assoc, exists_eq_left, exists_eq_left', exists_eq_right, exists_eq_right', exists_eq, exists_eq', exists_and_left, exists_and_right, exists_const, exists_false, false_and, and_false, true_and, and_true, false_or, or_false, or_true, true_or, if_true, if_false, Bool.false_eq_true, reduceCtorEq, reduceIte, ite_true, ite_false, Option.some.injEq, DS.fr.injEq, DS.ol.injEq, DS.sm.injEq, D.int.injEq, D.str.injEq, D.bl.injEq, D.lst.injEq, D.tup.injEq, V.str.injEq, V.int.injEq, V.bl.injEq, List.cons.injEq, List.getElem?_cons_zero, List.getElem?_cons_succ, List.set_cons_zero, List.set_cons_succ, List.length_cons, List.length_nil, List.length_set, List.map_cons, List.map_nil, List.cons_append, List.nil_append, List.append_nil, List.replicate_succ, List.replicate_zero, List.mem_cons, List.not_mem_nil, forall_eq_or_imp, forall_eq, Nat.reduceAdd, Nat.reduceSub, Nat.reduceLT, Nat.reduceLeDiff, Nat.zero_add, Nat.add_zero, decide_eq_true_eq, decide_eq_false_iff_not, Bool.not_eq_true', Bool.and_eq_true, Bool.or_eq_true, decide_true, decide_false, Bool.not_true, Bool.not_false, id_eq, Option.map_some, Option.map_none, phiRow, toList_txt, resD, Function.comp_apply]
        refine ⟨by rw [len_txt]; exact hl l (List.mem_of_getElem? hls), rowTok_ob l, ?_⟩
        by_cases hb : isNonD (rowTok l).2 = true
        · rw [if_pos hb] at hw
          rw [if_neg (by rw [hb]; simp)]
          refine ⟨by omega, acc ++ [.lst (rowTok l).1], _, _, _, _, rfl, by simp [hacc], ?_⟩
          cases ht : toksL (i + 1) (ls.drop (i + 1)) with
          | inl ds =>
            rw [ht] at hw
            simpa [toksX] using hw
          | inr e =>
            rw [ht] at hw
            exact hw
        · rw [if_neg hb] at hw
          rw [if_pos (by simpa using hb)]
          refine ⟨by omega, ?_⟩
          simpa [toksX] using hw
    · rintro ρ ⟨acc, o2, o3, o4, o5, rfl, hacc, hw⟩
      rw [enumD_len, List.length_map, List.length_map, List.drop_of_length_le (Nat.le_refl _), toksL] at hw
      simp only [dSeq, dNext, dSet, dSetO, dVar, dFrz, dC, dOp, dTest, rdI, rdI0, rdEq_ss, rdEq_gs, rdEq_gg, rdEq_ii, rdEq_bb, rdNe_ss, rdNe_gs, rdNe_gg, rdNe_ii, rdNe_bb, dAnd, dOr, dNot, dAndV, dOrV, dNotV, dIf, dNil, dCons, dTup, dLst, dFz, dBreak, dCont, dRet, dRetO, dMove, dIfS, dNever, dDrop, dWhile, dFor, dLc, dSrcL, dSrcT, dSrcS, dRng1, dRng2, dEnumL, dEnumS, dZip, dgName, dgNil, dgCons, dgTup, dPar, mNil, mConsF, mConsO, putD, dAsg, dCB, rdLen, lenD_str, lenD_lst, lenD_tup, dIxV, dLenV, dCall, dCallO, dCallX, dCallXO, dRaise, dCallS, dCallSO, frz_fr, frz_ol, rdAddS, dSlS, dPart, dNoPart, dM0, dM1, rdSplit, rdJoin, rdStr0, rdStr1, rdIndex, rdIsN, isn_non, isn_int, isn_str, isn_lst, isn_tup, rdEqD, rdCat, rdRep, dOpO, dCBO, rdList_lst, rdList_tup, rdList_str, rdTuple_lst, rdTuple_tup, rdAll, rdIn_sg, rdIx_str, rdIx_lst, rdIx_tup, rdInt_str, rdInt_int, at0, at1, at2, one_len, cast1, castA, castP, Int.ofNat_lt, Int.ofNat_le, Int.ofNat_inj, dYes, dApp, dSeqV, dRetIf, dCopyDic, dItems0, dNeg, dZipA, wipeD, noOwn, dSetRL, dAppRL, dBor1, dSpoil, dSetW, putW, dIsiW, dAppW, dThaw, dMet, dMetN, dMetW, dCallXk, frO, frO1, frS, frS1, thawS1, thawD, thawL, List.mem_singleton, implies_true, false_implies, forall_const, forall_eq', List.map_set, dCut, dCutS, ae_len, dIsi, startD, and_assoc, exists_eq_left, exists_eq_left', exists_eq_right, exists_eq_right', exists_eq, exists_eq', exists_and_left, exists_and_right, exists_const, exists_false, false_and, and_false, true_and, and_true, false_or, or_false, or_true, true_or, if_true, if_false, Bool.false_eq_true, reduceCtorEq, reduceIte, ite_true, ite_false, Option.some.injEq, DS.fr.injEq, DS.ol.injEq, DS.sm.injEq, D.int.injEq, D.str.injEq, D.bl.injEq, D.lst.injEq, D.tup.injEq, V.str.injEq, V.int.injEq, V.bl.injEq, List.cons.injEq, List.getElem?_cons_zero, List.getElem?_cons_succ, List.set_cons_zero, List.set_cons_succ, List.length_cons, List.length_nil, List.length_set, List.map_cons, List.map_nil, List.cons_append, List.nil_append, List.append_nil, List.replicate_succ, List.replicate_zero, List.mem_cons, List.not_mem_nil, forall_eq_or_imp, forall_eq, Nat.reduceAdd, Nat.reduceSub, Nat.reduceLT, Nat.reduceLeDiff, Nat.zero_add, Nat.add_zero, decide_eq_true_eq, decide_eq_false_iff_not, Bool.not_eq_true', Bool.and_eq_true, Bool.or_eq_true, decide_true, decide_false, Bool.not_true, Bool.not_false, id_eq, Option.map_some, Option.map_none]
      simpa [toksX] using hw
  · simp only [dSeq, dNext, dSet, dSetO, dVar, dFrz, dC, dOp, dTest, rdI, rdI0, rdEq_ss, rdEq_gs, rdEq_gg, rdEq_ii, rdEq_bb, rdNe_ss, rdNe_gs, rdNe_gg, rdNe_ii, rdNe_bb, dAnd, dOr, dNot, dAndV, dOrV, dNotV, dIf, dNil, dCons, dTup, dLst, dFz, dBreak, dCont, dRet, dRetO, dMove, dIfS, dNever, dDrop, dWhile, dFor, dLc, dSrcL, dSrcT, dSrcS, dRng1, dRng2, dEnumL, dEnumS, dZip, dgName, dgNil, dgCons, dgTup, dPar, mNil, mConsF, mConsO, putD, dAsg, dCB, rdLen, lenD_str, lenD_lst, lenD_tup, dIxV, dLenV, dCall, dCallO, dCallX, dCallXO, dRaise, dCallS, dCallSO, frz_fr, frz_ol, rdAddS, dSlS, dPart, dNoPart, dM0, dM1, rdSplit, rdJoin, rdStr0, rdStr1, rdIndex, rdIsN, isn_non, isn_int, isn_str, isn_lst, isn_tup, rdEqD, rdCat, rdRep, dOpO, dCBO, rdList_lst, rdList_tup, rdList_str, rdTuple_lst, rdTuple_tup, rdAll, rdIn_sg, rdIx_str, rdIx_lst, rdIx_tup, rdInt_str, rdInt_int, at0, at1, at2, one_len, cast1, castA, castP, Int.ofNat_lt, Int.ofNat_le, Int.ofNat_inj, dYes, dApp, dSeqV, dRetIf, dCopyDic, dItems0, dNeg, dZipA, wipeD, noOwn, dSetRL, dAppRL, dBor1, dSpoil, dSetW, putW, dIsiW, dAppW, dThaw, dMet, dMetN, dMetW, dCallXk, frO, frO1, frS, frS1, thawS1, thawD, thawL, List.mem_singleton, implies_true, false_implies, forall_const, forall_eq', List.map_set, dCut, dCutS, ae_len, dIsi, startD, and_assoc, exists_eq_left, exists_eq_left', exists_eq_right, exists_eq_right', exists_eq, exists_eq', exists_and_left, exists_and_right, exists_const, exists_false, false_and, and_false, true_and, and_true, false_or, or_false, or_true, true_or, if_true, if_false, Bool.false_eq_true, reduceCtorEq, reduceIte, ite_true, ite_false, Option.some.injEq, DS.fr.injEq, DS.ol.injEq, DS.sm.injEq, D.int.injEq, D.str.injEq, D.bl.injEq, D.lst.injEq, D.tup.injEq, V.str.injEq, V.int.injEq, V.bl.injEq, List.cons.injEq, List.getElem?_cons_zero, List.getElem?_cons_succ, List.set_cons_zero, List.set_cons_succ, List.length_cons, List.length_nil, List.length_set, List.map_cons, List.map_nil, List.cons_append, List.nil_append, List.append_nil, List.replicate_succ, List.replicate_zero, List.mem_cons, List.not_mem_nil, forall_eq_or_imp, forall_eq, Nat.reduceAdd, Nat.reduceSub, Nat.reduceLT, Nat.reduceLeDiff, Nat.zero_add, Nat.add_zero, decide_eq_true_eq, decide_eq_false_iff_not, Bool.not_eq_true', Bool.and_eq_true, Bool.or_eq_true, decide_true, decide_false, Bool.not_true, Bool.not_false, id_eq, Option.map_some, Option.map_none, phiCheck_no hd]
    exact hk
end
end K24
end

section
namespace K24
open PySem PySem.Spec PyProof.Rows L2 Sa
abbrev s__law_stream : Stmt := topS 13
theorem sc__law_stream : FnScope ["script"] ["script"] (defScope s__law_stream) := ⟨rfl, rfl, rfl, by decide +kernel, rfl, by decide +kernel, by decide +kernel⟩
abbrev s__law_copied : Stmt := topS 16
theorem sc__law_copied : FnScope ["thing", "some", "one", "key"] ["thing"] (defScope s__law_copied) := ⟨rfl, rfl, rfl, by decide +kernel, rfl, by decide +kernel, by decide +kernel⟩
abbrev s__law_same : Stmt := topS 17
theorem sc__law_same : FnScope ["found", "due", "mine", "theirs"] ["found", "due"] (defScope s__law_same) := ⟨rfl, rfl, rfl, by decide +kernel, rfl, by decide +kernel, by decide +kernel⟩
abbrev s__law_spoilt : Stmt := topS 18
theorem sc__law_spoilt : FnScope ["thing", "key", "part"] ["thing"] (defScope s__law_spoilt) := ⟨rfl, rfl, rfl, by decide +kernel, rfl, by decide +kernel, by decide +kernel⟩
abbrev s__law_met : Stmt := topS 22
theorem sc__law_met : FnScope ["ask", "e"] ["ask"] (defScope s__law_met) := ⟨rfl, rfl, rfl, by decide +kernel, rfl, by decide +kernel, by decide +kernel⟩
section
variable {P : Program} {w : World} {K : PySem.W.Frag} {mg : Str → Option Value} {base : Heap}
/-- _law_stream(script) -/
def SpStream (K : PySem.W.Frag) : Sp := fun vs H Q _ => ∃ (a0 : Addr) (ns : List Int), vs = [.ref a0] ∧ SqL K H a0 (ns.map V.int) ∧ ns.length ≤ 63 ∧ ∀ a b H', Same H H' → H a = none → H b = none → Strm H' a b 0 → Q (.ref a) H'
theorem ok__law_stream {f : Addr} {fd : FuncData} {k : Nat} (Fu : Fun K "_law_stream" "_law_stream" s__law_stream f fd) (m_list : mg "list" = none) : FnOk P w K mg base CX0 (k + 1) f fd ["script"] (SpStream K) := by
  refine Fu.ok sc__law_stream (fun vs H Q E h => by obtain ⟨a, ns, rfl, _⟩ := h; rfl) (fun cdv A outer s H vs Q E hr h => ⟨_,
    pss_one (ps_ret (pe_lst (pa_cons (pe_callTy call_list_of rfl m_list PyProof.Rows.boot_list (pa_cons (pv 0) pa_nil)) (pa_cons pe_int (pa_cons pe_int (pa_cons pe_int pa_nil)))))), ?_⟩)
  obtain ⟨a0, ns, rfl, h1, h2, q⟩ := h
  refine ⟨_, rfl, a0, _, rfl, .inl h1, fun b nb => ⟨by show 4 ≤ sizeLine; decide, fun a na => ?_⟩⟩
  have ne : a ≠ b := by rintro rfl; rw [upd_same] at na; cases na
  have na0 : H a = none := by rw [upd_ne ne] at na; exact na
  refine q a b _ ((same_new nb).trans (same_new na)) na0 nb ⟨ne, ns, 0, 0, 19, upd_same, by rw [upd_ne (Ne.symm ne)]; exact upd_same, by decide, by decide, by decide, by decide, by decide, h2⟩
/-- _law_spoilt(thing) -/
theorem app_late (vs : List V) (n : Nat) : vs ++ lates n ++ [V.str "late"] = vs ++ lates (n + 1) := by
  unfold lates
  rw [List.append_assoc, ← List.replicate_succ']
theorem ok__law_spoilt {f : Addr} {fd : FuncData} (Fu : Fun K "_law_spoilt" "_law_spoilt" s__law_spoilt f fd) (g__law_spoilt : mg "_law_spoilt" = some (.ref f)) (kp__law_spoilt : PySem.W.keepIn K (.ref f) = true) (b__law_spoilt : Binds K fd ["thing"] [])
    (m_isinstance : mg "isinstance" = none) (m_dict : mg "dict" = none) (m_list : mg "list" = none) (m_tuple : mg "tuple" = none) : ∀ n : Nat, FnOk P w K mg base CX0 (n + 1) f fd ["thing"] (SpSpoil K n) := by
  -- the tests
  have isi : ∀ {v : V} {Fn H : Hp} {y : D} {M : Nat} {nm : String} (tn : String) {σ : L2.St} {Q : VK}, tn ∈ ["bool", "int", "str", "list", "tuple", "dict"] → Tol M Fn H → Rep K Fn y v → spoilD y = true → tyD y = some nm → σ[0]? = some (some v) → Q (.bl (subTy nm tn)) H →
      tCB (rIsi K) (tCons (tVar 0) (tCons (tC (.ty tn)) tNil)) σ H Q := by
    intro v Fn H y M nm tn σ Q htn t r sp ty e q
    obtain ⟨tx, hn⟩ := tol_ty t r sp ty
    exact ⟨v, e, v, .ty tn, _, _, _, rfl, .ty tn, tx, kit_ty (kit_sub nm hn tn htn), q⟩
  have isiT : ∀ {v : V} {Fn H : Hp} {y : D} {M : Nat} {nm : String} {σ : L2.St} {Q : VK}, Tol M Fn H → Rep K Fn y v → spoilD y = true → tyD y = some nm → σ[0]? = some (some v) → (∀ tpa, H tpa = none → Q (.bl (["list", "tuple"].any (subTy nm))) (upd H tpa (.tup [.ty "list", .ty "tuple"]))) →
      tCB (rIsiT K) (tCons (tVar 0) (tCons (tTup (tCons (tC (.ty "list")) (tCons (tC (.ty "tuple")) tNil))) tNil)) σ H Q := by
    intro v Fn H y M nm σ Q t r sp ty e q
    refine ⟨v, e, by show 2 ≤ sizeLine; decide, fun tpa np => ?_⟩
    have t2 := t.aft (N := M) (Aft.same (same_new (o := .tup [.ty "list", .ty "tuple"]) np)) (by omega)
    obtain ⟨tx, hn⟩ := tol_ty t2 r sp ty
    exact ⟨v, tpa, _, _, _, _, rfl, upd_same, clsV_tys ["list", "tuple"], tx, kit_any hn rfl, q tpa np⟩
  intro n
  induction n with
  | zero =>
    refine Fu.ok sc__law_spoilt (fun vs H Q E h => by obtain ⟨v, Fn, y, rfl, _⟩ := h; rfl) (fun cdv A outer s H vs Q E hr h => ⟨_,
      pss_cons (ps_if (pt_val (pe_callB call_isi rfl m_isinstance boot_isinstance (pa_cons (pv 0) (pa_cons (pe_bltn (v := .ty "dict") rfl m_dict PyProof.Rows.boot_dict rfl) pa_nil)))) (pss_never) pss_nil)
      (pss_cons (ps_if (pt_val (pe_callB call_isiT rfl m_isinstance boot_isinstance (pa_cons (pv 0) (pa_cons (pe_tup (pa_cons (pe_bltn (v := .ty "list") rfl m_list PyProof.Rows.boot_list rfl) (pa_cons (pe_bltn (v := .ty "tuple") rfl m_tuple PyProof.Rows.boot_tuple rfl) pa_nil))) pa_nil)))) pss_never pss_nil)
      (pss_one (ps_if (pt_val (pe_callB call_isi rfl m_isinstance boot_isinstance (pa_cons (pv 0) (pa_cons (pe_bltn (v := .ty "list") rfl m_list PyProof.Rows.boot_list rfl) pa_nil)))) pss_never pss_nil))), ?_⟩)
    obtain ⟨v, Fn, y, rfl, ry, tol, sp, dp, q⟩ := h
    obtain ⟨nm, ty, h1, h2, h3⟩ : ∃ nm, tyD y = some nm ∧ subTy nm "dict" = false ∧ (["list", "tuple"].any (subTy nm)) = false ∧ subTy nm "list" = false := by
      cases y with
      | non => exact ⟨_, rfl, rfl, rfl, rfl⟩
      | bl _ => exact ⟨_, rfl, rfl, rfl, rfl⟩
      | int _ => exact ⟨_, rfl, rfl, rfl, rfl⟩
      | str _ => exact ⟨_, rfl, rfl, rfl, rfl⟩
      | lst ds => simp [dpD] at dp
      | tup ds => simp [dpD] at dp
      | dic _ => simp [spoilD] at sp
      | ob _ => simp [spoilD] at sp
      | la _ _ => simp [spoilD] at sp
    refine isi "dict" (by decide) tol ry sp ty rfl ⟨_, rfl, (if_neg (by rw [h1]; decide)).mpr ?_⟩
    refine isiT tol ry sp ty rfl fun tpa np => ⟨_, rfl, (if_neg (by rw [h2]; decide)).mpr ?_⟩
    refine isi "list" (by decide) (tol.aft (N := nlD y) (Aft.same (same_new np)) (by omega)) ry sp ty rfl ⟨_, rfl, (if_neg (by rw [h3]; decide)).mpr ?_⟩
    exact q _ ((Aft.same (same_new np)).le (Nat.zero_le _))
  | succ n ih =>
    refine Fu.ok sc__law_spoilt (fun vs H Q E h => by obtain ⟨v, Fn, y, rfl, _⟩ := h; rfl) (fun cdv A outer s H vs Q E hr h => ⟨_,
      pss_cons (ps_if (pt_val (pe_callB call_isi rfl m_isinstance boot_isinstance (pa_cons (pv 0) (pa_cons (pe_bltn (v := .ty "dict") rfl m_dict PyProof.Rows.boot_dict rfl) pa_nil)))) (pss_never) pss_nil)
      (pss_cons (ps_if (pt_val (pe_callB call_isiT rfl m_isinstance boot_isinstance (pa_cons (pv 0) (pa_cons (pe_tup (pa_cons (pe_bltn (v := .ty "list") rfl m_list PyProof.Rows.boot_list rfl) (pa_cons (pe_bltn (v := .ty "tuple") rfl m_tuple PyProof.Rows.boot_tuple rfl) pa_nil))) pa_nil))))
          (pss_one (ps_for PassesOwn.never rfl (pi_either (pi_list (pv 0)) (pi_tup (pv 0))) (pg_name (i := 2) sc__law_spoilt.nd rfl (.inl rfl)) (pss_one (ps_expr (pe_call ih hr rfl g__law_spoilt kp__law_spoilt b__law_spoilt .nil pass0 (pa_cons (pv 2) pa_nil)))))) pss_nil)
      (pss_one (ps_if (pt_val (pe_callB call_isi rfl m_isinstance boot_isinstance (pa_cons (pv 0) (pa_cons (pe_bltn (v := .ty "list") rfl m_list PyProof.Rows.boot_list rfl) pa_nil))))
          (pss_one (ps_expr (pe_bm PySem.F.plainAttrs_list PySem.F.slot_list_append PySem.F.type_list_append mt_append (pv 0) (pa_cons pe_str pa_nil)))) pss_nil))), ?_⟩)
    obtain ⟨v, Fn, y, rfl, ry, tol, sp, dp, q⟩ := h
    obtain ⟨nm, ty, h1⟩ : ∃ nm, tyD y = some nm ∧ subTy nm "dict" = false := by
      cases y with
      | non => exact ⟨_, rfl, rfl⟩
      | bl _ => exact ⟨_, rfl, rfl⟩
      | int _ => exact ⟨_, rfl, rfl⟩
      | str _ => exact ⟨_, rfl, rfl⟩
      | lst ds => exact ⟨_, rfl, rfl⟩
      | tup ds => exact ⟨_, rfl, rfl⟩
      | dic _ => simp [spoilD] at sp
      | ob _ => simp [spoilD] at sp
      | la _ _ => simp [spoilD] at sp
    refine isi "dict" (by decide) tol ry sp ty rfl ⟨_, rfl, (if_neg (by rw [h1]; decide)).mpr ?_⟩
    refine isiT tol ry sp ty rfl fun tpa np => ⟨_, rfl, ?_⟩
    have af0 : Aft Fn 0 H (upd H tpa (.tup [.ty "list", .ty "tuple"])) := Aft.same (same_new np)
    generalize upd H tpa (.tup [.ty "list", .ty "tuple"]) = H0 at af0 ⊢
    -- one part
    have part : ∀ (d : D) (x : V) (m : Nat) (H' : Hp) (σ : L2.St) (En : Ends), Rep K Fn d x → spoilD d = true → dpD d ≤ n → Tol (nlD d) Fn H' → σ[2]? = some (some x) → (∀ H'', Aft Fn (nlD d) H' H'' → En.nx σ H'') →
        tDrop (tCall (SpSpoil K n) [] E0 (tCons (tVar 2) tNil)) En σ H' := fun d x m H' σ En rd sd dd td e k => ⟨x, e, x, Fn, d, rfl, rd, td, sd, dd, fun H'' af => k H'' af⟩
    cases hs : (["list", "tuple"].any (subTy nm)) with
    | false =>
      have h3 : subTy nm "list" = false := by
        simp only [List.any_cons, List.any_nil, Bool.or_false, Bool.or_eq_false_iff] at hs
        exact hs.1
      refine (if_neg (by decide)).mpr ?_
      refine isi "list" (by decide) (tol.aft (N := nlD y) af0 (by omega)) ry sp ty rfl ⟨_, rfl, (if_neg (by rw [h3]; decide)).mpr ?_⟩
      exact q H0 (af0.le (Nat.zero_le _))
    | true =>
      refine (if_pos rfl).mpr ?_
      cases y with
      | non => cases ty; cases hs
      | bl _ => cases ty; cases hs
      | int _ => cases ty; cases hs
      | str _ => cases ty; cases hs
      | dic _ => simp [spoilD] at sp
      | ob _ => simp [spoilD] at sp
      | la _ _ => simp [spoilD] at sp
      | lst ds =>
        cases ty
        obtain ⟨a, vs, rfl, ea, rl⟩ := rep_lst.mp ry
        have hl := rl.length
        have spl : spoilL ds = true ∧ ds.length ≤ 1000000 := by
          unfold spoilD at sp
          simp only [Bool.and_eq_true, decide_eq_true_eq] at sp
          exact ⟨sp.2, sp.1⟩
        have nl : nlD (.lst ds) = nlL ds + 1 := by unfold nlD; rfl
        have dpl : dpL ds ≤ n := by
          unfold dpD at dp
          omega
        have tolA : ∀ {H' : Hp} {M N : Nat}, Aft Fn M H0 H' → M + N ≤ nlL ds + 1 → Tol N Fn H' := fun af h => tol.aft (af0.trans af) (by rw [nl]; omega)
        obtain ⟨k0, hk0, e0⟩ := (tolA (N := 0) (Aft.same (fun _ _ h => h)) (by omega)).lst a vs ea
        refine .inl ⟨.ref a, rfl, a, rfl, ⟨_, SqL.of e0⟩, fun i m σ' H' => (∃ o, σ' = [some (.ref a), none, o]) ∧ Aft Fn (nlL (ds.take i)) H0 H' ∧ i + m = 2000001, ⟨2000001, ⟨none, rfl⟩, by simp [nlL]; exact Aft.same (fun _ _ h => h), by omega⟩, ?_⟩
        rintro i m σ' H' ⟨⟨o, rfl⟩, af, hm⟩
        have hle := nlL_le ds i
        obtain ⟨k1, hk1, e1⟩ := (tolA (N := 0) af (by omega)).lst a vs ea
        by_cases hi : i < (vs ++ lates k1).length
        · have hlen : (vs ++ lates k1).length = ds.length + k1 := by rw [List.length_append, hl]; simp [lates]
          obtain ⟨x, hx⟩ : ∃ x, (vs ++ lates k1)[i]? = some x := ⟨_, List.getElem?_eq_getElem hi⟩
          refine .inr ⟨⟨_, x, SqL.of e1, hx⟩, fun σ2 H2 => (∃ o, σ2 = [some (.ref a), none, o]) ∧ Aft Fn (nlL (ds.take (i + 1))) H0 H2, fun σ2 H2 ⟨g1, g2⟩ => ⟨m - 1, by omega, g1, g2, by omega⟩, fun x2 H2 hy => ?_⟩
          obtain ⟨rfl, hy⟩ := hy
          have := hy _ (SqL.of e1)
          rw [hx] at this
          cases this
          by_cases hv : i < vs.length
          · rw [List.getElem?_append_left hv] at hx
            obtain ⟨d, hd, rd⟩ := rl.getV hx
            have ht := nlL_take hd
            have hle2 := nlL_le ds (i + 1)
            exact part d x m H2 _ _ rd (spoilL_at spl.1 hd) (Nat.le_trans (dpL_at hd) dpl) (tolA af (by omega)) rfl fun H3 af3 => ⟨⟨_, rfl⟩, by rw [ht]; exact af.trans af3⟩
          · rw [List.getElem?_append_right (by omega)] at hx
            have ex : x = .str "late" := by
              have := List.mem_of_getElem? hx
              unfold lates at this
              exact (List.mem_replicate.mp this).2
            have t1 : ds.take (i + 1) = ds.take i := by rw [List.take_of_length_le (by omega), List.take_of_length_le (by omega)]
            exact part (.str "late") x m H2 _ _ (by rw [ex]; exact rep_str.mpr rfl) rfl (by simp [dpD]) (tolA (N := nlD (.str "late")) af (by simp [nlD]; omega)) rfl fun H3 af3 => ⟨⟨_, rfl⟩, by rw [t1]; exact (af.trans af3).le (by simp [nlD])⟩
        · refine .inl ⟨⟨_, SqL.of e1, by omega⟩, ?_⟩
          refine isi "list" (y := .lst ds) (M := 0) (by decide) (tolA (N := 0) af (by omega)) ry sp rfl rfl ⟨_, rfl, (if_pos (by rfl)).mpr ?_⟩
          have hlen : (vs ++ lates k1).length = ds.length + k1 := by rw [List.length_append, hl]; simp [lates]
          have hz := sizeLine_eq
          refine ⟨.ref a, rfl, .inl ⟨rfl, _, SqL.of e1⟩, a, _, .str "late", rfl, rfl, e1, by omega, ?_⟩
          refine q _ ?_
          have last : Aft Fn 1 H' (upd H' a (.lst (vs ++ lates k1 ++ [.str "late"]))) := by
            refine ⟨fun b o hb hn => ?_, fun b us k2 hb hb2 => ?_, fun b o hb hn hb2 => ?_⟩
            · rw [upd_ne]
              · exact hb
              · rintro rfl; rw [ea] at hn; cases hn
            · by_cases z : b = a
              · subst z
                rw [ea] at hb
                cases hb
                rw [e1] at hb2
                have e3 : vs ++ lates k1 = vs ++ lates k2 := by injection hb2 with h; injection h
                exact ⟨1, Nat.le_refl _, by rw [upd_same, e3, app_late]⟩
              · exact ⟨0, Nat.zero_le _, by rw [upd_ne z]; exact hb2⟩
            · rw [upd_ne]
              · exact hb2
              · rintro rfl; rw [ea] at hb; cases hb; cases hn
          exact ((af0.trans af).trans last).le (by rw [nl]; omega)
      | tup ds =>
        cases ty
        obtain ⟨a, vs, rfl, ea, rl⟩ := rep_tup.mp ry
        have hl := rl.length
        have spl : spoilL ds = true ∧ ds.length ≤ 1000000 := by
          unfold spoilD at sp
          simp only [Bool.and_eq_true, decide_eq_true_eq] at sp
          exact ⟨sp.2, sp.1⟩
        have nl : nlD (.tup ds) = nlL ds := by unfold nlD; rfl
        have dpl : dpL ds ≤ n := by
          unfold dpD at dp
          omega
        have tolA : ∀ {H' : Hp} {M N : Nat}, Aft Fn M H0 H' → M + N ≤ nlL ds → Tol N Fn H' := fun af h => tol.aft (af0.trans af) (by rw [nl]; omega)
        refine .inr ⟨.ref a, rfl, a, rfl, ⟨_, tol_rd (tolA (N := 0) (Aft.same (fun _ _ h => h)) (by omega)) ea⟩, fun i m σ' H' => (∃ o, σ' = [some (.ref a), none, o]) ∧ Aft Fn (nlL (ds.take i)) H0 H' ∧ i + m = 2000001, ⟨2000001, ⟨none, rfl⟩, by simp [nlL]; exact Aft.same (fun _ _ h => h), by omega⟩, ?_⟩
        rintro i m σ' H' ⟨⟨o, rfl⟩, af, hm⟩
        have hle := nlL_le ds i
        have e1 := tol_rd (tolA (N := 0) af (by omega)) ea
        by_cases hi : i < vs.length
        · obtain ⟨x, hx⟩ : ∃ x, vs[i]? = some x := ⟨_, List.getElem?_eq_getElem hi⟩
          refine .inr ⟨⟨_, x, e1, hx⟩, fun σ2 H2 => (∃ o, σ2 = [some (.ref a), none, o]) ∧ Aft Fn (nlL (ds.take (i + 1))) H0 H2, fun σ2 H2 ⟨g1, g2⟩ => ⟨m - 1, by omega, g1, g2, by omega⟩, fun x2 H2 hy => ?_⟩
          obtain ⟨rfl, hy⟩ := hy
          have := hy _ e1
          rw [hx] at this
          cases this
          obtain ⟨d, hd, rd⟩ := rl.getV hx
          have ht := nlL_take hd
          have hle2 := nlL_le ds (i + 1)
          exact part d x m H2 _ _ rd (spoilL_at spl.1 hd) (Nat.le_trans (dpL_at hd) dpl) (tolA af (by omega)) rfl fun H3 af3 => ⟨⟨_, rfl⟩, by rw [ht]; exact af.trans af3⟩
        · refine .inl ⟨⟨_, e1, by omega⟩, ?_⟩
          refine isi "list" (y := .tup ds) (M := 0) (by decide) (tolA (N := 0) af (by omega)) ry sp rfl rfl ⟨_, rfl, (if_neg (by decide)).mpr ?_⟩
          exact q _ ((af0.trans af).le (by rw [nl]; omega))
end
end K24
end

section
namespace K24
open PySem PySem.Spec PyProof.Rows L2 Sa
mutual
def okC : D → Bool
  | .non => true
  | .bl _ => true
  | .int _ => true
  | .str _ => true
  | .lst ds => decide (ds.length ≤ 1000000) && okCL ds
  | .tup ds => decide (ds.length ≤ 1000000) && okCL ds
  | .dic kvs => kvs.isEmpty
  | _ => false
def okCL : List D → Bool
  | [] => true
  | d :: ds => okC d && okCL ds
end
mutual
def dpC : D → Nat
  | .lst ds => dpCL ds + 1
  | .tup ds => dpCL ds + 1
  | .dic _ => 2
  | _ => 0
def dpCL : List D → Nat
  | [] => 0
  | d :: ds => max (dpC d) (dpCL ds)
end
theorem okCL_at : ∀ {ds : List D} {i : Nat} {d : D}, okCL ds = true → ds[i]? = some d → okC d = true
  | [], _, _, _, h => by simp at h
  | e :: ds, 0, d, h, g => by
    unfold okCL at h
    simp at g
    subst g
    exact (Bool.and_eq_true_iff.mp h).1
  | e :: ds, i + 1, d, h, g => by
    unfold okCL at h
    exact okCL_at (Bool.and_eq_true_iff.mp h).2 (by simpa using g)
theorem dpCL_at : ∀ {ds : List D} {i : Nat} {d : D}, ds[i]? = some d → dpC d ≤ dpCL ds
  | [], _, _, h => by simp at h
  | e :: ds, 0, d, g => by
    simp at g
    subst g
    unfold dpCL
    omega
  | e :: ds, i + 1, d, g => by
    have := dpCL_at (ds := ds) (i := i) (d := d) (by simpa using g)
    unfold dpCL
    omega
section
variable {P : Program} {w : World} {K : PySem.W.Frag} {mg : Str → Option Value} {base : Heap}
/-- _law_copied(thing) -/
def cpK (x : D) (k : DS → Prop) : Prop := match x with
  | .lst ds => k (.ol ds)
  | x => k (.fr x)
def PhiCopied (n : Nat) : Phi := fun ds k => ∃ x, ds = [x] ∧ okC x = true ∧ dpC x ≤ n ∧ cpK x k
/-- _law_same(found, due): of the same data -/
def PhiSame (n : Nat) : Phi := fun ds k => ∃ x, ds = [x, x] ∧ okC x = true ∧ dpC x ≤ n ∧ k (.fr (.bl true))
theorem take_more {α : Type} : ∀ {l : List α} {i : Nat} {x : α}, l[i]? = some x → l.take i ++ [x] = l.take (i + 1)
  | [], i, x, h => by simp at h
  | a :: l, 0, x, h => by
    have e : a = x := by simpa using h
    subst e
    rfl
  | a :: l, i + 1, x, h => by
    have := take_more (l := l) (i := i) (x := x) (by simpa using h)
    simp only [List.take_succ_cons, List.cons_append, this]
theorem ok__law_copied {f : Addr} {fd : FuncData} (Fu : Fun K "_law_copied" "_law_copied" s__law_copied f fd) (g__law_copied : mg "_law_copied" = some (.ref f)) (kp__law_copied : PySem.W.keepIn K (.ref f) = true) (b__law_copied : Binds K fd ["thing"] [])
    (m_isinstance : mg "isinstance" = none) (m_dict : mg "dict" = none) (m_list : mg "list" = none) (m_tuple : mg "tuple" = none) : ∀ n : Nat, FnOk P w K mg base CX0 (n + 1) f fd ["thing"] (SpF K (PhiCopied n)) := by
  intro n
  induction n with
  | zero =>
    refine fnF Fu sc__law_copied (fun ds kk h => by obtain ⟨x, rfl, _⟩ := h; rfl) fun cdv A outer s H E B hr => ⟨_,
      (psd_cons (psd_if (pq_val (pf_isiT (ts := ["list", "tuple"]) rfl m_isinstance rfl (by decide) (pf_var (pv 0)) (pa_tys2 (pe_bltn rfl m_list PyProof.Rows.boot_list rfl) (pe_bltn rfl m_tuple PyProof.Rows.boot_tuple rfl)))) pssd_never psd_nil)
      (psd_cons (psd_if (pq_val (pf_isi (tn := "dict") rfl m_isinstance rfl (pf_var (pv 0)) (pe_bltn rfl m_dict PyProof.Rows.boot_dict rfl))) pssd_never psd_nil)
      (psd_one (psd_ret (pf_var (pv 0)))))), fun ds kk h => ?_⟩
    obtain ⟨x, rfl, ok, dp, hk⟩ := h
    simp only [dSeq, dNext, dSet, dSetO, dVar, dFrz, dC, dOp, dTest, rdI, rdI0, rdEq_ss, rdEq_gs, rdEq_gg, rdEq_ii, rdEq_bb, rdNe_ss, rdNe_gs, rdNe_gg, rdNe_ii, rdNe_bb, dAnd, dOr, dNot, dAndV, dOrV, dNotV, dIf, dNil, dCons, dTup, dLst, dFz, dBreak, dCont, dRet, dRetO, dMove, dIfS, dNever, dDrop, dWhile, dFor, dLc, dSrcL, dSrcT, dSrcS, dRng1, dRng2, dEnumL, dEnumS, dZip, dgName, dgNil, dgCons, dgTup, dPar, mNil, mConsF, mConsO, putD, dAsg, dCB, rdLen, lenD_str, lenD_lst, lenD_tup, dIxV, dLenV, dCall, dCallO, dCallX, dCallXO, dRaise, dCallS, dCallSO, frz_fr, frz_ol, rdAddS, dSlS, dPart, dNoPart, dM0, dM1, rdSplit, rdJoin, rdStr0, rdStr1, rdIndex, rdIsN, isn_non, isn_int, isn_str, isn_lst, isn_tup, rdEqD, rdCat, rdRep, dOpO, dCBO, rdList_lst, rdList_tup, rdList_str, rdTuple_lst, rdTuple_tup, rdAll, rdIn_sg, rdIx_str, rdIx_lst, rdIx_tup, rdInt_str, rdInt_int, at0, at1, at2, one_len, cast1, castA, castP, Int.ofNat_lt, Int.ofNat_le, Int.ofNat_inj, dYes, dApp, dSeqV, dRetIf, dCopyDic, dItems0, dNeg, dZipA, wipeD, noOwn, dSetRL, dAppRL, dBor1, dSpoil, dSetW, putW, dIsiW, dAppW, dThaw, dMet, dMetN, dMetW, dCallXk, frO, frO1, frS, frS1, thawS1, thawD, thawL, List.mem_singleton, implies_true, false_implies, forall_const, forall_eq', List.map_set, dCut, dCutS, ae_len, dIsi, startD, and_assoc, exists_eq_left, exists_eq_left', exists_eq_right, exists_eq_right', exists_eq, exists_eq', exists_and_left, exists_and_right, exists_const, exists_false, false_and, and_false, true_and, and_true, false_or, or_false, or_true, true_or, if_true, if_false, Bool.false_eq_true, reduceCtorEq, reduceIte, ite_true, ite_false, Option.some.injEq, DS.fr.injEq, DS.ol.injEq, DS.sm.injEq, D.int.injEq, D.str.injEq, D.bl.injEq, D.lst.injEq, D.tup.injEq, V.str.injEq, V.int.injEq, V.bl.injEq, List.cons.injEq, List.getElem?_cons_zero, List.getElem?_cons_succ, List.set_cons_zero, List.set_cons_succ, List.length_cons, List.length_nil, List.length_set, List.map_cons, List.map_nil, List.cons_append, List.nil_append, List.append_nil, List.replicate_succ, List.replicate_zero, List.mem_cons, List.not_mem_nil, forall_eq_or_imp, forall_eq, Nat.reduceAdd, Nat.reduceSub, Nat.reduceLT, Nat.reduceLeDiff, Nat.zero_add, Nat.add_zero, decide_eq_true_eq, decide_eq_false_iff_not, Bool.not_eq_true', Bool.and_eq_true, Bool.or_eq_true, decide_true, decide_false, Bool.not_true, Bool.not_false, id_eq, Option.map_some, Option.map_none]
    cases x with
    | lst _ => simp [dpC] at dp
    | tup _ => simp [dpC] at dp
    | dic _ => simp [dpC] at dp
    | ob _ => simp [okC] at ok
    | la _ _ => simp [okC] at ok
    | non => exact ⟨_, rfl, (if_neg (by decide)).mpr ⟨_, rfl, (if_neg (by decide)).mpr hk⟩⟩
    | bl _ => exact ⟨_, rfl, (if_neg (by decide)).mpr ⟨_, rfl, (if_neg (by decide)).mpr hk⟩⟩
    | int _ => exact ⟨_, rfl, (if_neg (by decide)).mpr ⟨_, rfl, (if_neg (by decide)).mpr hk⟩⟩
    | str _ => exact ⟨_, rfl, (if_neg (by decide)).mpr ⟨_, rfl, (if_neg (by decide)).mpr hk⟩⟩
  | succ n G__law_copied =>
    refine fnF Fu sc__law_copied (fun ds kk h => by obtain ⟨x, rfl, _⟩ := h; rfl) fun cdv A outer s H E B hr => ⟨_,
      (psd_cons (psd_if (pq_val (pf_isiT (ts := ["list", "tuple"]) rfl m_isinstance rfl (by decide) (pf_var (pv 0)) (pa_tys2 (pe_bltn rfl m_list PyProof.Rows.boot_list rfl) (pe_bltn rfl m_tuple PyProof.Rows.boot_tuple rfl))))
        (psd_cons (psd_setLc (i := 1) rfl sc__law_copied.nd rfl rfl (sw_true rfl rfl rfl (by decide +kernel)) (own := [("one", 2)]) (dt := dYes) (pid_seqV (pv 0)) (blkOk_by (own := [("one", 2)]) (N := ["thing", "some", "one", "key"]) (sc := defScope s__law_copied) (by decide +kernel)) (fun _ _ _ _ _ => (pg_name (i := 2) sc__law_copied.nd rfl (.inl rfl))) lg_name (gin_name (by simp)) (fun _ _ _ _ _ => pts_yes) (fun _ _ _ _ _ => (pf_call G__law_copied (hr.mono (by omega)) rfl g__law_copied kp__law_copied b__law_copied (pad_cons (pf_var (pv 2)) pad_nil))))
        (psd_one (psd_retIf (pq_val (pf_isi (tn := "list") rfl m_isinstance rfl (pf_var (pv 0)) (pe_bltn rfl m_list PyProof.Rows.boot_list rfl))) (po_move (pv 1)) (pf_tupleOf rfl m_tuple (pf_frz (pv 1))))))
        psd_nil)
        (psd_cons (psd_if (pq_val (pf_isi (tn := "dict") rfl m_isinstance rfl (pf_var (pv 0)) (pe_bltn rfl m_dict PyProof.Rows.boot_dict rfl)))
        (psd_one (psd_ret (pf_copyDic (own := [("key", 3)]) rfl sc__law_copied.nd rfl m_dict (pv 0) (blkOk_by (own := [("key", 3)]) (N := ["thing", "some", "one", "key"]) (sc := defScope s__law_copied) (by decide +kernel)) (fun _ _ _ _ _ => (pg_name (i := 3) sc__law_copied.nd rfl (.inl rfl))))))
        psd_nil)
        (psd_one (psd_ret (pf_var (pv 0))))))
      , fun ds kk h => ?_⟩
    obtain ⟨x, rfl, ok, dp, hk⟩ := h
    have item : ∀ (d : D) (i : Nat) (ds : List D) (P : D → Prop), okCL ds = true → dpCL ds ≤ n → ds[i]? = some d → P d → PhiCopied n [d] (fun x => ∃ d', frz x = some d' ∧ P d') := fun d i ds P h1 h2 h3 h4 => by
      refine ⟨d, rfl, okCL_at h1 h3, Nat.le_trans (dpCL_at h3) h2, ?_⟩
      cases d <;> exact ⟨_, rfl, h4⟩
    simp only [dSeq, dNext, dSet, dSetO, dVar, dFrz, dC, dOp, dTest, rdI, rdI0, rdEq_ss, rdEq_gs, rdEq_gg, rdEq_ii, rdEq_bb, rdNe_ss, rdNe_gs, rdNe_gg, rdNe_ii, rdNe_bb, dAnd, dOr, dNot, dAndV, dOrV, dNotV, dIf, dNil, dCons, dTup, dLst, dFz, dBreak, dCont, dRet, dRetO, dMove, dIfS, dNever, dDrop, dWhile, dFor, dLc, dSrcL, dSrcT, dSrcS, dRng1, dRng2, dEnumL, dEnumS, dZip, dgName, dgNil, dgCons, dgTup, dPar, mNil, mConsF, mConsO, putD, dAsg, dCB, rdLen, lenD_str, lenD_lst, lenD_tup, dIxV, dLenV, dCall, dCallO, dCallX, dCallXO, dRaise, dCallS, dCallSO, frz_fr, frz_ol, rdAddS, dSlS, dPart, dNoPart, dM0, dM1, rdSplit, rdJoin, rdStr0, rdStr1, rdIndex, rdIsN, isn_non, isn_int, isn_str, isn_lst, isn_tup, rdEqD, rdCat, rdRep, dOpO, dCBO, rdList_lst, rdList_tup, rdList_str, rdTuple_lst, rdTuple_tup, rdAll, rdIn_sg, rdIx_str, rdIx_lst, rdIx_tup, rdInt_str, rdInt_int, at0, at1, at2, one_len, cast1, castA, castP, Int.ofNat_lt, Int.ofNat_le, Int.ofNat_inj, dYes, dApp, dSeqV, dRetIf, dCopyDic, dItems0, dNeg, dZipA, wipeD, noOwn, dSetRL, dAppRL, dBor1, dSpoil, dSetW, putW, dIsiW, dAppW, dThaw, dMet, dMetN, dMetW, dCallXk, frO, frO1, frS, frS1, thawS1, thawD, thawL, List.mem_singleton, implies_true, false_implies, forall_const, forall_eq', List.map_set, dCut, dCutS, ae_len, dIsi, startD, and_assoc, exists_eq_left, exists_eq_left', exists_eq_right, exists_eq_right', exists_eq, exists_eq', exists_and_left, exists_and_right, exists_const, exists_false, false_and, and_false, true_and, and_true, false_or, or_false, or_true, true_or, if_true, if_false, Bool.false_eq_true, reduceCtorEq, reduceIte, ite_true, ite_false, Option.some.injEq, DS.fr.injEq, DS.ol.injEq, DS.sm.injEq, D.int.injEq, D.str.injEq, D.bl.injEq, D.lst.injEq, D.tup.injEq, V.str.injEq, V.int.injEq, V.bl.injEq, List.cons.injEq, List.getElem?_cons_zero, List.getElem?_cons_succ, List.set_cons_zero, List.set_cons_succ, List.length_cons, List.length_nil, List.length_set, List.map_cons, List.map_nil, List.cons_append, List.nil_append, List.append_nil, List.replicate_succ, List.replicate_zero, List.mem_cons, List.not_mem_nil, forall_eq_or_imp, forall_eq, Nat.reduceAdd, Nat.reduceSub, Nat.reduceLT, Nat.reduceLeDiff, Nat.zero_add, Nat.add_zero, decide_eq_true_eq, decide_eq_false_iff_not, Bool.not_eq_true', Bool.and_eq_true, Bool.or_eq_true, decide_true, decide_false, Bool.not_true, Bool.not_false, id_eq, Option.map_some, Option.map_none]
    cases x with
    | ob _ => simp [okC] at ok
    | la _ _ => simp [okC] at ok
    | non => exact ⟨_, rfl, (if_neg (by decide)).mpr ⟨_, rfl, (if_neg (by decide)).mpr hk⟩⟩
    | bl _ => exact ⟨_, rfl, (if_neg (by decide)).mpr ⟨_, rfl, (if_neg (by decide)).mpr hk⟩⟩
    | int _ => exact ⟨_, rfl, (if_neg (by decide)).mpr ⟨_, rfl, (if_neg (by decide)).mpr hk⟩⟩
    | str _ => exact ⟨_, rfl, (if_neg (by decide)).mpr ⟨_, rfl, (if_neg (by decide)).mpr hk⟩⟩
    | dic kvs =>
      cases kvs with
      | nil => exact ⟨_, rfl, (if_neg (by decide)).mpr ⟨_, rfl, (if_pos (by decide)).mpr ⟨rfl, hk⟩⟩⟩
      | cons _ _ => simp [okC] at ok
    | lst ds =>
      have ok1 : ds.length ≤ 1000000 ∧ okCL ds = true := by
        unfold okC at ok
        simp only [Bool.and_eq_true, decide_eq_true_eq] at ok
        exact ok
      have dp1 : dpCL ds ≤ n := by unfold dpC at dp; omega
      refine ⟨_, rfl, (if_pos (by decide)).mpr ⟨ds, .inl rfl, ?_⟩⟩
      refine ⟨by omega, fun i acc ρ => ρ = [some (.fr (.lst ds)), none, none, none] ∧ acc = ds.take i, ⟨rfl, rfl⟩, ?_, ?_⟩
      · rintro i y acc ρ hi _ ⟨rfl, rfl⟩
        simp only [dSeq, dNext, dSet, dSetO, dVar, dFrz, dC, dOp, dTest, rdI, rdI0, rdEq_ss, rdEq_gs, rdEq_gg, rdEq_ii, rdEq_bb, rdNe_ss, rdNe_gs, rdNe_gg, rdNe_ii, rdNe_bb, dAnd, dOr, dNot, dAndV, dOrV, dNotV, dIf, dNil, dCons, dTup, dLst, dFz, dBreak, dCont, dRet, dRetO, dMove, dIfS, dNever, dDrop, dWhile, dFor, dLc, dSrcL, dSrcT, dSrcS, dRng1, dRng2, dEnumL, dEnumS, dZip, dgName, dgNil, dgCons, dgTup, dPar, mNil, mConsF, mConsO, putD, dAsg, dCB, rdLen, lenD_str, lenD_lst, lenD_tup, dIxV, dLenV, dCall, dCallO, dCallX, dCallXO, dRaise, dCallS, dCallSO, frz_fr, frz_ol, rdAddS, dSlS, dPart, dNoPart, dM0, dM1, rdSplit, rdJoin, rdStr0, rdStr1, rdIndex, rdIsN, isn_non, isn_int, isn_str, isn_lst, isn_tup, rdEqD, rdCat, rdRep, dOpO, dCBO, rdList_lst, rdList_tup, rdList_str, rdTuple_lst, rdTuple_tup, rdAll, rdIn_sg, rdIx_str, rdIx_lst, rdIx_tup, rdInt_str, rdInt_int, at0, at1, at2, one_len, cast1, castA, castP, Int.ofNat_lt, Int.ofNat_le, Int.ofNat_inj, dYes, dApp, dSeqV, dRetIf, dCopyDic, dItems0, dNeg, dZipA, wipeD, noOwn, dSetRL, dAppRL, dBor1, dSpoil, dSetW, putW, dIsiW, dAppW, dThaw, dMet, dMetN, dMetW, dCallXk, frO, frO1, frS, frS1, thawS1, thawD, thawL, List.mem_singleton, implies_true, false_implies, forall_const, forall_eq', List.map_set, dCut, dCutS, ae_len, dIsi, startD, and_assoc, exists_eq_left, exists_eq_left', exists_eq_right, exists_eq_right', exists_eq, exists_eq', exists_and_left, exists_and_right, exists_const, exists_false, false_and, and_false, true_and, and_true, false_or, or_false, or_true, true_or, if_true, if_false, Bool.false_eq_true, reduceCtorEq, reduceIte, ite_true, ite_false, Option.some.injEq, DS.fr.injEq, DS.ol.injEq, DS.sm.injEq, D.int.injEq, D.str.injEq, D.bl.injEq, D.lst.injEq, D.tup.injEq, V.str.injEq, V.int.injEq, V.bl.injEq, List.cons.injEq, List.getElem?_cons_zero, List.getElem?_cons_succ, List.set_cons_zero, List.set_cons_succ, List.length_cons, List.length_nil, List.length_set, List.map_cons, List.map_nil, List.cons_append, List.nil_append, List.append_nil, List.replicate_succ, List.replicate_zero, List.mem_cons, List.not_mem_nil, forall_eq_or_imp, forall_eq, Nat.reduceAdd, Nat.reduceSub, Nat.reduceLT, Nat.reduceLeDiff, Nat.zero_add, Nat.add_zero, decide_eq_true_eq, decide_eq_false_iff_not, Bool.not_eq_true', Bool.and_eq_true, Bool.or_eq_true, decide_true, decide_false, Bool.not_true, Bool.not_false, id_eq, Option.map_some, Option.map_none]
        refine item y i ds _ ok1.2 dp1 hi ?_
        exact take_more hi
      · rintro acc ρ ⟨rfl, rfl⟩
        rw [List.take_length]
        simp only [dSeq, dNext, dSet, dSetO, dVar, dFrz, dC, dOp, dTest, rdI, rdI0, rdEq_ss, rdEq_gs, rdEq_gg, rdEq_ii, rdEq_bb, rdNe_ss, rdNe_gs, rdNe_gg, rdNe_ii, rdNe_bb, dAnd, dOr, dNot, dAndV, dOrV, dNotV, dIf, dNil, dCons, dTup, dLst, dFz, dBreak, dCont, dRet, dRetO, dMove, dIfS, dNever, dDrop, dWhile, dFor, dLc, dSrcL, dSrcT, dSrcS, dRng1, dRng2, dEnumL, dEnumS, dZip, dgName, dgNil, dgCons, dgTup, dPar, mNil, mConsF, mConsO, putD, dAsg, dCB, rdLen, lenD_str, lenD_lst, lenD_tup, dIxV, dLenV, dCall, dCallO, dCallX, dCallXO, dRaise, dCallS, dCallSO, frz_fr, frz_ol, rdAddS, dSlS, dPart, dNoPart, dM0, dM1, rdSplit, rdJoin, rdStr0, rdStr1, rdIndex, rdIsN, isn_non, isn_int, isn_str, isn_lst, isn_tup, rdEqD, rdCat, rdRep, dOpO, dCBO, rdList_lst, rdList_tup, rdList_str, rdTuple_lst, rdTuple_tup, rdAll, rdIn_sg, rdIx_str, rdIx_lst, rdIx_tup, rdInt_str, rdInt_int, at0, at1, at2, one_len, cast1, castA, castP, Int.ofNat_lt, Int.ofNat_le, Int.ofNat_inj, dYes, dApp, dSeqV, dRetIf, dCopyDic, dItems0, dNeg, dZipA, wipeD, noOwn, dSetRL, dAppRL, dBor1, dSpoil, dSetW, putW, dIsiW, dAppW, dThaw, dMet, dMetN, dMetW, dCallXk, frO, frO1, frS, frS1, thawS1, thawD, thawL, List.mem_singleton, implies_true, false_implies, forall_const, forall_eq', List.map_set, dCut, dCutS, ae_len, dIsi, startD, and_assoc, exists_eq_left, exists_eq_left', exists_eq_right, exists_eq_right', exists_eq, exists_eq', exists_and_left, exists_and_right, exists_const, exists_false, false_and, and_false, true_and, and_true, false_or, or_false, or_true, true_or, if_true, if_false, Bool.false_eq_true, reduceCtorEq, reduceIte, ite_true, ite_false, Option.some.injEq, DS.fr.injEq, DS.ol.injEq, DS.sm.injEq, D.int.injEq, D.str.injEq, D.bl.injEq, D.lst.injEq, D.tup.injEq, V.str.injEq, V.int.injEq, V.bl.injEq, List.cons.injEq, List.getElem?_cons_zero, List.getElem?_cons_succ, List.set_cons_zero, List.set_cons_succ, List.length_cons, List.length_nil, List.length_set, List.map_cons, List.map_nil, List.cons_append, List.nil_append, List.append_nil, List.replicate_succ, List.replicate_zero, List.mem_cons, List.not_mem_nil, forall_eq_or_imp, forall_eq, Nat.reduceAdd, Nat.reduceSub, Nat.reduceLT, Nat.reduceLeDiff, Nat.zero_add, Nat.add_zero, decide_eq_true_eq, decide_eq_false_iff_not, Bool.not_eq_true', Bool.and_eq_true, Bool.or_eq_true, decide_true, decide_false, Bool.not_true, Bool.not_false, id_eq, Option.map_some, Option.map_none]
        exact ⟨_, rfl, (if_pos (by decide)).mpr hk⟩
    | tup ds =>
      have ok1 : ds.length ≤ 1000000 ∧ okCL ds = true := by
        unfold okC at ok
        simp only [Bool.and_eq_true, decide_eq_true_eq] at ok
        exact ok
      have dp1 : dpCL ds ≤ n := by unfold dpC at dp; omega
      refine ⟨_, rfl, (if_pos (by decide)).mpr ⟨ds, .inr rfl, ?_⟩⟩
      refine ⟨by omega, fun i acc ρ => ρ = [some (.fr (.tup ds)), none, none, none] ∧ acc = ds.take i, ⟨rfl, rfl⟩, ?_, ?_⟩
      · rintro i y acc ρ hi _ ⟨rfl, rfl⟩
        simp only [dSeq, dNext, dSet, dSetO, dVar, dFrz, dC, dOp, dTest, rdI, rdI0, rdEq_ss, rdEq_gs, rdEq_gg, rdEq_ii, rdEq_bb, rdNe_ss, rdNe_gs, rdNe_gg, rdNe_ii, rdNe_bb, dAnd, dOr, dNot, dAndV, dOrV, dNotV, dIf, dNil, dCons, dTup, dLst, dFz, dBreak, dCont, dRet, dRetO, dMove, dIfS, dNever, dDrop, dWhile, dFor, dLc, dSrcL, dSrcT, dSrcS, dRng1, dRng2, dEnumL, dEnumS, dZip, dgName, dgNil, dgCons, dgTup, dPar, mNil, mConsF, mConsO, putD, dAsg, dCB, rdLen, lenD_str, lenD_lst, lenD_tup, dIxV, dLenV, dCall, dCallO, dCallX, dCallXO, dRaise, dCallS, dCallSO, frz_fr, frz_ol, rdAddS, dSlS, dPart, dNoPart, dM0, dM1, rdSplit, rdJoin, rdStr0, rdStr1, rdIndex, rdIsN, isn_non, isn_int, isn_str, isn_lst, isn_tup, rdEqD, rdCat, rdRep, dOpO, dCBO, rdList_lst, rdList_tup, rdList_str, rdTuple_lst, rdTuple_tup, rdAll, rdIn_sg, rdIx_str, rdIx_lst, rdIx_tup, rdInt_str, rdInt_int, at0, at1, at2, one_len, cast1, castA, castP, Int.ofNat_lt, Int.ofNat_le, Int.ofNat_inj, dYes, dApp, dSeqV, dRetIf, dCopyDic, dItems0, dNeg, dZipA, wipeD, noOwn, dSetRL, dAppRL, dBor1, dSpoil, dSetW, putW, dIsiW, dAppW, dThaw, dMet, dMetN, dMetW, dCallXk, frO, frO1, frS, frS1, thawS1, thawD, thawL, List.mem_singleton, implies_true, false_implies, forall_const, forall_eq', List.map_set, dCut, dCutS, ae_len, dIsi, startD, and_assoc, exists_eq_left, exists_eq_left', exists_eq_right, exists_eq_right', exists_eq, exists_eq', exists_and_left, exists_and_right, exists_const, exists_false, false_and, and_false, true_and, and_true, false_or, or_false, or_true, true_or, if_true, if_false, Bool.false_eq_true, reduceCtorEq, reduceIte, ite_true, ite_false, Option.some.injEq, DS.fr.injEq, DS.ol.injEq, DS.sm.injEq, D.int.injEq, D.str.injEq, D.bl.injEq, D.lst.injEq, D.tup.injEq, V.str.injEq, V.int.injEq, V.bl.injEq, List.cons.injEq, List.getElem?_cons_zero, List.getElem?_cons_succ, List.set_cons_zero, List.set_cons_succ, List.length_cons, List.length_nil, List.length_set, List.map_cons, List.map_nil, List.cons_append, List.nil_append, List.append_nil, List.replicate_succ, List.replicate_zero, List.mem_cons, List.not_mem_nil, forall_eq_or_imp, forall_eq, Nat.reduceAdd, Nat.reduceSub, Nat.reduceLT, Nat.reduceLeDiff, Nat.zero_add, Nat.add_zero, decide_eq_true_eq, decide_eq_false_iff_not, Bool.not_eq_true', Bool.and_eq_true, Bool.or_eq_true, decide_true, decide_false, Bool.not_true, Bool.not_false, id_eq, Option.map_some, Option.map_none]
        refine item y i ds _ ok1.2 dp1 hi ?_
        exact take_more hi
      · rintro acc ρ ⟨rfl, rfl⟩
        rw [List.take_length]
        simp only [dSeq, dNext, dSet, dSetO, dVar, dFrz, dC, dOp, dTest, rdI, rdI0, rdEq_ss, rdEq_gs, rdEq_gg, rdEq_ii, rdEq_bb, rdNe_ss, rdNe_gs, rdNe_gg, rdNe_ii, rdNe_bb, dAnd, dOr, dNot, dAndV, dOrV, dNotV, dIf, dNil, dCons, dTup, dLst, dFz, dBreak, dCont, dRet, dRetO, dMove, dIfS, dNever, dDrop, dWhile, dFor, dLc, dSrcL, dSrcT, dSrcS, dRng1, dRng2, dEnumL, dEnumS, dZip, dgName, dgNil, dgCons, dgTup, dPar, mNil, mConsF, mConsO, putD, dAsg, dCB, rdLen, lenD_str, lenD_lst, lenD_tup, dIxV, dLenV, dCall, dCallO, dCallX, dCallXO, dRaise, dCallS, dCallSO, frz_fr, frz_ol, rdAddS, dSlS, dPart, dNoPart, dM0, dM1, rdSplit, rdJoin, rdStr0, rdStr1, rdIndex, rdIsN, isn_non, isn_int, isn_str, isn_lst, isn_tup, rdEqD, rdCat, rdRep, dOpO, dCBO, rdList_lst, rdList_tup, rdList_str, rdTuple_lst, rdTuple_tup, rdAll, rdIn_sg, rdIx_str, rdIx_lst, rdIx_tup, rdInt_str, rdInt_int, at0, at1, at2, one_len, cast1, castA, castP, Int.ofNat_lt, Int.ofNat_le, Int.ofNat_inj, dYes, dApp, dSeqV, dRetIf, dCopyDic, dItems0, dNeg, dZipA, wipeD, noOwn, dSetRL, dAppRL, dBor1, dSpoil, dSetW, putW, dIsiW, dAppW, dThaw, dMet, dMetN, dMetW, dCallXk, frO, frO1, frS, frS1, thawS1, thawD, thawL, List.mem_singleton, implies_true, false_implies, forall_const, forall_eq', List.map_set, dCut, dCutS, ae_len, dIsi, startD, and_assoc, exists_eq_left, exists_eq_left', exists_eq_right, exists_eq_right', exists_eq, exists_eq', exists_and_left, exists_and_right, exists_const, exists_false, false_and, and_false, true_and, and_true, false_or, or_false, or_true, true_or, if_true, if_false, Bool.false_eq_true, reduceCtorEq, reduceIte, ite_true, ite_false, Option.some.injEq, DS.fr.injEq, DS.ol.injEq, DS.sm.injEq, D.int.injEq, D.str.injEq, D.bl.injEq, D.lst.injEq, D.tup.injEq, V.str.injEq, V.int.injEq, V.bl.injEq, List.cons.injEq, List.getElem?_cons_zero, List.getElem?_cons_succ, List.set_cons_zero, List.set_cons_succ, List.length_cons, List.length_nil, List.length_set, List.map_cons, List.map_nil, List.cons_append, List.nil_append, List.append_nil, List.replicate_succ, List.replicate_zero, List.mem_cons, List.not_mem_nil, forall_eq_or_imp, forall_eq, Nat.reduceAdd, Nat.reduceSub, Nat.reduceLT, Nat.reduceLeDiff, Nat.zero_add, Nat.add_zero, decide_eq_true_eq, decide_eq_false_iff_not, Bool.not_eq_true', Bool.and_eq_true, Bool.or_eq_true, decide_true, decide_false, Bool.not_true, Bool.not_false, id_eq, Option.map_some, Option.map_none]
        exact ⟨_, rfl, (if_neg (by decide)).mpr hk⟩
end
end K24
end

section
namespace K24
open PySem PySem.Spec PyProof.Rows L2 Sa
theorem isd_non0 : isD .non ["list", "tuple"] = some false := rfl
theorem isd_non1 : isD .non ["list"] = some false := rfl
theorem isd_non2 : isD .non ["tuple"] = some false := rfl
theorem isd_non3 : isD .non ["dict"] = some false := rfl
theorem isd_non4 : isD .non ["bool"] = some false := rfl
theorem isd_non5 : isD .non ["int"] = some false := rfl
theorem isd_non6 : isD .non ["str"] = some false := rfl
theorem isd_non7 : isD .non ["list", "tuple", "dict"] = some false := rfl
theorem isd_bl0 {b : Bool} : isD (.bl b) ["list", "tuple"] = some false := rfl
theorem isd_bl1 {b : Bool} : isD (.bl b) ["list"] = some false := rfl
theorem isd_bl2 {b : Bool} : isD (.bl b) ["tuple"] = some false := rfl
theorem isd_bl3 {b : Bool} : isD (.bl b) ["dict"] = some false := rfl
theorem isd_bl4 {b : Bool} : isD (.bl b) ["bool"] = some true := rfl
theorem isd_bl5 {b : Bool} : isD (.bl b) ["int"] = some true := rfl
theorem isd_bl6 {b : Bool} : isD (.bl b) ["str"] = some false := rfl
theorem isd_bl7 {b : Bool} : isD (.bl b) ["list", "tuple", "dict"] = some false := rfl
theorem isd_int0 {i : Int} : isD (.int i) ["list", "tuple"] = some false := rfl
theorem isd_int1 {i : Int} : isD (.int i) ["list"] = some false := rfl
theorem isd_int2 {i : Int} : isD (.int i) ["tuple"] = some false := rfl
theorem isd_int3 {i : Int} : isD (.int i) ["dict"] = some false := rfl
theorem isd_int4 {i : Int} : isD (.int i) ["bool"] = some false := rfl
theorem isd_int5 {i : Int} : isD (.int i) ["int"] = some true := rfl
theorem isd_int6 {i : Int} : isD (.int i) ["str"] = some false := rfl
theorem isd_int7 {i : Int} : isD (.int i) ["list", "tuple", "dict"] = some false := rfl
theorem isd_str0 {s : Str} : isD (.str s) ["list", "tuple"] = some false := rfl
theorem isd_str1 {s : Str} : isD (.str s) ["list"] = some false := rfl
theorem isd_str2 {s : Str} : isD (.str s) ["tuple"] = some false := rfl
theorem isd_str3 {s : Str} : isD (.str s) ["dict"] = some false := rfl
theorem isd_str4 {s : Str} : isD (.str s) ["bool"] = some false := rfl
theorem isd_str5 {s : Str} : isD (.str s) ["int"] = some false := rfl
theorem isd_str6 {s : Str} : isD (.str s) ["str"] = some true := rfl
theorem isd_str7 {s : Str} : isD (.str s) ["list", "tuple", "dict"] = some false := rfl
theorem isd_lst0 {ds : List D} : isD (.lst ds) ["list", "tuple"] = some true := rfl
theorem isd_lst1 {ds : List D} : isD (.lst ds) ["list"] = some true := rfl
theorem isd_lst2 {ds : List D} : isD (.lst ds) ["tuple"] = some false := rfl
theorem isd_lst3 {ds : List D} : isD (.lst ds) ["dict"] = some false := rfl
theorem isd_lst4 {ds : List D} : isD (.lst ds) ["bool"] = some false := rfl
theorem isd_lst5 {ds : List D} : isD (.lst ds) ["int"] = some false := rfl
theorem isd_lst6 {ds : List D} : isD (.lst ds) ["str"] = some false := rfl
theorem isd_lst7 {ds : List D} : isD (.lst ds) ["list", "tuple", "dict"] = some true := rfl
theorem isd_tup0 {ds : List D} : isD (.tup ds) ["list", "tuple"] = some true := rfl
theorem isd_tup1 {ds : List D} : isD (.tup ds) ["list"] = some false := rfl
theorem isd_tup2 {ds : List D} : isD (.tup ds) ["tuple"] = some true := rfl
theorem isd_tup3 {ds : List D} : isD (.tup ds) ["dict"] = some false := rfl
theorem isd_tup4 {ds : List D} : isD (.tup ds) ["bool"] = some false := rfl
theorem isd_tup5 {ds : List D} : isD (.tup ds) ["int"] = some false := rfl
theorem isd_tup6 {ds : List D} : isD (.tup ds) ["str"] = some false := rfl
theorem isd_tup7 {ds : List D} : isD (.tup ds) ["list", "tuple", "dict"] = some true := rfl
theorem isd_dic0 {kvs : List (Key × D)} : isD (.dic kvs) ["list", "tuple"] = some false := rfl
theorem isd_dic1 {kvs : List (Key × D)} : isD (.dic kvs) ["list"] = some false := rfl
theorem isd_dic2 {kvs : List (Key × D)} : isD (.dic kvs) ["tuple"] = some false := rfl
theorem isd_dic3 {kvs : List (Key × D)} : isD (.dic kvs) ["dict"] = some true := rfl
theorem isd_dic4 {kvs : List (Key × D)} : isD (.dic kvs) ["bool"] = some false := rfl
theorem isd_dic5 {kvs : List (Key × D)} : isD (.dic kvs) ["int"] = some false := rfl
theorem isd_dic6 {kvs : List (Key × D)} : isD (.dic kvs) ["str"] = some false := rfl
theorem isd_dic7 {kvs : List (Key × D)} : isD (.dic kvs) ["list", "tuple", "dict"] = some true := rfl
theorem zipD_same : ∀ {ds : List D} {i : Nat} {y : D}, (zipD ds ds)[i]? = some y → ∃ d, ds[i]? = some d ∧ y = .tup [d, d]
  | [], i, y, h => by simp [zipD] at h
  | d :: ds, 0, y, h => ⟨d, rfl, by simpa [zipD, eq_comm] using h⟩
  | d :: ds, i + 1, y, h => by
    obtain ⟨e, h1, h2⟩ := zipD_same (ds := ds) (i := i) (y := y) (by simpa [zipD] using h)
    exact ⟨e, by simpa using h1, h2⟩
theorem reps_more {i : Nat} : List.map D.bl (List.replicate i true) ++ [D.bl true] = List.map D.bl (List.replicate (i + 1) true) := by
  rw [List.replicate_succ', List.map_append]
  rfl
theorem all_reps {i : Nat} : (List.replicate i true).all id = true := by
  induction i with
  | zero => rfl
  | succ i ih => rw [List.replicate_succ, List.all_cons, ih]; rfl
section
variable {P : Program} {w : World} {K : PySem.W.Frag} {mg : Str → Option Value} {base : Heap}
theorem ok__law_same {f : Addr} {fd : FuncData} (Fu : Fun K "_law_same" "_law_same" s__law_same f fd) (g__law_same : mg "_law_same" = some (.ref f)) (kp__law_same : PySem.W.keepIn K (.ref f) = true) (b__law_same : Binds K fd ["found", "due"] [])
    (m_isinstance : mg "isinstance" = none) (m_dict : mg "dict" = none) (m_list : mg "list" = none) (m_tuple : mg "tuple" = none) (m_bool : mg "bool" = none) (m_int : mg "int" = none) (m_str : mg "str" = none) (m_len : mg "len" = none) (m_zip : mg "zip" = none) (m_all : mg "all" = none) : ∀ n : Nat, FnOk P w K mg base CX0 (n + 1) f fd ["found", "due"] (SpF K (PhiSame n)) := by
  intro n
  induction n with
  | zero =>
    refine fnF Fu sc__law_same (fun ds kk h => by obtain ⟨x, rfl, _⟩ := h; rfl) fun cdv A outer s H E B hr => ⟨_,
      (psd_cons (psd_if (pq_val (pf_isiT (ts := ["list", "tuple"]) rfl m_isinstance rfl (by decide) (pf_var (pv 1)) (pa_tys2 (pe_bltn rfl m_list PyProof.Rows.boot_list rfl) (pe_bltn rfl m_tuple PyProof.Rows.boot_tuple rfl))))
        pssd_never
        psd_nil)
        (psd_cons (psd_if (pq_val (pf_isi (tn := "dict") rfl m_isinstance rfl (pf_var (pv 1)) (pe_bltn rfl m_dict PyProof.Rows.boot_dict rfl)))
        pssd_never
        psd_nil)
        (psd_cons (psd_if (PV.pq (pv_or (pq_val (pf_isi (tn := "bool") rfl m_isinstance rfl (pf_var (pv 1)) (pe_bltn rfl m_bool PyProof.Rows.boot_bool rfl))) (pv_or1 (pq_val (pf_isi (tn := "bool") rfl m_isinstance rfl (pf_var (pv 0)) (pe_bltn rfl m_bool PyProof.Rows.boot_bool rfl))))))
        (psd_one (psd_ret (pf_and (pf_isi (tn := "bool") rfl m_isinstance rfl (pf_var (pv 1)) (pe_bltn rfl m_bool PyProof.Rows.boot_bool rfl)) (pf_and (pf_isi (tn := "bool") rfl m_isinstance rfl (pf_var (pv 0)) (pe_bltn rfl m_bool PyProof.Rows.boot_bool rfl)) (pf_one (pf_eq (pf_var (pv 0)) (pf_var (pv 1))))))))
        psd_nil)
        (psd_cons (psd_if (PV.pq (pv_or (pq_isN (pf_var (pv 1))) (pv_or1 (pq_isN (pf_var (pv 0))))))
        (psd_one (psd_ret (pf_and (pf_isN (pf_var (pv 1))) (pf_one (pf_isN (pf_var (pv 0)))))))
        psd_nil)
        (psd_cons (psd_if (PV.pq (pv_or (pq_ne (pf_isi (tn := "int") rfl m_isinstance rfl (pf_var (pv 1)) (pe_bltn rfl m_int PyProof.Rows.boot_int rfl)) (pf_isi (tn := "int") rfl m_isinstance rfl (pf_var (pv 0)) (pe_bltn rfl m_int PyProof.Rows.boot_int rfl))) (pv_or1 (pq_ne (pf_isi (tn := "str") rfl m_isinstance rfl (pf_var (pv 1)) (pe_bltn rfl m_str PyProof.Rows.boot_str rfl)) (pf_isi (tn := "str") rfl m_isinstance rfl (pf_var (pv 0)) (pe_bltn rfl m_str PyProof.Rows.boot_str rfl))))))
        (psd_one (psd_ret pf_bl))
        psd_nil)
        (psd_one (psd_ret (pf_and (pf_not (pf_isiT (ts := ["list", "tuple", "dict"]) rfl m_isinstance rfl (by decide) (pf_var (pv 0)) (pa_tys3 (pe_bltn rfl m_list PyProof.Rows.boot_list rfl) (pe_bltn rfl m_tuple PyProof.Rows.boot_tuple rfl) (pe_bltn rfl m_dict PyProof.Rows.boot_dict rfl)))) (pf_one (pf_eq (pf_var (pv 0)) (pf_var (pv 1))))))))))))
      , fun ds kk h => ?_⟩
    obtain ⟨x, rfl, ok, dp, hk⟩ := h
    cases x with
    | ob _ => simp [okC] at ok
    | la _ _ => simp [okC] at ok
    | lst _ => simp [dpC] at dp
    | tup _ => simp [dpC] at dp
    | dic _ => simp [dpC] at dp
    | non =>
      simp only [dSeq, dNext, dSet, dSetO, dVar, dFrz, dC, dOp, dTest, rdI, rdI0, rdEq_ss, rdEq_gs, rdEq_gg, rdEq_ii, rdEq_bb, rdNe_ss, rdNe_gs, rdNe_gg, rdNe_ii, rdNe_bb, dAnd, dOr, dNot, dAndV, dOrV, dNotV, dIf, dNil, dCons, dTup, dLst, dFz, dBreak, dCont, dRet, dRetO, dMove, dIfS, dNever, dDrop, dWhile, dFor, dLc, dSrcL, dSrcT, dSrcS, dRng1, dRng2, dEnumL, dEnumS, dZip, dgName, dgNil, dgCons, dgTup, dPar, mNil, mConsF, mConsO, putD, dAsg, dCB, rdLen, lenD_str, lenD_lst, lenD_tup, dIxV, dLenV, dCall, dCallO, dCallX, dCallXO, dRaise, dCallS, dCallSO, frz_fr, frz_ol, rdAddS, dSlS, dPart, dNoPart, dM0, dM1, rdSplit, rdJoin, rdStr0, rdStr1, rdIndex, rdIsN, isn_non, isn_int, isn_str, isn_lst, isn_tup, rdEqD, rdCat, rdRep, dOpO, dCBO, rdList_lst, rdList_tup, rdList_str, rdTuple_lst, rdTuple_tup, rdAll, rdIn_sg, rdIx_str, rdIx_lst, rdIx_tup, rdInt_str, rdInt_int, at0, at1, at2, one_len, cast1, castA, castP, Int.ofNat_lt, Int.ofNat_le, Int.ofNat_inj, dYes, dApp, dSeqV, dRetIf, dCopyDic, dItems0, dNeg, dZipA, wipeD, noOwn, dSetRL, dAppRL, dBor1, dSpoil, dSetW, putW, dIsiW, dAppW, dThaw, dMet, dMetN, dMetW, dCallXk, frO, frO1, frS, frS1, thawS1, thawD, thawL, List.mem_singleton, implies_true, false_implies, forall_const, forall_eq', List.map_set, dCut, dCutS, ae_len, dIsi, startD, and_assoc, exists_eq_left, exists_eq_left', exists_eq_right, exists_eq_right', exists_eq, exists_eq', exists_and_left, exists_and_right, exists_const, exists_false, false_and, and_false, true_and, and_true, false_or, or_false, or_true, true_or, if_true, if_false, Bool.false_eq_true, reduceCtorEq, reduceIte, ite_true, ite_false, Option.some.injEq, DS.fr.injEq, DS.ol.injEq, DS.sm.injEq, D.int.injEq, D.str.injEq, D.bl.injEq, D.lst.injEq, D.tup.injEq, V.str.injEq, V.int.injEq, V.bl.injEq, List.cons.injEq, List.getElem?_cons_zero, List.getElem?_cons_succ, List.set_cons_zero, List.set_cons_succ, List.length_cons, List.length_nil, List.length_set, List.map_cons, List.map_nil, List.cons_append, List.nil_append, List.append_nil, List.replicate_succ, List.replicate_zero, List.mem_cons, List.not_mem_nil, forall_eq_or_imp, forall_eq, Nat.reduceAdd, Nat.reduceSub, Nat.reduceLT, Nat.reduceLeDiff, Nat.zero_add, Nat.add_zero, decide_eq_true_eq, decide_eq_false_iff_not, Bool.not_eq_true', Bool.and_eq_true, Bool.or_eq_true, decide_true, decide_false, Bool.not_true, Bool.not_false, id_eq, Option.map_some, Option.map_none, isd_non0, isd_non1, isd_non2, isd_non3, isd_non4, isd_non5, isd_non6, isd_non7, isd_bl0, isd_bl1, isd_bl2, isd_bl3, isd_bl4, isd_bl5, isd_bl6, isd_bl7, isd_int0, isd_int1, isd_int2, isd_int3, isd_int4, isd_int5, isd_int6, isd_int7, isd_str0, isd_str1, isd_str2, isd_str3, isd_str4, isd_str5, isd_str6, isd_str7, isd_lst0, isd_lst1, isd_lst2, isd_lst3, isd_lst4, isd_lst5, isd_lst6, isd_lst7, isd_tup0, isd_tup1, isd_tup2, isd_tup3, isd_tup4, isd_tup5, isd_tup6, isd_tup7, isd_dic0, isd_dic1, isd_dic2, isd_dic3, isd_dic4, isd_dic5, isd_dic6, isd_dic7, ne_eq, not_true_eq_false, not_false_eq_true, implies_true]
      exact hk
    | bl _ =>
      simp only [dSeq, dNext, dSet, dSetO, dVar, dFrz, dC, dOp, dTest, rdI, rdI0, rdEq_ss, rdEq_gs, rdEq_gg, rdEq_ii, rdEq_bb, rdNe_ss, rdNe_gs, rdNe_gg, rdNe_ii, rdNe_bb, dAnd, dOr, dNot, dAndV, dOrV, dNotV, dIf, dNil, dCons, dTup, dLst, dFz, dBreak, dCont, dRet, dRetO, dMove, dIfS, dNever, dDrop, dWhile, dFor, dLc, dSrcL, dSrcT, dSrcS, dRng1, dRng2, dEnumL, dEnumS, dZip, dgName, dgNil, dgCons, dgTup, dPar, mNil, mConsF, mConsO, putD, dAsg, dCB, rdLen, lenD_str, lenD_lst, lenD_tup, dIxV, dLenV, dCall, dCallO, dCallX, dCallXO, dRaise, dCallS, dCallSO, frz_fr, frz_ol, rdAddS, dSlS, dPart, dNoPart, dM0, dM1, rdSplit, rdJoin, rdStr0, rdStr1, rdIndex, rdIsN, isn_non, isn_int, isn_str, isn_lst, isn_tup, rdEqD, rdCat, rdRep, dOpO, dCBO, rdList_lst, rdList_tup, rdList_str, rdTuple_lst, rdTuple_tup, rdAll, rdIn_sg, rdIx_str, rdIx_lst, rdIx_tup, rdInt_str, rdInt_int, at0, at1, at2, one_len, cast1, castA, castP, Int.ofNat_lt, Int.ofNat_le, Int.ofNat_inj, dYes, dApp, dSeqV, dRetIf, dCopyDic, dItems0, dNeg, dZipA, wipeD, noOwn, dSetRL, dAppRL, dBor1, dSpoil, dSetW, putW, dIsiW, dAppW, dThaw, dMet, dMetN, dMetW, dCallXk, frO, frO1, frS, frS1, thawS1, thawD, thawL, List.mem_singleton, implies_true, false_implies, forall_const, forall_eq', List.map_set, dCut, dCutS, ae_len, dIsi, startD, and_assoc, exists_eq_left, exists_eq_left', exists_eq_right, exists_eq_right', exists_eq, exists_eq', exists_and_left, exists_and_right, exists_const, exists_false, false_and, and_false, true_and, and_true, false_or, or_false, or_true, true_or, if_true, if_false, Bool.false_eq_true, reduceCtorEq, reduceIte, ite_true, ite_false, Option.some.injEq, DS.fr.injEq, DS.ol.injEq, DS.sm.injEq, D.int.injEq, D.str.injEq, D.bl.injEq, D.lst.injEq, D.tup.injEq, V.str.injEq, V.int.injEq, V.bl.injEq, List.cons.injEq, List.getElem?_cons_zero, List.getElem?_cons_succ, List.set_cons_zero, List.set_cons_succ, List.length_cons, List.length_nil, List.length_set, List.map_cons, List.map_nil, List.cons_append, List.nil_append, List.append_nil, List.replicate_succ, List.replicate_zero, List.mem_cons, List.not_mem_nil, forall_eq_or_imp, forall_eq, Nat.reduceAdd, Nat.reduceSub, Nat.reduceLT, Nat.reduceLeDiff, Nat.zero_add, Nat.add_zero, decide_eq_true_eq, decide_eq_false_iff_not, Bool.not_eq_true', Bool.and_eq_true, Bool.or_eq_true, decide_true, decide_false, Bool.not_true, Bool.not_false, id_eq, Option.map_some, Option.map_none, isd_non0, isd_non1, isd_non2, isd_non3, isd_non4, isd_non5, isd_non6, isd_non7, isd_bl0, isd_bl1, isd_bl2, isd_bl3, isd_bl4, isd_bl5, isd_bl6, isd_bl7, isd_int0, isd_int1, isd_int2, isd_int3, isd_int4, isd_int5, isd_int6, isd_int7, isd_str0, isd_str1, isd_str2, isd_str3, isd_str4, isd_str5, isd_str6, isd_str7, isd_lst0, isd_lst1, isd_lst2, isd_lst3, isd_lst4, isd_lst5, isd_lst6, isd_lst7, isd_tup0, isd_tup1, isd_tup2, isd_tup3, isd_tup4, isd_tup5, isd_tup6, isd_tup7, isd_dic0, isd_dic1, isd_dic2, isd_dic3, isd_dic4, isd_dic5, isd_dic6, isd_dic7, ne_eq, not_true_eq_false, not_false_eq_true, implies_true]
      exact hk
    | int _ =>
      simp only [dSeq, dNext, dSet, dSetO, dVar, dFrz, dC, dOp, dTest, rdI, rdI0, rdEq_ss, rdEq_gs, rdEq_gg, rdEq_ii, rdEq_bb, rdNe_ss, rdNe_gs, rdNe_gg, rdNe_ii, rdNe_bb, dAnd, dOr, dNot, dAndV, dOrV, dNotV, dIf, dNil, dCons, dTup, dLst, dFz, dBreak, dCont, dRet, dRetO, dMove, dIfS, dNever, dDrop, dWhile, dFor, dLc, dSrcL, dSrcT, dSrcS, dRng1, dRng2, dEnumL, dEnumS, dZip, dgName, dgNil, dgCons, dgTup, dPar, mNil, mConsF, mConsO, putD, dAsg, dCB, rdLen, lenD_str, lenD_lst, lenD_tup, dIxV, dLenV, dCall, dCallO, dCallX, dCallXO, dRaise, dCallS, dCallSO, frz_fr, frz_ol, rdAddS, dSlS, dPart, dNoPart, dM0, dM1, rdSplit, rdJoin, rdStr0, rdStr1, rdIndex, rdIsN, isn_non, isn_int, isn_str, isn_lst, isn_tup, rdEqD, rdCat, rdRep, dOpO, dCBO, rdList_lst, rdList_tup, rdList_str, rdTuple_lst, rdTuple_tup, rdAll, rdIn_sg, rdIx_str, rdIx_lst, rdIx_tup, rdInt_str, rdInt_int, at0, at1, at2, one_len, cast1, castA, castP, Int.ofNat_lt, Int.ofNat_le, Int.ofNat_inj, dYes, dApp, dSeqV, dRetIf, dCopyDic, dItems0, dNeg, dZipA, wipeD, noOwn, dSetRL, dAppRL, dBor1, dSpoil, dSetW, putW, dIsiW, dAppW, dThaw, dMet, dMetN, dMetW, dCallXk, frO, frO1, frS, frS1, thawS1, thawD, thawL, List.mem_singleton, implies_true, false_implies, forall_const, forall_eq', List.map_set, dCut, dCutS, ae_len, dIsi, startD, and_assoc, exists_eq_left, exists_eq_left', exists_eq_right, exists_eq_right', exists_eq, exists_eq', exists_and_left, exists_and_right, exists_const, exists_false, false_and, and_false, true_and, and_true, false_or, or_false, or_true, true_or, if_true, if_false, Bool.false_eq_true, reduceCtorEq, reduceIte, ite_true, ite_false, Option.some.injEq, DS.fr.injEq, DS.ol.injEq, DS.sm.injEq, D.int.injEq, D.str.injEq, D.bl.injEq, D.lst.injEq, D.tup.injEq, V.str.injEq, V.int.injEq, V.bl.injEq, List.cons.injEq, List.getElem?_cons_zero, List.getElem?_cons_succ, List.set_cons_zero, List.set_cons_succ, List.length_cons, List.length_nil, List.length_set, List.map_cons, List.map_nil, List.cons_append, List.nil_append, List.append_nil, List.replicate_succ, List.replicate_zero, List.mem_cons, List.not_mem_nil, forall_eq_or_imp, forall_eq, Nat.reduceAdd, Nat.reduceSub, Nat.reduceLT, Nat.reduceLeDiff, Nat.zero_add, Nat.add_zero, decide_eq_true_eq, decide_eq_false_iff_not, Bool.not_eq_true', Bool.and_eq_true, Bool.or_eq_true, decide_true, decide_false, Bool.not_true, Bool.not_false, id_eq, Option.map_some, Option.map_none, isd_non0, isd_non1, isd_non2, isd_non3, isd_non4, isd_non5, isd_non6, isd_non7, isd_bl0, isd_bl1, isd_bl2, isd_bl3, isd_bl4, isd_bl5, isd_bl6, isd_bl7, isd_int0, isd_int1, isd_int2, isd_int3, isd_int4, isd_int5, isd_int6, isd_int7, isd_str0, isd_str1, isd_str2, isd_str3, isd_str4, isd_str5, isd_str6, isd_str7, isd_lst0, isd_lst1, isd_lst2, isd_lst3, isd_lst4, isd_lst5, isd_lst6, isd_lst7, isd_tup0, isd_tup1, isd_tup2, isd_tup3, isd_tup4, isd_tup5, isd_tup6, isd_tup7, isd_dic0, isd_dic1, isd_dic2, isd_dic3, isd_dic4, isd_dic5, isd_dic6, isd_dic7, ne_eq, not_true_eq_false, not_false_eq_true, implies_true]
      exact hk
    | str _ =>
      simp only [dSeq, dNext, dSet, dSetO, dVar, dFrz, dC, dOp, dTest, rdI, rdI0, rdEq_ss, rdEq_gs, rdEq_gg, rdEq_ii, rdEq_bb, rdNe_ss, rdNe_gs, rdNe_gg, rdNe_ii, rdNe_bb, dAnd, dOr, dNot, dAndV, dOrV, dNotV, dIf, dNil, dCons, dTup, dLst, dFz, dBreak, dCont, dRet, dRetO, dMove, dIfS, dNever, dDrop, dWhile, dFor, dLc, dSrcL, dSrcT, dSrcS, dRng1, dRng2, dEnumL, dEnumS, dZip, dgName, dgNil, dgCons, dgTup, dPar, mNil, mConsF, mConsO, putD, dAsg, dCB, rdLen, lenD_str, lenD_lst, lenD_tup, dIxV, dLenV, dCall, dCallO, dCallX, dCallXO, dRaise, dCallS, dCallSO, frz_fr, frz_ol, rdAddS, dSlS, dPart, dNoPart, dM0, dM1, rdSplit, rdJoin, rdStr0, rdStr1, rdIndex, rdIsN, isn_non, isn_int, isn_str, isn_lst, isn_tup, rdEqD, rdCat, rdRep, dOpO, dCBO, rdList_lst, rdList_tup, rdList_str, rdTuple_lst, rdTuple_tup, rdAll, rdIn_sg, rdIx_str, rdIx_lst, rdIx_tup, rdInt_str, rdInt_int, at0, at1, at2, one_len, cast1, castA, castP, Int.ofNat_lt, Int.ofNat_le, Int.ofNat_inj, dYes, dApp, dSeqV, dRetIf, dCopyDic, dItems0, dNeg, dZipA, wipeD, noOwn, dSetRL, dAppRL, dBor1, dSpoil, dSetW, putW, dIsiW, dAppW, dThaw, dMet, dMetN, dMetW, dCallXk, frO, frO1, frS, frS1, thawS1, thawD, thawL, List.mem_singleton, implies_true, false_implies, forall_const, forall_eq', List.map_set, dCut, dCutS, ae_len, dIsi, startD, and_assoc, exists_eq_left, exists_eq_left', exists_eq_right, exists_eq_right', exists_eq, exists_eq', exists_and_left, exists_and_right, exists_const, exists_false, false_and, and_false, true_and, and_true, false_or, or_false, or_true, true_or, if_true, if_false, Bool.false_eq_true, reduceCtorEq, reduceIte, ite_true, ite_false, Option.some.injEq, DS.fr.injEq, DS.ol.injEq, DS.sm.injEq, D.int.injEq, D.str.injEq, D.bl.injEq, D.lst.injEq, D.tup.injEq, V.str.injEq, V.int.injEq, V.bl.injEq, List.cons.injEq, List.getElem?_cons_zero, List.getElem?_cons_succ, List.set_cons_zero, List.set_cons_succ, List.length_cons, List.length_nil, List.length_set, List.map_cons, List.map_nil, List.cons_append, List.nil_append, List.append_nil, List.replicate_succ, List.replicate_zero, List.mem_cons, List.not_mem_nil, forall_eq_or_imp, forall_eq, Nat.reduceAdd, Nat.reduceSub, Nat.reduceLT, Nat.reduceLeDiff, Nat.zero_add, Nat.add_zero, decide_eq_true_eq, decide_eq_false_iff_not, Bool.not_eq_true', Bool.and_eq_true, Bool.or_eq_true, decide_true, decide_false, Bool.not_true, Bool.not_false, id_eq, Option.map_some, Option.map_none, isd_non0, isd_non1, isd_non2, isd_non3, isd_non4, isd_non5, isd_non6, isd_non7, isd_bl0, isd_bl1, isd_bl2, isd_bl3, isd_bl4, isd_bl5, isd_bl6, isd_bl7, isd_int0, isd_int1, isd_int2, isd_int3, isd_int4, isd_int5, isd_int6, isd_int7, isd_str0, isd_str1, isd_str2, isd_str3, isd_str4, isd_str5, isd_str6, isd_str7, isd_lst0, isd_lst1, isd_lst2, isd_lst3, isd_lst4, isd_lst5, isd_lst6, isd_lst7, isd_tup0, isd_tup1, isd_tup2, isd_tup3, isd_tup4, isd_tup5, isd_tup6, isd_tup7, isd_dic0, isd_dic1, isd_dic2, isd_dic3, isd_dic4, isd_dic5, isd_dic6, isd_dic7, ne_eq, not_true_eq_false, not_false_eq_true, implies_true]
      exact hk
  | succ n G__law_same =>
    refine fnF Fu sc__law_same (fun ds kk h => by obtain ⟨x, rfl, _⟩ := h; rfl) fun cdv A outer s H E B hr => ⟨_,
      (psd_cons (psd_if (pq_val (pf_isiT (ts := ["list", "tuple"]) rfl m_isinstance rfl (by decide) (pf_var (pv 1)) (pa_tys2 (pe_bltn rfl m_list PyProof.Rows.boot_list rfl) (pe_bltn rfl m_tuple PyProof.Rows.boot_tuple rfl))))
        (psd_cons (psd_if (PV.pq (pv_or (pq_ne (pf_isi (tn := "list") rfl m_isinstance rfl (pf_var (pv 0)) (pe_bltn rfl m_list PyProof.Rows.boot_list rfl)) (pf_isi (tn := "list") rfl m_isinstance rfl (pf_var (pv 1)) (pe_bltn rfl m_list PyProof.Rows.boot_list rfl))) (pv_or1 (pq_ne (pf_isi (tn := "tuple") rfl m_isinstance rfl (pf_var (pv 0)) (pe_bltn rfl m_tuple PyProof.Rows.boot_tuple rfl)) (pf_isi (tn := "tuple") rfl m_isinstance rfl (pf_var (pv 1)) (pe_bltn rfl m_tuple PyProof.Rows.boot_tuple rfl))))))
        (psd_one (psd_ret pf_bl))
        psd_nil)
        (psd_one (psd_ret (pf_and (pf_eq (pf_len rfl m_len (pf_var (pv 0))) (pf_len rfl m_len (pf_var (pv 1)))) (pf_one (pf_all rfl rfl m_all (PO.pf (po_lc (own := [("mine", 2), ("theirs", 3)]) (dt := dYes) rfl sc__law_same.nd (pid_zipA rfl m_zip (pf_var (pv 0)) (pf_var (pv 1))) (blkOk_by (own := [("mine", 2), ("theirs", 3)]) (N := ["found", "due", "mine", "theirs"]) (sc := defScope s__law_same) (by decide +kernel)) (fun _ _ _ _ _ => (pg_tup (n := 2) rfl (pgs_cons (pg_name (i := 2) sc__law_same.nd rfl (.inl rfl)) (pgs_cons (pg_name (i := 3) sc__law_same.nd rfl (.inl rfl)) pgs_nil)))) (lg_tup (lgs_cons lg_name (lgs_cons lg_name lgs_nil))) (gin_tup (gin_cons (gin_name (by simp)) (gin_cons (gin_name (by simp)) gin_nil))) (fun _ _ _ _ _ => pts_yes) (fun _ _ _ _ _ => (pf_call G__law_same (hr.mono (by omega)) rfl g__law_same kp__law_same b__law_same (pad_cons (pf_var (pv 2)) (pad_cons (pf_var (pv 3)) pad_nil))))))))))))
        psd_nil)
        (psd_cons (psd_if (pq_val (pf_isi (tn := "dict") rfl m_isinstance rfl (pf_var (pv 1)) (pe_bltn rfl m_dict PyProof.Rows.boot_dict rfl)))
        (psd_one (psd_ret (pf_and (pf_isi (tn := "dict") rfl m_isinstance rfl (pf_var (pv 0)) (pe_bltn rfl m_dict PyProof.Rows.boot_dict rfl)) (pf_one (pf_call G__law_same (hr.mono (by omega)) rfl g__law_same kp__law_same b__law_same (pad_cons (pf_items0 rfl rfl m_list (pf_var (pv 0))) (pad_cons (pf_items0 rfl rfl m_list (pf_var (pv 1))) pad_nil)))))))
        psd_nil)
        (psd_cons (psd_if (PV.pq (pv_or (pq_val (pf_isi (tn := "bool") rfl m_isinstance rfl (pf_var (pv 1)) (pe_bltn rfl m_bool PyProof.Rows.boot_bool rfl))) (pv_or1 (pq_val (pf_isi (tn := "bool") rfl m_isinstance rfl (pf_var (pv 0)) (pe_bltn rfl m_bool PyProof.Rows.boot_bool rfl))))))
        (psd_one (psd_ret (pf_and (pf_isi (tn := "bool") rfl m_isinstance rfl (pf_var (pv 1)) (pe_bltn rfl m_bool PyProof.Rows.boot_bool rfl)) (pf_and (pf_isi (tn := "bool") rfl m_isinstance rfl (pf_var (pv 0)) (pe_bltn rfl m_bool PyProof.Rows.boot_bool rfl)) (pf_one (pf_eq (pf_var (pv 0)) (pf_var (pv 1))))))))
        psd_nil)
        (psd_cons (psd_if (PV.pq (pv_or (pq_isN (pf_var (pv 1))) (pv_or1 (pq_isN (pf_var (pv 0))))))
        (psd_one (psd_ret (pf_and (pf_isN (pf_var (pv 1))) (pf_one (pf_isN (pf_var (pv 0)))))))
        psd_nil)
        (psd_cons (psd_if (PV.pq (pv_or (pq_ne (pf_isi (tn := "int") rfl m_isinstance rfl (pf_var (pv 1)) (pe_bltn rfl m_int PyProof.Rows.boot_int rfl)) (pf_isi (tn := "int") rfl m_isinstance rfl (pf_var (pv 0)) (pe_bltn rfl m_int PyProof.Rows.boot_int rfl))) (pv_or1 (pq_ne (pf_isi (tn := "str") rfl m_isinstance rfl (pf_var (pv 1)) (pe_bltn rfl m_str PyProof.Rows.boot_str rfl)) (pf_isi (tn := "str") rfl m_isinstance rfl (pf_var (pv 0)) (pe_bltn rfl m_str PyProof.Rows.boot_str rfl))))))
        (psd_one (psd_ret pf_bl))
        psd_nil)
        (psd_one (psd_ret (pf_and (pf_not (pf_isiT (ts := ["list", "tuple", "dict"]) rfl m_isinstance rfl (by decide) (pf_var (pv 0)) (pa_tys3 (pe_bltn rfl m_list PyProof.Rows.boot_list rfl) (pe_bltn rfl m_tuple PyProof.Rows.boot_tuple rfl) (pe_bltn rfl m_dict PyProof.Rows.boot_dict rfl)))) (pf_one (pf_eq (pf_var (pv 0)) (pf_var (pv 1))))))))))))
      , fun ds kk h => ?_⟩
    obtain ⟨x, rfl, ok, dp, hk⟩ := h
    cases x with
    | ob _ => simp [okC] at ok
    | la _ _ => simp [okC] at ok
    | non =>
      simp only [dSeq, dNext, dSet, dSetO, dVar, dFrz, dC, dOp, dTest, rdI, rdI0, rdEq_ss, rdEq_gs, rdEq_gg, rdEq_ii, rdEq_bb, rdNe_ss, rdNe_gs, rdNe_gg, rdNe_ii, rdNe_bb, dAnd, dOr, dNot, dAndV, dOrV, dNotV, dIf, dNil, dCons, dTup, dLst, dFz, dBreak, dCont, dRet, dRetO, dMove, dIfS, dNever, dDrop, dWhile, dFor, dLc, dSrcL, dSrcT, dSrcS, dRng1, dRng2, dEnumL, dEnumS, dZip, dgName, dgNil, dgCons, dgTup, dPar, mNil, mConsF, mConsO, putD, dAsg, dCB, rdLen, lenD_str, lenD_lst, lenD_tup, dIxV, dLenV, dCall, dCallO, dCallX, dCallXO, dRaise, dCallS, dCallSO, frz_fr, frz_ol, rdAddS, dSlS, dPart, dNoPart, dM0, dM1, rdSplit, rdJoin, rdStr0, rdStr1, rdIndex, rdIsN, isn_non, isn_int, isn_str, isn_lst, isn_tup, rdEqD, rdCat, rdRep, dOpO, dCBO, rdList_lst, rdList_tup, rdList_str, rdTuple_lst, rdTuple_tup, rdAll, rdIn_sg, rdIx_str, rdIx_lst, rdIx_tup, rdInt_str, rdInt_int, at0, at1, at2, one_len, cast1, castA, castP, Int.ofNat_lt, Int.ofNat_le, Int.ofNat_inj, dYes, dApp, dSeqV, dRetIf, dCopyDic, dItems0, dNeg, dZipA, wipeD, noOwn, dSetRL, dAppRL, dBor1, dSpoil, dSetW, putW, dIsiW, dAppW, dThaw, dMet, dMetN, dMetW, dCallXk, frO, frO1, frS, frS1, thawS1, thawD, thawL, List.mem_singleton, implies_true, false_implies, forall_const, forall_eq', List.map_set, dCut, dCutS, ae_len, dIsi, startD, and_assoc, exists_eq_left, exists_eq_left', exists_eq_right, exists_eq_right', exists_eq, exists_eq', exists_and_left, exists_and_right, exists_const, exists_false, false_and, and_false, true_and, and_true, false_or, or_false, or_true, true_or, if_true, if_false, Bool.false_eq_true, reduceCtorEq, reduceIte, ite_true, ite_false, Option.some.injEq, DS.fr.injEq, DS.ol.injEq, DS.sm.injEq, D.int.injEq, D.str.injEq, D.bl.injEq, D.lst.injEq, D.tup.injEq, V.str.injEq, V.int.injEq, V.bl.injEq, List.cons.injEq, List.getElem?_cons_zero, List.getElem?_cons_succ, List.set_cons_zero, List.set_cons_succ, List.length_cons, List.length_nil, List.length_set, List.map_cons, List.map_nil, List.cons_append, List.nil_append, List.append_nil, List.replicate_succ, List.replicate_zero, List.mem_cons, List.not_mem_nil, forall_eq_or_imp, forall_eq, Nat.reduceAdd, Nat.reduceSub, Nat.reduceLT, Nat.reduceLeDiff, Nat.zero_add, Nat.add_zero, decide_eq_true_eq, decide_eq_false_iff_not, Bool.not_eq_true', Bool.and_eq_true, Bool.or_eq_true, decide_true, decide_false, Bool.not_true, Bool.not_false, id_eq, Option.map_some, Option.map_none, isd_non0, isd_non1, isd_non2, isd_non3, isd_non4, isd_non5, isd_non6, isd_non7, isd_bl0, isd_bl1, isd_bl2, isd_bl3, isd_bl4, isd_bl5, isd_bl6, isd_bl7, isd_int0, isd_int1, isd_int2, isd_int3, isd_int4, isd_int5, isd_int6, isd_int7, isd_str0, isd_str1, isd_str2, isd_str3, isd_str4, isd_str5, isd_str6, isd_str7, isd_lst0, isd_lst1, isd_lst2, isd_lst3, isd_lst4, isd_lst5, isd_lst6, isd_lst7, isd_tup0, isd_tup1, isd_tup2, isd_tup3, isd_tup4, isd_tup5, isd_tup6, isd_tup7, isd_dic0, isd_dic1, isd_dic2, isd_dic3, isd_dic4, isd_dic5, isd_dic6, isd_dic7, ne_eq, not_true_eq_false, not_false_eq_true, implies_true]
      exact hk
    | bl _ =>
      simp only [dSeq, dNext, dSet, dSetO, dVar, dFrz, dC, dOp, dTest, rdI, rdI0, rdEq_ss, rdEq_gs, rdEq_gg, rdEq_ii, rdEq_bb, rdNe_ss, rdNe_gs, rdNe_gg, rdNe_ii, rdNe_bb, dAnd, dOr, dNot, dAndV, dOrV, dNotV, dIf, dNil, dCons, dTup, dLst, dFz, dBreak, dCont, dRet, dRetO, dMove, dIfS, dNever, dDrop, dWhile, dFor, dLc, dSrcL, dSrcT, dSrcS, dRng1, dRng2, dEnumL, dEnumS, dZip, dgName, dgNil, dgCons, dgTup, dPar, mNil, mConsF, mConsO, putD, dAsg, dCB, rdLen, lenD_str, lenD_lst, lenD_tup, dIxV, dLenV, dCall, dCallO, dCallX, dCallXO, dRaise, dCallS, dCallSO, frz_fr, frz_ol, rdAddS, dSlS, dPart, dNoPart, dM0, dM1, rdSplit, rdJoin, rdStr0, rdStr1, rdIndex, rdIsN, isn_non, isn_int, isn_str, isn_lst, isn_tup, rdEqD, rdCat, rdRep, dOpO, dCBO, rdList_lst, rdList_tup, rdList_str, rdTuple_lst, rdTuple_tup, rdAll, rdIn_sg, rdIx_str, rdIx_lst, rdIx_tup, rdInt_str, rdInt_int, at0, at1, at2, one_len, cast1, castA, castP, Int.ofNat_lt, Int.ofNat_le, Int.ofNat_inj, dYes, dApp, dSeqV, dRetIf, dCopyDic, dItems0, dNeg, dZipA, wipeD, noOwn, dSetRL, dAppRL, dBor1, dSpoil, dSetW, putW, dIsiW, dAppW, dThaw, dMet, dMetN, dMetW, dCallXk, frO, frO1, frS, frS1, thawS1, thawD, thawL, List.mem_singleton, implies_true, false_implies, forall_const, forall_eq', List.map_set, dCut, dCutS, ae_len, dIsi, startD, and_assoc, exists_eq_left, exists_eq_left', exists_eq_right, exists_eq_right', exists_eq, exists_eq', exists_and_left, exists_and_right, exists_const, exists_false, false_and, and_false, true_and, and_true, false_or, or_false, or_true, true_or, if_true, if_false, Bool.false_eq_true, reduceCtorEq, reduceIte, ite_true, ite_false, Option.some.injEq, DS.fr.injEq, DS.ol.injEq, DS.sm.injEq, D.int.injEq, D.str.injEq, D.bl.injEq, D.lst.injEq, D.tup.injEq, V.str.injEq, V.int.injEq, V.bl.injEq, List.cons.injEq, List.getElem?_cons_zero, List.getElem?_cons_succ, List.set_cons_zero, List.set_cons_succ, List.length_cons, List.length_nil, List.length_set, List.map_cons, List.map_nil, List.cons_append, List.nil_append, List.append_nil, List.replicate_succ, List.replicate_zero, List.mem_cons, List.not_mem_nil, forall_eq_or_imp, forall_eq, Nat.reduceAdd, Nat.reduceSub, Nat.reduceLT, Nat.reduceLeDiff, Nat.zero_add, Nat.add_zero, decide_eq_true_eq, decide_eq_false_iff_not, Bool.not_eq_true', Bool.and_eq_true, Bool.or_eq_true, decide_true, decide_false, Bool.not_true, Bool.not_false, id_eq, Option.map_some, Option.map_none, isd_non0, isd_non1, isd_non2, isd_non3, isd_non4, isd_non5, isd_non6, isd_non7, isd_bl0, isd_bl1, isd_bl2, isd_bl3, isd_bl4, isd_bl5, isd_bl6, isd_bl7, isd_int0, isd_int1, isd_int2, isd_int3, isd_int4, isd_int5, isd_int6, isd_int7, isd_str0, isd_str1, isd_str2, isd_str3, isd_str4, isd_str5, isd_str6, isd_str7, isd_lst0, isd_lst1, isd_lst2, isd_lst3, isd_lst4, isd_lst5, isd_lst6, isd_lst7, isd_tup0, isd_tup1, isd_tup2, isd_tup3, isd_tup4, isd_tup5, isd_tup6, isd_tup7, isd_dic0, isd_dic1, isd_dic2, isd_dic3, isd_dic4, isd_dic5, isd_dic6, isd_dic7, ne_eq, not_true_eq_false, not_false_eq_true, implies_true]
      exact hk
    | int _ =>
      simp only [dSeq, dNext, dSet, dSetO, dVar, dFrz, dC, dOp, dTest, rdI, rdI0, rdEq_ss, rdEq_gs, rdEq_gg, rdEq_ii, rdEq_bb, rdNe_ss, rdNe_gs, rdNe_gg, rdNe_ii, rdNe_bb, dAnd, dOr, dNot, dAndV, dOrV, dNotV, dIf, dNil, dCons, dTup, dLst, dFz, dBreak, dCont, dRet, dRetO, dMove, dIfS, dNever, dDrop, dWhile, dFor, dLc, dSrcL, dSrcT, dSrcS, dRng1, dRng2, dEnumL, dEnumS, dZip, dgName, dgNil, dgCons, dgTup, dPar, mNil, mConsF, mConsO, putD, dAsg, dCB, rdLen, lenD_str, lenD_lst, lenD_tup, dIxV, dLenV, dCall, dCallO, dCallX, dCallXO, dRaise, dCallS, dCallSO, frz_fr, frz_ol, rdAddS, dSlS, dPart, dNoPart, dM0, dM1, rdSplit, rdJoin, rdStr0, rdStr1, rdIndex, rdIsN, isn_non, isn_int, isn_str, isn_lst, isn_tup, rdEqD, rdCat, rdRep, dOpO, dCBO, rdList_lst, rdList_tup, rdList_str, rdTuple_lst, rdTuple_tup, rdAll, rdIn_sg, rdIx_str, rdIx_lst, rdIx_tup, rdInt_str, rdInt_int, at0, at1, at2, one_len, cast1, castA, castP, Int.ofNat_lt, Int.ofNat_le, Int.ofNat_inj, dYes, dApp, dSeqV, dRetIf, dCopyDic, dItems0, dNeg, dZipA, wipeD, noOwn, dSetRL, dAppRL, dBor1, dSpoil, dSetW, putW, dIsiW, dAppW, dThaw, dMet, dMetN, dMetW, dCallXk, frO, frO1, frS, frS1, thawS1, thawD, thawL, List.mem_singleton, implies_true, false_implies, forall_const, forall_eq', List.map_set, dCut, dCutS, ae_len, dIsi, startD, and_assoc, exists_eq_left, exists_eq_left', exists_eq_right, exists_eq_right', exists_eq, exists_eq', exists_and_left, exists_and_right, exists_const, exists_false, false_and, and_false, true_and, and_true, false_or, or_false, or_true, true_or, if_true, if_false, Bool.false_eq_true, reduceCtorEq, reduceIte, ite_true, ite_false, Option.some.injEq, DS.fr.injEq, DS.ol.injEq, DS.sm.injEq, D.int.injEq, D.str.injEq, D.bl.injEq, D.lst.injEq, D.tup.injEq, V.str.injEq, V.int.injEq, V.bl.injEq, List.cons.injEq, List.getElem?_cons_zero, List.getElem?_cons_succ, List.set_cons_zero, List.set_cons_succ, List.length_cons, List.length_nil, List.length_set, List.map_cons, List.map_nil, List.cons_append, List.nil_append, List.append_nil, List.replicate_succ, List.replicate_zero, List.mem_cons, List.not_mem_nil, forall_eq_or_imp, forall_eq, Nat.reduceAdd, Nat.reduceSub, Nat.reduceLT, Nat.reduceLeDiff, Nat.zero_add, Nat.add_zero, decide_eq_true_eq, decide_eq_false_iff_not, Bool.not_eq_true', Bool.and_eq_true, Bool.or_eq_true, decide_true, decide_false, Bool.not_true, Bool.not_false, id_eq, Option.map_some, Option.map_none, isd_non0, isd_non1, isd_non2, isd_non3, isd_non4, isd_non5, isd_non6, isd_non7, isd_bl0, isd_bl1, isd_bl2, isd_bl3, isd_bl4, isd_bl5, isd_bl6, isd_bl7, isd_int0, isd_int1, isd_int2, isd_int3, isd_int4, isd_int5, isd_int6, isd_int7, isd_str0, isd_str1, isd_str2, isd_str3, isd_str4, isd_str5, isd_str6, isd_str7, isd_lst0, isd_lst1, isd_lst2, isd_lst3, isd_lst4, isd_lst5, isd_lst6, isd_lst7, isd_tup0, isd_tup1, isd_tup2, isd_tup3, isd_tup4, isd_tup5, isd_tup6, isd_tup7, isd_dic0, isd_dic1, isd_dic2, isd_dic3, isd_dic4, isd_dic5, isd_dic6, isd_dic7, ne_eq, not_true_eq_false, not_false_eq_true, implies_true]
      exact hk
    | str _ =>
      simp only [dSeq, dNext, dSet, dSetO, dVar, dFrz, dC, dOp, dTest, rdI, rdI0, rdEq_ss, rdEq_gs, rdEq_gg, rdEq_ii, rdEq_bb, rdNe_ss, rdNe_gs, rdNe_gg, rdNe_ii, rdNe_bb, dAnd, dOr, dNot, dAndV, dOrV, dNotV, dIf, dNil, dCons, dTup, dLst, dFz, dBreak, dCont, dRet, dRetO, dMove, dIfS, dNever, dDrop, dWhile, dFor, dLc, dSrcL, dSrcT, dSrcS, dRng1, dRng2, dEnumL, dEnumS, dZip, dgName, dgNil, dgCons, dgTup, dPar, mNil, mConsF, mConsO, putD, dAsg, dCB, rdLen, lenD_str, lenD_lst, lenD_tup, dIxV, dLenV, dCall, dCallO, dCallX, dCallXO, dRaise, dCallS, dCallSO, frz_fr, frz_ol, rdAddS, dSlS, dPart, dNoPart, dM0, dM1, rdSplit, rdJoin, rdStr0, rdStr1, rdIndex, rdIsN, isn_non, isn_int, isn_str, isn_lst, isn_tup, rdEqD, rdCat, rdRep, dOpO, dCBO, rdList_lst, rdList_tup, rdList_str, rdTuple_lst, rdTuple_tup, rdAll, rdIn_sg, rdIx_str, rdIx_lst, rdIx_tup, rdInt_str, rdInt_int, at0, at1, at2, one_len, cast1, castA, castP, Int.ofNat_lt, Int.ofNat_le, Int.ofNat_inj, dYes, dApp, dSeqV, dRetIf, dCopyDic, dItems0, dNeg, dZipA, wipeD, noOwn, dSetRL, dAppRL, dBor1, dSpoil, dSetW, putW, dIsiW, dAppW, dThaw, dMet, dMetN, dMetW, dCallXk, frO, frO1, frS, frS1, thawS1, thawD, thawL, List.mem_singleton, implies_true, false_implies, forall_const, forall_eq', List.map_set, dCut, dCutS, ae_len, dIsi, startD, and_assoc, exists_eq_left, exists_eq_left', exists_eq_right, exists_eq_right', exists_eq, exists_eq', exists_and_left, exists_and_right, exists_const, exists_false, false_and, and_false, true_and, and_true, false_or, or_false, or_true, true_or, if_true, if_false, Bool.false_eq_true, reduceCtorEq, reduceIte, ite_true, ite_false, Option.some.injEq, DS.fr.injEq, DS.ol.injEq, DS.sm.injEq, D.int.injEq, D.str.injEq, D.bl.injEq, D.lst.injEq, D.tup.injEq, V.str.injEq, V.int.injEq, V.bl.injEq, List.cons.injEq, List.getElem?_cons_zero, List.getElem?_cons_succ, List.set_cons_zero, List.set_cons_succ, List.length_cons, List.length_nil, List.length_set, List.map_cons, List.map_nil, List.cons_append, List.nil_append, List.append_nil, List.replicate_succ, List.replicate_zero, List.mem_cons, List.not_mem_nil, forall_eq_or_imp, forall_eq, Nat.reduceAdd, Nat.reduceSub, Nat.reduceLT, Nat.reduceLeDiff, Nat.zero_add, Nat.add_zero, decide_eq_true_eq, decide_eq_false_iff_not, Bool.not_eq_true', Bool.and_eq_true, Bool.or_eq_true, decide_true, decide_false, Bool.not_true, Bool.not_false, id_eq, Option.map_some, Option.map_none, isd_non0, isd_non1, isd_non2, isd_non3, isd_non4, isd_non5, isd_non6, isd_non7, isd_bl0, isd_bl1, isd_bl2, isd_bl3, isd_bl4, isd_bl5, isd_bl6, isd_bl7, isd_int0, isd_int1, isd_int2, isd_int3, isd_int4, isd_int5, isd_int6, isd_int7, isd_str0, isd_str1, isd_str2, isd_str3, isd_str4, isd_str5, isd_str6, isd_str7, isd_lst0, isd_lst1, isd_lst2, isd_lst3, isd_lst4, isd_lst5, isd_lst6, isd_lst7, isd_tup0, isd_tup1, isd_tup2, isd_tup3, isd_tup4, isd_tup5, isd_tup6, isd_tup7, isd_dic0, isd_dic1, isd_dic2, isd_dic3, isd_dic4, isd_dic5, isd_dic6, isd_dic7, ne_eq, not_true_eq_false, not_false_eq_true, implies_true]
      exact hk
    | dic kvs =>
      cases kvs with
      | nil =>
        simp only [dSeq, dNext, dSet, dSetO, dVar, dFrz, dC, dOp, dTest, rdI, rdI0, rdEq_ss, rdEq_gs, rdEq_gg, rdEq_ii, rdEq_bb, rdNe_ss, rdNe_gs, rdNe_gg, rdNe_ii, rdNe_bb, dAnd, dOr, dNot, dAndV, dOrV, dNotV, dIf, dNil, dCons, dTup, dLst, dFz, dBreak, dCont, dRet, dRetO, dMove, dIfS, dNever, dDrop, dWhile, dFor, dLc, dSrcL, dSrcT, dSrcS, dRng1, dRng2, dEnumL, dEnumS, dZip, dgName, dgNil, dgCons, dgTup, dPar, mNil, mConsF, mConsO, putD, dAsg, dCB, rdLen, lenD_str, lenD_lst, lenD_tup, dIxV, dLenV, dCall, dCallO, dCallX, dCallXO, dRaise, dCallS, dCallSO, frz_fr, frz_ol, rdAddS, dSlS, dPart, dNoPart, dM0, dM1, rdSplit, rdJoin, rdStr0, rdStr1, rdIndex, rdIsN, isn_non, isn_int, isn_str, isn_lst, isn_tup, rdEqD, rdCat, rdRep, dOpO, dCBO, rdList_lst, rdList_tup, rdList_str, rdTuple_lst, rdTuple_tup, rdAll, rdIn_sg, rdIx_str, rdIx_lst, rdIx_tup, rdInt_str, rdInt_int, at0, at1, at2, one_len, cast1, castA, castP, Int.ofNat_lt, Int.ofNat_le, Int.ofNat_inj, dYes, dApp, dSeqV, dRetIf, dCopyDic, dItems0, dNeg, dZipA, wipeD, noOwn, dSetRL, dAppRL, dBor1, dSpoil, dSetW, putW, dIsiW, dAppW, dThaw, dMet, dMetN, dMetW, dCallXk, frO, frO1, frS, frS1, thawS1, thawD, thawL, List.mem_singleton, implies_true, false_implies, forall_const, forall_eq', List.map_set, dCut, dCutS, ae_len, dIsi, startD, and_assoc, exists_eq_left, exists_eq_left', exists_eq_right, exists_eq_right', exists_eq, exists_eq', exists_and_left, exists_and_right, exists_const, exists_false, false_and, and_false, true_and, and_true, false_or, or_false, or_true, true_or, if_true, if_false, Bool.false_eq_true, reduceCtorEq, reduceIte, ite_true, ite_false, Option.some.injEq, DS.fr.injEq, DS.ol.injEq, DS.sm.injEq, D.int.injEq, D.str.injEq, D.bl.injEq, D.lst.injEq, D.tup.injEq, V.str.injEq, V.int.injEq, V.bl.injEq, List.cons.injEq, List.getElem?_cons_zero, List.getElem?_cons_succ, List.set_cons_zero, List.set_cons_succ, List.length_cons, List.length_nil, List.length_set, List.map_cons, List.map_nil, List.cons_append, List.nil_append, List.append_nil, List.replicate_succ, List.replicate_zero, List.mem_cons, List.not_mem_nil, forall_eq_or_imp, forall_eq, Nat.reduceAdd, Nat.reduceSub, Nat.reduceLT, Nat.reduceLeDiff, Nat.zero_add, Nat.add_zero, decide_eq_true_eq, decide_eq_false_iff_not, Bool.not_eq_true', Bool.and_eq_true, Bool.or_eq_true, decide_true, decide_false, Bool.not_true, Bool.not_false, id_eq, Option.map_some, Option.map_none, isd_non0, isd_non1, isd_non2, isd_non3, isd_non4, isd_non5, isd_non6, isd_non7, isd_bl0, isd_bl1, isd_bl2, isd_bl3, isd_bl4, isd_bl5, isd_bl6, isd_bl7, isd_int0, isd_int1, isd_int2, isd_int3, isd_int4, isd_int5, isd_int6, isd_int7, isd_str0, isd_str1, isd_str2, isd_str3, isd_str4, isd_str5, isd_str6, isd_str7, isd_lst0, isd_lst1, isd_lst2, isd_lst3, isd_lst4, isd_lst5, isd_lst6, isd_lst7, isd_tup0, isd_tup1, isd_tup2, isd_tup3, isd_tup4, isd_tup5, isd_tup6, isd_tup7, isd_dic0, isd_dic1, isd_dic2, isd_dic3, isd_dic4, isd_dic5, isd_dic6, isd_dic7, ne_eq, not_true_eq_false, not_false_eq_true, implies_true]
        refine ⟨_, rfl, by decide, ?_, ?_⟩
        · simp [dpC, dpCL] at dp ⊢
          omega
        · exact ⟨_, rfl, hk⟩
      | cons _ _ => simp [okC] at ok
    | lst ds =>
      have ok1 : ds.length ≤ 1000000 ∧ okCL ds = true := by
        unfold okC at ok
        simp only [Bool.and_eq_true, decide_eq_true_eq] at ok
        exact ok
      have dp1 : dpCL ds ≤ n := by unfold dpC at dp; omega
      simp only [dSeq, dNext, dSet, dSetO, dVar, dFrz, dC, dOp, dTest, rdI, rdI0, rdEq_ss, rdEq_gs, rdEq_gg, rdEq_ii, rdEq_bb, rdNe_ss, rdNe_gs, rdNe_gg, rdNe_ii, rdNe_bb, dAnd, dOr, dNot, dAndV, dOrV, dNotV, dIf, dNil, dCons, dTup, dLst, dFz, dBreak, dCont, dRet, dRetO, dMove, dIfS, dNever, dDrop, dWhile, dFor, dLc, dSrcL, dSrcT, dSrcS, dRng1, dRng2, dEnumL, dEnumS, dZip, dgName, dgNil, dgCons, dgTup, dPar, mNil, mConsF, mConsO, putD, dAsg, dCB, rdLen, lenD_str, lenD_lst, lenD_tup, dIxV, dLenV, dCall, dCallO, dCallX, dCallXO, dRaise, dCallS, dCallSO, frz_fr, frz_ol, rdAddS, dSlS, dPart, dNoPart, dM0, dM1, rdSplit, rdJoin, rdStr0, rdStr1, rdIndex, rdIsN, isn_non, isn_int, isn_str, isn_lst, isn_tup, rdEqD, rdCat, rdRep, dOpO, dCBO, rdList_lst, rdList_tup, rdList_str, rdTuple_lst, rdTuple_tup, rdAll, rdIn_sg, rdIx_str, rdIx_lst, rdIx_tup, rdInt_str, rdInt_int, at0, at1, at2, one_len, cast1, castA, castP, Int.ofNat_lt, Int.ofNat_le, Int.ofNat_inj, dYes, dApp, dSeqV, dRetIf, dCopyDic, dItems0, dNeg, dZipA, wipeD, noOwn, dSetRL, dAppRL, dBor1, dSpoil, dSetW, putW, dIsiW, dAppW, dThaw, dMet, dMetN, dMetW, dCallXk, frO, frO1, frS, frS1, thawS1, thawD, thawL, List.mem_singleton, implies_true, false_implies, forall_const, forall_eq', List.map_set, dCut, dCutS, ae_len, dIsi, startD, and_assoc, exists_eq_left, exists_eq_left', exists_eq_right, exists_eq_right', exists_eq, exists_eq', exists_and_left, exists_and_right, exists_const, exists_false, false_and, and_false, true_and, and_true, false_or, or_false, or_true, true_or, if_true, if_false, Bool.false_eq_true, reduceCtorEq, reduceIte, ite_true, ite_false, Option.some.injEq, DS.fr.injEq, DS.ol.injEq, DS.sm.injEq, D.int.injEq, D.str.injEq, D.bl.injEq, D.lst.injEq, D.tup.injEq, V.str.injEq, V.int.injEq, V.bl.injEq, List.cons.injEq, List.getElem?_cons_zero, List.getElem?_cons_succ, List.set_cons_zero, List.set_cons_succ, List.length_cons, List.length_nil, List.length_set, List.map_cons, List.map_nil, List.cons_append, List.nil_append, List.append_nil, List.replicate_succ, List.replicate_zero, List.mem_cons, List.not_mem_nil, forall_eq_or_imp, forall_eq, Nat.reduceAdd, Nat.reduceSub, Nat.reduceLT, Nat.reduceLeDiff, Nat.zero_add, Nat.add_zero, decide_eq_true_eq, decide_eq_false_iff_not, Bool.not_eq_true', Bool.and_eq_true, Bool.or_eq_true, decide_true, decide_false, Bool.not_true, Bool.not_false, id_eq, Option.map_some, Option.map_none, isd_non0, isd_non1, isd_non2, isd_non3, isd_non4, isd_non5, isd_non6, isd_non7, isd_bl0, isd_bl1, isd_bl2, isd_bl3, isd_bl4, isd_bl5, isd_bl6, isd_bl7, isd_int0, isd_int1, isd_int2, isd_int3, isd_int4, isd_int5, isd_int6, isd_int7, isd_str0, isd_str1, isd_str2, isd_str3, isd_str4, isd_str5, isd_str6, isd_str7, isd_lst0, isd_lst1, isd_lst2, isd_lst3, isd_lst4, isd_lst5, isd_lst6, isd_lst7, isd_tup0, isd_tup1, isd_tup2, isd_tup3, isd_tup4, isd_tup5, isd_tup6, isd_tup7, isd_dic0, isd_dic1, isd_dic2, isd_dic3, isd_dic4, isd_dic5, isd_dic6, isd_dic7, ne_eq, not_true_eq_false, not_false_eq_true, implies_true]
      refine ⟨by rw [zipD_len]; omega, fun i acc ρ => ρ = [some (.fr (.lst ds)), some (.fr (.lst ds)), none, none] ∧ acc = List.map .bl (List.replicate i true), ⟨rfl, rfl⟩, ?_, ?_⟩
      · rintro i y acc ρ hi _ ⟨rfl, rfl⟩
        obtain ⟨d, hd, rfl⟩ := zipD_same hi
        simp only [dSeq, dNext, dSet, dSetO, dVar, dFrz, dC, dOp, dTest, rdI, rdI0, rdEq_ss, rdEq_gs, rdEq_gg, rdEq_ii, rdEq_bb, rdNe_ss, rdNe_gs, rdNe_gg, rdNe_ii, rdNe_bb, dAnd, dOr, dNot, dAndV, dOrV, dNotV, dIf, dNil, dCons, dTup, dLst, dFz, dBreak, dCont, dRet, dRetO, dMove, dIfS, dNever, dDrop, dWhile, dFor, dLc, dSrcL, dSrcT, dSrcS, dRng1, dRng2, dEnumL, dEnumS, dZip, dgName, dgNil, dgCons, dgTup, dPar, mNil, mConsF, mConsO, putD, dAsg, dCB, rdLen, lenD_str, lenD_lst, lenD_tup, dIxV, dLenV, dCall, dCallO, dCallX, dCallXO, dRaise, dCallS, dCallSO, frz_fr, frz_ol, rdAddS, dSlS, dPart, dNoPart, dM0, dM1, rdSplit, rdJoin, rdStr0, rdStr1, rdIndex, rdIsN, isn_non, isn_int, isn_str, isn_lst, isn_tup, rdEqD, rdCat, rdRep, dOpO, dCBO, rdList_lst, rdList_tup, rdList_str, rdTuple_lst, rdTuple_tup, rdAll, rdIn_sg, rdIx_str, rdIx_lst, rdIx_tup, rdInt_str, rdInt_int, at0, at1, at2, one_len, cast1, castA, castP, Int.ofNat_lt, Int.ofNat_le, Int.ofNat_inj, dYes, dApp, dSeqV, dRetIf, dCopyDic, dItems0, dNeg, dZipA, wipeD, noOwn, dSetRL, dAppRL, dBor1, dSpoil, dSetW, putW, dIsiW, dAppW, dThaw, dMet, dMetN, dMetW, dCallXk, frO, frO1, frS, frS1, thawS1, thawD, thawL, List.mem_singleton, implies_true, false_implies, forall_const, forall_eq', List.map_set, dCut, dCutS, ae_len, dIsi, startD, and_assoc, exists_eq_left, exists_eq_left', exists_eq_right, exists_eq_right', exists_eq, exists_eq', exists_and_left, exists_and_right, exists_const, exists_false, false_and, and_false, true_and, and_true, false_or, or_false, or_true, true_or, if_true, if_false, Bool.false_eq_true, reduceCtorEq, reduceIte, ite_true, ite_false, Option.some.injEq, DS.fr.injEq, DS.ol.injEq, DS.sm.injEq, D.int.injEq, D.str.injEq, D.bl.injEq, D.lst.injEq, D.tup.injEq, V.str.injEq, V.int.injEq, V.bl.injEq, List.cons.injEq, List.getElem?_cons_zero, List.getElem?_cons_succ, List.set_cons_zero, List.set_cons_succ, List.length_cons, List.length_nil, List.length_set, List.map_cons, List.map_nil, List.cons_append, List.nil_append, List.append_nil, List.replicate_succ, List.replicate_zero, List.mem_cons, List.not_mem_nil, forall_eq_or_imp, forall_eq, Nat.reduceAdd, Nat.reduceSub, Nat.reduceLT, Nat.reduceLeDiff, Nat.zero_add, Nat.add_zero, decide_eq_true_eq, decide_eq_false_iff_not, Bool.not_eq_true', Bool.and_eq_true, Bool.or_eq_true, decide_true, decide_false, Bool.not_true, Bool.not_false, id_eq, Option.map_some, Option.map_none]
        refine ⟨d, rfl, okCL_at ok1.2 hd, Nat.le_trans (dpCL_at hd) dp1, ?_⟩
        simp only [dSeq, dNext, dSet, dSetO, dVar, dFrz, dC, dOp, dTest, rdI, rdI0, rdEq_ss, rdEq_gs, rdEq_gg, rdEq_ii, rdEq_bb, rdNe_ss, rdNe_gs, rdNe_gg, rdNe_ii, rdNe_bb, dAnd, dOr, dNot, dAndV, dOrV, dNotV, dIf, dNil, dCons, dTup, dLst, dFz, dBreak, dCont, dRet, dRetO, dMove, dIfS, dNever, dDrop, dWhile, dFor, dLc, dSrcL, dSrcT, dSrcS, dRng1, dRng2, dEnumL, dEnumS, dZip, dgName, dgNil, dgCons, dgTup, dPar, mNil, mConsF, mConsO, putD, dAsg, dCB, rdLen, lenD_str, lenD_lst, lenD_tup, dIxV, dLenV, dCall, dCallO, dCallX, dCallXO, dRaise, dCallS, dCallSO, frz_fr, frz_ol, rdAddS, dSlS, dPart, dNoPart, dM0, dM1, rdSplit, rdJoin, rdStr0, rdStr1, rdIndex, rdIsN, isn_non, isn_int, isn_str, isn_lst, isn_tup, rdEqD, rdCat, rdRep, dOpO, dCBO, rdList_lst, rdList_tup, rdList_str, rdTuple_lst, rdTuple_tup, rdAll, rdIn_sg, rdIx_str, rdIx_lst, rdIx_tup, rdInt_str, rdInt_int, at0, at1, at2, one_len, cast1, castA, castP, Int.ofNat_lt, Int.ofNat_le, Int.ofNat_inj, dYes, dApp, dSeqV, dRetIf, dCopyDic, dItems0, dNeg, dZipA, wipeD, noOwn, dSetRL, dAppRL, dBor1, dSpoil, dSetW, putW, dIsiW, dAppW, dThaw, dMet, dMetN, dMetW, dCallXk, frO, frO1, frS, frS1, thawS1, thawD, thawL, List.mem_singleton, implies_true, false_implies, forall_const, forall_eq', List.map_set, dCut, dCutS, ae_len, dIsi, startD, and_assoc, exists_eq_left, exists_eq_left', exists_eq_right, exists_eq_right', exists_eq, exists_eq', exists_and_left, exists_and_right, exists_const, exists_false, false_and, and_false, true_and, and_true, false_or, or_false, or_true, true_or, if_true, if_false, Bool.false_eq_true, reduceCtorEq, reduceIte, ite_true, ite_false, Option.some.injEq, DS.fr.injEq, DS.ol.injEq, DS.sm.injEq, D.int.injEq, D.str.injEq, D.bl.injEq, D.lst.injEq, D.tup.injEq, V.str.injEq, V.int.injEq, V.bl.injEq, List.cons.injEq, List.getElem?_cons_zero, List.getElem?_cons_succ, List.set_cons_zero, List.set_cons_succ, List.length_cons, List.length_nil, List.length_set, List.map_cons, List.map_nil, List.cons_append, List.nil_append, List.append_nil, List.replicate_succ, List.replicate_zero, List.mem_cons, List.not_mem_nil, forall_eq_or_imp, forall_eq, Nat.reduceAdd, Nat.reduceSub, Nat.reduceLT, Nat.reduceLeDiff, Nat.zero_add, Nat.add_zero, decide_eq_true_eq, decide_eq_false_iff_not, Bool.not_eq_true', Bool.and_eq_true, Bool.or_eq_true, decide_true, decide_false, Bool.not_true, Bool.not_false, id_eq, Option.map_some, Option.map_none, ne_eq, not_true_eq_false, not_false_eq_true, implies_true]
        exact reps_more
      · rintro acc ρ ⟨rfl, rfl⟩
        refine ⟨_, rfl, ?_⟩
        rw [all_reps]
        exact hk
    | tup ds =>
      have ok1 : ds.length ≤ 1000000 ∧ okCL ds = true := by
        unfold okC at ok
        simp only [Bool.and_eq_true, decide_eq_true_eq] at ok
        exact ok
      have dp1 : dpCL ds ≤ n := by unfold dpC at dp; omega
      simp only [dSeq, dNext, dSet, dSetO, dVar, dFrz, dC, dOp, dTest, rdI, rdI0, rdEq_ss, rdEq_gs, rdEq_gg, rdEq_ii, rdEq_bb, rdNe_ss, rdNe_gs, rdNe_gg, rdNe_ii, rdNe_bb, dAnd, dOr, dNot, dAndV, dOrV, dNotV, dIf, dNil, dCons, dTup, dLst, dFz, dBreak, dCont, dRet, dRetO, dMove, dIfS, dNever, dDrop, dWhile, dFor, dLc, dSrcL, dSrcT, dSrcS, dRng1, dRng2, dEnumL, dEnumS, dZip, dgName, dgNil, dgCons, dgTup, dPar, mNil, mConsF, mConsO, putD, dAsg, dCB, rdLen, lenD_str, lenD_lst, lenD_tup, dIxV, dLenV, dCall, dCallO, dCallX, dCallXO, dRaise, dCallS, dCallSO, frz_fr, frz_ol, rdAddS, dSlS, dPart, dNoPart, dM0, dM1, rdSplit, rdJoin, rdStr0, rdStr1, rdIndex, rdIsN, isn_non, isn_int, isn_str, isn_lst, isn_tup, rdEqD, rdCat, rdRep, dOpO, dCBO, rdList_lst, rdList_tup, rdList_str, rdTuple_lst, rdTuple_tup, rdAll, rdIn_sg, rdIx_str, rdIx_lst, rdIx_tup, rdInt_str, rdInt_int, at0, at1, at2, one_len, cast1, castA, castP, Int.ofNat_lt, Int.ofNat_le, Int.ofNat_inj, dYes, dApp, dSeqV, dRetIf, dCopyDic, dItems0, dNeg, dZipA, wipeD, noOwn, dSetRL, dAppRL, dBor1, dSpoil, dSetW, putW, dIsiW, dAppW, dThaw, dMet, dMetN, dMetW, dCallXk, frO, frO1, frS, frS1, thawS1, thawD, thawL, List.mem_singleton, implies_true, false_implies, forall_const, forall_eq', List.map_set, dCut, dCutS, ae_len, dIsi, startD, and_assoc, exists_eq_left, exists_eq_left', exists_eq_right, exists_eq_right', exists_eq, exists_eq', exists_and_left, exists_and_right, exists_const, exists_false, false_and, and_false, true_and, and_true, false_or, or_false, or_true, true_or, if_true, if_false, Bool.false_eq_true, reduceCtorEq, reduceIte, ite_true, ite_false, Option.some.injEq, DS.fr.injEq, DS.ol.injEq, DS.sm.injEq, D.int.injEq, D.str.injEq, D.bl.injEq, D.lst.injEq, D.tup.injEq, V.str.injEq, V.int.injEq, V.bl.injEq, List.cons.injEq, List.getElem?_cons_zero, List.getElem?_cons_succ, List.set_cons_zero, List.set_cons_succ, List.length_cons, List.length_nil, List.length_set, List.map_cons, List.map_nil, List.cons_append, List.nil_append, List.append_nil, List.replicate_succ, List.replicate_zero, List.mem_cons, List.not_mem_nil, forall_eq_or_imp, forall_eq, Nat.reduceAdd, Nat.reduceSub, Nat.reduceLT, Nat.reduceLeDiff, Nat.zero_add, Nat.add_zero, decide_eq_true_eq, decide_eq_false_iff_not, Bool.not_eq_true', Bool.and_eq_true, Bool.or_eq_true, decide_true, decide_false, Bool.not_true, Bool.not_false, id_eq, Option.map_some, Option.map_none, isd_non0, isd_non1, isd_non2, isd_non3, isd_non4, isd_non5, isd_non6, isd_non7, isd_bl0, isd_bl1, isd_bl2, isd_bl3, isd_bl4, isd_bl5, isd_bl6, isd_bl7, isd_int0, isd_int1, isd_int2, isd_int3, isd_int4, isd_int5, isd_int6, isd_int7, isd_str0, isd_str1, isd_str2, isd_str3, isd_str4, isd_str5, isd_str6, isd_str7, isd_lst0, isd_lst1, isd_lst2, isd_lst3, isd_lst4, isd_lst5, isd_lst6, isd_lst7, isd_tup0, isd_tup1, isd_tup2, isd_tup3, isd_tup4, isd_tup5, isd_tup6, isd_tup7, isd_dic0, isd_dic1, isd_dic2, isd_dic3, isd_dic4, isd_dic5, isd_dic6, isd_dic7, ne_eq, not_true_eq_false, not_false_eq_true, implies_true]
      refine ⟨by rw [zipD_len]; omega, fun i acc ρ => ρ = [some (.fr (.tup ds)), some (.fr (.tup ds)), none, none] ∧ acc = List.map .bl (List.replicate i true), ⟨rfl, rfl⟩, ?_, ?_⟩
      · rintro i y acc ρ hi _ ⟨rfl, rfl⟩
        obtain ⟨d, hd, rfl⟩ := zipD_same hi
        simp only [dSeq, dNext, dSet, dSetO, dVar, dFrz, dC, dOp, dTest, rdI, rdI0, rdEq_ss, rdEq_gs, rdEq_gg, rdEq_ii, rdEq_bb, rdNe_ss, rdNe_gs, rdNe_gg, rdNe_ii, rdNe_bb, dAnd, dOr, dNot, dAndV, dOrV, dNotV, dIf, dNil, dCons, dTup, dLst, dFz, dBreak, dCont, dRet, dRetO, dMove, dIfS, dNever, dDrop, dWhile, dFor, dLc, dSrcL, dSrcT, dSrcS, dRng1, dRng2, dEnumL, dEnumS, dZip, dgName, dgNil, dgCons, dgTup, dPar, mNil, mConsF, mConsO, putD, dAsg, dCB, rdLen, lenD_str, lenD_lst, lenD_tup, dIxV, dLenV, dCall, dCallO, dCallX, dCallXO, dRaise, dCallS, dCallSO, frz_fr, frz_ol, rdAddS, dSlS, dPart, dNoPart, dM0, dM1, rdSplit, rdJoin, rdStr0, rdStr1, rdIndex, rdIsN, isn_non, isn_int, isn_str, isn_lst, isn_tup, rdEqD, rdCat, rdRep, dOpO, dCBO, rdList_lst, rdList_tup, rdList_str, rdTuple_lst, rdTuple_tup, rdAll, rdIn_sg, rdIx_str, rdIx_lst, rdIx_tup, rdInt_str, rdInt_int, at0, at1, at2, one_len, cast1, castA, castP, Int.ofNat_lt, Int.ofNat_le, Int.ofNat_inj, dYes, dApp, dSeqV, dRetIf, dCopyDic, dItems0, dNeg, dZipA, wipeD, noOwn, dSetRL, dAppRL, dBor1, dSpoil, dSetW, putW, dIsiW, dAppW, dThaw, dMet, dMetN, dMetW, dCallXk, frO, frO1, frS, frS1, thawS1, thawD, thawL, List.mem_singleton, implies_true, false_implies, forall_const, forall_eq', List.map_set, dCut, dCutS, ae_len, dIsi, startD, and_assoc, exists_eq_left, exists_eq_left', exists_eq_right, exists_eq_right', exists_eq, exists_eq', exists_and_left, exists_and_right, exists_const, exists_false, false_and, and_false, true_and, and_true, false_or, or_false, or_true, true_or, if_true, if_false, Bool.false_eq_true, reduceCtorEq, reduceIte, ite_true, ite_false, Option.some.injEq, DS.fr.injEq, DS.ol.injEq, DS.sm.injEq, D.int.injEq, D.str.injEq, D.bl.injEq, D.lst.injEq, D.tup.injEq, V.str.injEq, V.int.injEq, V.bl.injEq, List.cons.injEq, List.getElem?_cons_zero, List.getElem?_cons_succ, List.set_cons_zero, List.set_cons_succ, List.length_cons, List.length_nil, List.length_set, List.map_cons, List.map_nil, List.cons_append, List.nil_append, List.append_nil, List.replicate_succ, List.replicate_zero, List.mem_cons, List.not_mem_nil, forall_eq_or_imp, forall_eq, Nat.reduceAdd, Nat.reduceSub, Nat.reduceLT, Nat.reduceLeDiff, Nat.zero_add, Nat.add_zero, decide_eq_true_eq, decide_eq_false_iff_not, Bool.not_eq_true', Bool.and_eq_true, Bool.or_eq_true, decide_true, decide_false, Bool.not_true, Bool.not_false, id_eq, Option.map_some, Option.map_none]
        refine ⟨d, rfl, okCL_at ok1.2 hd, Nat.le_trans (dpCL_at hd) dp1, ?_⟩
        simp only [dSeq, dNext, dSet, dSetO, dVar, dFrz, dC, dOp, dTest, rdI, rdI0, rdEq_ss, rdEq_gs, rdEq_gg, rdEq_ii, rdEq_bb, rdNe_ss, rdNe_gs, rdNe_gg, rdNe_ii, rdNe_bb, dAnd, dOr, dNot, dAndV, dOrV, dNotV, dIf, dNil, dCons, dTup, dLst, dFz, dBreak, dCont, dRet, dRetO, dMove, dIfS, dNever, dDrop, dWhile, dFor, dLc, dSrcL, dSrcT, dSrcS, dRng1, dRng2, dEnumL, dEnumS, dZip, dgName, dgNil, dgCons, dgTup, dPar, mNil, mConsF, mConsO, putD, dAsg, dCB, rdLen, lenD_str, lenD_lst, lenD_tup, dIxV, dLenV, dCall, dCallO, dCallX, dCallXO, dRaise, dCallS, dCallSO, frz_fr, frz_ol, rdAddS, dSlS, dPart, dNoPart, dM0, dM1, rdSplit, rdJoin, rdStr0, rdStr1, rdIndex, rdIsN, isn_non, isn_int, isn_str, isn_lst, isn_tup, rdEqD, rdCat, rdRep, dOpO, dCBO, rdList_lst, rdList_tup, rdList_str, rdTuple_lst, rdTuple_tup, rdAll, rdIn_sg, rdIx_str, rdIx_lst, rdIx_tup, rdInt_str, rdInt_int, at0, at1, at2, one_len, cast1, castA, castP, Int.ofNat_lt, Int.ofNat_le, Int.ofNat_inj, dYes, dApp, dSeqV, dRetIf, dCopyDic, dItems0, dNeg, dZipA, wipeD, noOwn, dSetRL, dAppRL, dBor1, dSpoil, dSetW, putW, dIsiW, dAppW, dThaw, dMet, dMetN, dMetW, dCallXk, frO, frO1, frS, frS1, thawS1, thawD, thawL, List.mem_singleton, implies_true, false_implies, forall_const, forall_eq', List.map_set, dCut, dCutS, ae_len, dIsi, startD, and_assoc, exists_eq_left, exists_eq_left', exists_eq_right, exists_eq_right', exists_eq, exists_eq', exists_and_left, exists_and_right, exists_const, exists_false, false_and, and_false, true_and, and_true, false_or, or_false, or_true, true_or, if_true, if_false, Bool.false_eq_true, reduceCtorEq, reduceIte, ite_true, ite_false, Option.some.injEq, DS.fr.injEq, DS.ol.injEq, DS.sm.injEq, D.int.injEq, D.str.injEq, D.bl.injEq, D.lst.injEq, D.tup.injEq, V.str.injEq, V.int.injEq, V.bl.injEq, List.cons.injEq, List.getElem?_cons_zero, List.getElem?_cons_succ, List.set_cons_zero, List.set_cons_succ, List.length_cons, List.length_nil, List.length_set, List.map_cons, List.map_nil, List.cons_append, List.nil_append, List.append_nil, List.replicate_succ, List.replicate_zero, List.mem_cons, List.not_mem_nil, forall_eq_or_imp, forall_eq, Nat.reduceAdd, Nat.reduceSub, Nat.reduceLT, Nat.reduceLeDiff, Nat.zero_add, Nat.add_zero, decide_eq_true_eq, decide_eq_false_iff_not, Bool.not_eq_true', Bool.and_eq_true, Bool.or_eq_true, decide_true, decide_false, Bool.not_true, Bool.not_false, id_eq, Option.map_some, Option.map_none, ne_eq, not_true_eq_false, not_false_eq_true, implies_true]
        exact reps_more
      · rintro acc ρ ⟨rfl, rfl⟩
        refine ⟨_, rfl, ?_⟩
        rw [all_reps]
        exact hk
end
end K24
end

section
namespace K24
open PySem PySem.Spec PyProof.Rows L2 Sa LamX
abbrev metHs (C1 C2 : Addr) : Hs := [(C1, "text", "text"), (C2, "unread", "at")]
abbrev metN : List Str := ["ask", "e"]
theorem gives__law_met {X : Cx} {g C1 C2 : Addr} {cdv : Value} {q : Str} (g1 : X.mg "NoText" = some (.ref C1)) (g2 : X.mg "Unread" = some (.ref C2)) (F1 : FldC X.K C1 "text") (F2 : FldC X.K C2 "at") :
    GivesTo X metN "_law_met" (defScope s__law_met) g cdv (defBody s__law_met) "ask" q (TMet X.K 2 1 (metHs C1 C2) "told") := by
  refine met_gives (Ng := metN) (i := 1) (hs := metHs C1 C2) (tag := "told") sc__law_met.nd (fun f => rfl) (fun s H => ?_)
  refine .cons ⟨rfl, by decide, .inl g1⟩ rfl rfl (fun p ob cls d pn hz hf => pss_one (ps_ret (pe_tup (pa_cons pe_str (pa_cons (pe_fld F1 hz hf (pe_len (pv 1))) pa_nil))))) ?_
  refine .cons ⟨rfl, by decide, .inl g2⟩ rfl rfl (fun p ob cls d pn hz hf => pss_one (ps_ret (pe_tup (pa_cons pe_str (pa_cons (pe_fld F2 hz hf (pe_len (pv 1))) pa_nil))))) ?_
  exact .nil
end K24
end

section
namespace K24
open PySem PySem.Spec PyProof.Rows L2 Sa LamX
/-- data of depth at most n with at most m lists -/
structure PlD (d : D) (n m : Nat) : Prop where
  ok : okC d = true
  dp : dpC d ≤ n
  sp : spoilD d = true
  dd : dpD d ≤ n
  nl : nlD d ≤ m
theorem PlD.mono {d : D} {n m n' m' : Nat} (h : PlD d n m) (h1 : n ≤ n') (h2 : m ≤ m') : PlD d n' m' := ⟨h.ok, Nat.le_trans h.dp h1, h.sp, Nat.le_trans h.dd h1, Nat.le_trans h.nl h2⟩
structure PlL (ds : List D) (n m : Nat) : Prop where
  ok : okCL ds = true
  dp : dpCL ds ≤ n
  sp : spoilL ds = true
  dd : dpL ds ≤ n
  nl : nlL ds ≤ m
theorem PlL.nil {n m : Nat} : PlL [] n m := ⟨rfl, Nat.zero_le _, rfl, Nat.zero_le _, Nat.zero_le _⟩
theorem PlL.cons {d : D} {ds : List D} {n m k : Nat} (h : PlD d n m) (g : PlL ds n k) : PlL (d :: ds) n (m + k) := by
  refine ⟨?_, ?_, ?_, ?_, ?_⟩
  · unfold okCL; rw [h.ok, g.ok]; rfl
  · unfold dpCL; exact Nat.max_le.mpr ⟨h.dp, g.dp⟩
  · unfold spoilL; rw [h.sp, g.sp]; rfl
  · unfold dpL; exact Nat.max_le.mpr ⟨h.dd, g.dd⟩
  · unfold nlL; have := h.nl; have := g.nl; omega
theorem PlL.of {n m : Nat} : ∀ {ds : List D}, (∀ d ∈ ds, PlD d n m) → PlL ds n (ds.length * m)
  | [], _ => PlL.nil
  | d :: ds, h => by
    have := PlL.cons (h d (by simp)) (PlL.of (ds := ds) fun e he => h e (by simp [he]))
    rw [List.length_cons, Nat.add_mul, Nat.one_mul, Nat.add_comm]
    exact this
theorem PlL.mono {ds : List D} {n m n' m' : Nat} (h : PlL ds n m) (h1 : n ≤ n') (h2 : m ≤ m') : PlL ds n' m' := ⟨h.ok, Nat.le_trans h.dp h1, h.sp, Nat.le_trans h.dd h1, Nat.le_trans h.nl h2⟩
theorem PlL.lst {ds : List D} {n m : Nat} (h : PlL ds n m) (hl : ds.length ≤ 1000000) : PlD (.lst ds) (n + 1) (m + 1) := by
  refine ⟨?_, ?_, ?_, ?_, ?_⟩
  · unfold okC; rw [h.ok]; simpa using hl
  · unfold dpC; have := h.dp; omega
  · unfold spoilD; rw [h.sp]; simpa using hl
  · unfold dpD; have := h.dd; omega
  · unfold nlD; have := h.nl; omega
theorem PlL.tup {ds : List D} {n m : Nat} (h : PlL ds n m) (hl : ds.length ≤ 1000000) : PlD (.tup ds) (n + 1) m := by
  refine ⟨?_, ?_, ?_, ?_, ?_⟩
  · unfold okC; rw [h.ok]; simpa using hl
  · unfold dpC; have := h.dp; omega
  · unfold spoilD; rw [h.sp]; simpa using hl
  · unfold dpD; have := h.dd; omega
  · unfold nlD; exact h.nl
theorem PlD.int {i : Int} : PlD (.int i) 0 0 := ⟨rfl, Nat.le_refl _, rfl, Nat.le_refl _, Nat.le_refl _⟩
theorem PlD.str {x : Str} : PlD (.str x) 0 0 := ⟨rfl, Nat.le_refl _, rfl, Nat.le_refl _, Nat.le_refl _⟩
theorem pl3 {a b c : D} (h1 : PlD a 0 0) (h2 : PlD b 0 0) (h3 : PlD c 0 0) : PlD (.tup [a, b, c]) 1 0 := (PlL.cons h1 (PlL.cons h2 (PlL.cons h3 (PlL.nil (m := 0))))).tup (by simp)
theorem pl2 {a b : D} {n m k : Nat} (h1 : PlD a n m) (h2 : PlD b n k) : PlD (.tup [a, b]) (n + 1) (m + k) := (PlL.cons h1 (PlL.cons h2 (PlL.nil (m := 0)))).tup (by simp)
theorem tk_toks : ∀ (n : Nat) (l : List Nat) (p : Nat), l.length ≤ n → (∀ d ∈ (tk l p).1, PlD d 1 0) ∧ (tk l p).1.length ≤ l.length := by
  intro n
  induction n with
  | zero =>
    intro l p h
    cases l with
    | nil => rw [tk]; simp
    | cons c r => simp at h
  | succ n ih =>
    intro l p h
    cases l with
    | nil => rw [tk]; simp
    | cons c r =>
      have hr : r.length ≤ n := by simpa using h
      have hd : ∀ m : Nat, (r.drop m).length ≤ n := fun m => by rw [List.length_drop]; omega
      have up : ∀ {t : D} {x : List D × D} {k : Nat}, PlD t 1 0 → k ≤ r.length → ((∀ d ∈ x.1, PlD d 1 0) ∧ x.1.length ≤ k) → (∀ d ∈ (put t x).1, PlD d 1 0) ∧ (put t x).1.length ≤ (c :: r).length := fun {t x k} ht hk hx => by
        refine ⟨fun d hd => ?_, ?_⟩
        · rcases List.mem_cons.mp hd with rfl | hd
          · exact ht
          · exact hx.1 d hd
        · show x.1.length + 1 ≤ r.length + 1
          omega
      have ld : ∀ m : Nat, (r.drop m).length ≤ r.length := fun m => by rw [List.length_drop]; omega
      rw [tk]
      split
      · exact up (pl3 .str .str .int) (ld _) (ih _ _ (hd _))
      split
      · exact up (pl3 .str .int .int) (ld _) (ih _ _ (hd _))
      split
      · exact up (pl3 .str .str .int) (Nat.le_refl _) (ih _ _ hr)
      split
      · have := ih r (p + 1) hr
        exact ⟨this.1, Nat.le_trans this.2 (by simp)⟩
      split
      · exact up (pl3 .str .str .int) (ld _) (ih _ _ (hd _))
      · simp
theorem row_toks (l : List Nat) : PlD (.lst (rowTok l).1) 2 1 ∨ 1000000 < l.length := by
  by_cases h : l.length ≤ 1000000
  · left
    have h1 := tk_toks _ (ahead l) 0 (Nat.le_refl _)
    have h2 : (ahead l).length ≤ l.length := List.Sublist.length_le (List.takeWhile_sublist _)
    have h3 := PlL.of h1.1
    rw [Nat.mul_zero] at h3
    exact h3.lst (Nat.le_trans h1.2 (by omega))
  · right; omega
def toksRows (ls : List (List Nat)) : List D := ls.map fun l => .lst (rowTok l).1
theorem rows_pl {ls : List (List Nat)} (h : ∀ l ∈ ls, l.length ≤ 200) (h5 : ls.length ≤ 5) : PlD (.lst (toksRows ls)) 3 6 := by
  have h1 : PlL (toksRows ls) 2 ((toksRows ls).length * 1) := PlL.of fun d hd => by
    obtain ⟨l, hl, rfl⟩ := List.mem_map.mp hd
    rcases row_toks l with z | z
    · exact z
    · have := h l hl; omega
  have e : (toksRows ls).length = ls.length := by simp [toksRows]
  exact (h1.lst (by omega)).mono (by omega) (by omega)
end K24
end

section
namespace K24
open PySem PySem.Spec PyProof.Rows L2 Sa LamX
def signsD (n p : Nat) : List D := (List.range n).map fun i => sgnD 40 (p + i)
theorem signsD_succ (n p : Nat) : signsD (n + 1) p = sgnD 40 p :: signsD n (p + 1) := by
  unfold signsD
  rw [List.range_succ_eq_map, List.map_cons, List.map_map, Nat.add_zero]
  congr 1
  exact List.map_congr_left fun i _ => by
    show sgnD 40 (p + (i + 1)) = sgnD 40 (p + 1 + i)
    rw [Nat.add_assoc, Nat.add_comm 1 i]
theorem tk_paren : ∀ n p : Nat, tk (List.replicate n 40) p = (signsD n p, .non)
  | 0, p => by rw [List.replicate_zero, tk]; rfl
  | n + 1, p => by
    rw [List.replicate_succ, tk, if_neg (by decide), if_neg (by decide), if_pos (by decide), tk_paren n (p + 1), signsD_succ]
    rfl
theorem runL_a : ∀ m n : Nat, runL okL (List.replicate m 97 ++ List.replicate n 40) = m
  | 0, 0 => rfl
  | 0, n + 1 => by
    rw [List.replicate_zero, List.nil_append, List.replicate_succ, runL, if_neg (by decide)]
  | m + 1, n => by
    rw [List.replicate_succ, List.cons_append, runL, if_pos (by decide), runL_a m n]
theorem tk_last (m n : Nat) : tk (List.replicate (m + 1) 97 ++ List.replicate n 40) 0 = (wordD (List.replicate (m + 1) 97) 0 :: signsD n (m + 1), .non) := by
  have hr := runL_a (m + 1) n
  rw [List.replicate_succ, List.cons_append] at hr ⊢
  rw [tk, if_pos (by decide), hr]
  have e1 : (97 :: (List.replicate m 97 ++ List.replicate n 40)).take (m + 1) = List.replicate (m + 1) 97 := by
    rw [List.replicate_succ, List.take_succ_cons]
    congr 1
    rw [List.take_append_of_le_length (by simp)]
    exact List.take_of_length_le (by simp)
  have e2 : (List.replicate m 97 ++ List.replicate n 40).drop (m + 1 - 1) = List.replicate n 40 := by
    rw [Nat.add_sub_cancel, List.drop_append_of_le_length (by simp), List.drop_of_length_le (by simp), List.nil_append]
  rw [e1, e2, tk_paren, Nat.zero_add]
  rfl
theorem tk_let : tk [108, 101, 116, 32, 39, 98, 101, 32, 98, 101, 32, 97] 0 = ([wordD [108, 101, 116] 0, quoD [98, 101] 4, wordD [98, 101] 8, wordD [97] 11], .non) := by
  have r1 : runL okL [108, 101, 116, 32, 39, 98, 101, 32, 98, 101, 32, 97] = 3 := by decide
  have r2 : runL okL [98, 101, 32, 98, 101, 32, 97] = 2 := by decide
  have r3 : runL okL [98, 101, 32, 97] = 2 := by decide
  have r4 : runL okL [97] = 1 := by decide
  have t1 : tk [97] 11 = ([wordD [97] 11], .non) := by
    rw [tk, if_pos (by decide), r4]
    show put (wordD [97] 11) (tk [] 12) = _
    rw [tk]
    rfl
  have t2 : tk [98, 101, 32, 97] 8 = ([wordD [98, 101] 8, wordD [97] 11], .non) := by
    rw [tk, if_pos (by decide), r3]
    show put (wordD [98, 101] 8) (tk [32, 97] 10) = _
    rw [tk, if_neg (by decide), if_neg (by decide), if_neg (by decide), if_pos (by decide), t1]
    rfl
  have t3 : tk [39, 98, 101, 32, 98, 101, 32, 97] 4 = ([quoD [98, 101] 4, wordD [98, 101] 8, wordD [97] 11], .non) := by
    rw [tk, if_neg (by decide), if_neg (by decide), if_neg (by decide), if_neg (by decide), if_pos ⟨rfl, by decide⟩, r2]
    show put (quoD [98, 101] 4) (tk [32, 98, 101, 32, 97] 7) = _
    rw [tk, if_neg (by decide), if_neg (by decide), if_neg (by decide), if_pos (by decide), t2]
    rfl
  rw [tk, if_pos (by decide), r1]
  show put (wordD [108, 101, 116] 0) (tk [32, 39, 98, 101, 32, 98, 101, 32, 97] 3) = _
  rw [tk, if_neg (by decide), if_neg (by decide), if_neg (by decide), if_pos (by decide), t3]
  rfl
theorem row_nil : rowTok [] = ([], .non) := by
  show tk [] 0 = _
  rw [tk]
theorem tok1 : toksL 0 (splitL 10 (Str.ofString "").cps.toList) = .inl [.lst []] := by
  show toksL 0 [[]] = _
  rw [toksL, row_nil]
  rfl
theorem tok3 : toksL 0 (splitL 10 (Str.ofString "\n\n").cps.toList) = .inl [.lst [], .lst [], .lst []] := by
  show toksL 0 [[], [], []] = _
  rw [toksL, toksL, toksL, row_nil]
  rfl
theorem tok2 : toksL 0 (splitL 10 (Str.ofString "let 'be be a# x\n").cps.toList) = .inl [.lst [wordD [108, 101, 116] 0, quoD [98, 101] 4, wordD [98, 101] 8, wordD [97] 11], .lst []] := by
  show toksL 0 [[108, 101, 116, 32, 39, 98, 101, 32, 98, 101, 32, 97, 35, 32, 120], []] = _
  have e : rowTok [108, 101, 116, 32, 39, 98, 101, 32, 98, 101, 32, 97, 35, 32, 120] = ([wordD [108, 101, 116] 0, quoD [98, 101] 4, wordD [98, 101] 8, wordD [97] 11], .non) := by
    show tk [108, 101, 116, 32, 39, 98, 101, 32, 98, 101, 32, 97] 0 = _
    exact tk_let
  rw [toksL, toksL, e, row_nil]
  rfl
theorem repS_one (c n : Nat) : (repS ⟨#[c]⟩ n).cps.toList = List.replicate n c := by
  unfold repS
  show (List.replicate n [c]).flatten = _
  induction n with
  | zero => rfl
  | succ n ih => rw [List.replicate_succ, List.flatten_cons, ih, List.replicate_succ]; rfl
abbrev bigS : Str := repS (Str.ofString "a") 300 ++ repS (Str.ofString "(") 200
theorem big_list : bigS.cps.toList = List.replicate 300 97 ++ List.replicate 200 40 := by
  rw [toList_app]
  exact congr (congrArg _ (repS_one 97 300)) (repS_one 40 200)
theorem big_len : bigS.length = 500 := by
  rw [← len_toList, big_list, List.length_append, List.length_replicate, List.length_replicate]
theorem big_no {c : Nat} (h1 : c ≠ 97) (h2 : c ≠ 40) : c ∉ List.replicate 300 97 ++ List.replicate 200 40 := by
  intro h
  rcases List.mem_append.mp h with z | z
  · exact h1 (List.eq_of_mem_replicate z)
  · exact h2 (List.eq_of_mem_replicate z)
theorem big_split : splitL 10 bigS.cps.toList = [List.replicate 300 97 ++ List.replicate 200 40] := by
  rw [big_list, splitL_one 10 (big_no (by decide) (by decide))]
def bigW : D := .tup [.str (Str.ofString "word"), .str (repS (Str.ofString "a") 300), .int 0]
theorem bigW_is : wordD (List.replicate 300 97) 0 = bigW := by
  unfold wordD bigW
  rw [← repS_one 97 300, txt_toList]
  rfl
theorem takeWhile_all {α : Type} {p : α → Bool} : ∀ {l : List α}, (∀ a ∈ l, p a = true) → l.takeWhile p = l
  | [], _ => rfl
  | a :: l, h => by rw [List.takeWhile_cons, if_pos (h a (by simp)), takeWhile_all fun b hb => h b (by simp [hb])]
theorem tok4 : toksL 0 (splitL 10 bigS.cps.toList) = .inl [.lst (bigW :: signsD 200 300)] := by
  rw [← bigW_is]
  have e : rowTok (List.replicate 300 97 ++ List.replicate 200 40) = (wordD (List.replicate 300 97) 0 :: signsD 200 300, .non) := by
    have z : ahead (List.replicate 300 97 ++ List.replicate 200 40) = List.replicate 300 97 ++ List.replicate 200 40 := by
      unfold ahead
      refine takeWhile_all fun a ha => ?_
      refine decide_eq_true fun e => ?_
      subst e
      exact big_no (by decide) (by decide) ha
    unfold rowTok
    rw [z]
    exact tk_last 299 200
  rw [big_split, toksL, e, toksL]
  rfl
end K24
end

section
namespace K24
open PySem PySem.Spec PyProof.Rows L2 Sa LamX
section
variable {X : Cx} {B : Bs} {st : Stmt}
/-- a statement before which the own list of slot i is frozen -/
def dPre (i : Nat) (d : DSt) : DSt := fun kd ρ => ∃ ds, ρ[i]? = some (some (.ol ds)) ∧ d kd (ρ.set i (some (.fr (.lst ds))))
theorem psd_pre {i : Nat} {d : DSt} (h : PSd X B st d) : PSd X B st (dPre i d) := by
  obtain ⟨t, p, l⟩ := h
  refine ⟨t, p, fun En σ H F ρ f kd S h q => ?_⟩
  obtain ⟨ds, e, h⟩ := h
  obtain ⟨a, vs, ea, ha, rp, S', st⟩ := S.freeze e
  exact l En σ _ _ _ _ kd S' h (q.step st)
end
theorem seq_step {t u : DSt} {kd : DEnds} {ρ : Sl} (h : ∀ U, U = u kd → t { kd with nx := U } ρ) : dSeq t u kd ρ := h _ rfl
theorem for_rng {n : Nat} {j : Nat} {body : DSt} {kd : DEnds} {ρ : Sl} (hn : n < 1000) (W : Nat → Sl → Prop) (h0 : W 0 ρ) (hs : ∀ (i : Nat) (ρ' : Sl), i < n → W i ρ' → body { kd with nx := W (i + 1), ct := W (i + 1), bk := kd.nx } (ρ'.set j (some (.fr (.int (i : Nat)))))) (he : ∀ ρ', W n ρ' → kd.nx ρ') :
    dFor (dRng1 (dC (.int (n : Nat)))) (dgName j) body kd ρ := by
  refine ⟨(n : Nat), rfl, by omega, by omega, W, h0, fun i x ρ' hi hw => ?_, fun ρ' hw => he ρ' ?_⟩
  · have hl : i < n := by
      have := (List.getElem?_eq_some_iff.mp hi).1
      rw [rangeD_len] at this
      simpa using this
    rw [rangeD_get (by simpa using hl)] at hi
    cases hi
    have := hs i ρ' hl hw
    rw [← Int.zero_add (i : Int)] at this
    exact this
  · rw [rangeD_len] at hw
    simpa using hw
theorem pick5 {d : D} (h : d ∈ [D.int 1, D.int 1, D.int 2, D.int 3, D.int 5]) : ∃ j : Nat, d = .int j ∧ 1 ≤ j ∧ j ≤ 5 := by
  simp only [List.mem_cons, List.not_mem_nil, or_false] at h
  rcases h with rfl | rfl | rfl | rfl | rfl
  · exact ⟨1, rfl, by omega, by omega⟩
  · exact ⟨1, rfl, by omega, by omega⟩
  · exact ⟨2, rfl, by omega, by omega⟩
  · exact ⟨3, rfl, by omega, by omega⟩
  · exact ⟨5, rfl, by omega, by omega⟩
def badsL : Nat → List (List Nat) → List D
  | _, [] => []
  | n, l :: r => if isNonD (rowTok l).2 = true then badsL (n + 1) r else .tup [.int (n : Nat), (rowTok l).2] :: badsL (n + 1) r
theorem badsL_snoc : ∀ (ls : List (List Nat)) (n : Nat) (l : List Nat), badsL n (ls ++ [l]) = badsL n ls ++ (if isNonD (rowTok l).2 = true then [] else [.tup [.int ((n + ls.length : Nat)), (rowTok l).2]])
  | [], n, l => by simp [badsL]
  | k :: ls, n, l => by
    have ih := badsL_snoc ls (n + 1) l
    have e : n + 1 + ls.length = n + (k :: ls).length := by simp; omega
    rw [e] at ih
    show (if isNonD (rowTok k).2 = true then badsL (n + 1) (ls ++ [l]) else _ :: badsL (n + 1) (ls ++ [l])) = _
    rw [ih, badsL]
    split <;> simp
theorem toksL_bads : ∀ (ls : List (List Nat)) (n : Nat), toksL n ls = (match badsL n ls with
    | [] => .inl (ls.map fun l => .lst (rowTok l).1)
    | e :: _ => .inr e)
  | [], n => by simp [toksL, badsL]
  | l :: ls, n => by
    rw [toksL, badsL, toksL_bads ls (n + 1)]
    by_cases h : isNonD (rowTok l).2 = true
    · rw [if_pos h, if_pos h]
      cases badsL (n + 1) ls <;> simp
    · rw [if_neg h, if_neg h]
theorem rowTok_int : ∀ l : List Nat, isNonD (rowTok l).2 = false → ∃ p : Int, (rowTok l).2 = .int p := by
  have : ∀ (n : Nat) (l : List Nat) (p : Nat), l.length ≤ n → (tk l p).2 = .non ∨ ∃ p' : Int, (tk l p).2 = .int p' := by
    intro n
    induction n with
    | zero =>
      intro l p h
      cases l with
      | nil => rw [tk]; simp
      | cons c r => simp at h
    | succ n ih =>
      intro l p h
      cases l with
      | nil => rw [tk]; simp
      | cons c r =>
        have hr : r.length ≤ n := by simpa using h
        have hd : ∀ m : Nat, (r.drop m).length ≤ n := fun m => by rw [List.length_drop]; omega
        rw [tk]
        repeat' split
        all_goals first | exact ih _ _ (hd _) | exact ih _ _ hr | simp
  intro l h
  unfold rowTok at h ⊢
  rcases this _ (ahead l) 0 (Nat.le_refl _) with z | z
  · rw [z] at h
    cases h
  · exact z
theorem badsL_pairs : ∀ (ls : List (List Nat)) (n : Nat), ∀ d ∈ badsL n ls, ∃ i j : Int, d = .tup [.int i, .int j]
  | [], n, d, h => by simp [badsL] at h
  | l :: ls, n, d, h => by
    rw [badsL] at h
    by_cases hb : isNonD (rowTok l).2 = true
    · rw [if_pos hb] at h
      exact badsL_pairs ls _ d h
    · rw [if_neg hb] at h
      rcases List.mem_cons.mp h with rfl | h
      · obtain ⟨p, hp⟩ := rowTok_int l (by simpa using hb)
        exact ⟨_, p, by rw [hp]⟩
      · exact badsL_pairs ls _ d h
theorem pairs_pyL : ∀ bs : List D, (∀ d ∈ bs, ∃ i j : Int, d = .tup [.int i, .int j]) → ∃ L, pyL bs = some L ∧ PyData.canLayAll0 L = true ∧ PyData.depthAll L ≤ 1 ∧ L.length = bs.length
  | [], _ => ⟨[], rfl, rfl, by decide, rfl⟩
  | d :: bs, h => by
    obtain ⟨i, j, rfl⟩ := h d (by simp)
    obtain ⟨L, h1, h2, h3, h4⟩ := pairs_pyL bs fun d hd => h d (by simp [hd])
    refine ⟨.tuple [.int i, .int j] :: L, ?_, ?_, ?_, by simp [h4]⟩
    · rw [pyL, h1]
      rfl
    · show (PyData.canLay0 (.tuple [.int i, .int j]) && PyData.canLayAll0 L) = true
      rw [h2]
      rfl
    · show max (PyData.depth (.tuple [.int i, .int j])) (PyData.depthAll L) ≤ 1
      have : PyData.depth (.tuple [.int i, .int j]) = 1 := rfl
      omega
theorem pairs_py {bs : List D} (h : ∀ d ∈ bs, ∃ i j : Int, d = .tup [.int i, .int j]) : ∃ L, pyD (.lst bs) = some (.list L) ∧ SeqAt.shaped (.list L) = true ∧ PyData.eqv (.list L) (.list []) = bs.isEmpty := by
  obtain ⟨L, h1, h2, h3, h4⟩ := pairs_pyL bs h
  refine ⟨L, by unfold pyD; rw [h1], ?_, ?_⟩
  · unfold SeqAt.shaped
    have e1 : PyData.canLay0 (.list L) = true := h2
    have e2 : PyData.depth (.list L) = PyData.depthAll L + 1 := rfl
    rw [e1, e2]
    simp
    omega
  · cases L with
    | nil => cases bs with
      | nil => rfl
      | cons _ _ => simp at h4
    | cons _ _ => cases bs with
      | nil => simp at h4
      | cons _ _ => rfl
def lsOf (xs : List Str) : List (List Nat) := xs.map fun x => x.cps.toList
def madeL (xs : List Str) : List D := xs.map fun x => resD (rowTok x.cps.toList)
def dueD (xs : List Str) : D := match badsL 0 (lsOf xs) with
  | [] => .tup [.str "told", .lst ((lsOf xs).map fun l => .lst (rowTok l).1)]
  | e :: _ => .tup [.str "unread", e]
def WBads (ls : List (List Nat)) (ρ0 : Sl) (i : Nat) (acc : List D) (ρ : Sl) : Prop := acc = badsL 0 (ls.take i) ∧ ρ = ρ0
def WMap (ds : List D) (ρ0 : Sl) (i : Nat) (acc : List D) (ρ : Sl) : Prop := acc = ds.take i ∧ ρ = ρ0
def RowsOk (xs : List Str) : Prop := ∀ x ∈ xs, x.length ≤ 200 ∧ 10 ∉ x.cps.toList
def WDrw (a b : Addr) (t : Option (Addr × Str)) (n : Nat) (ρ0 : Sl) (i : Nat) (acc : List D) (ρ : Sl) : Prop := ∃ (xs : List Str) (n' : Nat), RowsOk xs ∧ xs.length = i ∧ acc = xs.map .str ∧ n' ≤ n + 20 * i ∧ ρ = ρ0.set 1 (some (.sm a b n' t))
theorem RowsOk.more {xs : List Str} {x : Str} (h : RowsOk xs) (h1 : x.length ≤ 200) (h2 : 10 ∉ x.cps.toList) : RowsOk (xs ++ [x]) := fun y hy => by
  rcases List.mem_append.mp hy with g | g
  · exact h y g
  · have : y = x := by simpa using g
    subst this
    exact ⟨h1, h2⟩
theorem sum_rows : ∀ {xs : List Str}, RowsOk xs → (List.map (fun x : Str => x.length) xs).sum ≤ 200 * xs.length
  | [], _ => by simp
  | x :: xs, h => by
    have h1 := (h x (by simp)).1
    have h2 := sum_rows (xs := xs) fun y hy => h y (by simp [hy])
    simp only [List.map_cons, List.sum_cons, List.length_cons]
    omega
theorem joinL_len (c : Nat) : ∀ ps : List (List Nat), (joinL c ps).length ≤ (ps.map List.length).sum + ps.length
  | [] => by simp [joinL]
  | [x] => by simp [joinL]
  | x :: y :: r => by
    have := joinL_len c (y :: r)
    simp only [joinL, List.length_append, List.length_cons, List.map_cons, List.sum_cons] at this ⊢
    omega
theorem join_rows {xs : List Str} (ok : RowsOk xs) (ne : xs ≠ []) : splitL 10 (Txt.join (Str.ofString "\n") xs).cps.toList = lsOf xs ∧ (Txt.join (Str.ofString "\n") xs).length ≤ 201 * xs.length := by
  have e0 : xs = (lsOf xs).map txt := by
    unfold lsOf
    rw [List.map_map]
    conv => lhs; rw [← List.map_id xs]
    exact List.map_congr_left fun x _ => (txt_toList x).symm
  have e1 : Txt.join (Str.ofString "\n") xs = txt (joinL 10 (lsOf xs)) := by
    conv => lhs; rw [e0]
    exact joinT_eq 10 _
  rw [e1]
  refine ⟨?_, ?_⟩
  · rw [toList_txt]
    refine splitL_join 10 (by simpa [lsOf] using ne) fun p hp => ?_
    unfold lsOf at hp
    obtain ⟨x, hx, rfl⟩ := List.mem_map.mp hp
    exact (ok x hx).2
  · rw [len_txt]
    have h1 := joinL_len 10 (lsOf xs)
    have h2 := sum_rows ok
    have h3 : ((lsOf xs).map List.length).sum = (List.map (fun x : Str => x.length) xs).sum := by
      unfold lsOf
      rw [List.map_map]
      exact congrArg List.sum (List.map_congr_left fun x _ => len_toList x)
    have h4 : (lsOf xs).length = xs.length := by simp [lsOf]
    omega
theorem rows_of {xs : List Str} (ok : RowsOk xs) (l5 : xs.length ≤ 5) : PlD (.lst (toksRows (lsOf xs))) 3 6 := rows_pl (fun l hl => by
      unfold lsOf at hl
      obtain ⟨x, hx, rfl⟩ := List.mem_map.mp hl
      rw [len_toList]
      exact (ok x hx).1) (by simpa [lsOf] using l5)
theorem due_pl {xs : List Str} (ok : RowsOk xs) (l5 : xs.length ≤ 5) : PlD (dueD xs) 4 6 := by
  unfold dueD
  cases hb : badsL 0 (lsOf xs) with
  | nil =>
    have h : PlD (.lst (toksRows (lsOf xs))) 3 6 := rows_pl (fun l hl => by
      unfold lsOf at hl
      obtain ⟨x, hx, rfl⟩ := List.mem_map.mp hl
      rw [len_toList]
      exact (ok x hx).1) (by simpa [lsOf] using l5)
    exact pl2 (m := 0) (PlD.str.mono (by omega) (by omega)) h
  | cons e es =>
    obtain ⟨i, j, rfl⟩ := badsL_pairs (lsOf xs) 0 e (by rw [hb]; simp)
    have h : PlD (.tup [.int i, .int j]) 1 0 := pl2 (m := 0) (k := 0) .int .int
    exact (pl2 (m := 0) (PlD.str.mono (by omega) (by omega)) h).mono (by omega) (by omega)
theorem same_pl {x : D} {n m : Nat} {k : DS → Prop} (h : PlD x n m) (hn : n ≤ 8) (hk : k (.fr (.bl true))) : PhiSame 8 [x, x] k := ⟨x, rfl, h.ok, Nat.le_trans h.dp hn, hk⟩
def Things : List D := [.non, .int 5, .bl true, .lst [], .lst [.str "letters a"], .tup [.str "a"], .dic [], .int (-1)]
theorem things_ok {x : D} (h : x ∈ Things) : okC x = true ∧ dpC x ≤ 4 := by
  simp only [Things, List.mem_cons, List.not_mem_nil, or_false] at h
  rcases h with rfl | rfl | rfl | rfl | rfl | rfl | rfl | rfl <;> exact ⟨rfl, by decide⟩
theorem things_is {x : D} (h : x ∈ Things) : (∃ ds, x = .lst ds ∧ (ds = [] ∨ ds = [.str "letters a"])) ∨ (isD x ["list"] = some false ∧ isD x ["str"] = some false ∧ ∀ k, cpK x k = k (.fr x)) := by
  simp only [Things, List.mem_cons, List.not_mem_nil, or_false] at h
  rcases h with rfl | rfl | rfl | rfl | rfl | rfl | rfl | rfl
  · exact .inr ⟨rfl, rfl, fun _ => rfl⟩
  · exact .inr ⟨rfl, rfl, fun _ => rfl⟩
  · exact .inr ⟨rfl, rfl, fun _ => rfl⟩
  · exact .inl ⟨_, rfl, .inl rfl⟩
  · exact .inl ⟨_, rfl, .inr rfl⟩
  · exact .inr ⟨rfl, rfl, fun _ => rfl⟩
  · exact .inr ⟨rfl, rfl, fun _ => rfl⟩
  · exact .inr ⟨rfl, rfl, fun _ => rfl⟩
def lastD : D := .lst [.lst [.lst []], .lst [.lst [.tup [.str (Str.ofString "word"), .str (Str.ofString "let"), .int 0], .tup [.str (Str.ofString "quote"), .str (Str.ofString "be"), .int 4], .tup [.str (Str.ofString "word"), .str (Str.ofString "be"), .int 8], .tup [.str (Str.ofString "word"), .str (Str.ofString "a"), .int 11]], .lst []], .lst [.lst [], .lst [], .lst []], .lst [.lst (bigW :: signsD 200 300)]]
theorem last_pl : PlD lastD 4 1000 := by
  have h1 : PlD (.lst [.lst []]) 3 2 := ⟨rfl, by decide, rfl, by decide, by decide⟩
  have h2 : PlD (.lst [.lst [.tup [.str (Str.ofString "word"), .str (Str.ofString "let"), .int 0], .tup [.str (Str.ofString "quote"), .str (Str.ofString "be"), .int 4], .tup [.str (Str.ofString "word"), .str (Str.ofString "be"), .int 8], .tup [.str (Str.ofString "word"), .str (Str.ofString "a"), .int 11]], .lst []]) 3 3 := ⟨rfl, by decide, rfl, by decide, by decide⟩
  have h3 : PlD (.lst [.lst [], .lst [], .lst []]) 3 4 := ⟨rfl, by decide, rfl, by decide, by decide⟩
  have h5 : PlL (bigW :: signsD 200 300) 1 (0 + 200 * 0) := PlL.cons (m := 0) (pl3 .str .str .int) (by
    have := PlL.of (ds := signsD 200 300) (n := 1) (m := 0) fun d hd => by
      obtain ⟨i, _, rfl⟩ := List.mem_map.mp hd
      exact pl3 .str .str .int
    exact this.mono (Nat.le_refl _) (by simp))
  have h4 : PlD (.lst [.lst (bigW :: signsD 200 300)]) 3 (1 + 0 + 1) := (PlL.cons (h5.lst (by simp [signsD])) (PlL.nil (m := 0))).lst (by simp)
  exact (PlL.lst (PlL.cons h1 (PlL.cons h2 (PlL.cons h3 (PlL.cons (h4) (PlL.nil (m := 0)))))) (by simp)).mono (by omega) (by omega)
theorem tok_of {C1 C2 : Addr} {x : Str} {ds : List D} {k : DS → Prop} {kx : ExD} (hx : x.length ≤ 100000) (hl : ∀ l ∈ splitL 10 x.cps.toList, l.length ≤ 600) (ht : toksL 0 (splitL 10 x.cps.toList) = .inl ds) (hk : k (.ol ds)) : PhiTokens C1 C2 [.str x] k kx := ⟨_, rfl, .inl ⟨x, rfl, hx, hl, by rw [ht]; exact hk⟩⟩
theorem tok_met {K : PySem.W.Frag} {C1 C2 : Addr} {xs : List Str} {U : D → Prop} (ok : RowsOk xs) (ne : xs ≠ []) (l5 : xs.length ≤ 5) (x21 : PySem.W.exmOne K (.ref C2) (.ref C1) = some false) (x22 : PySem.W.exmOne K (.ref C2) (.ref C2) = some true) (h : U (dueD xs)) :
    PhiTokens C1 C2 [.str (Txt.join (Str.ofString "\n") xs)] (fun x => ∃ d, frz x = some d ∧ U (.tup [.str (Str.ofString "told"), d])) (fun C fs => ∃ tg g, Hit K C (metHs C1 C2) tg g ∧ ∃ x, List.lookup g fs = some x ∧ U (.tup [.str tg, x])) := by
  obtain ⟨j1, j2⟩ := join_rows ok ne
  refine ⟨_, rfl, .inl ⟨_, rfl, by omega, ?_, ?_⟩⟩
  · rw [j1]
    intro l hl
    unfold lsOf at hl
    obtain ⟨x, hx, rfl⟩ := List.mem_map.mp hl
    rw [len_toList]
    exact Nat.le_trans (ok x hx).1 (by omega)
  · rw [j1, toksL_bads]
    unfold dueD at h
    cases hb : badsL 0 (lsOf xs) with
    | nil =>
      rw [hb] at h
      exact ⟨_, rfl, by simpa using h⟩
    | cons e es =>
      rw [hb] at h
      exact ⟨"unread", "at", .inr ⟨x21, .inl ⟨rfl, rfl, rfl, x22⟩⟩, e, rfl, h⟩
abbrev s_law : Stmt := topS 23
theorem sc_law : FnScope ["script", "stream", "turn", "drawn", "row", "text", "made", "bads", "line", "some", "bad", "due", "found", "thing", "mine", "met", "at"] ["script"] (defScope s_law) := ⟨rfl, rfl, rfl, by decide +kernel, rfl, by decide +kernel, by decide +kernel⟩
section
variable {P : Program} {w : World} {K : PySem.W.Frag} {mg : Str → Option Value} {base : Heap}
abbrev LK : Nat := 12
abbrev lawX (P : Program) (w : World) (K : PySem.W.Frag) (mg : Str → Option Value) (base : Heap) (f : Addr) (cdv : Value) (A : Around) (outer : List Env) (s : Shared) (H : Hp) (E : XK) : Cx := (cxOf CX0 P w K mg base ["script", "stream", "turn", "drawn", "row", "text", "made", "bads", "line", "some", "bad", "due", "found", "thing", "mine", "met", "at"] "law" (defScope s_law) f cdv A outer s H E).nox
theorem law_walk {f C_NoText C_Unread cc PT : Addr} {cdv : Value} {A : Around} {outer : List Env} {s : Shared} {H : Hp} {E : XK} {B : Bs} (hr : Room 15 (A.deeper (envOfC "law" (defScope s_law) s.heap.objs.size f cdv))) (code : cdv = .ref cc) (TB : TabB base mg cc PT)
    {a__law_draw : Addr} {d__law_draw : FuncData} (G__law_draw : FnOk P w K mg base CX0 (1) a__law_draw d__law_draw ["stream", "many"] (SpS K PhiDraw)) (g__law_draw : mg "_law_draw" = some (.ref a__law_draw)) (kp__law_draw : PySem.W.keepIn K (.ref a__law_draw) = true) (b__law_draw : Binds K d__law_draw ["stream", "many"] []) {a__law_pick : Addr} {d__law_pick : FuncData} (G__law_pick : FnOk P w K mg base CX0 (2) a__law_pick d__law_pick ["stream", "things"] (SpS K PhiPick)) (g__law_pick : mg "_law_pick" = some (.ref a__law_pick)) (kp__law_pick : PySem.W.keepIn K (.ref a__law_pick) = true) (b__law_pick : Binds K d__law_pick ["stream", "things"] []) {a__law_drawn_row : Addr} {d__law_drawn_row : FuncData} (G__law_drawn_row : FnOk P w K mg base CX0 (3) a__law_drawn_row d__law_drawn_row ["stream"] (SpS K PhiDrawn)) (g__law_drawn_row : mg "_law_drawn_row" = some (.ref a__law_drawn_row)) (kp__law_drawn_row : PySem.W.keepIn K (.ref a__law_drawn_row) = true) (b__law_drawn_row : Binds K d__law_drawn_row ["stream"] [])
    {a__law_row_tokens : Addr} {d__law_row_tokens : FuncData} (G__law_row_tokens : FnOk P w K mg base CX0 (2) a__law_row_tokens d__law_row_tokens ["row"] (SpF K PhiRow)) (g__law_row_tokens : mg "_law_row_tokens" = some (.ref a__law_row_tokens)) (kp__law_row_tokens : PySem.W.keepIn K (.ref a__law_row_tokens) = true) (b__law_row_tokens : Binds K d__law_row_tokens ["row"] []) {a__law_same : Addr} {d__law_same : FuncData} (G__law_same : FnOk P w K mg base CX0 (9) a__law_same d__law_same ["found", "due"] (SpF K (PhiSame 8))) (g__law_same : mg "_law_same" = some (.ref a__law_same)) (kp__law_same : PySem.W.keepIn K (.ref a__law_same) = true) (b__law_same : Binds K d__law_same ["found", "due"] []) {a__law_copied : Addr} {d__law_copied : FuncData} (G__law_copied : FnOk P w K mg base CX0 (5) a__law_copied d__law_copied ["thing"] (SpF K (PhiCopied 4))) (g__law_copied : mg "_law_copied" = some (.ref a__law_copied)) (kp__law_copied : PySem.W.keepIn K (.ref a__law_copied) = true) (b__law_copied : Binds K d__law_copied ["thing"] [])
    {a_tokens : Addr} {d_tokens : FuncData} (G_tokens : FnOk P w K mg base (L2.CX P w) (4) a_tokens d_tokens ["text"] (SpFX K (PhiTokens C_NoText C_Unread))) (g_tokens : mg "tokens" = some (.ref a_tokens)) (kp_tokens : PySem.W.keepIn K (.ref a_tokens) = true) (b_tokens : Binds K d_tokens ["text"] [])
    {a__law_spoilt : Addr} {d__law_spoilt : FuncData} (G__law_spoilt : FnOk P w K mg base CX0 7 a__law_spoilt d__law_spoilt ["thing"] (SpSpoil K 6)) (g__law_spoilt : mg "_law_spoilt" = some (.ref a__law_spoilt)) (kp__law_spoilt : PySem.W.keepIn K (.ref a__law_spoilt) = true) (b__law_spoilt : Binds K d__law_spoilt ["thing"] [])
    (n_tokens : KBn K d_tokens ["text"] 0 ["text"] (fun _ ws => ws) (fun _ zs => zs))
    {a__law_met : Addr} {oc dV kV doc pm cdm ct : Value} {od an : Option Addr} {osl : Array (Option Value)} (g__law_met : mg "_law_met" = some (.ref a__law_met)) (kp__law_met : PySem.W.keepIn K (.ref a__law_met) = true)
    (l__law_met : K.lookup a__law_met = some ⟨oc, od, .func (PySem.W.fnOf "_law_met" "_law_met" (defArgs s__law_met) (defBody s__law_met) (defScope s__law_met) dV kV doc pm an cdm ct), osl⟩) (c__law_met : PySem.W.codeIn K cdm "_law_met" = true)
    (b__law_met : L2.Binds K (PySem.W.fnOf "_law_met" "_law_met" (defArgs s__law_met) (defBody s__law_met) (defScope s__law_met) dV kV doc pm an cdm ct) ["ask"] [])
    (g_NoText : mg "NoText" = some (.ref C_NoText)) (g_Unread : mg "Unread" = some (.ref C_Unread)) (F_NoText : FldC K C_NoText "text") (F_Unread : FldC K C_Unread "at") (x11 : PySem.W.exmOne K (.ref C_NoText) (.ref C_NoText) = some true) (x21 : PySem.W.exmOne K (.ref C_Unread) (.ref C_NoText) = some false) (x22 : PySem.W.exmOne K (.ref C_Unread) (.ref C_Unread) = some true)
    (m_range : mg "range" = none) (m_enumerate : mg "enumerate" = none) (m_isinstance : mg "isinstance" = none) (m_list : mg "list" = none) :
    ∃ d, PSsd (lawX P w K mg base f cdv A outer s H E) B (defBody s_law).tail d ∧ ∀ (a b : Addr) (kk : DS → Prop), kk (.fr (.bl true)) → d { nx := fun _ => False, rt := fun x _ => kk x } ([none, some (.sm a b 0 (some (PT, lamQ (lawX P w K mg base f cdv A outer s H E))))] ++ List.replicate 15 none) := by
  subst code
  have code : (lawX P w K mg base f (.ref cc) A outer s H E).env.code = .ref cc := rfl
  refine ⟨_,
    (psd_cons (psd_for PassesOwn.never rfl (pid_range1 rfl m_range pf_int) (pg_name (i := 2) sc_law.nd rfl (.inl rfl)) lg_name
      (psd_cons (psd_setLc (i := 3) rfl sc_law.nd rfl rfl (sw_true rfl rfl rfl (by decide +kernel)) (own := [("row", 4)]) (dt := dYes) (pid_range1 rfl m_range (pf_callS (i := 1) G__law_pick (hr.mono (by omega)) rfl g__law_pick kp__law_pick b__law_pick (pv 1) (pad_cons (PO.pf (po_lst (pad_cons pf_int (pad_cons pf_int (pad_cons pf_int (pad_cons pf_int (pad_cons pf_int pad_nil))))))) pad_nil))) (blkOk_by (own := [("row", 4)]) (N := ["script", "stream", "turn", "drawn", "row", "text", "made", "bads", "line", "some", "bad", "due", "found", "thing", "mine", "met", "at"]) (sc := defScope s_law) (by decide +kernel)) (fun _ _ _ _ _ => (pg_name (i := 4) sc_law.nd rfl (.inl rfl))) lg_name (gin_name (by simp)) (fun _ _ _ _ _ => pts_yes) (fun _ _ _ _ _ => (pf_callS (i := 1) G__law_drawn_row (hr.mono (by omega)) rfl g__law_drawn_row kp__law_drawn_row b__law_drawn_row (pv 1) pad_nil)))
      (psd_cons (psd_pre (i := 3) (psd_asg (pf_tup (pad_cons (pf_join pf_str (pf_var (pv 3))) (pad_cons (PO.pf (po_lc (own := [("row", 4)]) (dt := dYes) rfl sc_law.nd (pid_list (pf_var (pv 3))) (blkOk_by (own := [("row", 4)]) (N := ["script", "stream", "turn", "drawn", "row", "text", "made", "bads", "line", "some", "bad", "due", "found", "thing", "mine", "met", "at"]) (sc := defScope s_law) (by decide +kernel)) (fun _ _ _ _ _ => (pg_name (i := 4) sc_law.nd rfl (.inl rfl))) lg_name (gin_name (by simp)) (fun _ _ _ _ _ => pts_yes) (fun _ _ _ _ _ => (pf_call G__law_row_tokens (hr.mono (by omega)) rfl g__law_row_tokens kp__law_row_tokens b__law_row_tokens (pad_cons (pf_var (pv 4)) pad_nil))))) pad_nil))) (pg_tup (n := 2) rfl (pgs_cons (pg_name (i := 5) sc_law.nd rfl (.inr rfl)) (pgs_cons (pg_name (i := 6) sc_law.nd rfl (.inl rfl)) pgs_nil))) (lg_tup (lgs_cons lg_name (lgs_cons lg_name lgs_nil)))))
      (psd_cons (psd_setLc (i := 7) rfl sc_law.nd rfl rfl (sw_true rfl rfl rfl (by decide +kernel)) (own := [("line", 8), ("some", 9), ("bad", 10)]) (pid_enumL rfl m_enumerate (pf_var (pv 6))) (blkOk_by (own := [("line", 8), ("some", 9), ("bad", 10)]) (N := ["script", "stream", "turn", "drawn", "row", "text", "made", "bads", "line", "some", "bad", "due", "found", "thing", "mine", "met", "at"]) (sc := defScope s_law) (by decide +kernel)) (fun _ _ _ _ _ => (pg_tup (n := 2) rfl (pgs_cons (pg_name (i := 8) sc_law.nd rfl (.inl rfl)) (pgs_cons (pg_tup (n := 2) rfl (pgs_cons (pg_name (i := 9) sc_law.nd rfl (.inl rfl)) (pgs_cons (pg_name (i := 10) sc_law.nd rfl (.inl rfl)) pgs_nil))) pgs_nil)))) (lg_tup (lgs_cons lg_name (lgs_cons (lg_tup (lgs_cons lg_name (lgs_cons lg_name lgs_nil))) lgs_nil))) (gin_tup (gin_cons (gin_name (by simp)) (gin_cons (gin_tup (gin_cons (gin_name (by simp)) (gin_cons (gin_name (by simp)) gin_nil))) gin_nil))) (fun _ _ _ _ _ => pts_of (ifs := []) (pq_notN (pf_var (pv 10)))) (fun _ _ _ _ _ => (pf_tup (pad_cons (pf_var (pv 8)) (pad_cons (pf_var (pv 10)) pad_nil)))))
      (psd_cons (psd_pre (i := 7) (psd_set (i := 11) (fun t pt => ps_set (i := 11) sc_law.nd rfl (.inl rfl) pt) (pf_if (pq_neD hr.units (pf_var (pv 7)) (PO.pf (po_lst pad_nil))) (pf_tup (pad_cons pf_str (pad_cons (pf_ix (pf_var (pv 7)) pf_int) pad_nil))) (pf_tup (pad_cons pf_str (pad_cons (PO.pf (po_lc (own := [("some", 9), ("bad", 10)]) (dt := dYes) rfl sc_law.nd (pid_list (pf_var (pv 6))) (blkOk_by (own := [("some", 9), ("bad", 10)]) (N := ["script", "stream", "turn", "drawn", "row", "text", "made", "bads", "line", "some", "bad", "due", "found", "thing", "mine", "met", "at"]) (sc := defScope s_law) (by decide +kernel)) (fun _ _ _ _ _ => (pg_tup (n := 2) rfl (pgs_cons (pg_name (i := 9) sc_law.nd rfl (.inl rfl)) (pgs_cons (pg_name (i := 10) sc_law.nd rfl (.inl rfl)) pgs_nil)))) (lg_tup (lgs_cons lg_name (lgs_cons lg_name lgs_nil))) (gin_tup (gin_cons (gin_name (by simp)) (gin_cons (gin_name (by simp)) gin_nil))) (fun _ _ _ _ _ => pts_yes) (fun _ _ _ _ _ => (pf_var (pv 9))))) pad_nil))))))
      (psd_cons (psd_setRL (i := 12) (fun t pt => ps_set (i := 12) sc_law.nd rfl (.inl rfl) (pe_lst pt)) (by exact (pr_met (i := 1) (j := 1) (n := 2) (hs := metHs C_NoText C_Unread) (tag := "told") (Ng := metN) (k := 12) (by decide) rfl g__law_met kp__law_met l__law_met c__law_met b__law_met sc__law_met rfl (by first | exact .inl rfl | exact .inr rfl) (gives__law_met g_NoText g_Unread F_NoText F_Unread) TB code (hr.mono (by omega)) (lamS_by (sc := defScope s_law) (by decide +kernel)) rfl (fun _ _ _ _ _ => rfl) (fun A2 outer2 s2 H2 E2 f2 c2 B2 kx2 hr2 hE => (pf_callX G_tokens (takes_of rfl rfl rfl rfl) hE (hr2.mono (by omega)) rfl g_tokens kp_tokens b_tokens (pad_cons (pf_var (pv 5)) pad_nil))))))
      (psd_cons (psd_appRL (i := 12) (by exact (pr_met (i := 1) (j := 1) (n := 2) (hs := metHs C_NoText C_Unread) (tag := "told") (Ng := metN) (k := 12) (by decide) rfl g__law_met kp__law_met l__law_met c__law_met b__law_met sc__law_met rfl (by first | exact .inl rfl | exact .inr rfl) (gives__law_met g_NoText g_Unread F_NoText F_Unread) TB code (hr.mono (by omega)) (lamS_by (sc := defScope s_law) (by decide +kernel)) rfl (fun _ _ _ _ _ => rfl) (fun A2 outer2 s2 H2 E2 f2 c2 B2 kx2 hr2 hE => (pf_callXk G_tokens (takes_of rfl rfl rfl rfl) hE (hr2.mono (by omega)) rfl g_tokens kp_tokens n_tokens (pkd_cons (pf_var (pv 5)) pkd_nil))))) (fun t pt => ps_expr (pe_bm PySem.F.plainAttrs_list PySem.F.slot_list_append PySem.F.type_list_append mt_append (pv 12) (pa_cons pt pa_nil))))
      (psd_cons (psd_if (pq_not (pq_val (pf_bor1 (i := 12) G__law_same (hr.mono (by omega)) rfl g__law_same kp__law_same b__law_same (pv 12) (pad_cons (PO.pf (po_lst (pad_cons (pf_var (pv 11)) (pad_cons (pf_var (pv 11)) pad_nil)))) pad_nil))))
      (psd_one (psd_ret pf_bl))
      psd_nil)
      (psd_cons (psd_if (pq_eqD hr.units (pf_var (pv 7)) (PO.pf (po_lst pad_nil)))
      (psd_one (psd_spoil (i := 12) (ps_expr (pe_call G__law_spoilt (hr.mono (by omega)) rfl g__law_spoilt kp__law_spoilt b__law_spoilt .nil (fun _ _ _ _ _ _ _ h => h.elim) (pa_cons (pe_ix ix_seq (pe_ix ix_seq (pv 12) pe_int (fun _ _ => rfl)) pe_int (fun _ _ => rfl)) pa_nil)))))
      psd_nil)
      (psd_cons (psd_if (pq_not (pq_val (pf_call G__law_same (hr.mono (by omega)) rfl g__law_same kp__law_same b__law_same (pad_cons (by exact (pf_met (i := 1) (j := 1) (n := 2) (hs := metHs C_NoText C_Unread) (tag := "told") (Ng := metN) (k := 12) (by decide) rfl g__law_met kp__law_met l__law_met c__law_met b__law_met sc__law_met rfl (by first | exact .inl rfl | exact .inr rfl) (gives__law_met g_NoText g_Unread F_NoText F_Unread) TB code (hr.mono (by omega)) (lamS_by (sc := defScope s_law) (by decide +kernel)) rfl (fun _ _ _ _ _ => rfl) (fun A2 outer2 s2 H2 E2 f2 c2 B2 kx2 hr2 hE => (pf_callX G_tokens (takes_of rfl rfl rfl rfl) hE (hr2.mono (by omega)) rfl g_tokens kp_tokens b_tokens (pad_cons (pf_var (pv 5)) pad_nil))))) (pad_cons (pf_var (pv 11)) pad_nil)))))
      (psd_one (psd_ret pf_bl))
      psd_nil)
      (psd_cons (psd_set (i := 13) (fun t pt => ps_set (i := 13) sc_law.nd rfl (.inl rfl) pt) (pf_callS (i := 1) G__law_pick (hr.mono (by omega)) rfl g__law_pick kp__law_pick b__law_pick (pv 1) (pad_cons (PO.pf (po_lst (pad_cons pf_non (pad_cons pf_int (pad_cons pf_bl (pad_cons (PO.pf (po_lst pad_nil)) (pad_cons (PO.pf (po_lst (pad_cons pf_str pad_nil))) (pad_cons (pf_tup (pad_cons pf_str pad_nil)) (pad_cons pf_dict0 (pad_cons (pf_neg pf_int) pad_nil)))))))))) pad_nil)))
      (psd_cons (psd_setW (i := 14) (fun t pt => ps_set (i := 14) sc_law.nd rfl (.inr rfl) pt) G__law_copied (hr.mono (by omega)) rfl g__law_copied kp__law_copied b__law_copied (pad_cons (pf_var (pv 13)) pad_nil))
      (psd_cons (psd_setO (i := 15) (fun t pt => ps_set (i := 15) sc_law.nd rfl (.inl rfl) pt) (po_lst (pad_cons (by exact (pf_metW (m := 14) (i := 1) (j := 1) (n := 2) (hs := metHs C_NoText C_Unread) (tag := "told") (Ng := metN) (k := 12) (by decide) rfl g__law_met kp__law_met l__law_met c__law_met b__law_met sc__law_met rfl (by first | exact .inl rfl | exact .inr rfl) (gives__law_met g_NoText g_Unread F_NoText F_Unread) TB code (hr.mono (by omega)) (lamS_by (sc := defScope s_law) (by decide +kernel)) rfl (fun _ _ _ _ _ => rfl) (fun A2 outer2 s2 H2 E2 f2 c2 B2 kx2 hr2 hE => (pf_callX G_tokens (takes_of rfl rfl rfl rfl) hE (hr2.mono (by omega)) rfl g_tokens kp_tokens b_tokens (pad_cons (pf_var (pv 14)) pad_nil))))) pad_nil)))
      (psd_cons (psd_app (i := 15) (by exact (pf_metW (m := 14) (i := 1) (j := 1) (n := 2) (hs := metHs C_NoText C_Unread) (tag := "told") (Ng := metN) (k := 12) (by decide) rfl g__law_met kp__law_met l__law_met c__law_met b__law_met sc__law_met rfl (by first | exact .inl rfl | exact .inr rfl) (gives__law_met g_NoText g_Unread F_NoText F_Unread) TB code (hr.mono (by omega)) (lamS_by (sc := defScope s_law) (by decide +kernel)) rfl (fun _ _ _ _ _ => rfl) (fun A2 outer2 s2 H2 E2 f2 c2 B2 kx2 hr2 hE => (pf_callXk G_tokens (takes_of rfl rfl rfl rfl) hE (hr2.mono (by omega)) rfl g_tokens kp_tokens n_tokens (pkd_cons (pf_var (pv 14)) pkd_nil))))) (fun t pt => ps_expr (pe_bm PySem.F.plainAttrs_list PySem.F.slot_list_append PySem.F.type_list_append mt_append (pv 15) (pa_cons pt pa_nil))))
      (psd_cons (psd_if (pq_val (pf_isiW (i := 14) (tn := "list") rfl m_isinstance rfl (pv 14) (pe_bltn rfl m_list PyProof.Rows.boot_list rfl)))
      (psd_one (psd_appW (i := 14) pf_str (fun t pt => ps_expr (pe_bm PySem.F.plainAttrs_list PySem.F.slot_list_append PySem.F.type_list_append mt_append (pv 14) (pa_cons pt pa_nil)))))
      psd_nil)
      (psd_one (psd_thaw (i := 14) (psd_if (pq_not (pq_val (pf_call G__law_same (hr.mono (by omega)) rfl g__law_same kp__law_same b__law_same (pad_cons (pf_frz (pv 15)) (pad_cons (PO.pf (po_rep (PO.pf (po_lst (pad_cons (pf_tup (pad_cons pf_str (pad_cons (pf_var (pv 14)) pad_nil))) pad_nil))) pf_int)) pad_nil)))))
      (psd_one (psd_ret pf_bl))
      psd_nil))))))))))))))))))
      (psd_cons (psd_setO (i := 9) (fun t pt => ps_set (i := 9) sc_law.nd rfl (.inl rfl) pt) (po_lst (pad_cons (pf_callX (kx := fun _ _ => False) (E := fun _ _ _ => False) G_tokens L2.takes0 (fun _ _ _ _ _ _ _ h => h.elim) (hr.mono (by omega)) rfl g_tokens kp_tokens b_tokens (pad_cons pf_str pad_nil)) (pad_cons (pf_callX (kx := fun _ _ => False) (E := fun _ _ _ => False) G_tokens L2.takes0 (fun _ _ _ _ _ _ _ h => h.elim) (hr.mono (by omega)) rfl g_tokens kp_tokens b_tokens (pad_cons pf_str pad_nil)) (pad_cons (pf_callX (kx := fun _ _ => False) (E := fun _ _ _ => False) G_tokens L2.takes0 (fun _ _ _ _ _ _ _ h => h.elim) (hr.mono (by omega)) rfl g_tokens kp_tokens b_tokens (pad_cons pf_str pad_nil)) (pad_cons (pf_callX (kx := fun _ _ => False) (E := fun _ _ _ => False) G_tokens L2.takes0 (fun _ _ _ _ _ _ _ h => h.elim) (hr.mono (by omega)) rfl g_tokens kp_tokens b_tokens (pad_cons (pf_addS (pf_mulS pf_str pf_int) (pf_mulS pf_str pf_int)) pad_nil)) pad_nil))))))
      (psd_cons (psd_setO (i := 11) (fun t pt => ps_set (i := 11) sc_law.nd rfl (.inl rfl) pt) (po_lst (pad_cons (PO.pf (po_lst (pad_cons (PO.pf (po_lst pad_nil)) pad_nil))) (pad_cons (PO.pf (po_lst (pad_cons (PO.pf (po_lst (pad_cons (pf_tup (pad_cons pf_str (pad_cons pf_str (pad_cons pf_int pad_nil)))) (pad_cons (pf_tup (pad_cons pf_str (pad_cons pf_str (pad_cons pf_int pad_nil)))) (pad_cons (pf_tup (pad_cons pf_str (pad_cons pf_str (pad_cons pf_int pad_nil)))) (pad_cons (pf_tup (pad_cons pf_str (pad_cons pf_str (pad_cons pf_int pad_nil)))) pad_nil)))))) (pad_cons (PO.pf (po_lst pad_nil)) pad_nil)))) (pad_cons (PO.pf (po_lst (pad_cons (PO.pf (po_lst pad_nil)) (pad_cons (PO.pf (po_lst pad_nil)) (pad_cons (PO.pf (po_lst pad_nil)) pad_nil))))) pad_nil)))))
      (psd_cons (psd_app (i := 11) (PO.pf (po_lst (pad_cons (PO.pf (po_cat (PO.pf (po_lst (pad_cons (pf_tup (pad_cons pf_str (pad_cons (pf_mulS pf_str pf_int) (pad_cons pf_int pad_nil)))) pad_nil))) (PO.pf (po_lc (own := [("at", 16)]) (dt := dYes) rfl sc_law.nd (pid_range1 rfl m_range pf_int) (blkOk_by (own := [("at", 16)]) (N := ["script", "stream", "turn", "drawn", "row", "text", "made", "bads", "line", "some", "bad", "due", "found", "thing", "mine", "met", "at"]) (sc := defScope s_law) (by decide +kernel)) (fun _ _ _ _ _ => (pg_name (i := 16) sc_law.nd rfl (.inl rfl))) lg_name (gin_name (by simp)) (fun _ _ _ _ _ => pts_yes) (fun _ _ _ _ _ => (pf_tup (pad_cons pf_str (pad_cons pf_str (pad_cons (pf_add pf_int (pf_var (pv 16))) pad_nil))))))))) pad_nil))) (fun t pt => ps_expr (pe_bm PySem.F.plainAttrs_list PySem.F.slot_list_append PySem.F.type_list_append mt_append (pv 11) (pa_cons pt pa_nil))))
      (psd_one (psd_ret (pf_call G__law_same (hr.mono (by omega)) rfl g__law_same kp__law_same b__law_same (pad_cons (pf_frz (pv 9)) (pad_cons (pf_frz (pv 11)) pad_nil)))))))))
    , fun a b kk hk => ?_⟩
  generalize lamQ (lawX P w K mg base f (.ref cc) A outer s H E) = q
  refine seq_step fun U0 hU0 => ?_
  refine for_rng (n := 9) (j := 2) (by omega) (fun i ρ => ∃ (n : Nat) (o2 o3 o5 o6 o7 o11 o12 o13 o14 o15 : Option DS), n ≤ 102 * i ∧ ρ = [none, some (.sm a b n (some (PT, q))), o2, o3, none, o5, o6, o7, none, none, none, o11, o12, o13, o14, o15, none]) ?_ ?_ ?_
  · exact ⟨0, _, _, _, _, _, _, _, _, _, _, by omega, rfl⟩
  · rintro i ρ hi ⟨n, o2, o3, o5, o6, o7, o11, o12, o13, o14, o15, hn, rfl⟩
    refine seq_step fun U1 hU1 => ?_
    simp only [dSeq, dNext, dSet, dSetO, dVar, dFrz, dC, dOp, dTest, rdI, rdI0, rdEq_ss, rdEq_gs, rdEq_gg, rdEq_ii, rdEq_bb, rdNe_ss, rdNe_gs, rdNe_gg, rdNe_ii, rdNe_bb, dAnd, dOr, dNot, dAndV, dOrV, dNotV, dIf, dNil, dCons, dTup, dLst, dFz, dBreak, dCont, dRet, dRetO, dMove, dIfS, dNever, dDrop, dWhile, dFor, dLc, dSrcL, dSrcT, dSrcS, dRng1, dRng2, dEnumL, dEnumS, dZip, dgName, dgNil, dgCons, dgTup, dPar, mNil, mConsF, mConsO, putD, dAsg, dCB, rdLen, lenD_str, lenD_lst, lenD_tup, dIxV, dLenV, dCall, dCallO, dCallX, dCallXO, dRaise, dCallS, dCallSO, frz_fr, frz_ol, rdAddS, dSlS, dPart, dNoPart, dM0, dM1, rdSplit, rdJoin, rdStr0, rdStr1, rdIndex, rdIsN, isn_non, isn_int, isn_str, isn_lst, isn_tup, rdEqD, rdCat, rdRep, dOpO, dCBO, rdList_lst, rdList_tup, rdList_str, rdTuple_lst, rdTuple_tup, rdAll, rdIn_sg, rdIx_str, rdIx_lst, rdIx_tup, rdInt_str, rdInt_int, at0, at1, at2, one_len, cast1, castA, castP, Int.ofNat_lt, Int.ofNat_le, Int.ofNat_inj, dYes, dApp, dSeqV, dRetIf, dCopyDic, dItems0, dNeg, dZipA, wipeD, noOwn, dSetRL, dAppRL, dBor1, dSpoil, dSetW, putW, dIsiW, dAppW, dThaw, dMet, dMetN, dMetW, dCallXk, frO, frO1, frS, frS1, thawS1, thawD, thawL, List.mem_singleton, implies_true, false_implies, forall_const, forall_eq', List.map_set, dCut, dCutS, ae_len, dIsi, startD, and_assoc, exists_eq_left, exists_eq_left', exists_eq_right, exists_eq_right', exists_eq, exists_eq', exists_and_left, exists_and_right, exists_const, exists_false, false_and, and_false, true_and, and_true, false_or, or_false, or_true, true_or, if_true, if_false, Bool.false_eq_true, reduceCtorEq, reduceIte, ite_true, ite_false, Option.some.injEq, DS.fr.injEq, DS.ol.injEq, DS.sm.injEq, D.int.injEq, D.str.injEq, D.bl.injEq, D.lst.injEq, D.tup.injEq, V.str.injEq, V.int.injEq, V.bl.injEq, List.cons.injEq, List.getElem?_cons_zero, List.getElem?_cons_succ, List.set_cons_zero, List.set_cons_succ, List.length_cons, List.length_nil, List.length_set, List.map_cons, List.map_nil, List.cons_append, List.nil_append, List.append_nil, List.replicate_succ, List.replicate_zero, List.mem_cons, List.not_mem_nil, forall_eq_or_imp, forall_eq, Nat.reduceAdd, Nat.reduceSub, Nat.reduceLT, Nat.reduceLeDiff, Nat.zero_add, Nat.add_zero, decide_eq_true_eq, decide_eq_false_iff_not, Bool.not_eq_true', Bool.and_eq_true, Bool.or_eq_true, decide_true, decide_false, Bool.not_true, Bool.not_false, id_eq, Option.map_some, Option.map_none, dPre]
    refine ⟨by decide, phiPick.mpr ⟨by decide, by decide, by omega, fun d hd => ?_⟩⟩
    obtain ⟨j, rfl, j1, j5⟩ := pick5 hd
    simp only [dSeq, dNext, dSet, dSetO, dVar, dFrz, dC, dOp, dTest, rdI, rdI0, rdEq_ss, rdEq_gs, rdEq_gg, rdEq_ii, rdEq_bb, rdNe_ss, rdNe_gs, rdNe_gg, rdNe_ii, rdNe_bb, dAnd, dOr, dNot, dAndV, dOrV, dNotV, dIf, dNil, dCons, dTup, dLst, dFz, dBreak, dCont, dRet, dRetO, dMove, dIfS, dNever, dDrop, dWhile, dFor, dLc, dSrcL, dSrcT, dSrcS, dRng1, dRng2, dEnumL, dEnumS, dZip, dgName, dgNil, dgCons, dgTup, dPar, mNil, mConsF, mConsO, putD, dAsg, dCB, rdLen, lenD_str, lenD_lst, lenD_tup, dIxV, dLenV, dCall, dCallO, dCallX, dCallXO, dRaise, dCallS, dCallSO, frz_fr, frz_ol, rdAddS, dSlS, dPart, dNoPart, dM0, dM1, rdSplit, rdJoin, rdStr0, rdStr1, rdIndex, rdIsN, isn_non, isn_int, isn_str, isn_lst, isn_tup, rdEqD, rdCat, rdRep, dOpO, dCBO, rdList_lst, rdList_tup, rdList_str, rdTuple_lst, rdTuple_tup, rdAll, rdIn_sg, rdIx_str, rdIx_lst, rdIx_tup, rdInt_str, rdInt_int, at0, at1, at2, one_len, cast1, castA, castP, Int.ofNat_lt, Int.ofNat_le, Int.ofNat_inj, dYes, dApp, dSeqV, dRetIf, dCopyDic, dItems0, dNeg, dZipA, wipeD, noOwn, dSetRL, dAppRL, dBor1, dSpoil, dSetW, putW, dIsiW, dAppW, dThaw, dMet, dMetN, dMetW, dCallXk, frO, frO1, frS, frS1, thawS1, thawD, thawL, List.mem_singleton, implies_true, false_implies, forall_const, forall_eq', List.map_set, dCut, dCutS, ae_len, dIsi, startD, and_assoc, exists_eq_left, exists_eq_left', exists_eq_right, exists_eq_right', exists_eq, exists_eq', exists_and_left, exists_and_right, exists_const, exists_false, false_and, and_false, true_and, and_true, false_or, or_false, or_true, true_or, if_true, if_false, Bool.false_eq_true, reduceCtorEq, reduceIte, ite_true, ite_false, Option.some.injEq, DS.fr.injEq, DS.ol.injEq, DS.sm.injEq, D.int.injEq, D.str.injEq, D.bl.injEq, D.lst.injEq, D.tup.injEq, V.str.injEq, V.int.injEq, V.bl.injEq, List.cons.injEq, List.getElem?_cons_zero, List.getElem?_cons_succ, List.set_cons_zero, List.set_cons_succ, List.length_cons, List.length_nil, List.length_set, List.map_cons, List.map_nil, List.cons_append, List.nil_append, List.append_nil, List.replicate_succ, List.replicate_zero, List.mem_cons, List.not_mem_nil, forall_eq_or_imp, forall_eq, Nat.reduceAdd, Nat.reduceSub, Nat.reduceLT, Nat.reduceLeDiff, Nat.zero_add, Nat.add_zero, decide_eq_true_eq, decide_eq_false_iff_not, Bool.not_eq_true', Bool.and_eq_true, Bool.or_eq_true, decide_true, decide_false, Bool.not_true, Bool.not_false, id_eq, Option.map_some, Option.map_none, rangeD_len, Int.toNat_natCast]
    refine ⟨by omega, by omega, by omega, WDrw a b (some (PT, q)) (n + 1) [none, some (.sm a b (n + 1) (some (PT, q))), some (.fr (.int i)), o3, none, o5, o6, o7, none, none, none, o11, o12, o13, o14, o15, none], ⟨[], _, by simp [RowsOk], rfl, rfl, by omega, rfl⟩, ?_, ?_⟩
    · rintro i' x acc ρ hx _ ⟨xs, n', ok, hxs, rfl, hn', rfl⟩
      have hlt : i' < j := by
        have := (List.getElem?_eq_some_iff.mp hx).1
        simpa [rangeD_len] using this
      simp only [dSeq, dNext, dSet, dSetO, dVar, dFrz, dC, dOp, dTest, rdI, rdI0, rdEq_ss, rdEq_gs, rdEq_gg, rdEq_ii, rdEq_bb, rdNe_ss, rdNe_gs, rdNe_gg, rdNe_ii, rdNe_bb, dAnd, dOr, dNot, dAndV, dOrV, dNotV, dIf, dNil, dCons, dTup, dLst, dFz, dBreak, dCont, dRet, dRetO, dMove, dIfS, dNever, dDrop, dWhile, dFor, dLc, dSrcL, dSrcT, dSrcS, dRng1, dRng2, dEnumL, dEnumS, dZip, dgName, dgNil, dgCons, dgTup, dPar, mNil, mConsF, mConsO, putD, dAsg, dCB, rdLen, lenD_str, lenD_lst, lenD_tup, dIxV, dLenV, dCall, dCallO, dCallX, dCallXO, dRaise, dCallS, dCallSO, frz_fr, frz_ol, rdAddS, dSlS, dPart, dNoPart, dM0, dM1, rdSplit, rdJoin, rdStr0, rdStr1, rdIndex, rdIsN, isn_non, isn_int, isn_str, isn_lst, isn_tup, rdEqD, rdCat, rdRep, dOpO, dCBO, rdList_lst, rdList_tup, rdList_str, rdTuple_lst, rdTuple_tup, rdAll, rdIn_sg, rdIx_str, rdIx_lst, rdIx_tup, rdInt_str, rdInt_int, at0, at1, at2, one_len, cast1, castA, castP, Int.ofNat_lt, Int.ofNat_le, Int.ofNat_inj, dYes, dApp, dSeqV, dRetIf, dCopyDic, dItems0, dNeg, dZipA, wipeD, noOwn, dSetRL, dAppRL, dBor1, dSpoil, dSetW, putW, dIsiW, dAppW, dThaw, dMet, dMetN, dMetW, dCallXk, frO, frO1, frS, frS1, thawS1, thawD, thawL, List.mem_singleton, implies_true, false_implies, forall_const, forall_eq', List.map_set, dCut, dCutS, ae_len, dIsi, startD, and_assoc, exists_eq_left, exists_eq_left', exists_eq_right, exists_eq_right', exists_eq, exists_eq', exists_and_left, exists_and_right, exists_const, exists_false, false_and, and_false, true_and, and_true, false_or, or_false, or_true, true_or, if_true, if_false, Bool.false_eq_true, reduceCtorEq, reduceIte, ite_true, ite_false, Option.some.injEq, DS.fr.injEq, DS.ol.injEq, DS.sm.injEq, D.int.injEq, D.str.injEq, D.bl.injEq, D.lst.injEq, D.tup.injEq, V.str.injEq, V.int.injEq, V.bl.injEq, List.cons.injEq, List.getElem?_cons_zero, List.getElem?_cons_succ, List.set_cons_zero, List.set_cons_succ, List.length_cons, List.length_nil, List.length_set, List.map_cons, List.map_nil, List.cons_append, List.nil_append, List.append_nil, List.replicate_succ, List.replicate_zero, List.mem_cons, List.not_mem_nil, forall_eq_or_imp, forall_eq, Nat.reduceAdd, Nat.reduceSub, Nat.reduceLT, Nat.reduceLeDiff, Nat.zero_add, Nat.add_zero, decide_eq_true_eq, decide_eq_false_iff_not, Bool.not_eq_true', Bool.and_eq_true, Bool.or_eq_true, decide_true, decide_false, Bool.not_true, Bool.not_false, id_eq, Option.map_some, Option.map_none]
      refine ⟨rfl, by omega, fun x n2 hx hnl hn2 => ⟨_, rfl, ?_⟩⟩
      exact ⟨xs ++ [x], n2, ok.more hx hnl, by simp [hxs], by simp, by omega, rfl⟩
    rintro acc ρ ⟨xs, n1, ok, hxs, rfl, hn1, rfl⟩
    simp only [dSeq, dNext, dSet, dSetO, dVar, dFrz, dC, dOp, dTest, rdI, rdI0, rdEq_ss, rdEq_gs, rdEq_gg, rdEq_ii, rdEq_bb, rdNe_ss, rdNe_gs, rdNe_gg, rdNe_ii, rdNe_bb, dAnd, dOr, dNot, dAndV, dOrV, dNotV, dIf, dNil, dCons, dTup, dLst, dFz, dBreak, dCont, dRet, dRetO, dMove, dIfS, dNever, dDrop, dWhile, dFor, dLc, dSrcL, dSrcT, dSrcS, dRng1, dRng2, dEnumL, dEnumS, dZip, dgName, dgNil, dgCons, dgTup, dPar, mNil, mConsF, mConsO, putD, dAsg, dCB, rdLen, lenD_str, lenD_lst, lenD_tup, dIxV, dLenV, dCall, dCallO, dCallX, dCallXO, dRaise, dCallS, dCallSO, frz_fr, frz_ol, rdAddS, dSlS, dPart, dNoPart, dM0, dM1, rdSplit, rdJoin, rdStr0, rdStr1, rdIndex, rdIsN, isn_non, isn_int, isn_str, isn_lst, isn_tup, rdEqD, rdCat, rdRep, dOpO, dCBO, rdList_lst, rdList_tup, rdList_str, rdTuple_lst, rdTuple_tup, rdAll, rdIn_sg, rdIx_str, rdIx_lst, rdIx_tup, rdInt_str, rdInt_int, at0, at1, at2, one_len, cast1, castA, castP, Int.ofNat_lt, Int.ofNat_le, Int.ofNat_inj, dYes, dApp, dSeqV, dRetIf, dCopyDic, dItems0, dNeg, dZipA, wipeD, noOwn, dSetRL, dAppRL, dBor1, dSpoil, dSetW, putW, dIsiW, dAppW, dThaw, dMet, dMetN, dMetW, dCallXk, frO, frO1, frS, frS1, thawS1, thawD, thawL, List.mem_singleton, implies_true, false_implies, forall_const, forall_eq', List.map_set, dCut, dCutS, ae_len, dIsi, startD, and_assoc, exists_eq_left, exists_eq_left', exists_eq_right, exists_eq_right', exists_eq, exists_eq', exists_and_left, exists_and_right, exists_const, exists_false, false_and, and_false, true_and, and_true, false_or, or_false, or_true, true_or, if_true, if_false, Bool.false_eq_true, reduceCtorEq, reduceIte, ite_true, ite_false, Option.some.injEq, DS.fr.injEq, DS.ol.injEq, DS.sm.injEq, D.int.injEq, D.str.injEq, D.bl.injEq, D.lst.injEq, D.tup.injEq, V.str.injEq, V.int.injEq, V.bl.injEq, List.cons.injEq, List.getElem?_cons_zero, List.getElem?_cons_succ, List.set_cons_zero, List.set_cons_succ, List.length_cons, List.length_nil, List.length_set, List.map_cons, List.map_nil, List.cons_append, List.nil_append, List.append_nil, List.replicate_succ, List.replicate_zero, List.mem_cons, List.not_mem_nil, forall_eq_or_imp, forall_eq, Nat.reduceAdd, Nat.reduceSub, Nat.reduceLT, Nat.reduceLeDiff, Nat.zero_add, Nat.add_zero, decide_eq_true_eq, decide_eq_false_iff_not, Bool.not_eq_true', Bool.and_eq_true, Bool.or_eq_true, decide_true, decide_false, Bool.not_true, Bool.not_false, id_eq, Option.map_some, Option.map_none]
    subst hU1
    refine seq_step fun U2 hU2 => ?_
    simp only [dSeq, dNext, dSet, dSetO, dVar, dFrz, dC, dOp, dTest, rdI, rdI0, rdEq_ss, rdEq_gs, rdEq_gg, rdEq_ii, rdEq_bb, rdNe_ss, rdNe_gs, rdNe_gg, rdNe_ii, rdNe_bb, dAnd, dOr, dNot, dAndV, dOrV, dNotV, dIf, dNil, dCons, dTup, dLst, dFz, dBreak, dCont, dRet, dRetO, dMove, dIfS, dNever, dDrop, dWhile, dFor, dLc, dSrcL, dSrcT, dSrcS, dRng1, dRng2, dEnumL, dEnumS, dZip, dgName, dgNil, dgCons, dgTup, dPar, mNil, mConsF, mConsO, putD, dAsg, dCB, rdLen, lenD_str, lenD_lst, lenD_tup, dIxV, dLenV, dCall, dCallO, dCallX, dCallXO, dRaise, dCallS, dCallSO, frz_fr, frz_ol, rdAddS, dSlS, dPart, dNoPart, dM0, dM1, rdSplit, rdJoin, rdStr0, rdStr1, rdIndex, rdIsN, isn_non, isn_int, isn_str, isn_lst, isn_tup, rdEqD, rdCat, rdRep, dOpO, dCBO, rdList_lst, rdList_tup, rdList_str, rdTuple_lst, rdTuple_tup, rdAll, rdIn_sg, rdIx_str, rdIx_lst, rdIx_tup, rdInt_str, rdInt_int, at0, at1, at2, one_len, cast1, castA, castP, Int.ofNat_lt, Int.ofNat_le, Int.ofNat_inj, dYes, dApp, dSeqV, dRetIf, dCopyDic, dItems0, dNeg, dZipA, wipeD, noOwn, dSetRL, dAppRL, dBor1, dSpoil, dSetW, putW, dIsiW, dAppW, dThaw, dMet, dMetN, dMetW, dCallXk, frO, frO1, frS, frS1, thawS1, thawD, thawL, List.mem_singleton, implies_true, false_implies, forall_const, forall_eq', List.map_set, dCut, dCutS, ae_len, dIsi, startD, and_assoc, exists_eq_left, exists_eq_left', exists_eq_right, exists_eq_right', exists_eq, exists_eq', exists_and_left, exists_and_right, exists_const, exists_false, false_and, and_false, true_and, and_true, false_or, or_false, or_true, true_or, if_true, if_false, Bool.false_eq_true, reduceCtorEq, reduceIte, ite_true, ite_false, Option.some.injEq, DS.fr.injEq, DS.ol.injEq, DS.sm.injEq, D.int.injEq, D.str.injEq, D.bl.injEq, D.lst.injEq, D.tup.injEq, V.str.injEq, V.int.injEq, V.bl.injEq, List.cons.injEq, List.getElem?_cons_zero, List.getElem?_cons_succ, List.set_cons_zero, List.set_cons_succ, List.length_cons, List.length_nil, List.length_set, List.map_cons, List.map_nil, List.cons_append, List.nil_append, List.append_nil, List.replicate_succ, List.replicate_zero, List.mem_cons, List.not_mem_nil, forall_eq_or_imp, forall_eq, Nat.reduceAdd, Nat.reduceSub, Nat.reduceLT, Nat.reduceLeDiff, Nat.zero_add, Nat.add_zero, decide_eq_true_eq, decide_eq_false_iff_not, Bool.not_eq_true', Bool.and_eq_true, Bool.or_eq_true, decide_true, decide_false, Bool.not_true, Bool.not_false, id_eq, Option.map_some, Option.map_none, dPre]
    have sm := sum_rows ok
    have e1 : (Str.ofString "\n").length = 1 := rfl
    refine ⟨xs, rfl, by rw [e1]; omega, by simp; omega, WMap (madeL xs) [none, some (.sm a b n1 (some (PT, q))), some (.fr (.int i)), some (.fr (.lst (xs.map .str))), none, o5, o6, o7, none, none, none, o11, o12, o13, o14, o15, none], ⟨rfl, rfl⟩, ?_, ?_⟩
    · rintro i' y acc ρ hy _ ⟨rfl, rfl⟩
      rw [List.getElem?_map] at hy
      cases hx : xs[i']? with
      | none => rw [hx] at hy; cases hy
      | some x =>
        rw [hx] at hy
        cases hy
        have hx2 : (madeL xs)[i']? = some (resD (rowTok x.cps.toList)) := by unfold madeL; rw [List.getElem?_map, hx]; rfl
        simp only [dSeq, dNext, dSet, dSetO, dVar, dFrz, dC, dOp, dTest, rdI, rdI0, rdEq_ss, rdEq_gs, rdEq_gg, rdEq_ii, rdEq_bb, rdNe_ss, rdNe_gs, rdNe_gg, rdNe_ii, rdNe_bb, dAnd, dOr, dNot, dAndV, dOrV, dNotV, dIf, dNil, dCons, dTup, dLst, dFz, dBreak, dCont, dRet, dRetO, dMove, dIfS, dNever, dDrop, dWhile, dFor, dLc, dSrcL, dSrcT, dSrcS, dRng1, dRng2, dEnumL, dEnumS, dZip, dgName, dgNil, dgCons, dgTup, dPar, mNil, mConsF, mConsO, putD, dAsg, dCB, rdLen, lenD_str, lenD_lst, lenD_tup, dIxV, dLenV, dCall, dCallO, dCallX, dCallXO, dRaise, dCallS, dCallSO, frz_fr, frz_ol, rdAddS, dSlS, dPart, dNoPart, dM0, dM1, rdSplit, rdJoin, rdStr0, rdStr1, rdIndex, rdIsN, isn_non, isn_int, isn_str, isn_lst, isn_tup, rdEqD, rdCat, rdRep, dOpO, dCBO, rdList_lst, rdList_tup, rdList_str, rdTuple_lst, rdTuple_tup, rdAll, rdIn_sg, rdIx_str, rdIx_lst, rdIx_tup, rdInt_str, rdInt_int, at0, at1, at2, one_len, cast1, castA, castP, Int.ofNat_lt, Int.ofNat_le, Int.ofNat_inj, dYes, dApp, dSeqV, dRetIf, dCopyDic, dItems0, dNeg, dZipA, wipeD, noOwn, dSetRL, dAppRL, dBor1, dSpoil, dSetW, putW, dIsiW, dAppW, dThaw, dMet, dMetN, dMetW, dCallXk, frO, frO1, frS, frS1, thawS1, thawD, thawL, List.mem_singleton, implies_true, false_implies, forall_const, forall_eq', List.map_set, dCut, dCutS, ae_len, dIsi, startD, and_assoc, exists_eq_left, exists_eq_left', exists_eq_right, exists_eq_right', exists_eq, exists_eq', exists_and_left, exists_and_right, exists_const, exists_false, false_and, and_false, true_and, and_true, false_or, or_false, or_true, true_or, if_true, if_false, Bool.false_eq_true, reduceCtorEq, reduceIte, ite_true, ite_false, Option.some.injEq, DS.fr.injEq, DS.ol.injEq, DS.sm.injEq, D.int.injEq, D.str.injEq, D.bl.injEq, D.lst.injEq, D.tup.injEq, V.str.injEq, V.int.injEq, V.bl.injEq, List.cons.injEq, List.getElem?_cons_zero, List.getElem?_cons_succ, List.set_cons_zero, List.set_cons_succ, List.length_cons, List.length_nil, List.length_set, List.map_cons, List.map_nil, List.cons_append, List.nil_append, List.append_nil, List.replicate_succ, List.replicate_zero, List.mem_cons, List.not_mem_nil, forall_eq_or_imp, forall_eq, Nat.reduceAdd, Nat.reduceSub, Nat.reduceLT, Nat.reduceLeDiff, Nat.zero_add, Nat.add_zero, decide_eq_true_eq, decide_eq_false_iff_not, Bool.not_eq_true', Bool.and_eq_true, Bool.or_eq_true, decide_true, decide_false, Bool.not_true, Bool.not_false, id_eq, Option.map_some, Option.map_none]
        exact phiRow.mpr ⟨Nat.le_trans (ok x (List.mem_of_getElem? hx)).1 (by omega), _, rfl, take_more hx2, rfl⟩
    rintro acc ρ ⟨rfl, rfl⟩
    have e2 : (List.take (List.map D.str xs).length (madeL xs)) = madeL xs := List.take_of_length_le (by simp [madeL])
    simp only [dSeq, dNext, dSet, dSetO, dVar, dFrz, dC, dOp, dTest, rdI, rdI0, rdEq_ss, rdEq_gs, rdEq_gg, rdEq_ii, rdEq_bb, rdNe_ss, rdNe_gs, rdNe_gg, rdNe_ii, rdNe_bb, dAnd, dOr, dNot, dAndV, dOrV, dNotV, dIf, dNil, dCons, dTup, dLst, dFz, dBreak, dCont, dRet, dRetO, dMove, dIfS, dNever, dDrop, dWhile, dFor, dLc, dSrcL, dSrcT, dSrcS, dRng1, dRng2, dEnumL, dEnumS, dZip, dgName, dgNil, dgCons, dgTup, dPar, mNil, mConsF, mConsO, putD, dAsg, dCB, rdLen, lenD_str, lenD_lst, lenD_tup, dIxV, dLenV, dCall, dCallO, dCallX, dCallXO, dRaise, dCallS, dCallSO, frz_fr, frz_ol, rdAddS, dSlS, dPart, dNoPart, dM0, dM1, rdSplit, rdJoin, rdStr0, rdStr1, rdIndex, rdIsN, isn_non, isn_int, isn_str, isn_lst, isn_tup, rdEqD, rdCat, rdRep, dOpO, dCBO, rdList_lst, rdList_tup, rdList_str, rdTuple_lst, rdTuple_tup, rdAll, rdIn_sg, rdIx_str, rdIx_lst, rdIx_tup, rdInt_str, rdInt_int, at0, at1, at2, one_len, cast1, castA, castP, Int.ofNat_lt, Int.ofNat_le, Int.ofNat_inj, dYes, dApp, dSeqV, dRetIf, dCopyDic, dItems0, dNeg, dZipA, wipeD, noOwn, dSetRL, dAppRL, dBor1, dSpoil, dSetW, putW, dIsiW, dAppW, dThaw, dMet, dMetN, dMetW, dCallXk, frO, frO1, frS, frS1, thawS1, thawD, thawL, List.mem_singleton, implies_true, false_implies, forall_const, forall_eq', List.map_set, dCut, dCutS, ae_len, dIsi, startD, and_assoc, exists_eq_left, exists_eq_left', exists_eq_right, exists_eq_right', exists_eq, exists_eq', exists_and_left, exists_and_right, exists_const, exists_false, false_and, and_false, true_and, and_true, false_or, or_false, or_true, true_or, if_true, if_false, Bool.false_eq_true, reduceCtorEq, reduceIte, ite_true, ite_false, Option.some.injEq, DS.fr.injEq, DS.ol.injEq, DS.sm.injEq, D.int.injEq, D.str.injEq, D.bl.injEq, D.lst.injEq, D.tup.injEq, V.str.injEq, V.int.injEq, V.bl.injEq, List.cons.injEq, List.getElem?_cons_zero, List.getElem?_cons_succ, List.set_cons_zero, List.set_cons_succ, List.length_cons, List.length_nil, List.length_set, List.map_cons, List.map_nil, List.cons_append, List.nil_append, List.append_nil, List.replicate_succ, List.replicate_zero, List.mem_cons, List.not_mem_nil, forall_eq_or_imp, forall_eq, Nat.reduceAdd, Nat.reduceSub, Nat.reduceLT, Nat.reduceLeDiff, Nat.zero_add, Nat.add_zero, decide_eq_true_eq, decide_eq_false_iff_not, Bool.not_eq_true', Bool.and_eq_true, Bool.or_eq_true, decide_true, decide_false, Bool.not_true, Bool.not_false, id_eq, Option.map_some, Option.map_none, e2]
    refine ⟨by decide, ?_⟩
    subst hU2
    refine seq_step fun U3 hU3 => ?_
    simp only [dSeq, dNext, dSet, dSetO, dVar, dFrz, dC, dOp, dTest, rdI, rdI0, rdEq_ss, rdEq_gs, rdEq_gg, rdEq_ii, rdEq_bb, rdNe_ss, rdNe_gs, rdNe_gg, rdNe_ii, rdNe_bb, dAnd, dOr, dNot, dAndV, dOrV, dNotV, dIf, dNil, dCons, dTup, dLst, dFz, dBreak, dCont, dRet, dRetO, dMove, dIfS, dNever, dDrop, dWhile, dFor, dLc, dSrcL, dSrcT, dSrcS, dRng1, dRng2, dEnumL, dEnumS, dZip, dgName, dgNil, dgCons, dgTup, dPar, mNil, mConsF, mConsO, putD, dAsg, dCB, rdLen, lenD_str, lenD_lst, lenD_tup, dIxV, dLenV, dCall, dCallO, dCallX, dCallXO, dRaise, dCallS, dCallSO, frz_fr, frz_ol, rdAddS, dSlS, dPart, dNoPart, dM0, dM1, rdSplit, rdJoin, rdStr0, rdStr1, rdIndex, rdIsN, isn_non, isn_int, isn_str, isn_lst, isn_tup, rdEqD, rdCat, rdRep, dOpO, dCBO, rdList_lst, rdList_tup, rdList_str, rdTuple_lst, rdTuple_tup, rdAll, rdIn_sg, rdIx_str, rdIx_lst, rdIx_tup, rdInt_str, rdInt_int, at0, at1, at2, one_len, cast1, castA, castP, Int.ofNat_lt, Int.ofNat_le, Int.ofNat_inj, dYes, dApp, dSeqV, dRetIf, dCopyDic, dItems0, dNeg, dZipA, wipeD, noOwn, dSetRL, dAppRL, dBor1, dSpoil, dSetW, putW, dIsiW, dAppW, dThaw, dMet, dMetN, dMetW, dCallXk, frO, frO1, frS, frS1, thawS1, thawD, thawL, List.mem_singleton, implies_true, false_implies, forall_const, forall_eq', List.map_set, dCut, dCutS, ae_len, dIsi, startD, and_assoc, exists_eq_left, exists_eq_left', exists_eq_right, exists_eq_right', exists_eq, exists_eq', exists_and_left, exists_and_right, exists_const, exists_false, false_and, and_false, true_and, and_true, false_or, or_false, or_true, true_or, if_true, if_false, Bool.false_eq_true, reduceCtorEq, reduceIte, ite_true, ite_false, Option.some.injEq, DS.fr.injEq, DS.ol.injEq, DS.sm.injEq, D.int.injEq, D.str.injEq, D.bl.injEq, D.lst.injEq, D.tup.injEq, V.str.injEq, V.int.injEq, V.bl.injEq, List.cons.injEq, List.getElem?_cons_zero, List.getElem?_cons_succ, List.set_cons_zero, List.set_cons_succ, List.length_cons, List.length_nil, List.length_set, List.map_cons, List.map_nil, List.cons_append, List.nil_append, List.append_nil, List.replicate_succ, List.replicate_zero, List.mem_cons, List.not_mem_nil, forall_eq_or_imp, forall_eq, Nat.reduceAdd, Nat.reduceSub, Nat.reduceLT, Nat.reduceLeDiff, Nat.zero_add, Nat.add_zero, decide_eq_true_eq, decide_eq_false_iff_not, Bool.not_eq_true', Bool.and_eq_true, Bool.or_eq_true, decide_true, decide_false, Bool.not_true, Bool.not_false, id_eq, Option.map_some, Option.map_none, dPre]
    have lm : (madeL xs).length = xs.length := by simp [madeL]
    have ll : (lsOf xs).length = xs.length := by simp [lsOf]
    have mk : ∀ (i' : Nat) (d : D), (madeL xs)[i']? = some d → ∃ l, (lsOf xs)[i']? = some l ∧ d = .tup [.lst (rowTok l).1, (rowTok l).2] := fun i' d h => by
      unfold madeL at h
      rw [List.getElem?_map] at h
      cases hx : xs[i']? with
      | none => rw [hx] at h; cases h
      | some x =>
        rw [hx] at h
        cases h
        exact ⟨x.cps.toList, by unfold lsOf; rw [List.getElem?_map, hx]; rfl, rfl⟩
    refine ⟨by rw [enumD_len, lm]; omega, WBads (lsOf xs) [none, some (.sm a b n1 (some (PT, q))), some (.fr (.int i)), some (.fr (.lst (xs.map .str))), none, some (.fr (.str (Txt.join (Str.ofString "\n") xs))), some (.fr (.lst (madeL xs))), o7, none, none, none, o11, o12, o13, o14, o15, none], ⟨rfl, rfl⟩, ?_, ?_⟩
    · rintro i' y acc ρ hy _ ⟨rfl, rfl⟩
      obtain ⟨d, hd, rfl⟩ := enumD_inv hy
      obtain ⟨l, hl, rfl⟩ := mk i' d hd
      have il : i' < (lsOf xs).length := (List.getElem?_eq_some_iff.mp hl).1
      have sn := badsL_snoc ((lsOf xs).take i') 0 l
      rw [take_more hl, Nat.zero_add, List.length_take_of_le (Nat.le_of_lt il)] at sn
      simp only [dSeq, dNext, dSet, dSetO, dVar, dFrz, dC, dOp, dTest, rdI, rdI0, rdEq_ss, rdEq_gs, rdEq_gg, rdEq_ii, rdEq_bb, rdNe_ss, rdNe_gs, rdNe_gg, rdNe_ii, rdNe_bb, dAnd, dOr, dNot, dAndV, dOrV, dNotV, dIf, dNil, dCons, dTup, dLst, dFz, dBreak, dCont, dRet, dRetO, dMove, dIfS, dNever, dDrop, dWhile, dFor, dLc, dSrcL, dSrcT, dSrcS, dRng1, dRng2, dEnumL, dEnumS, dZip, dgName, dgNil, dgCons, dgTup, dPar, mNil, mConsF, mConsO, putD, dAsg, dCB, rdLen, lenD_str, lenD_lst, lenD_tup, dIxV, dLenV, dCall, dCallO, dCallX, dCallXO, dRaise, dCallS, dCallSO, frz_fr, frz_ol, rdAddS, dSlS, dPart, dNoPart, dM0, dM1, rdSplit, rdJoin, rdStr0, rdStr1, rdIndex, rdIsN, isn_non, isn_int, isn_str, isn_lst, isn_tup, rdEqD, rdCat, rdRep, dOpO, dCBO, rdList_lst, rdList_tup, rdList_str, rdTuple_lst, rdTuple_tup, rdAll, rdIn_sg, rdIx_str, rdIx_lst, rdIx_tup, rdInt_str, rdInt_int, at0, at1, at2, one_len, cast1, castA, castP, Int.ofNat_lt, Int.ofNat_le, Int.ofNat_inj, dYes, dApp, dSeqV, dRetIf, dCopyDic, dItems0, dNeg, dZipA, wipeD, noOwn, dSetRL, dAppRL, dBor1, dSpoil, dSetW, putW, dIsiW, dAppW, dThaw, dMet, dMetN, dMetW, dCallXk, frO, frO1, frS, frS1, thawS1, thawD, thawL, List.mem_singleton, implies_true, false_implies, forall_const, forall_eq', List.map_set, dCut, dCutS, ae_len, dIsi, startD, and_assoc, exists_eq_left, exists_eq_left', exists_eq_right, exists_eq_right', exists_eq, exists_eq', exists_and_left, exists_and_right, exists_const, exists_false, false_and, and_false, true_and, and_true, false_or, or_false, or_true, true_or, if_true, if_false, Bool.false_eq_true, reduceCtorEq, reduceIte, ite_true, ite_false, Option.some.injEq, DS.fr.injEq, DS.ol.injEq, DS.sm.injEq, D.int.injEq, D.str.injEq, D.bl.injEq, D.lst.injEq, D.tup.injEq, V.str.injEq, V.int.injEq, V.bl.injEq, List.cons.injEq, List.getElem?_cons_zero, List.getElem?_cons_succ, List.set_cons_zero, List.set_cons_succ, List.length_cons, List.length_nil, List.length_set, List.map_cons, List.map_nil, List.cons_append, List.nil_append, List.append_nil, List.replicate_succ, List.replicate_zero, List.mem_cons, List.not_mem_nil, forall_eq_or_imp, forall_eq, Nat.reduceAdd, Nat.reduceSub, Nat.reduceLT, Nat.reduceLeDiff, Nat.zero_add, Nat.add_zero, decide_eq_true_eq, decide_eq_false_iff_not, Bool.not_eq_true', Bool.and_eq_true, Bool.or_eq_true, decide_true, decide_false, Bool.not_true, Bool.not_false, id_eq, Option.map_some, Option.map_none]
      refine ⟨rowTok_ob l, ?_⟩
      by_cases hb : isNonD (rowTok l).2 = true
      · rw [if_pos hb, List.append_nil] at sn
        simp only [dSeq, dNext, dSet, dSetO, dVar, dFrz, dC, dOp, dTest, rdI, rdI0, rdEq_ss, rdEq_gs, rdEq_gg, rdEq_ii, rdEq_bb, rdNe_ss, rdNe_gs, rdNe_gg, rdNe_ii, rdNe_bb, dAnd, dOr, dNot, dAndV, dOrV, dNotV, dIf, dNil, dCons, dTup, dLst, dFz, dBreak, dCont, dRet, dRetO, dMove, dIfS, dNever, dDrop, dWhile, dFor, dLc, dSrcL, dSrcT, dSrcS, dRng1, dRng2, dEnumL, dEnumS, dZip, dgName, dgNil, dgCons, dgTup, dPar, mNil, mConsF, mConsO, putD, dAsg, dCB, rdLen, lenD_str, lenD_lst, lenD_tup, dIxV, dLenV, dCall, dCallO, dCallX, dCallXO, dRaise, dCallS, dCallSO, frz_fr, frz_ol, rdAddS, dSlS, dPart, dNoPart, dM0, dM1, rdSplit, rdJoin, rdStr0, rdStr1, rdIndex, rdIsN, isn_non, isn_int, isn_str, isn_lst, isn_tup, rdEqD, rdCat, rdRep, dOpO, dCBO, rdList_lst, rdList_tup, rdList_str, rdTuple_lst, rdTuple_tup, rdAll, rdIn_sg, rdIx_str, rdIx_lst, rdIx_tup, rdInt_str, rdInt_int, at0, at1, at2, one_len, cast1, castA, castP, Int.ofNat_lt, Int.ofNat_le, Int.ofNat_inj, dYes, dApp, dSeqV, dRetIf, dCopyDic, dItems0, dNeg, dZipA, wipeD, noOwn, dSetRL, dAppRL, dBor1, dSpoil, dSetW, putW, dIsiW, dAppW, dThaw, dMet, dMetN, dMetW, dCallXk, frO, frO1, frS, frS1, thawS1, thawD, thawL, List.mem_singleton, implies_true, false_implies, forall_const, forall_eq', List.map_set, dCut, dCutS, ae_len, dIsi, startD, and_assoc, exists_eq_left, exists_eq_left', exists_eq_right, exists_eq_right', exists_eq, exists_eq', exists_and_left, exists_and_right, exists_const, exists_false, false_and, and_false, true_and, and_true, false_or, or_false, or_true, true_or, if_true, if_false, Bool.false_eq_true, reduceCtorEq, reduceIte, ite_true, ite_false, Option.some.injEq, DS.fr.injEq, DS.ol.injEq, DS.sm.injEq, D.int.injEq, D.str.injEq, D.bl.injEq, D.lst.injEq, D.tup.injEq, V.str.injEq, V.int.injEq, V.bl.injEq, List.cons.injEq, List.getElem?_cons_zero, List.getElem?_cons_succ, List.set_cons_zero, List.set_cons_succ, List.length_cons, List.length_nil, List.length_set, List.map_cons, List.map_nil, List.cons_append, List.nil_append, List.append_nil, List.replicate_succ, List.replicate_zero, List.mem_cons, List.not_mem_nil, forall_eq_or_imp, forall_eq, Nat.reduceAdd, Nat.reduceSub, Nat.reduceLT, Nat.reduceLeDiff, Nat.zero_add, Nat.add_zero, decide_eq_true_eq, decide_eq_false_iff_not, Bool.not_eq_true', Bool.and_eq_true, Bool.or_eq_true, decide_true, decide_false, Bool.not_true, Bool.not_false, id_eq, Option.map_some, Option.map_none, hb]
        exact ⟨sn.symm, rfl⟩
      · rw [if_neg hb] at sn
        have hb' : isNonD (rowTok l).2 = false := by simpa using hb
        simp only [dSeq, dNext, dSet, dSetO, dVar, dFrz, dC, dOp, dTest, rdI, rdI0, rdEq_ss, rdEq_gs, rdEq_gg, rdEq_ii, rdEq_bb, rdNe_ss, rdNe_gs, rdNe_gg, rdNe_ii, rdNe_bb, dAnd, dOr, dNot, dAndV, dOrV, dNotV, dIf, dNil, dCons, dTup, dLst, dFz, dBreak, dCont, dRet, dRetO, dMove, dIfS, dNever, dDrop, dWhile, dFor, dLc, dSrcL, dSrcT, dSrcS, dRng1, dRng2, dEnumL, dEnumS, dZip, dgName, dgNil, dgCons, dgTup, dPar, mNil, mConsF, mConsO, putD, dAsg, dCB, rdLen, lenD_str, lenD_lst, lenD_tup, dIxV, dLenV, dCall, dCallO, dCallX, dCallXO, dRaise, dCallS, dCallSO, frz_fr, frz_ol, rdAddS, dSlS, dPart, dNoPart, dM0, dM1, rdSplit, rdJoin, rdStr0, rdStr1, rdIndex, rdIsN, isn_non, isn_int, isn_str, isn_lst, isn_tup, rdEqD, rdCat, rdRep, dOpO, dCBO, rdList_lst, rdList_tup, rdList_str, rdTuple_lst, rdTuple_tup, rdAll, rdIn_sg, rdIx_str, rdIx_lst, rdIx_tup, rdInt_str, rdInt_int, at0, at1, at2, one_len, cast1, castA, castP, Int.ofNat_lt, Int.ofNat_le, Int.ofNat_inj, dYes, dApp, dSeqV, dRetIf, dCopyDic, dItems0, dNeg, dZipA, wipeD, noOwn, dSetRL, dAppRL, dBor1, dSpoil, dSetW, putW, dIsiW, dAppW, dThaw, dMet, dMetN, dMetW, dCallXk, frO, frO1, frS, frS1, thawS1, thawD, thawL, List.mem_singleton, implies_true, false_implies, forall_const, forall_eq', List.map_set, dCut, dCutS, ae_len, dIsi, startD, and_assoc, exists_eq_left, exists_eq_left', exists_eq_right, exists_eq_right', exists_eq, exists_eq', exists_and_left, exists_and_right, exists_const, exists_false, false_and, and_false, true_and, and_true, false_or, or_false, or_true, true_or, if_true, if_false, Bool.false_eq_true, reduceCtorEq, reduceIte, ite_true, ite_false, Option.some.injEq, DS.fr.injEq, DS.ol.injEq, DS.sm.injEq, D.int.injEq, D.str.injEq, D.bl.injEq, D.lst.injEq, D.tup.injEq, V.str.injEq, V.int.injEq, V.bl.injEq, List.cons.injEq, List.getElem?_cons_zero, List.getElem?_cons_succ, List.set_cons_zero, List.set_cons_succ, List.length_cons, List.length_nil, List.length_set, List.map_cons, List.map_nil, List.cons_append, List.nil_append, List.append_nil, List.replicate_succ, List.replicate_zero, List.mem_cons, List.not_mem_nil, forall_eq_or_imp, forall_eq, Nat.reduceAdd, Nat.reduceSub, Nat.reduceLT, Nat.reduceLeDiff, Nat.zero_add, Nat.add_zero, decide_eq_true_eq, decide_eq_false_iff_not, Bool.not_eq_true', Bool.and_eq_true, Bool.or_eq_true, decide_true, decide_false, Bool.not_true, Bool.not_false, id_eq, Option.map_some, Option.map_none, hb']
        exact ⟨by decide, sn.symm, rfl⟩
    rintro acc ρ ⟨rfl, rfl⟩
    rw [enumD_len, lm, ← ll, List.take_length]
    simp only [dSeq, dNext, dSet, dSetO, dVar, dFrz, dC, dOp, dTest, rdI, rdI0, rdEq_ss, rdEq_gs, rdEq_gg, rdEq_ii, rdEq_bb, rdNe_ss, rdNe_gs, rdNe_gg, rdNe_ii, rdNe_bb, dAnd, dOr, dNot, dAndV, dOrV, dNotV, dIf, dNil, dCons, dTup, dLst, dFz, dBreak, dCont, dRet, dRetO, dMove, dIfS, dNever, dDrop, dWhile, dFor, dLc, dSrcL, dSrcT, dSrcS, dRng1, dRng2, dEnumL, dEnumS, dZip, dgName, dgNil, dgCons, dgTup, dPar, mNil, mConsF, mConsO, putD, dAsg, dCB, rdLen, lenD_str, lenD_lst, lenD_tup, dIxV, dLenV, dCall, dCallO, dCallX, dCallXO, dRaise, dCallS, dCallSO, frz_fr, frz_ol, rdAddS, dSlS, dPart, dNoPart, dM0, dM1, rdSplit, rdJoin, rdStr0, rdStr1, rdIndex, rdIsN, isn_non, isn_int, isn_str, isn_lst, isn_tup, rdEqD, rdCat, rdRep, dOpO, dCBO, rdList_lst, rdList_tup, rdList_str, rdTuple_lst, rdTuple_tup, rdAll, rdIn_sg, rdIx_str, rdIx_lst, rdIx_tup, rdInt_str, rdInt_int, at0, at1, at2, one_len, cast1, castA, castP, Int.ofNat_lt, Int.ofNat_le, Int.ofNat_inj, dYes, dApp, dSeqV, dRetIf, dCopyDic, dItems0, dNeg, dZipA, wipeD, noOwn, dSetRL, dAppRL, dBor1, dSpoil, dSetW, putW, dIsiW, dAppW, dThaw, dMet, dMetN, dMetW, dCallXk, frO, frO1, frS, frS1, thawS1, thawD, thawL, List.mem_singleton, implies_true, false_implies, forall_const, forall_eq', List.map_set, dCut, dCutS, ae_len, dIsi, startD, and_assoc, exists_eq_left, exists_eq_left', exists_eq_right, exists_eq_right', exists_eq, exists_eq', exists_and_left, exists_and_right, exists_const, exists_false, false_and, and_false, true_and, and_true, false_or, or_false, or_true, true_or, if_true, if_false, Bool.false_eq_true, reduceCtorEq, reduceIte, ite_true, ite_false, Option.some.injEq, DS.fr.injEq, DS.ol.injEq, DS.sm.injEq, D.int.injEq, D.str.injEq, D.bl.injEq, D.lst.injEq, D.tup.injEq, V.str.injEq, V.int.injEq, V.bl.injEq, List.cons.injEq, List.getElem?_cons_zero, List.getElem?_cons_succ, List.set_cons_zero, List.set_cons_succ, List.length_cons, List.length_nil, List.length_set, List.map_cons, List.map_nil, List.cons_append, List.nil_append, List.append_nil, List.replicate_succ, List.replicate_zero, List.mem_cons, List.not_mem_nil, forall_eq_or_imp, forall_eq, Nat.reduceAdd, Nat.reduceSub, Nat.reduceLT, Nat.reduceLeDiff, Nat.zero_add, Nat.add_zero, decide_eq_true_eq, decide_eq_false_iff_not, Bool.not_eq_true', Bool.and_eq_true, Bool.or_eq_true, decide_true, decide_false, Bool.not_true, Bool.not_false, id_eq, Option.map_some, Option.map_none]
    subst hU3
    refine seq_step fun U4 hU4 => ?_
    simp only [dSeq, dNext, dSet, dSetO, dVar, dFrz, dC, dOp, dTest, rdI, rdI0, rdEq_ss, rdEq_gs, rdEq_gg, rdEq_ii, rdEq_bb, rdNe_ss, rdNe_gs, rdNe_gg, rdNe_ii, rdNe_bb, dAnd, dOr, dNot, dAndV, dOrV, dNotV, dIf, dNil, dCons, dTup, dLst, dFz, dBreak, dCont, dRet, dRetO, dMove, dIfS, dNever, dDrop, dWhile, dFor, dLc, dSrcL, dSrcT, dSrcS, dRng1, dRng2, dEnumL, dEnumS, dZip, dgName, dgNil, dgCons, dgTup, dPar, mNil, mConsF, mConsO, putD, dAsg, dCB, rdLen, lenD_str, lenD_lst, lenD_tup, dIxV, dLenV, dCall, dCallO, dCallX, dCallXO, dRaise, dCallS, dCallSO, frz_fr, frz_ol, rdAddS, dSlS, dPart, dNoPart, dM0, dM1, rdSplit, rdJoin, rdStr0, rdStr1, rdIndex, rdIsN, isn_non, isn_int, isn_str, isn_lst, isn_tup, rdEqD, rdCat, rdRep, dOpO, dCBO, rdList_lst, rdList_tup, rdList_str, rdTuple_lst, rdTuple_tup, rdAll, rdIn_sg, rdIx_str, rdIx_lst, rdIx_tup, rdInt_str, rdInt_int, at0, at1, at2, one_len, cast1, castA, castP, Int.ofNat_lt, Int.ofNat_le, Int.ofNat_inj, dYes, dApp, dSeqV, dRetIf, dCopyDic, dItems0, dNeg, dZipA, wipeD, noOwn, dSetRL, dAppRL, dBor1, dSpoil, dSetW, putW, dIsiW, dAppW, dThaw, dMet, dMetN, dMetW, dCallXk, frO, frO1, frS, frS1, thawS1, thawD, thawL, List.mem_singleton, implies_true, false_implies, forall_const, forall_eq', List.map_set, dCut, dCutS, ae_len, dIsi, startD, and_assoc, exists_eq_left, exists_eq_left', exists_eq_right, exists_eq_right', exists_eq, exists_eq', exists_and_left, exists_and_right, exists_const, exists_false, false_and, and_false, true_and, and_true, false_or, or_false, or_true, true_or, if_true, if_false, Bool.false_eq_true, reduceCtorEq, reduceIte, ite_true, ite_false, Option.some.injEq, DS.fr.injEq, DS.ol.injEq, DS.sm.injEq, D.int.injEq, D.str.injEq, D.bl.injEq, D.lst.injEq, D.tup.injEq, V.str.injEq, V.int.injEq, V.bl.injEq, List.cons.injEq, List.getElem?_cons_zero, List.getElem?_cons_succ, List.set_cons_zero, List.set_cons_succ, List.length_cons, List.length_nil, List.length_set, List.map_cons, List.map_nil, List.cons_append, List.nil_append, List.append_nil, List.replicate_succ, List.replicate_zero, List.mem_cons, List.not_mem_nil, forall_eq_or_imp, forall_eq, Nat.reduceAdd, Nat.reduceSub, Nat.reduceLT, Nat.reduceLeDiff, Nat.zero_add, Nat.add_zero, decide_eq_true_eq, decide_eq_false_iff_not, Bool.not_eq_true', Bool.and_eq_true, Bool.or_eq_true, decide_true, decide_false, Bool.not_true, Bool.not_false, id_eq, Option.map_some, Option.map_none, dPre]
    refine ⟨by decide, ?_⟩
    suffices hU : U4 [none, some (.sm a b n1 (some (PT, q))), some (.fr (.int i)), some (.fr (.lst (xs.map .str))), none, some (.fr (.str (Txt.join (Str.ofString "\n") xs))), some (.fr (.lst (madeL xs))), some (.fr (.lst (badsL 0 (lsOf xs)))), none, none, none, some (.fr (dueD xs)), o12, o13, o14, o15, none] by
      obtain ⟨L, p1, p2, p3⟩ := pairs_py (badsL_pairs (lsOf xs) 0)
      refine ⟨_, p1, _, rfl, p2, rfl, ?_⟩
      rw [p3]
      cases hb : badsL 0 (lsOf xs) with
      | cons e es =>
        unfold dueD at hU
        rw [hb] at hU
        exact ⟨e, at0, by decide, hU⟩
      | nil =>
        unfold dueD at hU
        rw [hb] at hU
        refine ⟨by rw [lm]; omega, WMap ((lsOf xs).map fun l => .lst (rowTok l).1) [none, some (.sm a b n1 (some (PT, q))), some (.fr (.int i)), some (.fr (.lst (xs.map .str))), none, some (.fr (.str (Txt.join (Str.ofString "\n") xs))), some (.fr (.lst (madeL xs))), some (.fr (.lst [])), none, none, none, o11, o12, o13, o14, o15, none], ⟨rfl, rfl⟩, ?_, ?_⟩
        · rintro i' y acc ρ hy _ ⟨rfl, rfl⟩
          obtain ⟨l, hl, rfl⟩ := mk i' y hy
          have hl2 : ((lsOf xs).map fun l => D.lst (rowTok l).1)[i']? = some (.lst (rowTok l).1) := by rw [List.getElem?_map, hl]; rfl
          simp only [dSeq, dNext, dSet, dSetO, dVar, dFrz, dC, dOp, dTest, rdI, rdI0, rdEq_ss, rdEq_gs, rdEq_gg, rdEq_ii, rdEq_bb, rdNe_ss, rdNe_gs, rdNe_gg, rdNe_ii, rdNe_bb, dAnd, dOr, dNot, dAndV, dOrV, dNotV, dIf, dNil, dCons, dTup, dLst, dFz, dBreak, dCont, dRet, dRetO, dMove, dIfS, dNever, dDrop, dWhile, dFor, dLc, dSrcL, dSrcT, dSrcS, dRng1, dRng2, dEnumL, dEnumS, dZip, dgName, dgNil, dgCons, dgTup, dPar, mNil, mConsF, mConsO, putD, dAsg, dCB, rdLen, lenD_str, lenD_lst, lenD_tup, dIxV, dLenV, dCall, dCallO, dCallX, dCallXO, dRaise, dCallS, dCallSO, frz_fr, frz_ol, rdAddS, dSlS, dPart, dNoPart, dM0, dM1, rdSplit, rdJoin, rdStr0, rdStr1, rdIndex, rdIsN, isn_non, isn_int, isn_str, isn_lst, isn_tup, rdEqD, rdCat, rdRep, dOpO, dCBO, rdList_lst, rdList_tup, rdList_str, rdTuple_lst, rdTuple_tup, rdAll, rdIn_sg, rdIx_str, rdIx_lst, rdIx_tup, rdInt_str, rdInt_int, at0, at1, at2, one_len, cast1, castA, castP, Int.ofNat_lt, Int.ofNat_le, Int.ofNat_inj, dYes, dApp, dSeqV, dRetIf, dCopyDic, dItems0, dNeg, dZipA, wipeD, noOwn, dSetRL, dAppRL, dBor1, dSpoil, dSetW, putW, dIsiW, dAppW, dThaw, dMet, dMetN, dMetW, dCallXk, frO, frO1, frS, frS1, thawS1, thawD, thawL, List.mem_singleton, implies_true, false_implies, forall_const, forall_eq', List.map_set, dCut, dCutS, ae_len, dIsi, startD, and_assoc, exists_eq_left, exists_eq_left', exists_eq_right, exists_eq_right', exists_eq, exists_eq', exists_and_left, exists_and_right, exists_const, exists_false, false_and, and_false, true_and, and_true, false_or, or_false, or_true, true_or, if_true, if_false, Bool.false_eq_true, reduceCtorEq, reduceIte, ite_true, ite_false, Option.some.injEq, DS.fr.injEq, DS.ol.injEq, DS.sm.injEq, D.int.injEq, D.str.injEq, D.bl.injEq, D.lst.injEq, D.tup.injEq, V.str.injEq, V.int.injEq, V.bl.injEq, List.cons.injEq, List.getElem?_cons_zero, List.getElem?_cons_succ, List.set_cons_zero, List.set_cons_succ, List.length_cons, List.length_nil, List.length_set, List.map_cons, List.map_nil, List.cons_append, List.nil_append, List.append_nil, List.replicate_succ, List.replicate_zero, List.mem_cons, List.not_mem_nil, forall_eq_or_imp, forall_eq, Nat.reduceAdd, Nat.reduceSub, Nat.reduceLT, Nat.reduceLeDiff, Nat.zero_add, Nat.add_zero, decide_eq_true_eq, decide_eq_false_iff_not, Bool.not_eq_true', Bool.and_eq_true, Bool.or_eq_true, decide_true, decide_false, Bool.not_true, Bool.not_false, id_eq, Option.map_some, Option.map_none]
          exact ⟨take_more hl2, rfl⟩
        · rintro acc ρ ⟨rfl, rfl⟩
          have e3 : List.take (madeL xs).length ((lsOf xs).map fun l => D.lst (rowTok l).1) = (lsOf xs).map fun l => D.lst (rowTok l).1 := List.take_of_length_le (by simp [madeL, lsOf])
          simp only [dSeq, dNext, dSet, dSetO, dVar, dFrz, dC, dOp, dTest, rdI, rdI0, rdEq_ss, rdEq_gs, rdEq_gg, rdEq_ii, rdEq_bb, rdNe_ss, rdNe_gs, rdNe_gg, rdNe_ii, rdNe_bb, dAnd, dOr, dNot, dAndV, dOrV, dNotV, dIf, dNil, dCons, dTup, dLst, dFz, dBreak, dCont, dRet, dRetO, dMove, dIfS, dNever, dDrop, dWhile, dFor, dLc, dSrcL, dSrcT, dSrcS, dRng1, dRng2, dEnumL, dEnumS, dZip, dgName, dgNil, dgCons, dgTup, dPar, mNil, mConsF, mConsO, putD, dAsg, dCB, rdLen, lenD_str, lenD_lst, lenD_tup, dIxV, dLenV, dCall, dCallO, dCallX, dCallXO, dRaise, dCallS, dCallSO, frz_fr, frz_ol, rdAddS, dSlS, dPart, dNoPart, dM0, dM1, rdSplit, rdJoin, rdStr0, rdStr1, rdIndex, rdIsN, isn_non, isn_int, isn_str, isn_lst, isn_tup, rdEqD, rdCat, rdRep, dOpO, dCBO, rdList_lst, rdList_tup, rdList_str, rdTuple_lst, rdTuple_tup, rdAll, rdIn_sg, rdIx_str, rdIx_lst, rdIx_tup, rdInt_str, rdInt_int, at0, at1, at2, one_len, cast1, castA, castP, Int.ofNat_lt, Int.ofNat_le, Int.ofNat_inj, dYes, dApp, dSeqV, dRetIf, dCopyDic, dItems0, dNeg, dZipA, wipeD, noOwn, dSetRL, dAppRL, dBor1, dSpoil, dSetW, putW, dIsiW, dAppW, dThaw, dMet, dMetN, dMetW, dCallXk, frO, frO1, frS, frS1, thawS1, thawD, thawL, List.mem_singleton, implies_true, false_implies, forall_const, forall_eq', List.map_set, dCut, dCutS, ae_len, dIsi, startD, and_assoc, exists_eq_left, exists_eq_left', exists_eq_right, exists_eq_right', exists_eq, exists_eq', exists_and_left, exists_and_right, exists_const, exists_false, false_and, and_false, true_and, and_true, false_or, or_false, or_true, true_or, if_true, if_false, Bool.false_eq_true, reduceCtorEq, reduceIte, ite_true, ite_false, Option.some.injEq, DS.fr.injEq, DS.ol.injEq, DS.sm.injEq, D.int.injEq, D.str.injEq, D.bl.injEq, D.lst.injEq, D.tup.injEq, V.str.injEq, V.int.injEq, V.bl.injEq, List.cons.injEq, List.getElem?_cons_zero, List.getElem?_cons_succ, List.set_cons_zero, List.set_cons_succ, List.length_cons, List.length_nil, List.length_set, List.map_cons, List.map_nil, List.cons_append, List.nil_append, List.append_nil, List.replicate_succ, List.replicate_zero, List.mem_cons, List.not_mem_nil, forall_eq_or_imp, forall_eq, Nat.reduceAdd, Nat.reduceSub, Nat.reduceLT, Nat.reduceLeDiff, Nat.zero_add, Nat.add_zero, decide_eq_true_eq, decide_eq_false_iff_not, Bool.not_eq_true', Bool.and_eq_true, Bool.or_eq_true, decide_true, decide_false, Bool.not_true, Bool.not_false, id_eq, Option.map_some, Option.map_none, e3]
          exact ⟨by decide, hU⟩
    subst hU4
    refine seq_step fun U5 hU5 => ?_
    simp only [dSeq, dNext, dSet, dSetO, dVar, dFrz, dC, dOp, dTest, rdI, rdI0, rdEq_ss, rdEq_gs, rdEq_gg, rdEq_ii, rdEq_bb, rdNe_ss, rdNe_gs, rdNe_gg, rdNe_ii, rdNe_bb, dAnd, dOr, dNot, dAndV, dOrV, dNotV, dIf, dNil, dCons, dTup, dLst, dFz, dBreak, dCont, dRet, dRetO, dMove, dIfS, dNever, dDrop, dWhile, dFor, dLc, dSrcL, dSrcT, dSrcS, dRng1, dRng2, dEnumL, dEnumS, dZip, dgName, dgNil, dgCons, dgTup, dPar, mNil, mConsF, mConsO, putD, dAsg, dCB, rdLen, lenD_str, lenD_lst, lenD_tup, dIxV, dLenV, dCall, dCallO, dCallX, dCallXO, dRaise, dCallS, dCallSO, frz_fr, frz_ol, rdAddS, dSlS, dPart, dNoPart, dM0, dM1, rdSplit, rdJoin, rdStr0, rdStr1, rdIndex, rdIsN, isn_non, isn_int, isn_str, isn_lst, isn_tup, rdEqD, rdCat, rdRep, dOpO, dCBO, rdList_lst, rdList_tup, rdList_str, rdTuple_lst, rdTuple_tup, rdAll, rdIn_sg, rdIx_str, rdIx_lst, rdIx_tup, rdInt_str, rdInt_int, at0, at1, at2, one_len, cast1, castA, castP, Int.ofNat_lt, Int.ofNat_le, Int.ofNat_inj, dYes, dApp, dSeqV, dRetIf, dCopyDic, dItems0, dNeg, dZipA, wipeD, noOwn, dSetRL, dAppRL, dBor1, dSpoil, dSetW, putW, dIsiW, dAppW, dThaw, dMet, dMetN, dMetW, dCallXk, frO, frO1, frS, frS1, thawS1, thawD, thawL, List.mem_singleton, implies_true, false_implies, forall_const, forall_eq', List.map_set, dCut, dCutS, ae_len, dIsi, startD, and_assoc, exists_eq_left, exists_eq_left', exists_eq_right, exists_eq_right', exists_eq, exists_eq', exists_and_left, exists_and_right, exists_const, exists_false, false_and, and_false, true_and, and_true, false_or, or_false, or_true, true_or, if_true, if_false, Bool.false_eq_true, reduceCtorEq, reduceIte, ite_true, ite_false, Option.some.injEq, DS.fr.injEq, DS.ol.injEq, DS.sm.injEq, D.int.injEq, D.str.injEq, D.bl.injEq, D.lst.injEq, D.tup.injEq, V.str.injEq, V.int.injEq, V.bl.injEq, List.cons.injEq, List.getElem?_cons_zero, List.getElem?_cons_succ, List.set_cons_zero, List.set_cons_succ, List.length_cons, List.length_nil, List.length_set, List.map_cons, List.map_nil, List.cons_append, List.nil_append, List.append_nil, List.replicate_succ, List.replicate_zero, List.mem_cons, List.not_mem_nil, forall_eq_or_imp, forall_eq, Nat.reduceAdd, Nat.reduceSub, Nat.reduceLT, Nat.reduceLeDiff, Nat.zero_add, Nat.add_zero, decide_eq_true_eq, decide_eq_false_iff_not, Bool.not_eq_true', Bool.and_eq_true, Bool.or_eq_true, decide_true, decide_false, Bool.not_true, Bool.not_false, id_eq, Option.map_some, Option.map_none, dPre]
    have ne : xs ≠ [] := by
      rintro rfl
      simp at hxs
      omega
    refine tok_met (U := fun z => U5 [none, some (.sm a b n1 (some (PT, q))), some (.fr (.int i)), some (.fr (.lst (xs.map .str))), none, some (.fr (.str (Txt.join (Str.ofString "\n") xs))), some (.fr (.lst (madeL xs))), some (.fr (.lst (badsL 0 (lsOf xs)))), none, none, none, some (.fr (dueD xs)), some (.rl [z]), o13, o14, o15, none]) ok ne (by omega) x21 x22 ?_
    show U5 [none, some (.sm a b n1 (some (PT, q))), some (.fr (.int i)), some (.fr (.lst (xs.map .str))), none, some (.fr (.str (Txt.join (Str.ofString "\n") xs))), some (.fr (.lst (madeL xs))), some (.fr (.lst (badsL 0 (lsOf xs)))), none, none, none, some (.fr (dueD xs)), some (.rl [dueD xs]), o13, o14, o15, none]
    subst hU5
    refine seq_step fun U6 hU6 => ?_
    simp only [dSeq, dNext, dSet, dSetO, dVar, dFrz, dC, dOp, dTest, rdI, rdI0, rdEq_ss, rdEq_gs, rdEq_gg, rdEq_ii, rdEq_bb, rdNe_ss, rdNe_gs, rdNe_gg, rdNe_ii, rdNe_bb, dAnd, dOr, dNot, dAndV, dOrV, dNotV, dIf, dNil, dCons, dTup, dLst, dFz, dBreak, dCont, dRet, dRetO, dMove, dIfS, dNever, dDrop, dWhile, dFor, dLc, dSrcL, dSrcT, dSrcS, dRng1, dRng2, dEnumL, dEnumS, dZip, dgName, dgNil, dgCons, dgTup, dPar, mNil, mConsF, mConsO, putD, dAsg, dCB, rdLen, lenD_str, lenD_lst, lenD_tup, dIxV, dLenV, dCall, dCallO, dCallX, dCallXO, dRaise, dCallS, dCallSO, frz_fr, frz_ol, rdAddS, dSlS, dPart, dNoPart, dM0, dM1, rdSplit, rdJoin, rdStr0, rdStr1, rdIndex, rdIsN, isn_non, isn_int, isn_str, isn_lst, isn_tup, rdEqD, rdCat, rdRep, dOpO, dCBO, rdList_lst, rdList_tup, rdList_str, rdTuple_lst, rdTuple_tup, rdAll, rdIn_sg, rdIx_str, rdIx_lst, rdIx_tup, rdInt_str, rdInt_int, at0, at1, at2, one_len, cast1, castA, castP, Int.ofNat_lt, Int.ofNat_le, Int.ofNat_inj, dYes, dApp, dSeqV, dRetIf, dCopyDic, dItems0, dNeg, dZipA, wipeD, noOwn, dSetRL, dAppRL, dBor1, dSpoil, dSetW, putW, dIsiW, dAppW, dThaw, dMet, dMetN, dMetW, dCallXk, frO, frO1, frS, frS1, thawS1, thawD, thawL, List.mem_singleton, implies_true, false_implies, forall_const, forall_eq', List.map_set, dCut, dCutS, ae_len, dIsi, startD, and_assoc, exists_eq_left, exists_eq_left', exists_eq_right, exists_eq_right', exists_eq, exists_eq', exists_and_left, exists_and_right, exists_const, exists_false, false_and, and_false, true_and, and_true, false_or, or_false, or_true, true_or, if_true, if_false, Bool.false_eq_true, reduceCtorEq, reduceIte, ite_true, ite_false, Option.some.injEq, DS.fr.injEq, DS.ol.injEq, DS.sm.injEq, D.int.injEq, D.str.injEq, D.bl.injEq, D.lst.injEq, D.tup.injEq, V.str.injEq, V.int.injEq, V.bl.injEq, List.cons.injEq, List.getElem?_cons_zero, List.getElem?_cons_succ, List.set_cons_zero, List.set_cons_succ, List.length_cons, List.length_nil, List.length_set, List.map_cons, List.map_nil, List.cons_append, List.nil_append, List.append_nil, List.replicate_succ, List.replicate_zero, List.mem_cons, List.not_mem_nil, forall_eq_or_imp, forall_eq, Nat.reduceAdd, Nat.reduceSub, Nat.reduceLT, Nat.reduceLeDiff, Nat.zero_add, Nat.add_zero, decide_eq_true_eq, decide_eq_false_iff_not, Bool.not_eq_true', Bool.and_eq_true, Bool.or_eq_true, decide_true, decide_false, Bool.not_true, Bool.not_false, id_eq, Option.map_some, Option.map_none, dPre]
    refine ⟨⟨_, rfl⟩, tok_met (U := fun z => ∃ ys, DS.rl [dueD xs] = DS.rl ys ∧ ys.length < 16777216 ∧ U6 [none, some (.sm a b n1 (some (PT, q))), some (.fr (.int i)), some (.fr (.lst (xs.map .str))), none, some (.fr (.str (Txt.join (Str.ofString "\n") xs))), some (.fr (.lst (madeL xs))), some (.fr (.lst (badsL 0 (lsOf xs)))), none, none, none, some (.fr (dueD xs)), some (.rl (ys ++ [z])), o13, o14, o15, none]) ok ne (by omega) x21 x22 ?_⟩
    refine ⟨_, rfl, by simp, ?_⟩
    show U6 [none, some (.sm a b n1 (some (PT, q))), some (.fr (.int i)), some (.fr (.lst (xs.map .str))), none, some (.fr (.str (Txt.join (Str.ofString "\n") xs))), some (.fr (.lst (madeL xs))), some (.fr (.lst (badsL 0 (lsOf xs)))), none, none, none, some (.fr (dueD xs)), some (.rl [dueD xs, dueD xs]), o13, o14, o15, none]
    subst hU6
    refine seq_step fun U7 hU7 => ?_
    simp only [dSeq, dNext, dSet, dSetO, dVar, dFrz, dC, dOp, dTest, rdI, rdI0, rdEq_ss, rdEq_gs, rdEq_gg, rdEq_ii, rdEq_bb, rdNe_ss, rdNe_gs, rdNe_gg, rdNe_ii, rdNe_bb, dAnd, dOr, dNot, dAndV, dOrV, dNotV, dIf, dNil, dCons, dTup, dLst, dFz, dBreak, dCont, dRet, dRetO, dMove, dIfS, dNever, dDrop, dWhile, dFor, dLc, dSrcL, dSrcT, dSrcS, dRng1, dRng2, dEnumL, dEnumS, dZip, dgName, dgNil, dgCons, dgTup, dPar, mNil, mConsF, mConsO, putD, dAsg, dCB, rdLen, lenD_str, lenD_lst, lenD_tup, dIxV, dLenV, dCall, dCallO, dCallX, dCallXO, dRaise, dCallS, dCallSO, frz_fr, frz_ol, rdAddS, dSlS, dPart, dNoPart, dM0, dM1, rdSplit, rdJoin, rdStr0, rdStr1, rdIndex, rdIsN, isn_non, isn_int, isn_str, isn_lst, isn_tup, rdEqD, rdCat, rdRep, dOpO, dCBO, rdList_lst, rdList_tup, rdList_str, rdTuple_lst, rdTuple_tup, rdAll, rdIn_sg, rdIx_str, rdIx_lst, rdIx_tup, rdInt_str, rdInt_int, at0, at1, at2, one_len, cast1, castA, castP, Int.ofNat_lt, Int.ofNat_le, Int.ofNat_inj, dYes, dApp, dSeqV, dRetIf, dCopyDic, dItems0, dNeg, dZipA, wipeD, noOwn, dSetRL, dAppRL, dBor1, dSpoil, dSetW, putW, dIsiW, dAppW, dThaw, dMet, dMetN, dMetW, dCallXk, frO, frO1, frS, frS1, thawS1, thawD, thawL, List.mem_singleton, implies_true, false_implies, forall_const, forall_eq', List.map_set, dCut, dCutS, ae_len, dIsi, startD, and_assoc, exists_eq_left, exists_eq_left', exists_eq_right, exists_eq_right', exists_eq, exists_eq', exists_and_left, exists_and_right, exists_const, exists_false, false_and, and_false, true_and, and_true, false_or, or_false, or_true, true_or, if_true, if_false, Bool.false_eq_true, reduceCtorEq, reduceIte, ite_true, ite_false, Option.some.injEq, DS.fr.injEq, DS.ol.injEq, DS.sm.injEq, D.int.injEq, D.str.injEq, D.bl.injEq, D.lst.injEq, D.tup.injEq, V.str.injEq, V.int.injEq, V.bl.injEq, List.cons.injEq, List.getElem?_cons_zero, List.getElem?_cons_succ, List.set_cons_zero, List.set_cons_succ, List.length_cons, List.length_nil, List.length_set, List.map_cons, List.map_nil, List.cons_append, List.nil_append, List.append_nil, List.replicate_succ, List.replicate_zero, List.mem_cons, List.not_mem_nil, forall_eq_or_imp, forall_eq, Nat.reduceAdd, Nat.reduceSub, Nat.reduceLT, Nat.reduceLeDiff, Nat.zero_add, Nat.add_zero, decide_eq_true_eq, decide_eq_false_iff_not, Bool.not_eq_true', Bool.and_eq_true, Bool.or_eq_true, decide_true, decide_false, Bool.not_true, Bool.not_false, id_eq, Option.map_some, Option.map_none, dPre, DS.rl.injEq]
    have dpl := due_pl ok (by omega)
    refine ⟨by decide, same_pl ((PlL.of (ds := [dueD xs, dueD xs]) (n := 4) (m := 6) (by simpa using dpl)).lst (by simp)) (by omega) ⟨true, rfl, (if_neg (by decide)).mpr ?_⟩⟩
    subst hU7
    refine seq_step fun U8 hU8 => ?_
    simp only [dSeq, dNext, dSet, dSetO, dVar, dFrz, dC, dOp, dTest, rdI, rdI0, rdEq_ss, rdEq_gs, rdEq_gg, rdEq_ii, rdEq_bb, rdNe_ss, rdNe_gs, rdNe_gg, rdNe_ii, rdNe_bb, dAnd, dOr, dNot, dAndV, dOrV, dNotV, dIf, dNil, dCons, dTup, dLst, dFz, dBreak, dCont, dRet, dRetO, dMove, dIfS, dNever, dDrop, dWhile, dFor, dLc, dSrcL, dSrcT, dSrcS, dRng1, dRng2, dEnumL, dEnumS, dZip, dgName, dgNil, dgCons, dgTup, dPar, mNil, mConsF, mConsO, putD, dAsg, dCB, rdLen, lenD_str, lenD_lst, lenD_tup, dIxV, dLenV, dCall, dCallO, dCallX, dCallXO, dRaise, dCallS, dCallSO, frz_fr, frz_ol, rdAddS, dSlS, dPart, dNoPart, dM0, dM1, rdSplit, rdJoin, rdStr0, rdStr1, rdIndex, rdIsN, isn_non, isn_int, isn_str, isn_lst, isn_tup, rdEqD, rdCat, rdRep, dOpO, dCBO, rdList_lst, rdList_tup, rdList_str, rdTuple_lst, rdTuple_tup, rdAll, rdIn_sg, rdIx_str, rdIx_lst, rdIx_tup, rdInt_str, rdInt_int, at0, at1, at2, one_len, cast1, castA, castP, Int.ofNat_lt, Int.ofNat_le, Int.ofNat_inj, dYes, dApp, dSeqV, dRetIf, dCopyDic, dItems0, dNeg, dZipA, wipeD, noOwn, dSetRL, dAppRL, dBor1, dSpoil, dSetW, putW, dIsiW, dAppW, dThaw, dMet, dMetN, dMetW, dCallXk, frO, frO1, frS, frS1, thawS1, thawD, thawL, List.mem_singleton, implies_true, false_implies, forall_const, forall_eq', List.map_set, dCut, dCutS, ae_len, dIsi, startD, and_assoc, exists_eq_left, exists_eq_left', exists_eq_right, exists_eq_right', exists_eq, exists_eq', exists_and_left, exists_and_right, exists_const, exists_false, false_and, and_false, true_and, and_true, false_or, or_false, or_true, true_or, if_true, if_false, Bool.false_eq_true, reduceCtorEq, reduceIte, ite_true, ite_false, Option.some.injEq, DS.fr.injEq, DS.ol.injEq, DS.sm.injEq, D.int.injEq, D.str.injEq, D.bl.injEq, D.lst.injEq, D.tup.injEq, V.str.injEq, V.int.injEq, V.bl.injEq, List.cons.injEq, List.getElem?_cons_zero, List.getElem?_cons_succ, List.set_cons_zero, List.set_cons_succ, List.length_cons, List.length_nil, List.length_set, List.map_cons, List.map_nil, List.cons_append, List.nil_append, List.append_nil, List.replicate_succ, List.replicate_zero, List.mem_cons, List.not_mem_nil, forall_eq_or_imp, forall_eq, Nat.reduceAdd, Nat.reduceSub, Nat.reduceLT, Nat.reduceLeDiff, Nat.zero_add, Nat.add_zero, decide_eq_true_eq, decide_eq_false_iff_not, Bool.not_eq_true', Bool.and_eq_true, Bool.or_eq_true, decide_true, decide_false, Bool.not_true, Bool.not_false, id_eq, Option.map_some, Option.map_none, dPre, DS.rl.injEq]
    suffices hU : ∀ o, U8 [none, some (.sm a b n1 (some (PT, q))), some (.fr (.int i)), some (.fr (.lst (xs.map .str))), none, some (.fr (.str (Txt.join (Str.ofString "\n") xs))), some (.fr (.lst (madeL xs))), some (.fr (.lst (badsL 0 (lsOf xs)))), none, none, none, some (.fr (dueD xs)), o, o13, o14, o15, none] by
      obtain ⟨L, p1, p2, p3⟩ := pairs_py (badsL_pairs (lsOf xs) 0)
      refine ⟨by decide, _, p1, _, rfl, p2, rfl, ?_⟩
      rw [p3]
      by_cases hb : (badsL 0 (lsOf xs)).isEmpty = true
      · rw [if_pos hb]
        have hn : badsL 0 (lsOf xs) = [] := by simpa using hb
        have h := rows_of ok (by omega)
        exact ⟨_, _, by unfold dueD; rw [hn]; rfl, h.sp, Nat.le_trans h.dd (by omega), Nat.le_trans h.nl (by omega), hU _⟩
      · rw [if_neg hb]
        exact hU _
    intro o12
    subst hU8
    refine seq_step fun U9 hU9 => ?_
    simp only [dSeq, dNext, dSet, dSetO, dVar, dFrz, dC, dOp, dTest, rdI, rdI0, rdEq_ss, rdEq_gs, rdEq_gg, rdEq_ii, rdEq_bb, rdNe_ss, rdNe_gs, rdNe_gg, rdNe_ii, rdNe_bb, dAnd, dOr, dNot, dAndV, dOrV, dNotV, dIf, dNil, dCons, dTup, dLst, dFz, dBreak, dCont, dRet, dRetO, dMove, dIfS, dNever, dDrop, dWhile, dFor, dLc, dSrcL, dSrcT, dSrcS, dRng1, dRng2, dEnumL, dEnumS, dZip, dgName, dgNil, dgCons, dgTup, dPar, mNil, mConsF, mConsO, putD, dAsg, dCB, rdLen, lenD_str, lenD_lst, lenD_tup, dIxV, dLenV, dCall, dCallO, dCallX, dCallXO, dRaise, dCallS, dCallSO, frz_fr, frz_ol, rdAddS, dSlS, dPart, dNoPart, dM0, dM1, rdSplit, rdJoin, rdStr0, rdStr1, rdIndex, rdIsN, isn_non, isn_int, isn_str, isn_lst, isn_tup, rdEqD, rdCat, rdRep, dOpO, dCBO, rdList_lst, rdList_tup, rdList_str, rdTuple_lst, rdTuple_tup, rdAll, rdIn_sg, rdIx_str, rdIx_lst, rdIx_tup, rdInt_str, rdInt_int, at0, at1, at2, one_len, cast1, castA, castP, Int.ofNat_lt, Int.ofNat_le, Int.ofNat_inj, dYes, dApp, dSeqV, dRetIf, dCopyDic, dItems0, dNeg, dZipA, wipeD, noOwn, dSetRL, dAppRL, dBor1, dSpoil, dSetW, putW, dIsiW, dAppW, dThaw, dMet, dMetN, dMetW, dCallXk, frO, frO1, frS, frS1, thawS1, thawD, thawL, List.mem_singleton, implies_true, false_implies, forall_const, forall_eq', List.map_set, dCut, dCutS, ae_len, dIsi, startD, and_assoc, exists_eq_left, exists_eq_left', exists_eq_right, exists_eq_right', exists_eq, exists_eq', exists_and_left, exists_and_right, exists_const, exists_false, false_and, and_false, true_and, and_true, false_or, or_false, or_true, true_or, if_true, if_false, Bool.false_eq_true, reduceCtorEq, reduceIte, ite_true, ite_false, Option.some.injEq, DS.fr.injEq, DS.ol.injEq, DS.sm.injEq, D.int.injEq, D.str.injEq, D.bl.injEq, D.lst.injEq, D.tup.injEq, V.str.injEq, V.int.injEq, V.bl.injEq, List.cons.injEq, List.getElem?_cons_zero, List.getElem?_cons_succ, List.set_cons_zero, List.set_cons_succ, List.length_cons, List.length_nil, List.length_set, List.map_cons, List.map_nil, List.cons_append, List.nil_append, List.append_nil, List.replicate_succ, List.replicate_zero, List.mem_cons, List.not_mem_nil, forall_eq_or_imp, forall_eq, Nat.reduceAdd, Nat.reduceSub, Nat.reduceLT, Nat.reduceLeDiff, Nat.zero_add, Nat.add_zero, decide_eq_true_eq, decide_eq_false_iff_not, Bool.not_eq_true', Bool.and_eq_true, Bool.or_eq_true, decide_true, decide_false, Bool.not_true, Bool.not_false, id_eq, Option.map_some, Option.map_none, dPre, DS.rl.injEq]
    refine tok_met (U := fun z => PhiSame 8 [z, dueD xs] fun x => ∃ d, frz x = some d ∧ ∃ c, d = D.bl c ∧ if c = false then kk (DS.fr (D.bl false)) else U9 [none, some (.sm a b n1 (some (PT, q))), some (.fr (.int i)), some (.fr (.lst (xs.map .str))), none, some (.fr (.str (Txt.join (Str.ofString "\n") xs))), some (.fr (.lst (madeL xs))), some (.fr (.lst (badsL 0 (lsOf xs)))), none, none, none, some (.fr (dueD xs)), o12, o13, o14, o15, none]) ok ne (by omega) x21 x22 ?_
    refine same_pl dpl (by omega) ⟨_, rfl, _, rfl, (if_neg (by decide)).mpr ?_⟩
    subst hU9
    refine seq_step fun U10 hU10 => ?_
    simp only [dSeq, dNext, dSet, dSetO, dVar, dFrz, dC, dOp, dTest, rdI, rdI0, rdEq_ss, rdEq_gs, rdEq_gg, rdEq_ii, rdEq_bb, rdNe_ss, rdNe_gs, rdNe_gg, rdNe_ii, rdNe_bb, dAnd, dOr, dNot, dAndV, dOrV, dNotV, dIf, dNil, dCons, dTup, dLst, dFz, dBreak, dCont, dRet, dRetO, dMove, dIfS, dNever, dDrop, dWhile, dFor, dLc, dSrcL, dSrcT, dSrcS, dRng1, dRng2, dEnumL, dEnumS, dZip, dgName, dgNil, dgCons, dgTup, dPar, mNil, mConsF, mConsO, putD, dAsg, dCB, rdLen, lenD_str, lenD_lst, lenD_tup, dIxV, dLenV, dCall, dCallO, dCallX, dCallXO, dRaise, dCallS, dCallSO, frz_fr, frz_ol, rdAddS, dSlS, dPart, dNoPart, dM0, dM1, rdSplit, rdJoin, rdStr0, rdStr1, rdIndex, rdIsN, isn_non, isn_int, isn_str, isn_lst, isn_tup, rdEqD, rdCat, rdRep, dOpO, dCBO, rdList_lst, rdList_tup, rdList_str, rdTuple_lst, rdTuple_tup, rdAll, rdIn_sg, rdIx_str, rdIx_lst, rdIx_tup, rdInt_str, rdInt_int, at0, at1, at2, one_len, cast1, castA, castP, Int.ofNat_lt, Int.ofNat_le, Int.ofNat_inj, dYes, dApp, dSeqV, dRetIf, dCopyDic, dItems0, dNeg, dZipA, wipeD, noOwn, dSetRL, dAppRL, dBor1, dSpoil, dSetW, putW, dIsiW, dAppW, dThaw, dMet, dMetN, dMetW, dCallXk, frO, frO1, frS, frS1, thawS1, thawD, thawL, List.mem_singleton, implies_true, false_implies, forall_const, forall_eq', List.map_set, dCut, dCutS, ae_len, dIsi, startD, and_assoc, exists_eq_left, exists_eq_left', exists_eq_right, exists_eq_right', exists_eq, exists_eq', exists_and_left, exists_and_right, exists_const, exists_false, false_and, and_false, true_and, and_true, false_or, or_false, or_true, true_or, if_true, if_false, Bool.false_eq_true, reduceCtorEq, reduceIte, ite_true, ite_false, Option.some.injEq, DS.fr.injEq, DS.ol.injEq, DS.sm.injEq, D.int.injEq, D.str.injEq, D.bl.injEq, D.lst.injEq, D.tup.injEq, V.str.injEq, V.int.injEq, V.bl.injEq, List.cons.injEq, List.getElem?_cons_zero, List.getElem?_cons_succ, List.set_cons_zero, List.set_cons_succ, List.length_cons, List.length_nil, List.length_set, List.map_cons, List.map_nil, List.cons_append, List.nil_append, List.append_nil, List.replicate_succ, List.replicate_zero, List.mem_cons, List.not_mem_nil, forall_eq_or_imp, forall_eq, Nat.reduceAdd, Nat.reduceSub, Nat.reduceLT, Nat.reduceLeDiff, Nat.zero_add, Nat.add_zero, decide_eq_true_eq, decide_eq_false_iff_not, Bool.not_eq_true', Bool.and_eq_true, Bool.or_eq_true, decide_true, decide_false, Bool.not_true, Bool.not_false, id_eq, Option.map_some, Option.map_none, dPre, DS.rl.injEq]
    refine ⟨by decide, by decide, by decide, by decide, phiPick.mpr ⟨by decide, by decide, by omega, fun x hx => ⟨_, rfl, ?_⟩⟩⟩
    subst hU10
    refine seq_step fun U11 hU11 => ?_
    simp only [dSeq, dNext, dSet, dSetO, dVar, dFrz, dC, dOp, dTest, rdI, rdI0, rdEq_ss, rdEq_gs, rdEq_gg, rdEq_ii, rdEq_bb, rdNe_ss, rdNe_gs, rdNe_gg, rdNe_ii, rdNe_bb, dAnd, dOr, dNot, dAndV, dOrV, dNotV, dIf, dNil, dCons, dTup, dLst, dFz, dBreak, dCont, dRet, dRetO, dMove, dIfS, dNever, dDrop, dWhile, dFor, dLc, dSrcL, dSrcT, dSrcS, dRng1, dRng2, dEnumL, dEnumS, dZip, dgName, dgNil, dgCons, dgTup, dPar, mNil, mConsF, mConsO, putD, dAsg, dCB, rdLen, lenD_str, lenD_lst, lenD_tup, dIxV, dLenV, dCall, dCallO, dCallX, dCallXO, dRaise, dCallS, dCallSO, frz_fr, frz_ol, rdAddS, dSlS, dPart, dNoPart, dM0, dM1, rdSplit, rdJoin, rdStr0, rdStr1, rdIndex, rdIsN, isn_non, isn_int, isn_str, isn_lst, isn_tup, rdEqD, rdCat, rdRep, dOpO, dCBO, rdList_lst, rdList_tup, rdList_str, rdTuple_lst, rdTuple_tup, rdAll, rdIn_sg, rdIx_str, rdIx_lst, rdIx_tup, rdInt_str, rdInt_int, at0, at1, at2, one_len, cast1, castA, castP, Int.ofNat_lt, Int.ofNat_le, Int.ofNat_inj, dYes, dApp, dSeqV, dRetIf, dCopyDic, dItems0, dNeg, dZipA, wipeD, noOwn, dSetRL, dAppRL, dBor1, dSpoil, dSetW, putW, dIsiW, dAppW, dThaw, dMet, dMetN, dMetW, dCallXk, frO, frO1, frS, frS1, thawS1, thawD, thawL, List.mem_singleton, implies_true, false_implies, forall_const, forall_eq', List.map_set, dCut, dCutS, ae_len, dIsi, startD, and_assoc, exists_eq_left, exists_eq_left', exists_eq_right, exists_eq_right', exists_eq, exists_eq', exists_and_left, exists_and_right, exists_const, exists_false, false_and, and_false, true_and, and_true, false_or, or_false, or_true, true_or, if_true, if_false, Bool.false_eq_true, reduceCtorEq, reduceIte, ite_true, ite_false, Option.some.injEq, DS.fr.injEq, DS.ol.injEq, DS.sm.injEq, D.int.injEq, D.str.injEq, D.bl.injEq, D.lst.injEq, D.tup.injEq, V.str.injEq, V.int.injEq, V.bl.injEq, List.cons.injEq, List.getElem?_cons_zero, List.getElem?_cons_succ, List.set_cons_zero, List.set_cons_succ, List.length_cons, List.length_nil, List.length_set, List.map_cons, List.map_nil, List.cons_append, List.nil_append, List.append_nil, List.replicate_succ, List.replicate_zero, List.mem_cons, List.not_mem_nil, forall_eq_or_imp, forall_eq, Nat.reduceAdd, Nat.reduceSub, Nat.reduceLT, Nat.reduceLeDiff, Nat.zero_add, Nat.add_zero, decide_eq_true_eq, decide_eq_false_iff_not, Bool.not_eq_true', Bool.and_eq_true, Bool.or_eq_true, decide_true, decide_false, Bool.not_true, Bool.not_false, id_eq, Option.map_some, Option.map_none, dPre, DS.rl.injEq]
    refine ⟨x, rfl, (things_ok hx).1, (things_ok hx).2, ?_⟩
    rcases things_is hx with ⟨ds, rfl, hds⟩ | ⟨nl, ns, nk⟩
    · show ∀ p : Addr, U11 _
      intro p
      subst hU11
      refine seq_step fun U12 hU12 => ?_
      simp only [dSeq, dNext, dSet, dSetO, dVar, dFrz, dC, dOp, dTest, rdI, rdI0, rdEq_ss, rdEq_gs, rdEq_gg, rdEq_ii, rdEq_bb, rdNe_ss, rdNe_gs, rdNe_gg, rdNe_ii, rdNe_bb, dAnd, dOr, dNot, dAndV, dOrV, dNotV, dIf, dNil, dCons, dTup, dLst, dFz, dBreak, dCont, dRet, dRetO, dMove, dIfS, dNever, dDrop, dWhile, dFor, dLc, dSrcL, dSrcT, dSrcS, dRng1, dRng2, dEnumL, dEnumS, dZip, dgName, dgNil, dgCons, dgTup, dPar, mNil, mConsF, mConsO, putD, dAsg, dCB, rdLen, lenD_str, lenD_lst, lenD_tup, dIxV, dLenV, dCall, dCallO, dCallX, dCallXO, dRaise, dCallS, dCallSO, frz_fr, frz_ol, rdAddS, dSlS, dPart, dNoPart, dM0, dM1, rdSplit, rdJoin, rdStr0, rdStr1, rdIndex, rdIsN, isn_non, isn_int, isn_str, isn_lst, isn_tup, rdEqD, rdCat, rdRep, dOpO, dCBO, rdList_lst, rdList_tup, rdList_str, rdTuple_lst, rdTuple_tup, rdAll, rdIn_sg, rdIx_str, rdIx_lst, rdIx_tup, rdInt_str, rdInt_int, at0, at1, at2, one_len, cast1, castA, castP, Int.ofNat_lt, Int.ofNat_le, Int.ofNat_inj, dYes, dApp, dSeqV, dRetIf, dCopyDic, dItems0, dNeg, dZipA, wipeD, noOwn, dSetRL, dAppRL, dBor1, dSpoil, dSetW, putW, dIsiW, dAppW, dThaw, dMet, dMetN, dMetW, dCallXk, frO, frO1, frS, frS1, thawS1, thawD, thawL, List.mem_singleton, implies_true, false_implies, forall_const, forall_eq', List.map_set, dCut, dCutS, ae_len, dIsi, startD, and_assoc, exists_eq_left, exists_eq_left', exists_eq_right, exists_eq_right', exists_eq, exists_eq', exists_and_left, exists_and_right, exists_const, exists_false, false_and, and_false, true_and, and_true, false_or, or_false, or_true, true_or, if_true, if_false, Bool.false_eq_true, reduceCtorEq, reduceIte, ite_true, ite_false, Option.some.injEq, DS.fr.injEq, DS.ol.injEq, DS.sm.injEq, D.int.injEq, D.str.injEq, D.bl.injEq, D.lst.injEq, D.tup.injEq, V.str.injEq, V.int.injEq, V.bl.injEq, List.cons.injEq, List.getElem?_cons_zero, List.getElem?_cons_succ, List.set_cons_zero, List.set_cons_succ, List.length_cons, List.length_nil, List.length_set, List.map_cons, List.map_nil, List.cons_append, List.nil_append, List.append_nil, List.replicate_succ, List.replicate_zero, List.mem_cons, List.not_mem_nil, forall_eq_or_imp, forall_eq, Nat.reduceAdd, Nat.reduceSub, Nat.reduceLT, Nat.reduceLeDiff, Nat.zero_add, Nat.add_zero, decide_eq_true_eq, decide_eq_false_iff_not, Bool.not_eq_true', Bool.and_eq_true, Bool.or_eq_true, decide_true, decide_false, Bool.not_true, Bool.not_false, id_eq, Option.map_some, Option.map_none, dPre, DS.rl.injEq]
      refine ⟨p, ds, rfl, ⟨_, rfl, .inr ⟨rfl, "text", "text", .inl ⟨rfl, rfl, rfl, x11⟩, rfl, by decide, ?_⟩⟩⟩
      show U12 _
      subst hU12
      refine seq_step fun U13 hU13 => ?_
      simp only [dSeq, dNext, dSet, dSetO, dVar, dFrz, dC, dOp, dTest, rdI, rdI0, rdEq_ss, rdEq_gs, rdEq_gg, rdEq_ii, rdEq_bb, rdNe_ss, rdNe_gs, rdNe_gg, rdNe_ii, rdNe_bb, dAnd, dOr, dNot, dAndV, dOrV, dNotV, dIf, dNil, dCons, dTup, dLst, dFz, dBreak, dCont, dRet, dRetO, dMove, dIfS, dNever, dDrop, dWhile, dFor, dLc, dSrcL, dSrcT, dSrcS, dRng1, dRng2, dEnumL, dEnumS, dZip, dgName, dgNil, dgCons, dgTup, dPar, mNil, mConsF, mConsO, putD, dAsg, dCB, rdLen, lenD_str, lenD_lst, lenD_tup, dIxV, dLenV, dCall, dCallO, dCallX, dCallXO, dRaise, dCallS, dCallSO, frz_fr, frz_ol, rdAddS, dSlS, dPart, dNoPart, dM0, dM1, rdSplit, rdJoin, rdStr0, rdStr1, rdIndex, rdIsN, isn_non, isn_int, isn_str, isn_lst, isn_tup, rdEqD, rdCat, rdRep, dOpO, dCBO, rdList_lst, rdList_tup, rdList_str, rdTuple_lst, rdTuple_tup, rdAll, rdIn_sg, rdIx_str, rdIx_lst, rdIx_tup, rdInt_str, rdInt_int, at0, at1, at2, one_len, cast1, castA, castP, Int.ofNat_lt, Int.ofNat_le, Int.ofNat_inj, dYes, dApp, dSeqV, dRetIf, dCopyDic, dItems0, dNeg, dZipA, wipeD, noOwn, dSetRL, dAppRL, dBor1, dSpoil, dSetW, putW, dIsiW, dAppW, dThaw, dMet, dMetN, dMetW, dCallXk, frO, frO1, frS, frS1, thawS1, thawD, thawL, List.mem_singleton, implies_true, false_implies, forall_const, forall_eq', List.map_set, dCut, dCutS, ae_len, dIsi, startD, and_assoc, exists_eq_left, exists_eq_left', exists_eq_right, exists_eq_right', exists_eq, exists_eq', exists_and_left, exists_and_right, exists_const, exists_false, false_and, and_false, true_and, and_true, false_or, or_false, or_true, true_or, if_true, if_false, Bool.false_eq_true, reduceCtorEq, reduceIte, ite_true, ite_false, Option.some.injEq, DS.fr.injEq, DS.ol.injEq, DS.sm.injEq, D.int.injEq, D.str.injEq, D.bl.injEq, D.lst.injEq, D.tup.injEq, V.str.injEq, V.int.injEq, V.bl.injEq, List.cons.injEq, List.getElem?_cons_zero, List.getElem?_cons_succ, List.set_cons_zero, List.set_cons_succ, List.length_cons, List.length_nil, List.length_set, List.map_cons, List.map_nil, List.cons_append, List.nil_append, List.append_nil, List.replicate_succ, List.replicate_zero, List.mem_cons, List.not_mem_nil, forall_eq_or_imp, forall_eq, Nat.reduceAdd, Nat.reduceSub, Nat.reduceLT, Nat.reduceLeDiff, Nat.zero_add, Nat.add_zero, decide_eq_true_eq, decide_eq_false_iff_not, Bool.not_eq_true', Bool.and_eq_true, Bool.or_eq_true, decide_true, decide_false, Bool.not_true, Bool.not_false, id_eq, Option.map_some, Option.map_none, dPre, DS.rl.injEq]
      refine ⟨p, ds, rfl, ⟨_, rfl, .inr ⟨rfl, "text", "text", .inl ⟨rfl, rfl, rfl, x11⟩, rfl, ?_⟩⟩⟩
      show U13 _
      subst hU13
      refine seq_step fun U14 hU14 => ?_
      simp only [dSeq, dNext, dSet, dSetO, dVar, dFrz, dC, dOp, dTest, rdI, rdI0, rdEq_ss, rdEq_gs, rdEq_gg, rdEq_ii, rdEq_bb, rdNe_ss, rdNe_gs, rdNe_gg, rdNe_ii, rdNe_bb, dAnd, dOr, dNot, dAndV, dOrV, dNotV, dIf, dNil, dCons, dTup, dLst, dFz, dBreak, dCont, dRet, dRetO, dMove, dIfS, dNever, dDrop, dWhile, dFor, dLc, dSrcL, dSrcT, dSrcS, dRng1, dRng2, dEnumL, dEnumS, dZip, dgName, dgNil, dgCons, dgTup, dPar, mNil, mConsF, mConsO, putD, dAsg, dCB, rdLen, lenD_str, lenD_lst, lenD_tup, dIxV, dLenV, dCall, dCallO, dCallX, dCallXO, dRaise, dCallS, dCallSO, frz_fr, frz_ol, rdAddS, dSlS, dPart, dNoPart, dM0, dM1, rdSplit, rdJoin, rdStr0, rdStr1, rdIndex, rdIsN, isn_non, isn_int, isn_str, isn_lst, isn_tup, rdEqD, rdCat, rdRep, dOpO, dCBO, rdList_lst, rdList_tup, rdList_str, rdTuple_lst, rdTuple_tup, rdAll, rdIn_sg, rdIx_str, rdIx_lst, rdIx_tup, rdInt_str, rdInt_int, at0, at1, at2, one_len, cast1, castA, castP, Int.ofNat_lt, Int.ofNat_le, Int.ofNat_inj, dYes, dApp, dSeqV, dRetIf, dCopyDic, dItems0, dNeg, dZipA, wipeD, noOwn, dSetRL, dAppRL, dBor1, dSpoil, dSetW, putW, dIsiW, dAppW, dThaw, dMet, dMetN, dMetW, dCallXk, frO, frO1, frS, frS1, thawS1, thawD, thawL, List.mem_singleton, implies_true, false_implies, forall_const, forall_eq', List.map_set, dCut, dCutS, ae_len, dIsi, startD, and_assoc, exists_eq_left, exists_eq_left', exists_eq_right, exists_eq_right', exists_eq, exists_eq', exists_and_left, exists_and_right, exists_const, exists_false, false_and, and_false, true_and, and_true, false_or, or_false, or_true, true_or, if_true, if_false, Bool.false_eq_true, reduceCtorEq, reduceIte, ite_true, ite_false, Option.some.injEq, DS.fr.injEq, DS.ol.injEq, DS.sm.injEq, D.int.injEq, D.str.injEq, D.bl.injEq, D.lst.injEq, D.tup.injEq, V.str.injEq, V.int.injEq, V.bl.injEq, List.cons.injEq, List.getElem?_cons_zero, List.getElem?_cons_succ, List.set_cons_zero, List.set_cons_succ, List.length_cons, List.length_nil, List.length_set, List.map_cons, List.map_nil, List.cons_append, List.nil_append, List.append_nil, List.replicate_succ, List.replicate_zero, List.mem_cons, List.not_mem_nil, forall_eq_or_imp, forall_eq, Nat.reduceAdd, Nat.reduceSub, Nat.reduceLT, Nat.reduceLeDiff, Nat.zero_add, Nat.add_zero, decide_eq_true_eq, decide_eq_false_iff_not, Bool.not_eq_true', Bool.and_eq_true, Bool.or_eq_true, decide_true, decide_false, Bool.not_true, Bool.not_false, id_eq, Option.map_some, Option.map_none, dPre, DS.rl.injEq]
      refine ⟨⟨p, ds, rfl⟩, (if_pos (by decide)).mpr ⟨⟨p, ds, rfl⟩, p, ds, rfl, by rcases hds with rfl | rfl <;> decide, ?_⟩⟩
      show U14 _
      subst hU14
      simp only [dSeq, dNext, dSet, dSetO, dVar, dFrz, dC, dOp, dTest, rdI, rdI0, rdEq_ss, rdEq_gs, rdEq_gg, rdEq_ii, rdEq_bb, rdNe_ss, rdNe_gs, rdNe_gg, rdNe_ii, rdNe_bb, dAnd, dOr, dNot, dAndV, dOrV, dNotV, dIf, dNil, dCons, dTup, dLst, dFz, dBreak, dCont, dRet, dRetO, dMove, dIfS, dNever, dDrop, dWhile, dFor, dLc, dSrcL, dSrcT, dSrcS, dRng1, dRng2, dEnumL, dEnumS, dZip, dgName, dgNil, dgCons, dgTup, dPar, mNil, mConsF, mConsO, putD, dAsg, dCB, rdLen, lenD_str, lenD_lst, lenD_tup, dIxV, dLenV, dCall, dCallO, dCallX, dCallXO, dRaise, dCallS, dCallSO, frz_fr, frz_ol, rdAddS, dSlS, dPart, dNoPart, dM0, dM1, rdSplit, rdJoin, rdStr0, rdStr1, rdIndex, rdIsN, isn_non, isn_int, isn_str, isn_lst, isn_tup, rdEqD, rdCat, rdRep, dOpO, dCBO, rdList_lst, rdList_tup, rdList_str, rdTuple_lst, rdTuple_tup, rdAll, rdIn_sg, rdIx_str, rdIx_lst, rdIx_tup, rdInt_str, rdInt_int, at0, at1, at2, one_len, cast1, castA, castP, Int.ofNat_lt, Int.ofNat_le, Int.ofNat_inj, dYes, dApp, dSeqV, dRetIf, dCopyDic, dItems0, dNeg, dZipA, wipeD, noOwn, dSetRL, dAppRL, dBor1, dSpoil, dSetW, putW, dIsiW, dAppW, dThaw, dMet, dMetN, dMetW, dCallXk, frO, frO1, frS, frS1, thawS1, thawD, thawL, List.mem_singleton, implies_true, false_implies, forall_const, forall_eq', List.map_set, dCut, dCutS, ae_len, dIsi, startD, and_assoc, exists_eq_left, exists_eq_left', exists_eq_right, exists_eq_right', exists_eq, exists_eq', exists_and_left, exists_and_right, exists_const, exists_false, false_and, and_false, true_and, and_true, false_or, or_false, or_true, true_or, if_true, if_false, Bool.false_eq_true, reduceCtorEq, reduceIte, ite_true, ite_false, Option.some.injEq, DS.fr.injEq, DS.ol.injEq, DS.sm.injEq, D.int.injEq, D.str.injEq, D.bl.injEq, D.lst.injEq, D.tup.injEq, V.str.injEq, V.int.injEq, V.bl.injEq, List.cons.injEq, List.getElem?_cons_zero, List.getElem?_cons_succ, List.set_cons_zero, List.set_cons_succ, List.length_cons, List.length_nil, List.length_set, List.map_cons, List.map_nil, List.cons_append, List.nil_append, List.append_nil, List.replicate_succ, List.replicate_zero, List.mem_cons, List.not_mem_nil, forall_eq_or_imp, forall_eq, Nat.reduceAdd, Nat.reduceSub, Nat.reduceLT, Nat.reduceLeDiff, Nat.zero_add, Nat.add_zero, decide_eq_true_eq, decide_eq_false_iff_not, Bool.not_eq_true', Bool.and_eq_true, Bool.or_eq_true, decide_true, decide_false, Bool.not_true, Bool.not_false, id_eq, Option.map_some, Option.map_none, dPre, DS.rl.injEq]
      have n1b : n1 + 1 ≤ 102 * (i + 1) := by omega
      refine ⟨p, _, rfl, by decide, by decide, by decide, by decide, by decide, ?_⟩
      rw [if_pos rfl]
      rcases hds with rfl | rfl
      · exact ⟨.lst [.tup [.str "text", .lst [.str "late"]], .tup [.str "text", .lst [.str "late"]]], rfl, rfl, by decide, _, rfl, _, rfl, (if_neg (by decide)).mpr n1b⟩
      · exact ⟨.lst [.tup [.str "text", .lst [.str "letters a", .str "late"]], .tup [.str "text", .lst [.str "letters a", .str "late"]]], rfl, rfl, by decide, _, rfl, _, rfl, (if_neg (by decide)).mpr n1b⟩
    · rw [nk]
      show U11 _
      subst hU11
      refine seq_step fun U12 hU12 => ?_
      simp only [dSeq, dNext, dSet, dSetO, dVar, dFrz, dC, dOp, dTest, rdI, rdI0, rdEq_ss, rdEq_gs, rdEq_gg, rdEq_ii, rdEq_bb, rdNe_ss, rdNe_gs, rdNe_gg, rdNe_ii, rdNe_bb, dAnd, dOr, dNot, dAndV, dOrV, dNotV, dIf, dNil, dCons, dTup, dLst, dFz, dBreak, dCont, dRet, dRetO, dMove, dIfS, dNever, dDrop, dWhile, dFor, dLc, dSrcL, dSrcT, dSrcS, dRng1, dRng2, dEnumL, dEnumS, dZip, dgName, dgNil, dgCons, dgTup, dPar, mNil, mConsF, mConsO, putD, dAsg, dCB, rdLen, lenD_str, lenD_lst, lenD_tup, dIxV, dLenV, dCall, dCallO, dCallX, dCallXO, dRaise, dCallS, dCallSO, frz_fr, frz_ol, rdAddS, dSlS, dPart, dNoPart, dM0, dM1, rdSplit, rdJoin, rdStr0, rdStr1, rdIndex, rdIsN, isn_non, isn_int, isn_str, isn_lst, isn_tup, rdEqD, rdCat, rdRep, dOpO, dCBO, rdList_lst, rdList_tup, rdList_str, rdTuple_lst, rdTuple_tup, rdAll, rdIn_sg, rdIx_str, rdIx_lst, rdIx_tup, rdInt_str, rdInt_int, at0, at1, at2, one_len, cast1, castA, castP, Int.ofNat_lt, Int.ofNat_le, Int.ofNat_inj, dYes, dApp, dSeqV, dRetIf, dCopyDic, dItems0, dNeg, dZipA, wipeD, noOwn, dSetRL, dAppRL, dBor1, dSpoil, dSetW, putW, dIsiW, dAppW, dThaw, dMet, dMetN, dMetW, dCallXk, frO, frO1, frS, frS1, thawS1, thawD, thawL, List.mem_singleton, implies_true, false_implies, forall_const, forall_eq', List.map_set, dCut, dCutS, ae_len, dIsi, startD, and_assoc, exists_eq_left, exists_eq_left', exists_eq_right, exists_eq_right', exists_eq, exists_eq', exists_and_left, exists_and_right, exists_const, exists_false, false_and, and_false, true_and, and_true, false_or, or_false, or_true, true_or, if_true, if_false, Bool.false_eq_true, reduceCtorEq, reduceIte, ite_true, ite_false, Option.some.injEq, DS.fr.injEq, DS.ol.injEq, DS.sm.injEq, D.int.injEq, D.str.injEq, D.bl.injEq, D.lst.injEq, D.tup.injEq, V.str.injEq, V.int.injEq, V.bl.injEq, List.cons.injEq, List.getElem?_cons_zero, List.getElem?_cons_succ, List.set_cons_zero, List.set_cons_succ, List.length_cons, List.length_nil, List.length_set, List.map_cons, List.map_nil, List.cons_append, List.nil_append, List.append_nil, List.replicate_succ, List.replicate_zero, List.mem_cons, List.not_mem_nil, forall_eq_or_imp, forall_eq, Nat.reduceAdd, Nat.reduceSub, Nat.reduceLT, Nat.reduceLeDiff, Nat.zero_add, Nat.add_zero, decide_eq_true_eq, decide_eq_false_iff_not, Bool.not_eq_true', Bool.and_eq_true, Bool.or_eq_true, decide_true, decide_false, Bool.not_true, Bool.not_false, id_eq, Option.map_some, Option.map_none, dPre, DS.rl.injEq]
      refine ⟨_, rfl, .inr ⟨ns, "text", "text", .inl ⟨rfl, rfl, rfl, x11⟩, _, rfl, by decide, ?_⟩⟩
      show U12 _
      subst hU12
      refine seq_step fun U13 hU13 => ?_
      simp only [dSeq, dNext, dSet, dSetO, dVar, dFrz, dC, dOp, dTest, rdI, rdI0, rdEq_ss, rdEq_gs, rdEq_gg, rdEq_ii, rdEq_bb, rdNe_ss, rdNe_gs, rdNe_gg, rdNe_ii, rdNe_bb, dAnd, dOr, dNot, dAndV, dOrV, dNotV, dIf, dNil, dCons, dTup, dLst, dFz, dBreak, dCont, dRet, dRetO, dMove, dIfS, dNever, dDrop, dWhile, dFor, dLc, dSrcL, dSrcT, dSrcS, dRng1, dRng2, dEnumL, dEnumS, dZip, dgName, dgNil, dgCons, dgTup, dPar, mNil, mConsF, mConsO, putD, dAsg, dCB, rdLen, lenD_str, lenD_lst, lenD_tup, dIxV, dLenV, dCall, dCallO, dCallX, dCallXO, dRaise, dCallS, dCallSO, frz_fr, frz_ol, rdAddS, dSlS, dPart, dNoPart, dM0, dM1, rdSplit, rdJoin, rdStr0, rdStr1, rdIndex, rdIsN, isn_non, isn_int, isn_str, isn_lst, isn_tup, rdEqD, rdCat, rdRep, dOpO, dCBO, rdList_lst, rdList_tup, rdList_str, rdTuple_lst, rdTuple_tup, rdAll, rdIn_sg, rdIx_str, rdIx_lst, rdIx_tup, rdInt_str, rdInt_int, at0, at1, at2, one_len, cast1, castA, castP, Int.ofNat_lt, Int.ofNat_le, Int.ofNat_inj, dYes, dApp, dSeqV, dRetIf, dCopyDic, dItems0, dNeg, dZipA, wipeD, noOwn, dSetRL, dAppRL, dBor1, dSpoil, dSetW, putW, dIsiW, dAppW, dThaw, dMet, dMetN, dMetW, dCallXk, frO, frO1, frS, frS1, thawS1, thawD, thawL, List.mem_singleton, implies_true, false_implies, forall_const, forall_eq', List.map_set, dCut, dCutS, ae_len, dIsi, startD, and_assoc, exists_eq_left, exists_eq_left', exists_eq_right, exists_eq_right', exists_eq, exists_eq', exists_and_left, exists_and_right, exists_const, exists_false, false_and, and_false, true_and, and_true, false_or, or_false, or_true, true_or, if_true, if_false, Bool.false_eq_true, reduceCtorEq, reduceIte, ite_true, ite_false, Option.some.injEq, DS.fr.injEq, DS.ol.injEq, DS.sm.injEq, D.int.injEq, D.str.injEq, D.bl.injEq, D.lst.injEq, D.tup.injEq, V.str.injEq, V.int.injEq, V.bl.injEq, List.cons.injEq, List.getElem?_cons_zero, List.getElem?_cons_succ, List.set_cons_zero, List.set_cons_succ, List.length_cons, List.length_nil, List.length_set, List.map_cons, List.map_nil, List.cons_append, List.nil_append, List.append_nil, List.replicate_succ, List.replicate_zero, List.mem_cons, List.not_mem_nil, forall_eq_or_imp, forall_eq, Nat.reduceAdd, Nat.reduceSub, Nat.reduceLT, Nat.reduceLeDiff, Nat.zero_add, Nat.add_zero, decide_eq_true_eq, decide_eq_false_iff_not, Bool.not_eq_true', Bool.and_eq_true, Bool.or_eq_true, decide_true, decide_false, Bool.not_true, Bool.not_false, id_eq, Option.map_some, Option.map_none, dPre, DS.rl.injEq]
      refine ⟨_, rfl, .inr ⟨ns, "text", "text", .inl ⟨rfl, rfl, rfl, x11⟩, _, rfl, ?_⟩⟩
      show U13 _
      subst hU13
      refine seq_step fun U14 hU14 => ?_
      simp only [dSeq, dNext, dSet, dSetO, dVar, dFrz, dC, dOp, dTest, rdI, rdI0, rdEq_ss, rdEq_gs, rdEq_gg, rdEq_ii, rdEq_bb, rdNe_ss, rdNe_gs, rdNe_gg, rdNe_ii, rdNe_bb, dAnd, dOr, dNot, dAndV, dOrV, dNotV, dIf, dNil, dCons, dTup, dLst, dFz, dBreak, dCont, dRet, dRetO, dMove, dIfS, dNever, dDrop, dWhile, dFor, dLc, dSrcL, dSrcT, dSrcS, dRng1, dRng2, dEnumL, dEnumS, dZip, dgName, dgNil, dgCons, dgTup, dPar, mNil, mConsF, mConsO, putD, dAsg, dCB, rdLen, lenD_str, lenD_lst, lenD_tup, dIxV, dLenV, dCall, dCallO, dCallX, dCallXO, dRaise, dCallS, dCallSO, frz_fr, frz_ol, rdAddS, dSlS, dPart, dNoPart, dM0, dM1, rdSplit, rdJoin, rdStr0, rdStr1, rdIndex, rdIsN, isn_non, isn_int, isn_str, isn_lst, isn_tup, rdEqD, rdCat, rdRep, dOpO, dCBO, rdList_lst, rdList_tup, rdList_str, rdTuple_lst, rdTuple_tup, rdAll, rdIn_sg, rdIx_str, rdIx_lst, rdIx_tup, rdInt_str, rdInt_int, at0, at1, at2, one_len, cast1, castA, castP, Int.ofNat_lt, Int.ofNat_le, Int.ofNat_inj, dYes, dApp, dSeqV, dRetIf, dCopyDic, dItems0, dNeg, dZipA, wipeD, noOwn, dSetRL, dAppRL, dBor1, dSpoil, dSetW, putW, dIsiW, dAppW, dThaw, dMet, dMetN, dMetW, dCallXk, frO, frO1, frS, frS1, thawS1, thawD, thawL, List.mem_singleton, implies_true, false_implies, forall_const, forall_eq', List.map_set, dCut, dCutS, ae_len, dIsi, startD, and_assoc, exists_eq_left, exists_eq_left', exists_eq_right, exists_eq_right', exists_eq, exists_eq', exists_and_left, exists_and_right, exists_const, exists_false, false_and, and_false, true_and, and_true, false_or, or_false, or_true, true_or, if_true, if_false, Bool.false_eq_true, reduceCtorEq, reduceIte, ite_true, ite_false, Option.some.injEq, DS.fr.injEq, DS.ol.injEq, DS.sm.injEq, D.int.injEq, D.str.injEq, D.bl.injEq, D.lst.injEq, D.tup.injEq, V.str.injEq, V.int.injEq, V.bl.injEq, List.cons.injEq, List.getElem?_cons_zero, List.getElem?_cons_succ, List.set_cons_zero, List.set_cons_succ, List.length_cons, List.length_nil, List.length_set, List.map_cons, List.map_nil, List.cons_append, List.nil_append, List.append_nil, List.replicate_succ, List.replicate_zero, List.mem_cons, List.not_mem_nil, forall_eq_or_imp, forall_eq, Nat.reduceAdd, Nat.reduceSub, Nat.reduceLT, Nat.reduceLeDiff, Nat.zero_add, Nat.add_zero, decide_eq_true_eq, decide_eq_false_iff_not, Bool.not_eq_true', Bool.and_eq_true, Bool.or_eq_true, decide_true, decide_false, Bool.not_true, Bool.not_false, id_eq, Option.map_some, Option.map_none, dPre, DS.rl.injEq, nl]
      subst hU14
      simp only [dSeq, dNext, dSet, dSetO, dVar, dFrz, dC, dOp, dTest, rdI, rdI0, rdEq_ss, rdEq_gs, rdEq_gg, rdEq_ii, rdEq_bb, rdNe_ss, rdNe_gs, rdNe_gg, rdNe_ii, rdNe_bb, dAnd, dOr, dNot, dAndV, dOrV, dNotV, dIf, dNil, dCons, dTup, dLst, dFz, dBreak, dCont, dRet, dRetO, dMove, dIfS, dNever, dDrop, dWhile, dFor, dLc, dSrcL, dSrcT, dSrcS, dRng1, dRng2, dEnumL, dEnumS, dZip, dgName, dgNil, dgCons, dgTup, dPar, mNil, mConsF, mConsO, putD, dAsg, dCB, rdLen, lenD_str, lenD_lst, lenD_tup, dIxV, dLenV, dCall, dCallO, dCallX, dCallXO, dRaise, dCallS, dCallSO, frz_fr, frz_ol, rdAddS, dSlS, dPart, dNoPart, dM0, dM1, rdSplit, rdJoin, rdStr0, rdStr1, rdIndex, rdIsN, isn_non, isn_int, isn_str, isn_lst, isn_tup, rdEqD, rdCat, rdRep, dOpO, dCBO, rdList_lst, rdList_tup, rdList_str, rdTuple_lst, rdTuple_tup, rdAll, rdIn_sg, rdIx_str, rdIx_lst, rdIx_tup, rdInt_str, rdInt_int, at0, at1, at2, one_len, cast1, castA, castP, Int.ofNat_lt, Int.ofNat_le, Int.ofNat_inj, dYes, dApp, dSeqV, dRetIf, dCopyDic, dItems0, dNeg, dZipA, wipeD, noOwn, dSetRL, dAppRL, dBor1, dSpoil, dSetW, putW, dIsiW, dAppW, dThaw, dMet, dMetN, dMetW, dCallXk, frO, frO1, frS, frS1, thawS1, thawD, thawL, List.mem_singleton, implies_true, false_implies, forall_const, forall_eq', List.map_set, dCut, dCutS, ae_len, dIsi, startD, and_assoc, exists_eq_left, exists_eq_left', exists_eq_right, exists_eq_right', exists_eq, exists_eq', exists_and_left, exists_and_right, exists_const, exists_false, false_and, and_false, true_and, and_true, false_or, or_false, or_true, true_or, if_true, if_false, Bool.false_eq_true, reduceCtorEq, reduceIte, ite_true, ite_false, Option.some.injEq, DS.fr.injEq, DS.ol.injEq, DS.sm.injEq, D.int.injEq, D.str.injEq, D.bl.injEq, D.lst.injEq, D.tup.injEq, V.str.injEq, V.int.injEq, V.bl.injEq, List.cons.injEq, List.getElem?_cons_zero, List.getElem?_cons_succ, List.set_cons_zero, List.set_cons_succ, List.length_cons, List.length_nil, List.length_set, List.map_cons, List.map_nil, List.cons_append, List.nil_append, List.append_nil, List.replicate_succ, List.replicate_zero, List.mem_cons, List.not_mem_nil, forall_eq_or_imp, forall_eq, Nat.reduceAdd, Nat.reduceSub, Nat.reduceLT, Nat.reduceLeDiff, Nat.zero_add, Nat.add_zero, decide_eq_true_eq, decide_eq_false_iff_not, Bool.not_eq_true', Bool.and_eq_true, Bool.or_eq_true, decide_true, decide_false, Bool.not_true, Bool.not_false, id_eq, Option.map_some, Option.map_none, dPre, DS.rl.injEq]
      have n1b : n1 + 1 ≤ 102 * (i + 1) := by omega
      refine ⟨by decide, by decide, by decide, by decide, by decide, .lst [.tup [.str "text", x], .tup [.str "text", x]], rfl, ?_, ?_, _, rfl, _, rfl, (if_neg (by decide)).mpr n1b⟩
      · have ok2 := (things_ok hx).1
        simp [okC, okCL, ok2]
      · have dp2 := (things_ok hx).2
        simp [dpC, dpCL]
        omega
  · rintro ρ ⟨n, o2, o3, o5, o6, o7, o11, o12, o13, o14, o15, hn, rfl⟩
    show U0 _
    subst hU0
    refine seq_step fun U1 hU1 => ?_
    simp only [dSeq, dNext, dSet, dSetO, dVar, dFrz, dC, dOp, dTest, rdI, rdI0, rdEq_ss, rdEq_gs, rdEq_gg, rdEq_ii, rdEq_bb, rdNe_ss, rdNe_gs, rdNe_gg, rdNe_ii, rdNe_bb, dAnd, dOr, dNot, dAndV, dOrV, dNotV, dIf, dNil, dCons, dTup, dLst, dFz, dBreak, dCont, dRet, dRetO, dMove, dIfS, dNever, dDrop, dWhile, dFor, dLc, dSrcL, dSrcT, dSrcS, dRng1, dRng2, dEnumL, dEnumS, dZip, dgName, dgNil, dgCons, dgTup, dPar, mNil, mConsF, mConsO, putD, dAsg, dCB, rdLen, lenD_str, lenD_lst, lenD_tup, dIxV, dLenV, dCall, dCallO, dCallX, dCallXO, dRaise, dCallS, dCallSO, frz_fr, frz_ol, rdAddS, dSlS, dPart, dNoPart, dM0, dM1, rdSplit, rdJoin, rdStr0, rdStr1, rdIndex, rdIsN, isn_non, isn_int, isn_str, isn_lst, isn_tup, rdEqD, rdCat, rdRep, dOpO, dCBO, rdList_lst, rdList_tup, rdList_str, rdTuple_lst, rdTuple_tup, rdAll, rdIn_sg, rdIx_str, rdIx_lst, rdIx_tup, rdInt_str, rdInt_int, at0, at1, at2, one_len, cast1, castA, castP, Int.ofNat_lt, Int.ofNat_le, Int.ofNat_inj, dYes, dApp, dSeqV, dRetIf, dCopyDic, dItems0, dNeg, dZipA, wipeD, noOwn, dSetRL, dAppRL, dBor1, dSpoil, dSetW, putW, dIsiW, dAppW, dThaw, dMet, dMetN, dMetW, dCallXk, frO, frO1, frS, frS1, thawS1, thawD, thawL, List.mem_singleton, implies_true, false_implies, forall_const, forall_eq', List.map_set, dCut, dCutS, ae_len, dIsi, startD, and_assoc, exists_eq_left, exists_eq_left', exists_eq_right, exists_eq_right', exists_eq, exists_eq', exists_and_left, exists_and_right, exists_const, exists_false, false_and, and_false, true_and, and_true, false_or, or_false, or_true, true_or, if_true, if_false, Bool.false_eq_true, reduceCtorEq, reduceIte, ite_true, ite_false, Option.some.injEq, DS.fr.injEq, DS.ol.injEq, DS.sm.injEq, D.int.injEq, D.str.injEq, D.bl.injEq, D.lst.injEq, D.tup.injEq, V.str.injEq, V.int.injEq, V.bl.injEq, List.cons.injEq, List.getElem?_cons_zero, List.getElem?_cons_succ, List.set_cons_zero, List.set_cons_succ, List.length_cons, List.length_nil, List.length_set, List.map_cons, List.map_nil, List.cons_append, List.nil_append, List.append_nil, List.replicate_succ, List.replicate_zero, List.mem_cons, List.not_mem_nil, forall_eq_or_imp, forall_eq, Nat.reduceAdd, Nat.reduceSub, Nat.reduceLT, Nat.reduceLeDiff, Nat.zero_add, Nat.add_zero, decide_eq_true_eq, decide_eq_false_iff_not, Bool.not_eq_true', Bool.and_eq_true, Bool.or_eq_true, decide_true, decide_false, Bool.not_true, Bool.not_false, id_eq, Option.map_some, Option.map_none, dPre, DS.rl.injEq]
    refine tok_of (by decide) (by decide) tok1 ⟨_, rfl, ?_⟩
    refine tok_of (by decide) (by decide) tok2 ⟨_, rfl, ?_⟩
    refine tok_of (by decide) (by decide) tok3 ⟨_, rfl, ?_⟩
    refine ⟨_, _, rfl, rfl, by decide, by decide, by decide, by decide, ?_⟩
    refine ⟨_, _, rfl, rfl, by decide, by decide, by decide, by decide, ?_⟩
    have bl := big_len
    rw [← len_toList, toList_app, List.length_append, len_toList, len_toList] at bl
    refine ⟨_, rfl, _, rfl, Nat.le_trans (Nat.le_of_eq bl) (by decide), ?_⟩
    refine tok_of (x := bigS) (by rw [big_len]; decide) (fun l hl => ?_) tok4 ⟨_, rfl, by decide, ?_⟩
    · rw [big_split] at hl
      have : l = List.replicate 300 97 ++ List.replicate 200 40 := by simpa using hl
      rw [this, List.length_append, List.length_replicate, List.length_replicate]
      decide
    show U1 _
    subst hU1
    refine seq_step fun U2 hU2 => ?_
    simp only [dSeq, dNext, dSet, dSetO, dVar, dFrz, dC, dOp, dTest, rdI, rdI0, rdEq_ss, rdEq_gs, rdEq_gg, rdEq_ii, rdEq_bb, rdNe_ss, rdNe_gs, rdNe_gg, rdNe_ii, rdNe_bb, dAnd, dOr, dNot, dAndV, dOrV, dNotV, dIf, dNil, dCons, dTup, dLst, dFz, dBreak, dCont, dRet, dRetO, dMove, dIfS, dNever, dDrop, dWhile, dFor, dLc, dSrcL, dSrcT, dSrcS, dRng1, dRng2, dEnumL, dEnumS, dZip, dgName, dgNil, dgCons, dgTup, dPar, mNil, mConsF, mConsO, putD, dAsg, dCB, rdLen, lenD_str, lenD_lst, lenD_tup, dIxV, dLenV, dCall, dCallO, dCallX, dCallXO, dRaise, dCallS, dCallSO, frz_fr, frz_ol, rdAddS, dSlS, dPart, dNoPart, dM0, dM1, rdSplit, rdJoin, rdStr0, rdStr1, rdIndex, rdIsN, isn_non, isn_int, isn_str, isn_lst, isn_tup, rdEqD, rdCat, rdRep, dOpO, dCBO, rdList_lst, rdList_tup, rdList_str, rdTuple_lst, rdTuple_tup, rdAll, rdIn_sg, rdIx_str, rdIx_lst, rdIx_tup, rdInt_str, rdInt_int, at0, at1, at2, one_len, cast1, castA, castP, Int.ofNat_lt, Int.ofNat_le, Int.ofNat_inj, dYes, dApp, dSeqV, dRetIf, dCopyDic, dItems0, dNeg, dZipA, wipeD, noOwn, dSetRL, dAppRL, dBor1, dSpoil, dSetW, putW, dIsiW, dAppW, dThaw, dMet, dMetN, dMetW, dCallXk, frO, frO1, frS, frS1, thawS1, thawD, thawL, List.mem_singleton, implies_true, false_implies, forall_const, forall_eq', List.map_set, dCut, dCutS, ae_len, dIsi, startD, and_assoc, exists_eq_left, exists_eq_left', exists_eq_right, exists_eq_right', exists_eq, exists_eq', exists_and_left, exists_and_right, exists_const, exists_false, false_and, and_false, true_and, and_true, false_or, or_false, or_true, true_or, if_true, if_false, Bool.false_eq_true, reduceCtorEq, reduceIte, ite_true, ite_false, Option.some.injEq, DS.fr.injEq, DS.ol.injEq, DS.sm.injEq, D.int.injEq, D.str.injEq, D.bl.injEq, D.lst.injEq, D.tup.injEq, V.str.injEq, V.int.injEq, V.bl.injEq, List.cons.injEq, List.getElem?_cons_zero, List.getElem?_cons_succ, List.set_cons_zero, List.set_cons_succ, List.length_cons, List.length_nil, List.length_set, List.map_cons, List.map_nil, List.cons_append, List.nil_append, List.append_nil, List.replicate_succ, List.replicate_zero, List.mem_cons, List.not_mem_nil, forall_eq_or_imp, forall_eq, Nat.reduceAdd, Nat.reduceSub, Nat.reduceLT, Nat.reduceLeDiff, Nat.zero_add, Nat.add_zero, decide_eq_true_eq, decide_eq_false_iff_not, Bool.not_eq_true', Bool.and_eq_true, Bool.or_eq_true, decide_true, decide_false, Bool.not_true, Bool.not_false, id_eq, Option.map_some, Option.map_none, dPre, DS.rl.injEq]
    refine ⟨by decide, by decide, by decide, by decide, by decide, by decide, by decide, by decide, by decide, by decide, by decide, by decide, by decide, by decide, ?_⟩
    subst hU2
    refine seq_step fun U3 hU3 => ?_
    simp only [dSeq, dNext, dSet, dSetO, dVar, dFrz, dC, dOp, dTest, rdI, rdI0, rdEq_ss, rdEq_gs, rdEq_gg, rdEq_ii, rdEq_bb, rdNe_ss, rdNe_gs, rdNe_gg, rdNe_ii, rdNe_bb, dAnd, dOr, dNot, dAndV, dOrV, dNotV, dIf, dNil, dCons, dTup, dLst, dFz, dBreak, dCont, dRet, dRetO, dMove, dIfS, dNever, dDrop, dWhile, dFor, dLc, dSrcL, dSrcT, dSrcS, dRng1, dRng2, dEnumL, dEnumS, dZip, dgName, dgNil, dgCons, dgTup, dPar, mNil, mConsF, mConsO, putD, dAsg, dCB, rdLen, lenD_str, lenD_lst, lenD_tup, dIxV, dLenV, dCall, dCallO, dCallX, dCallXO, dRaise, dCallS, dCallSO, frz_fr, frz_ol, rdAddS, dSlS, dPart, dNoPart, dM0, dM1, rdSplit, rdJoin, rdStr0, rdStr1, rdIndex, rdIsN, isn_non, isn_int, isn_str, isn_lst, isn_tup, rdEqD, rdCat, rdRep, dOpO, dCBO, rdList_lst, rdList_tup, rdList_str, rdTuple_lst, rdTuple_tup, rdAll, rdIn_sg, rdIx_str, rdIx_lst, rdIx_tup, rdInt_str, rdInt_int, at0, at1, at2, one_len, cast1, castA, castP, Int.ofNat_lt, Int.ofNat_le, Int.ofNat_inj, dYes, dApp, dSeqV, dRetIf, dCopyDic, dItems0, dNeg, dZipA, wipeD, noOwn, dSetRL, dAppRL, dBor1, dSpoil, dSetW, putW, dIsiW, dAppW, dThaw, dMet, dMetN, dMetW, dCallXk, frO, frO1, frS, frS1, thawS1, thawD, thawL, List.mem_singleton, implies_true, false_implies, forall_const, forall_eq', List.map_set, dCut, dCutS, ae_len, dIsi, startD, and_assoc, exists_eq_left, exists_eq_left', exists_eq_right, exists_eq_right', exists_eq, exists_eq', exists_and_left, exists_and_right, exists_const, exists_false, false_and, and_false, true_and, and_true, false_or, or_false, or_true, true_or, if_true, if_false, Bool.false_eq_true, reduceCtorEq, reduceIte, ite_true, ite_false, Option.some.injEq, DS.fr.injEq, DS.ol.injEq, DS.sm.injEq, D.int.injEq, D.str.injEq, D.bl.injEq, D.lst.injEq, D.tup.injEq, V.str.injEq, V.int.injEq, V.bl.injEq, List.cons.injEq, List.getElem?_cons_zero, List.getElem?_cons_succ, List.set_cons_zero, List.set_cons_succ, List.length_cons, List.length_nil, List.length_set, List.map_cons, List.map_nil, List.cons_append, List.nil_append, List.append_nil, List.replicate_succ, List.replicate_zero, List.mem_cons, List.not_mem_nil, forall_eq_or_imp, forall_eq, Nat.reduceAdd, Nat.reduceSub, Nat.reduceLT, Nat.reduceLeDiff, Nat.zero_add, Nat.add_zero, decide_eq_true_eq, decide_eq_false_iff_not, Bool.not_eq_true', Bool.and_eq_true, Bool.or_eq_true, decide_true, decide_false, Bool.not_true, Bool.not_false, id_eq, Option.map_some, Option.map_none, dPre, DS.rl.injEq, rangeD_len]
    refine ⟨_, _, rfl, rfl, by decide, by decide, by decide, by decide, by decide, by decide, by decide, by decide, by decide, ?_⟩
    refine ⟨fun i acc ρ => acc = signsD i 300 ∧ ρ = [none, some (.sm a b n (some (PT, q))), o2, o3, none, o5, o6, o7, none, _, none, _, o12, o13, o14, o15, none], ⟨rfl, rfl⟩, ?_, ?_⟩
    · rintro i x acc ρ hx _ ⟨rfl, rfl⟩
      have hl : i < 200 := by
        have := (List.getElem?_eq_some_iff.mp hx).1
        simpa [rangeD_len] using this
      rw [rangeD_get (by simpa using hl)] at hx
      cases hx
      simp only [dSeq, dNext, dSet, dSetO, dVar, dFrz, dC, dOp, dTest, rdI, rdI0, rdEq_ss, rdEq_gs, rdEq_gg, rdEq_ii, rdEq_bb, rdNe_ss, rdNe_gs, rdNe_gg, rdNe_ii, rdNe_bb, dAnd, dOr, dNot, dAndV, dOrV, dNotV, dIf, dNil, dCons, dTup, dLst, dFz, dBreak, dCont, dRet, dRetO, dMove, dIfS, dNever, dDrop, dWhile, dFor, dLc, dSrcL, dSrcT, dSrcS, dRng1, dRng2, dEnumL, dEnumS, dZip, dgName, dgNil, dgCons, dgTup, dPar, mNil, mConsF, mConsO, putD, dAsg, dCB, rdLen, lenD_str, lenD_lst, lenD_tup, dIxV, dLenV, dCall, dCallO, dCallX, dCallXO, dRaise, dCallS, dCallSO, frz_fr, frz_ol, rdAddS, dSlS, dPart, dNoPart, dM0, dM1, rdSplit, rdJoin, rdStr0, rdStr1, rdIndex, rdIsN, isn_non, isn_int, isn_str, isn_lst, isn_tup, rdEqD, rdCat, rdRep, dOpO, dCBO, rdList_lst, rdList_tup, rdList_str, rdTuple_lst, rdTuple_tup, rdAll, rdIn_sg, rdIx_str, rdIx_lst, rdIx_tup, rdInt_str, rdInt_int, at0, at1, at2, one_len, cast1, castA, castP, Int.ofNat_lt, Int.ofNat_le, Int.ofNat_inj, dYes, dApp, dSeqV, dRetIf, dCopyDic, dItems0, dNeg, dZipA, wipeD, noOwn, dSetRL, dAppRL, dBor1, dSpoil, dSetW, putW, dIsiW, dAppW, dThaw, dMet, dMetN, dMetW, dCallXk, frO, frO1, frS, frS1, thawS1, thawD, thawL, List.mem_singleton, implies_true, false_implies, forall_const, forall_eq', List.map_set, dCut, dCutS, ae_len, dIsi, startD, and_assoc, exists_eq_left, exists_eq_left', exists_eq_right, exists_eq_right', exists_eq, exists_eq', exists_and_left, exists_and_right, exists_const, exists_false, false_and, and_false, true_and, and_true, false_or, or_false, or_true, true_or, if_true, if_false, Bool.false_eq_true, reduceCtorEq, reduceIte, ite_true, ite_false, Option.some.injEq, DS.fr.injEq, DS.ol.injEq, DS.sm.injEq, D.int.injEq, D.str.injEq, D.bl.injEq, D.lst.injEq, D.tup.injEq, V.str.injEq, V.int.injEq, V.bl.injEq, List.cons.injEq, List.getElem?_cons_zero, List.getElem?_cons_succ, List.set_cons_zero, List.set_cons_succ, List.length_cons, List.length_nil, List.length_set, List.map_cons, List.map_nil, List.cons_append, List.nil_append, List.append_nil, List.replicate_succ, List.replicate_zero, List.mem_cons, List.not_mem_nil, forall_eq_or_imp, forall_eq, Nat.reduceAdd, Nat.reduceSub, Nat.reduceLT, Nat.reduceLeDiff, Nat.zero_add, Nat.add_zero, decide_eq_true_eq, decide_eq_false_iff_not, Bool.not_eq_true', Bool.and_eq_true, Bool.or_eq_true, decide_true, decide_false, Bool.not_true, Bool.not_false, id_eq, Option.map_some, Option.map_none]
      refine ⟨by decide, ?_⟩
      unfold signsD
      rw [List.range_succ, List.map_append]
      congr 1
      show [D.tup [_, _, D.int (300 + (0 + (i : Int)))]] = [D.tup [_, _, D.int ((300 + i : Nat))]]
      rw [Int.zero_add, Int.natCast_add]
      rfl
    · rintro acc ρ ⟨rfl, rfl⟩
      simp only [dSeq, dNext, dSet, dSetO, dVar, dFrz, dC, dOp, dTest, rdI, rdI0, rdEq_ss, rdEq_gs, rdEq_gg, rdEq_ii, rdEq_bb, rdNe_ss, rdNe_gs, rdNe_gg, rdNe_ii, rdNe_bb, dAnd, dOr, dNot, dAndV, dOrV, dNotV, dIf, dNil, dCons, dTup, dLst, dFz, dBreak, dCont, dRet, dRetO, dMove, dIfS, dNever, dDrop, dWhile, dFor, dLc, dSrcL, dSrcT, dSrcS, dRng1, dRng2, dEnumL, dEnumS, dZip, dgName, dgNil, dgCons, dgTup, dPar, mNil, mConsF, mConsO, putD, dAsg, dCB, rdLen, lenD_str, lenD_lst, lenD_tup, dIxV, dLenV, dCall, dCallO, dCallX, dCallXO, dRaise, dCallS, dCallSO, frz_fr, frz_ol, rdAddS, dSlS, dPart, dNoPart, dM0, dM1, rdSplit, rdJoin, rdStr0, rdStr1, rdIndex, rdIsN, isn_non, isn_int, isn_str, isn_lst, isn_tup, rdEqD, rdCat, rdRep, dOpO, dCBO, rdList_lst, rdList_tup, rdList_str, rdTuple_lst, rdTuple_tup, rdAll, rdIn_sg, rdIx_str, rdIx_lst, rdIx_tup, rdInt_str, rdInt_int, at0, at1, at2, one_len, cast1, castA, castP, Int.ofNat_lt, Int.ofNat_le, Int.ofNat_inj, dYes, dApp, dSeqV, dRetIf, dCopyDic, dItems0, dNeg, dZipA, wipeD, noOwn, dSetRL, dAppRL, dBor1, dSpoil, dSetW, putW, dIsiW, dAppW, dThaw, dMet, dMetN, dMetW, dCallXk, frO, frO1, frS, frS1, thawS1, thawD, thawL, List.mem_singleton, implies_true, false_implies, forall_const, forall_eq', List.map_set, dCut, dCutS, ae_len, dIsi, startD, and_assoc, exists_eq_left, exists_eq_left', exists_eq_right, exists_eq_right', exists_eq, exists_eq', exists_and_left, exists_and_right, exists_const, exists_false, false_and, and_false, true_and, and_true, false_or, or_false, or_true, true_or, if_true, if_false, Bool.false_eq_true, reduceCtorEq, reduceIte, ite_true, ite_false, Option.some.injEq, DS.fr.injEq, DS.ol.injEq, DS.sm.injEq, D.int.injEq, D.str.injEq, D.bl.injEq, D.lst.injEq, D.tup.injEq, V.str.injEq, V.int.injEq, V.bl.injEq, List.cons.injEq, List.getElem?_cons_zero, List.getElem?_cons_succ, List.set_cons_zero, List.set_cons_succ, List.length_cons, List.length_nil, List.length_set, List.map_cons, List.map_nil, List.cons_append, List.nil_append, List.append_nil, List.replicate_succ, List.replicate_zero, List.mem_cons, List.not_mem_nil, forall_eq_or_imp, forall_eq, Nat.reduceAdd, Nat.reduceSub, Nat.reduceLT, Nat.reduceLeDiff, Nat.zero_add, Nat.add_zero, decide_eq_true_eq, decide_eq_false_iff_not, Bool.not_eq_true', Bool.and_eq_true, Bool.or_eq_true, decide_true, decide_false, Bool.not_true, Bool.not_false, id_eq, Option.map_some, Option.map_none]
      refine ⟨by simp [signsD]; decide, by decide, ?_⟩
      show U3 _
      subst hU3
      simp only [dSeq, dNext, dSet, dSetO, dVar, dFrz, dC, dOp, dTest, rdI, rdI0, rdEq_ss, rdEq_gs, rdEq_gg, rdEq_ii, rdEq_bb, rdNe_ss, rdNe_gs, rdNe_gg, rdNe_ii, rdNe_bb, dAnd, dOr, dNot, dAndV, dOrV, dNotV, dIf, dNil, dCons, dTup, dLst, dFz, dBreak, dCont, dRet, dRetO, dMove, dIfS, dNever, dDrop, dWhile, dFor, dLc, dSrcL, dSrcT, dSrcS, dRng1, dRng2, dEnumL, dEnumS, dZip, dgName, dgNil, dgCons, dgTup, dPar, mNil, mConsF, mConsO, putD, dAsg, dCB, rdLen, lenD_str, lenD_lst, lenD_tup, dIxV, dLenV, dCall, dCallO, dCallX, dCallXO, dRaise, dCallS, dCallSO, frz_fr, frz_ol, rdAddS, dSlS, dPart, dNoPart, dM0, dM1, rdSplit, rdJoin, rdStr0, rdStr1, rdIndex, rdIsN, isn_non, isn_int, isn_str, isn_lst, isn_tup, rdEqD, rdCat, rdRep, dOpO, dCBO, rdList_lst, rdList_tup, rdList_str, rdTuple_lst, rdTuple_tup, rdAll, rdIn_sg, rdIx_str, rdIx_lst, rdIx_tup, rdInt_str, rdInt_int, at0, at1, at2, one_len, cast1, castA, castP, Int.ofNat_lt, Int.ofNat_le, Int.ofNat_inj, dYes, dApp, dSeqV, dRetIf, dCopyDic, dItems0, dNeg, dZipA, wipeD, noOwn, dSetRL, dAppRL, dBor1, dSpoil, dSetW, putW, dIsiW, dAppW, dThaw, dMet, dMetN, dMetW, dCallXk, frO, frO1, frS, frS1, thawS1, thawD, thawL, List.mem_singleton, implies_true, false_implies, forall_const, forall_eq', List.map_set, dCut, dCutS, ae_len, dIsi, startD, and_assoc, exists_eq_left, exists_eq_left', exists_eq_right, exists_eq_right', exists_eq, exists_eq', exists_and_left, exists_and_right, exists_const, exists_false, false_and, and_false, true_and, and_true, false_or, or_false, or_true, true_or, if_true, if_false, Bool.false_eq_true, reduceCtorEq, reduceIte, ite_true, ite_false, Option.some.injEq, DS.fr.injEq, DS.ol.injEq, DS.sm.injEq, D.int.injEq, D.str.injEq, D.bl.injEq, D.lst.injEq, D.tup.injEq, V.str.injEq, V.int.injEq, V.bl.injEq, List.cons.injEq, List.getElem?_cons_zero, List.getElem?_cons_succ, List.set_cons_zero, List.set_cons_succ, List.length_cons, List.length_nil, List.length_set, List.map_cons, List.map_nil, List.cons_append, List.nil_append, List.append_nil, List.replicate_succ, List.replicate_zero, List.mem_cons, List.not_mem_nil, forall_eq_or_imp, forall_eq, Nat.reduceAdd, Nat.reduceSub, Nat.reduceLT, Nat.reduceLeDiff, Nat.zero_add, Nat.add_zero, decide_eq_true_eq, decide_eq_false_iff_not, Bool.not_eq_true', Bool.and_eq_true, Bool.or_eq_true, decide_true, decide_false, Bool.not_true, Bool.not_false, id_eq, Option.map_some, Option.map_none, dPre]
      refine ⟨_, rfl, last_pl.ok, Nat.le_trans last_pl.dp (by decide), ⟨_, rfl, hk⟩⟩
end
end K24
end

section
namespace K24
open PySem PySem.Spec PyProof.Rows L2 Sa LamX
section
variable {P : Program} {w : World} {K : PySem.W.Frag} {mg : Str → Option Value} {base : Heap}
def SpLaw (K : PySem.W.Frag) (PT : Addr) : Sp := fun vs H Q _ => ∃ (a : Addr) (ns : List Int), vs = [.ref a] ∧ SqL K H a (ns.map V.int) ∧ ns.length ≤ 63 ∧ H PT = some (.tbl #[]) ∧ ∀ H', Q (.bl true) H'
theorem ok_law {fa cc PT : Addr} {oc dV kV doc pm ct : Value} {an od : Option Addr} {osl : Array (Option Value)} (lk : K.lookup fa = some ⟨oc, od, .func (PySem.W.fnOf "law" "law" (defArgs s_law) (defBody s_law) (defScope s_law) dV kV doc pm an (.ref cc) ct), osl⟩) (hcd : PySem.W.codeIn K (.ref cc) "law" = true)
    (hw : ∀ (A : Around) (outer : List Env) (s : Shared) (H : Hp) (E : XK) (B : Bs), Room 15 (A.deeper (envOfC "law" (defScope s_law) s.heap.objs.size fa (.ref cc))) →
      ∃ d, PSsd (lawX P w K mg base fa (.ref cc) A outer s H E) B (defBody s_law).tail d ∧ ∀ (a b : Addr) (kk : DS → Prop), kk (.fr (.bl true)) → d { nx := fun _ => False, rt := fun x _ => kk x } ([none, some (.sm a b 0 (some (PT, lamQ (lawX P w K mg base fa (.ref cc) A outer s H E))))] ++ List.replicate 15 none))
    {a_s : Addr} {d_s : FuncData} (G_s : FnOk P w K mg base CX0 1 a_s d_s ["script"] (SpStream K)) (g_s : mg "_law_stream" = some (.ref a_s)) (kp_s : PySem.W.keepIn K (.ref a_s) = true) (b_s : Binds K d_s ["script"] []) :
    FnOk P w K mg base CX0 16 fa (PySem.W.fnOf "law" "law" (defArgs s_law) (defBody s_law) (defScope s_law) dV kV doc pm an (.ref cc) ct) ["script"] (SpLaw K PT) := by
  refine ⟨fun vs H Q E h => by obtain ⟨a, ns, rfl, _⟩ := h; rfl, fun A outer s H args us vs Q E hr e0 hb r h => ?_⟩
  obtain ⟨a0, ns, rfl, h1, h2, h3, hq⟩ := h
  refine run_ofS (N := ["script", "stream", "turn", "drawn", "row", "text", "made", "bads", "line", "some", "bad", "due", "found", "thing", "mine", "met", "at"]) lk hcd sc_law hr e0 hb r rfl fun room => ?_
  obtain ⟨d, ⟨t, pt, l⟩, hd⟩ := hw A outer s H E ⟨fun _ => none, fun _ => none, fun _ => False⟩ room
  have pp : PSs (lawX P w K mg base fa (.ref cc) A outer s H E) (defBody s_law) (tSeq (tAsg (tCall (SpStream K) [] E0 (tCons (tVar 0) tNil)) (gName 1)) t) := pss_cons (ps_set (i := 1) sc_law.nd rfl (by first | exact .inl rfl | exact .inr rfl) (pe_call G_s (room.mono (by omega)) rfl g_s kp_s b_s .nil (fun _ _ _ _ _ _ _ h => h.elim) (pa_cons (pv 0) pa_nil))) pt
  refine ⟨_, PSs.nox pp, ?_⟩
  refine ⟨_, rfl, a0, ns, rfl, h1, h2, fun a b H' hs na nb sm => ?_⟩
  have tab : TabS H' PT (lamQ (lawX P w K mg base fa (.ref cc) A outer s H E)) := TabS.nil (hs _ _ h3)
  refine l _ _ H' (fun _ => none) _ (fun j => if j = 1 then [a, b, PT] else []) _ ?_ (hd a b (fun x => x = .fr (.bl true)) rfl) ?_
  · refine ⟨rfl, fun i x hi => ?_, fun i hi => ?_, fun i j c hc hd => ?_, fun i c hc => rfl, ⟨fun _ _ h => (by cases h), fun _ _ h => (by cases h)⟩, ⟨fun _ _ h => (by cases h), fun _ _ h => (by cases h), fun _ _ => .inr (.inr rfl), fun _ _ => .inr rfl⟩⟩
    · match i, hi with
      | 1, hi =>
        cases hi
        exact ⟨.ref a, rfl, rfl, rfl, sm, tab⟩
      | 0, hi => cases hi
      | i + 2, hi =>
        exfalso
        have : (List.replicate 15 (none : Option DS))[i]? = some (some x) := hi
        rw [List.getElem?_replicate] at this
        split at this <;> cases this
    · by_cases z : i = 1
      · subst z
        exact absurd rfl (hi _)
      · simp [z]
    · by_cases z : i = 1
      · by_cases y : j = 1
        · rw [z, y]
        · simp [y] at hd
      · simp [z] at hc
  · refine ⟨fun _ _ _ _ _ z => z.elim, fun x ρ' v σ' F' H2 fv f' e _ o _ _ => ?_, fun _ _ _ _ _ z => z.elim, fun _ _ _ _ _ z => z.elim⟩
    cases e
    have := rep_bl.mp o.2
    subst this
    exact hq _
end
end K24
end

section
namespace K24
open PySem PySem.Spec PyProof.Rows L2 Sa LamX
theorem codeHd_look {K : PySem.W.Frag} {c Q : Addr} {o : Obj} (h : K.lookup c = some o) (e : PySem.W.codeHdIn [(c, o)] c Q = true) : PySem.W.codeHdIn K c Q = true := by
  have e2 : List.lookup c [(c, o)] = some o := by simp [List.lookup]
  unfold PySem.W.codeHdIn at e ⊢
  rw [e2] at e
  rw [h]
  exact e
theorem exm_at {K : PySem.W.Frag} {C S : Addr} {b : Bool} (h1 : PySem.W.subIn K (.ref S) (.type "BaseException") = some true) (h2 : PySem.W.isClsIn K S = true) (h3 : PySem.W.typeIn K (.ref S) = some (.type "type")) (h4 : PySem.W.subIn K (.ref C) (.ref S) = some b) :
    PySem.W.exmOne K (.ref C) (.ref S) = some b := by
  have e1 : (PySem.W.subIn K (.ref S) (.type "BaseException") == some true) = true := by rw [h1] <;> rfl
  have e2 : ((PySem.W.clsIn K S).isSome && PySem.W.typeIn K (.ref S) == some (.type "type")) = true := by
    have h2' : (PySem.W.clsIn K S).isSome = true := h2
    rw [h2', h3] <;> rfl
  show (if (PySem.W.subIn K (.ref S) (.type "BaseException") == some true) = true then (if ((PySem.W.clsIn K S).isSome && PySem.W.typeIn K (.ref S) == some (.type "type")) = true then PySem.W.subIn K (.ref C) (.ref S) else none) else none) = some b
  rw [if_pos e1, if_pos e2]
  exact h4
theorem all_mk {l : PySem.W.OpenLaw} {w : World} {K : PySem.W.Frag} {h : Heap} {mg : Str → Option Value} {fa cc PT : Addr} (X : K.In h) (G : h.Ns mainGlobals mg) (hfa : mg "law" = some (.ref fa)) (tP : h.get? PT = some { cls := .none, data := .fields #[] })
    {f_run_end : Addr} {od_run_end an_run_end : Option Addr} {sl_run_end : Array (Option Value)} {oc_run_end kV_run_end dc_run_end pm_run_end cd_run_end ct_run_end : Value}
    (a_run_end : PySem.W.nsIn K mainGlobals "run_end" = some (some (.ref f_run_end))) (l_run_end : K.lookup f_run_end = some ⟨oc_run_end, od_run_end, .func (PySem.W.fnOf "run_end" "run_end" (defArgs s_run_end) (defBody s_run_end) (defScope s_run_end) .none kV_run_end dc_run_end pm_run_end an_run_end cd_run_end ct_run_end), sl_run_end⟩) (c_run_end : PySem.W.codeIn K cd_run_end "run_end" = true) (k_run_end : PySem.W.keepIn K (.ref f_run_end) = true)
    {f_row_tokens : Addr} {od_row_tokens an_row_tokens : Option Addr} {sl_row_tokens : Array (Option Value)} {oc_row_tokens kV_row_tokens dc_row_tokens pm_row_tokens cd_row_tokens ct_row_tokens : Value}
    (a_row_tokens : PySem.W.nsIn K mainGlobals "row_tokens" = some (some (.ref f_row_tokens))) (l_row_tokens : K.lookup f_row_tokens = some ⟨oc_row_tokens, od_row_tokens, .func (PySem.W.fnOf "row_tokens" "row_tokens" (defArgs s_row_tokens) (defBody s_row_tokens) (defScope s_row_tokens) .none kV_row_tokens dc_row_tokens pm_row_tokens an_row_tokens cd_row_tokens ct_row_tokens), sl_row_tokens⟩) (c_row_tokens : PySem.W.codeIn K cd_row_tokens "row_tokens" = true) (k_row_tokens : PySem.W.keepIn K (.ref f_row_tokens) = true)
    {f_check_text : Addr} {od_check_text an_check_text : Option Addr} {sl_check_text : Array (Option Value)} {oc_check_text kV_check_text dc_check_text pm_check_text cd_check_text ct_check_text : Value}
    (a_check_text : PySem.W.nsIn K mainGlobals "check_text" = some (some (.ref f_check_text))) (l_check_text : K.lookup f_check_text = some ⟨oc_check_text, od_check_text, .func (PySem.W.fnOf "check_text" "check_text" (defArgs s_check_text) (defBody s_check_text) (defScope s_check_text) .none kV_check_text dc_check_text pm_check_text an_check_text cd_check_text ct_check_text), sl_check_text⟩) (c_check_text : PySem.W.codeIn K cd_check_text "check_text" = true) (k_check_text : PySem.W.keepIn K (.ref f_check_text) = true)
    {f_tokens : Addr} {od_tokens an_tokens : Option Addr} {sl_tokens : Array (Option Value)} {oc_tokens kV_tokens dc_tokens pm_tokens cd_tokens ct_tokens : Value}
    (a_tokens : PySem.W.nsIn K mainGlobals "tokens" = some (some (.ref f_tokens))) (l_tokens : K.lookup f_tokens = some ⟨oc_tokens, od_tokens, .func (PySem.W.fnOf "tokens" "tokens" (defArgs s_tokens) (defBody s_tokens) (defScope s_tokens) .none kV_tokens dc_tokens pm_tokens an_tokens cd_tokens ct_tokens), sl_tokens⟩) (c_tokens : PySem.W.codeIn K cd_tokens "tokens" = true) (k_tokens : PySem.W.keepIn K (.ref f_tokens) = true)
    {f__law_stream : Addr} {od__law_stream an__law_stream : Option Addr} {sl__law_stream : Array (Option Value)} {oc__law_stream kV__law_stream dc__law_stream pm__law_stream cd__law_stream ct__law_stream : Value}
    (a__law_stream : PySem.W.nsIn K mainGlobals "_law_stream" = some (some (.ref f__law_stream))) (l__law_stream : K.lookup f__law_stream = some ⟨oc__law_stream, od__law_stream, .func (PySem.W.fnOf "_law_stream" "_law_stream" (defArgs s__law_stream) (defBody s__law_stream) (defScope s__law_stream) .none kV__law_stream dc__law_stream pm__law_stream an__law_stream cd__law_stream ct__law_stream), sl__law_stream⟩) (c__law_stream : PySem.W.codeIn K cd__law_stream "_law_stream" = true) (k__law_stream : PySem.W.keepIn K (.ref f__law_stream) = true)
    {f__law_draw : Addr} {od__law_draw an__law_draw : Option Addr} {sl__law_draw : Array (Option Value)} {oc__law_draw kV__law_draw dc__law_draw pm__law_draw cd__law_draw ct__law_draw : Value}
    (a__law_draw : PySem.W.nsIn K mainGlobals "_law_draw" = some (some (.ref f__law_draw))) (l__law_draw : K.lookup f__law_draw = some ⟨oc__law_draw, od__law_draw, .func (PySem.W.fnOf "_law_draw" "_law_draw" (defArgs s__law_draw) (defBody s__law_draw) (defScope s__law_draw) .none kV__law_draw dc__law_draw pm__law_draw an__law_draw cd__law_draw ct__law_draw), sl__law_draw⟩) (c__law_draw : PySem.W.codeIn K cd__law_draw "_law_draw" = true) (k__law_draw : PySem.W.keepIn K (.ref f__law_draw) = true)
    {f__law_pick : Addr} {od__law_pick an__law_pick : Option Addr} {sl__law_pick : Array (Option Value)} {oc__law_pick kV__law_pick dc__law_pick pm__law_pick cd__law_pick ct__law_pick : Value}
    (a__law_pick : PySem.W.nsIn K mainGlobals "_law_pick" = some (some (.ref f__law_pick))) (l__law_pick : K.lookup f__law_pick = some ⟨oc__law_pick, od__law_pick, .func (PySem.W.fnOf "_law_pick" "_law_pick" (defArgs s__law_pick) (defBody s__law_pick) (defScope s__law_pick) .none kV__law_pick dc__law_pick pm__law_pick an__law_pick cd__law_pick ct__law_pick), sl__law_pick⟩) (c__law_pick : PySem.W.codeIn K cd__law_pick "_law_pick" = true) (k__law_pick : PySem.W.keepIn K (.ref f__law_pick) = true)
    {f__law_copied : Addr} {od__law_copied an__law_copied : Option Addr} {sl__law_copied : Array (Option Value)} {oc__law_copied kV__law_copied dc__law_copied pm__law_copied cd__law_copied ct__law_copied : Value}
    (a__law_copied : PySem.W.nsIn K mainGlobals "_law_copied" = some (some (.ref f__law_copied))) (l__law_copied : K.lookup f__law_copied = some ⟨oc__law_copied, od__law_copied, .func (PySem.W.fnOf "_law_copied" "_law_copied" (defArgs s__law_copied) (defBody s__law_copied) (defScope s__law_copied) .none kV__law_copied dc__law_copied pm__law_copied an__law_copied cd__law_copied ct__law_copied), sl__law_copied⟩) (c__law_copied : PySem.W.codeIn K cd__law_copied "_law_copied" = true) (k__law_copied : PySem.W.keepIn K (.ref f__law_copied) = true)
    {f__law_same : Addr} {od__law_same an__law_same : Option Addr} {sl__law_same : Array (Option Value)} {oc__law_same kV__law_same dc__law_same pm__law_same cd__law_same ct__law_same : Value}
    (a__law_same : PySem.W.nsIn K mainGlobals "_law_same" = some (some (.ref f__law_same))) (l__law_same : K.lookup f__law_same = some ⟨oc__law_same, od__law_same, .func (PySem.W.fnOf "_law_same" "_law_same" (defArgs s__law_same) (defBody s__law_same) (defScope s__law_same) .none kV__law_same dc__law_same pm__law_same an__law_same cd__law_same ct__law_same), sl__law_same⟩) (c__law_same : PySem.W.codeIn K cd__law_same "_law_same" = true) (k__law_same : PySem.W.keepIn K (.ref f__law_same) = true)
    {f__law_spoilt : Addr} {od__law_spoilt an__law_spoilt : Option Addr} {sl__law_spoilt : Array (Option Value)} {oc__law_spoilt kV__law_spoilt dc__law_spoilt pm__law_spoilt cd__law_spoilt ct__law_spoilt : Value}
    (a__law_spoilt : PySem.W.nsIn K mainGlobals "_law_spoilt" = some (some (.ref f__law_spoilt))) (l__law_spoilt : K.lookup f__law_spoilt = some ⟨oc__law_spoilt, od__law_spoilt, .func (PySem.W.fnOf "_law_spoilt" "_law_spoilt" (defArgs s__law_spoilt) (defBody s__law_spoilt) (defScope s__law_spoilt) .none kV__law_spoilt dc__law_spoilt pm__law_spoilt an__law_spoilt cd__law_spoilt ct__law_spoilt), sl__law_spoilt⟩) (c__law_spoilt : PySem.W.codeIn K cd__law_spoilt "_law_spoilt" = true) (k__law_spoilt : PySem.W.keepIn K (.ref f__law_spoilt) = true)
    {f__law_span : Addr} {od__law_span an__law_span : Option Addr} {sl__law_span : Array (Option Value)} {oc__law_span kV__law_span dc__law_span pm__law_span cd__law_span ct__law_span : Value}
    (a__law_span : PySem.W.nsIn K mainGlobals "_law_span" = some (some (.ref f__law_span))) (l__law_span : K.lookup f__law_span = some ⟨oc__law_span, od__law_span, .func (PySem.W.fnOf "_law_span" "_law_span" (defArgs s__law_span) (defBody s__law_span) (defScope s__law_span) .none kV__law_span dc__law_span pm__law_span an__law_span cd__law_span ct__law_span), sl__law_span⟩) (c__law_span : PySem.W.codeIn K cd__law_span "_law_span" = true) (k__law_span : PySem.W.keepIn K (.ref f__law_span) = true)
    {f__law_row_tokens : Addr} {od__law_row_tokens an__law_row_tokens : Option Addr} {sl__law_row_tokens : Array (Option Value)} {oc__law_row_tokens kV__law_row_tokens dc__law_row_tokens pm__law_row_tokens cd__law_row_tokens ct__law_row_tokens : Value}
    (a__law_row_tokens : PySem.W.nsIn K mainGlobals "_law_row_tokens" = some (some (.ref f__law_row_tokens))) (l__law_row_tokens : K.lookup f__law_row_tokens = some ⟨oc__law_row_tokens, od__law_row_tokens, .func (PySem.W.fnOf "_law_row_tokens" "_law_row_tokens" (defArgs s__law_row_tokens) (defBody s__law_row_tokens) (defScope s__law_row_tokens) .none kV__law_row_tokens dc__law_row_tokens pm__law_row_tokens an__law_row_tokens cd__law_row_tokens ct__law_row_tokens), sl__law_row_tokens⟩) (c__law_row_tokens : PySem.W.codeIn K cd__law_row_tokens "_law_row_tokens" = true) (k__law_row_tokens : PySem.W.keepIn K (.ref f__law_row_tokens) = true)
    {f__law_drawn_row : Addr} {od__law_drawn_row an__law_drawn_row : Option Addr} {sl__law_drawn_row : Array (Option Value)} {oc__law_drawn_row kV__law_drawn_row dc__law_drawn_row pm__law_drawn_row cd__law_drawn_row ct__law_drawn_row : Value}
    (a__law_drawn_row : PySem.W.nsIn K mainGlobals "_law_drawn_row" = some (some (.ref f__law_drawn_row))) (l__law_drawn_row : K.lookup f__law_drawn_row = some ⟨oc__law_drawn_row, od__law_drawn_row, .func (PySem.W.fnOf "_law_drawn_row" "_law_drawn_row" (defArgs s__law_drawn_row) (defBody s__law_drawn_row) (defScope s__law_drawn_row) .none kV__law_drawn_row dc__law_drawn_row pm__law_drawn_row an__law_drawn_row cd__law_drawn_row ct__law_drawn_row), sl__law_drawn_row⟩) (c__law_drawn_row : PySem.W.codeIn K cd__law_drawn_row "_law_drawn_row" = true) (k__law_drawn_row : PySem.W.keepIn K (.ref f__law_drawn_row) = true)
    {f__law_met : Addr} {od__law_met an__law_met : Option Addr} {sl__law_met : Array (Option Value)} {oc__law_met kV__law_met dc__law_met pm__law_met cd__law_met ct__law_met : Value}
    (a__law_met : PySem.W.nsIn K mainGlobals "_law_met" = some (some (.ref f__law_met))) (l__law_met : K.lookup f__law_met = some ⟨oc__law_met, od__law_met, .func (PySem.W.fnOf "_law_met" "_law_met" (defArgs s__law_met) (defBody s__law_met) (defScope s__law_met) .none kV__law_met dc__law_met pm__law_met an__law_met cd__law_met ct__law_met), sl__law_met⟩) (c__law_met : PySem.W.codeIn K cd__law_met "_law_met" = true) (k__law_met : PySem.W.keepIn K (.ref f__law_met) = true)
    {f_law : Addr} {od_law an_law : Option Addr} {sl_law : Array (Option Value)} {oc_law kV_law dc_law pm_law ct_law : Value}
    (a_law : PySem.W.nsIn K mainGlobals "law" = some (some (.ref f_law))) (l_law : K.lookup f_law = some ⟨oc_law, od_law, .func (PySem.W.fnOf "law" "law" (defArgs s_law) (defBody s_law) (defScope s_law) .none kV_law dc_law pm_law an_law (.ref cc) ct_law), sl_law⟩) (c_law : PySem.W.codeIn K (.ref cc) "law" = true) (k_law : PySem.W.keepIn K (.ref f_law) = true)
    {C_NoText i_NoText : Addr} {nm_NoText q_NoText : Str} {N_NoText : Addr} {bs_NoText bm_NoText : List Value} {sn_NoText : List Str} {sub_NoText : List Value} {ab_NoText : Bool} {col_NoText : Option Bool} {dd_NoText : Option Addr} {m0_NoText m1_NoText m2_NoText m3_NoText m5_NoText : Option Value}
    {od_NoText an_NoText : Option Addr} {sl_NoText : Array (Option Value)} {oc_NoText kV_NoText dc_NoText pm_NoText cd_NoText ct_NoText : Value}
    (a_NoText : PySem.W.nsIn K mainGlobals "NoText" = some (some (.ref C_NoText)))
    (x_NoText : K.lookup C_NoText = some (excClassObj nm_NoText q_NoText C_NoText N_NoText bs_NoText bm_NoText true sn_NoText sub_NoText ab_NoText col_NoText dd_NoText m0_NoText m1_NoText m2_NoText m3_NoText m5_NoText "ValueError.__new__")) (r_NoText : PySem.HandSPX.refsVE bm_NoText = true)
    {C_Unread i_Unread : Addr} {nm_Unread q_Unread : Str} {N_Unread : Addr} {bs_Unread bm_Unread : List Value} {sn_Unread : List Str} {sub_Unread : List Value} {ab_Unread : Bool} {col_Unread : Option Bool} {dd_Unread : Option Addr} {m0_Unread m1_Unread m2_Unread m3_Unread m5_Unread : Option Value}
    {od_Unread an_Unread : Option Addr} {sl_Unread : Array (Option Value)} {oc_Unread kV_Unread dc_Unread pm_Unread cd_Unread ct_Unread : Value}
    (a_Unread : PySem.W.nsIn K mainGlobals "Unread" = some (some (.ref C_Unread)))
    (x_Unread : K.lookup C_Unread = some (excClassObj nm_Unread q_Unread C_Unread N_Unread bs_Unread bm_Unread true sn_Unread sub_Unread ab_Unread col_Unread dd_Unread m0_Unread m1_Unread m2_Unread m3_Unread m5_Unread "ValueError.__new__")) (r_Unread : PySem.HandSPX.refsVE bm_Unread = true)
    (sa_NoText : PySem.W.findIn K (.ref C_NoText) "__setattr__" = some (some (.builtin "object.__setattr__")))
    (ga_NoText : PySem.W.findIn K (.ref C_NoText) "__getattribute__" = some (some (.builtin "BaseException.__getattribute__")))
    (gg_NoText : PySem.W.findIn K (.ref C_NoText) "__getattr__" = some none)
    (nf_NoText : PySem.W.findIn K (.ref C_NoText) "text" = some none)
    (in_NoText : PySem.W.findIn K (.ref C_NoText) "__init__" = some (some (.ref i_NoText)))
    (kC_NoText : PySem.W.keepIn K (.ref C_NoText) = true)
    (eC_NoText : PySem.W.subIn K (.ref C_NoText) (.type "BaseException") = some true)
    (tC_NoText : PySem.W.typeIn K (.ref C_NoText) = some (.type "type"))
    (hC_NoText : PySem.W.hasDictIn K C_NoText = true)
    (iC_NoText : PySem.W.isClsIn K C_NoText = true)
    (sC_NoText : PySem.W.subIn K (.ref C_NoText) (.ref C_NoText) = some true)
    (ki_NoText : PySem.W.keepIn K (.ref i_NoText) = true) (ti_NoText : PySem.W.typeIn K (.ref i_NoText) = some (.type "function")) (l_NoText : K.lookup i_NoText = some ⟨oc_NoText, od_NoText, .func (PySem.W.fnOf "__init__" "NoText.__init__" (defArgs s_NoText) (defBody s_NoText) (defScope s_NoText) .none kV_NoText dc_NoText pm_NoText an_NoText cd_NoText ct_NoText), sl_NoText⟩) (c_NoText : PySem.W.codeIn K cd_NoText "NoText.__init__" = true)
    (sa_Unread : PySem.W.findIn K (.ref C_Unread) "__setattr__" = some (some (.builtin "object.__setattr__")))
    (ga_Unread : PySem.W.findIn K (.ref C_Unread) "__getattribute__" = some (some (.builtin "BaseException.__getattribute__")))
    (gg_Unread : PySem.W.findIn K (.ref C_Unread) "__getattr__" = some none)
    (nf_Unread : PySem.W.findIn K (.ref C_Unread) "at" = some none)
    (in_Unread : PySem.W.findIn K (.ref C_Unread) "__init__" = some (some (.ref i_Unread)))
    (kC_Unread : PySem.W.keepIn K (.ref C_Unread) = true)
    (eC_Unread : PySem.W.subIn K (.ref C_Unread) (.type "BaseException") = some true)
    (tC_Unread : PySem.W.typeIn K (.ref C_Unread) = some (.type "type"))
    (hC_Unread : PySem.W.hasDictIn K C_Unread = true)
    (iC_Unread : PySem.W.isClsIn K C_Unread = true)
    (sC_Unread : PySem.W.subIn K (.ref C_Unread) (.ref C_Unread) = some true)
    (ki_Unread : PySem.W.keepIn K (.ref i_Unread) = true) (ti_Unread : PySem.W.typeIn K (.ref i_Unread) = some (.type "function")) (l_Unread : K.lookup i_Unread = some ⟨oc_Unread, od_Unread, .func (PySem.W.fnOf "__init__" "Unread.__init__" (defArgs s_Unread) (defBody s_Unread) (defScope s_Unread) .none kV_Unread dc_Unread pm_Unread an_Unread cd_Unread ct_Unread), sl_Unread⟩) (c_Unread : PySem.W.codeIn K cd_Unread "Unread.__init__" = true)
    (z_isinstance : PySem.W.nsIn K mainGlobals "isinstance" = some none) (z_list : PySem.W.nsIn K mainGlobals "list" = some none) (z_tuple : PySem.W.nsIn K mainGlobals "tuple" = some none) (z_dict : PySem.W.nsIn K mainGlobals "dict" = some none) (z_bool : PySem.W.nsIn K mainGlobals "bool" = some none) (z_int : PySem.W.nsIn K mainGlobals "int" = some none) (z_str : PySem.W.nsIn K mainGlobals "str" = some none) (z_len : PySem.W.nsIn K mainGlobals "len" = some none) (z_zip : PySem.W.nsIn K mainGlobals "zip" = some none) (z_all : PySem.W.nsIn K mainGlobals "all" = some none) (z_range : PySem.W.nsIn K mainGlobals "range" = some none) (z_enumerate : PySem.W.nsIn K mainGlobals "enumerate" = some none) (z_abs : PySem.W.nsIn K mainGlobals "abs" = some none)
    {tL tF : Tok} (v_LETTERS : PySem.W.nsIn K mainGlobals "LETTERS" = some (some (.str LET tL))) (v_FIGURES : PySem.W.nsIn K mainGlobals "FIGURES" = some (some (.str FIG tF)))
    (sX : PySem.W.subIn K (.ref C_Unread) (.ref C_NoText) = some false) (cH : PySem.W.codeHdIn K cc PT = true) (nT : K.lookup PT = none) : LawAtS l w K L2.CX0 16 63 "script" mg fa h := by
  have e := hfa.symm.trans (PySem.W.mg_of X G a_law)
  cases e
  have F_run_end := fun_mk (st := s_run_end) l_run_end c_run_end k_run_end
  have g_run_end := PySem.W.mg_of X G a_run_end
  have b_run_end := F_run_end.binds (ps := ["row", "place", "signs"]) fun _ _ _ _ _ _ us hl => match us, hl with | [_, _, _], _ => rfl
  have F_row_tokens := fun_mk (st := s_row_tokens) l_row_tokens c_row_tokens k_row_tokens
  have g_row_tokens := PySem.W.mg_of X G a_row_tokens
  have b_row_tokens := F_row_tokens.binds (ps := ["row"]) fun _ _ _ _ _ _ us hl => match us, hl with | [_], _ => rfl
  have F_check_text := fun_mk (st := s_check_text) l_check_text c_check_text k_check_text
  have g_check_text := PySem.W.mg_of X G a_check_text
  have b_check_text := F_check_text.binds (ps := ["text"]) fun _ _ _ _ _ _ us hl => match us, hl with | [_], _ => rfl
  have F_tokens := fun_mk (st := s_tokens) l_tokens c_tokens k_tokens
  have g_tokens := PySem.W.mg_of X G a_tokens
  have b_tokens := F_tokens.binds (ps := ["text"]) fun _ _ _ _ _ _ us hl => match us, hl with | [_], _ => rfl
  have F__law_stream := fun_mk (st := s__law_stream) l__law_stream c__law_stream k__law_stream
  have g__law_stream := PySem.W.mg_of X G a__law_stream
  have b__law_stream := F__law_stream.binds (ps := ["script"]) fun _ _ _ _ _ _ us hl => match us, hl with | [_], _ => rfl
  have F__law_draw := fun_mk (st := s__law_draw) l__law_draw c__law_draw k__law_draw
  have g__law_draw := PySem.W.mg_of X G a__law_draw
  have b__law_draw := F__law_draw.binds (ps := ["stream", "many"]) fun _ _ _ _ _ _ us hl => match us, hl with | [_, _], _ => rfl
  have F__law_pick := fun_mk (st := s__law_pick) l__law_pick c__law_pick k__law_pick
  have g__law_pick := PySem.W.mg_of X G a__law_pick
  have b__law_pick := F__law_pick.binds (ps := ["stream", "things"]) fun _ _ _ _ _ _ us hl => match us, hl with | [_, _], _ => rfl
  have F__law_copied := fun_mk (st := s__law_copied) l__law_copied c__law_copied k__law_copied
  have g__law_copied := PySem.W.mg_of X G a__law_copied
  have b__law_copied := F__law_copied.binds (ps := ["thing"]) fun _ _ _ _ _ _ us hl => match us, hl with | [_], _ => rfl
  have F__law_same := fun_mk (st := s__law_same) l__law_same c__law_same k__law_same
  have g__law_same := PySem.W.mg_of X G a__law_same
  have b__law_same := F__law_same.binds (ps := ["found", "due"]) fun _ _ _ _ _ _ us hl => match us, hl with | [_, _], _ => rfl
  have F__law_spoilt := fun_mk (st := s__law_spoilt) l__law_spoilt c__law_spoilt k__law_spoilt
  have g__law_spoilt := PySem.W.mg_of X G a__law_spoilt
  have b__law_spoilt := F__law_spoilt.binds (ps := ["thing"]) fun _ _ _ _ _ _ us hl => match us, hl with | [_], _ => rfl
  have F__law_span := fun_mk (st := s__law_span) l__law_span c__law_span k__law_span
  have g__law_span := PySem.W.mg_of X G a__law_span
  have b__law_span := F__law_span.binds (ps := ["row", "place", "signs"]) fun _ _ _ _ _ _ us hl => match us, hl with | [_, _, _], _ => rfl
  have F__law_row_tokens := fun_mk (st := s__law_row_tokens) l__law_row_tokens c__law_row_tokens k__law_row_tokens
  have g__law_row_tokens := PySem.W.mg_of X G a__law_row_tokens
  have b__law_row_tokens := F__law_row_tokens.binds (ps := ["row"]) fun _ _ _ _ _ _ us hl => match us, hl with | [_], _ => rfl
  have F__law_drawn_row := fun_mk (st := s__law_drawn_row) l__law_drawn_row c__law_drawn_row k__law_drawn_row
  have g__law_drawn_row := PySem.W.mg_of X G a__law_drawn_row
  have b__law_drawn_row := F__law_drawn_row.binds (ps := ["stream"]) fun _ _ _ _ _ _ us hl => match us, hl with | [_], _ => rfl
  have F__law_met := fun_mk (st := s__law_met) l__law_met c__law_met k__law_met
  have g__law_met := PySem.W.mg_of X G a__law_met
  have b__law_met := F__law_met.binds (ps := ["ask"]) fun _ _ _ _ _ _ us hl => match us, hl with | [_], _ => rfl
  have F_NoText := fun_mk (st := s_NoText) l_NoText c_NoText ki_NoText
  have g_NoText := PySem.W.mg_of X G a_NoText
  have b_NoText := F_NoText.binds (ps := ["self", "text"]) fun _ _ _ _ _ _ us hl => match us, hl with | [_, _], _ => rfl
  have T_NoText : OexC K C_NoText := ⟨⟨_, _, _, _, _, _, _, _, _, _, _, _, _, _, _, x_NoText, r_NoText⟩, sa_NoText, eC_NoText, tC_NoText, kC_NoText⟩
  have D_NoText : FldC K C_NoText "text" := ⟨ga_NoText, gg_NoText, eC_NoText, hC_NoText, nf_NoText⟩
  have F_Unread := fun_mk (st := s_Unread) l_Unread c_Unread ki_Unread
  have g_Unread := PySem.W.mg_of X G a_Unread
  have b_Unread := F_Unread.binds (ps := ["self", "at"]) fun _ _ _ _ _ _ us hl => match us, hl with | [_, _], _ => rfl
  have T_Unread : OexC K C_Unread := ⟨⟨_, _, _, _, _, _, _, _, _, _, _, _, _, _, _, x_Unread, r_Unread⟩, sa_Unread, eC_Unread, tC_Unread, kC_Unread⟩
  have D_Unread : FldC K C_Unread "at" := ⟨ga_Unread, gg_Unread, eC_Unread, hC_Unread, nf_Unread⟩
  have M : ∀ {nm : Str}, PySem.W.nsIn K mainGlobals nm = some none → mg nm = none := fun z => PySem.W.mg_none_of X G z
  have x11 := exm_at eC_NoText iC_NoText tC_NoText sC_NoText
  have x21 := exm_at eC_NoText iC_NoText tC_NoText sX
  have x22 := exm_at eC_Unread iC_Unread tC_Unread sC_Unread
  have v1 := PySem.W.mg_of X G v_LETTERS
  have v2 := PySem.W.mg_of X G v_FIGURES
  refine ⟨PySem.W.fnOf "law" "law" (defArgs s_law) (defBody s_law) (defScope s_law) .none kV_law dc_law pm_law an_law (.ref cc) ct_law, [(cc, PT)], SpLaw K PT, (fun p hp => by cases List.mem_singleton.mp hp; exact tP), (fun p hp => by cases List.mem_singleton.mp hp; exact nT), (fun p hp => by cases List.mem_singleton.mp hp; exact PySem.W.codeHd_of_K X cH), (fun s v => .of_eq rfl), (fun H a ns hl hb hT hS => ⟨a, ns, rfl, hS, hl, hT (cc, PT) (List.mem_singleton.mpr rfl), fun _ => rfl⟩), fun base KB GB TBs => ?_⟩
  have G_run_end := ok_run_end (P := l.prog) (w := w) (mg := mg) (base := base) (k := 0) F_run_end (M z_len)
  have G_row_tokens := ok_row_tokens F_row_tokens G_run_end g_run_end k_run_end b_run_end (M z_len) (M z_int) v1 v2
  have G__law_span := ok__law_span (P := l.prog) (w := w) (mg := mg) (base := base) (k := 0) F__law_span
  have G__law_row_tokens := ok__law_row_tokens F__law_row_tokens G__law_span g__law_span k__law_span b__law_span (M z_len) (M z_int) (M z_enumerate)
  have G__law_draw := ok__law_draw (P := l.prog) (w := w) (mg := mg) (base := base) (k := 0) F__law_draw (M z_int) (M z_abs)
  have G__law_pick := ok__law_pick F__law_pick G__law_draw g__law_draw k__law_draw b__law_draw (M z_len)
  have G__law_drawn_row := ok__law_drawn_row F__law_drawn_row G__law_draw g__law_draw k__law_draw b__law_draw G__law_pick g__law_pick k__law_pick b__law_pick (M z_len) (M z_range) (M z_list)
  have G_NoText := ok_NoText (P := l.prog) (w := w) (mg := mg) (base := base) (k := 0) F_NoText T_NoText nf_NoText
  have G_Unread := ok_Unread (P := l.prog) (w := w) (mg := mg) (base := base) (k := 0) F_Unread T_Unread nf_Unread
  have G_check_text := ok_check_text F_check_text T_NoText in_NoText ti_NoText G_NoText b_NoText g_NoText (M z_isinstance) (M z_str)
  have G_tokens := ok_tokens F_tokens T_Unread in_Unread ti_Unread G_Unread b_Unread g_Unread G_check_text g_check_text k_check_text b_check_text G_row_tokens g_row_tokens k_row_tokens b_row_tokens (M z_enumerate)
  have G__law_stream := ok__law_stream (P := l.prog) (w := w) (mg := mg) (base := base) (k := 0) F__law_stream (M z_list)
  have G__law_spoilt := ok__law_spoilt (P := l.prog) (w := w) (mg := mg) (base := base) F__law_spoilt g__law_spoilt k__law_spoilt b__law_spoilt (M z_isinstance) (M z_dict) (M z_list) (M z_tuple) 6
  have G__law_copied := ok__law_copied (P := l.prog) (w := w) (mg := mg) (base := base) F__law_copied g__law_copied k__law_copied b__law_copied (M z_isinstance) (M z_dict) (M z_list) (M z_tuple) 4
  have G__law_same := ok__law_same (P := l.prog) (w := w) (mg := mg) (base := base) F__law_same g__law_same k__law_same b__law_same (M z_isinstance) (M z_dict) (M z_list) (M z_tuple) (M z_bool) (M z_int) (M z_str) (M z_len) (M z_zip) (M z_all) 8
  have n_tokens := kbn1 F_tokens (a := "text") (fun _ _ _ _ _ _ _ _ _ => rfl)
  exact ok_law l_law c_law (fun A outer s H E B room => law_walk room rfl (TBs (cc, PT) (List.mem_singleton.mpr rfl)) G__law_draw g__law_draw k__law_draw b__law_draw G__law_pick g__law_pick k__law_pick b__law_pick G__law_drawn_row g__law_drawn_row k__law_drawn_row b__law_drawn_row G__law_row_tokens g__law_row_tokens k__law_row_tokens b__law_row_tokens G__law_same g__law_same k__law_same b__law_same G__law_copied g__law_copied k__law_copied b__law_copied G_tokens g_tokens k_tokens b_tokens G__law_spoilt g__law_spoilt k__law_spoilt b__law_spoilt n_tokens g__law_met k__law_met l__law_met c__law_met b__law_met g_NoText g_Unread D_NoText D_Unread x11 x21 x22 (M z_range) (M z_enumerate) (M z_isinstance) (M z_list)) G__law_stream g__law_stream k__law_stream b__law_stream
end K24
end

section
open PySem PySem.W PyProof.Rows
set_option maxHeartbeats 0 in
theorem PySem.Challenge.cw_standapart_k24_whole_tokens_of_texts_holds : PySem.Challenge.rw_standapart_k24_whole_tokens_of_texts.Holds := by
  w_on; o_law; k_head; (case hw => w_witness2)
  k_fill
  refine LamX.walk_ofTs (l := PySem.Challenge.rw_standapart_k24_whole_tokens_of_texts) (n := 63) (k := 16) (x := "script") (CX := fun _ => L2.CX0) rfl (by decide) rfl ⟨rfl, by decide, by decide⟩ (fun w h Y => PySem.W.km_in_of Y) ?F (fun _ _ _ _ _ h => h)
  case F =>
    intro w mg fa h Y KX G hmg
    have tP := PySem.W.km_tabs_of Y 161 (by simp)
    refine' K24.all_mk (PT := 161) KX G hmg tP ?a_run_end ?l_run_end ?c_run_end ?k_run_end ?a_row_tokens ?l_row_tokens ?c_row_tokens ?k_row_tokens ?a_check_text ?l_check_text ?c_check_text ?k_check_text ?a_tokens ?l_tokens ?c_tokens ?k_tokens ?a__law_stream ?l__law_stream ?c__law_stream ?k__law_stream ?a__law_draw ?l__law_draw ?c__law_draw ?k__law_draw ?a__law_pick ?l__law_pick ?c__law_pick ?k__law_pick ?a__law_copied ?l__law_copied ?c__law_copied ?k__law_copied ?a__law_same ?l__law_same ?c__law_same ?k__law_same ?a__law_spoilt ?l__law_spoilt ?c__law_spoilt ?k__law_spoilt ?a__law_span ?l__law_span ?c__law_span ?k__law_span ?a__law_row_tokens ?l__law_row_tokens ?c__law_row_tokens ?k__law_row_tokens ?a__law_drawn_row ?l__law_drawn_row ?c__law_drawn_row ?k__law_drawn_row ?a__law_met ?l__law_met ?c__law_met ?k__law_met ?a_law ?l_law ?c_law ?k_law ?a_NoText ?x_NoText ?r_NoText ?a_Unread ?x_Unread ?r_Unread ?sa_NoText ?ga_NoText ?gg_NoText ?nf_NoText ?in_NoText ?kC_NoText ?eC_NoText ?tC_NoText ?hC_NoText ?iC_NoText ?sC_NoText ?ki_NoText ?ti_NoText ?l_NoText ?c_NoText ?sa_Unread ?ga_Unread ?gg_Unread ?nf_Unread ?in_Unread ?kC_Unread ?eC_Unread ?tC_Unread ?hC_Unread ?iC_Unread ?sC_Unread ?ki_Unread ?ti_Unread ?l_Unread ?c_Unread ?z_isinstance ?z_list ?z_tuple ?z_dict ?z_bool ?z_int ?z_str ?z_len ?z_zip ?z_all ?z_range ?z_enumerate ?z_abs ?v_LETTERS ?v_FIGURES ?sX ?cH ?nT
    (case a_run_end => k_is)
    (case l_run_end => k_is)
    (case c_run_end => k_is)
    (case k_run_end => k_is)
    (case a_row_tokens => k_is)
    (case l_row_tokens => k_is)
    (case c_row_tokens => k_is)
    (case k_row_tokens => k_is)
    (case a_check_text => k_is)
    (case l_check_text => k_is)
    (case c_check_text => k_is)
    (case k_check_text => k_is)
    (case a_tokens => k_is)
    (case l_tokens => k_is)
    (case c_tokens => k_is)
    (case k_tokens => k_is)
    (case a__law_stream => k_is)
    (case l__law_stream => k_is)
    (case c__law_stream => k_is)
    (case k__law_stream => k_is)
    (case a__law_draw => k_is)
    (case l__law_draw => k_is)
    (case c__law_draw => k_is)
    (case k__law_draw => k_is)
    (case a__law_pick => k_is)
    (case l__law_pick => k_is)
    (case c__law_pick => k_is)
    (case k__law_pick => k_is)
    (case a__law_copied => k_is)
    (case l__law_copied => k_is)
    (case c__law_copied => k_is)
    (case k__law_copied => k_is)
    (case a__law_same => k_is)
    (case l__law_same => k_is)
    (case c__law_same => k_is)
    (case k__law_same => k_is)
    (case a__law_spoilt => k_is)
    (case l__law_spoilt => k_is)
    (case c__law_spoilt => k_is)
    (case k__law_spoilt => k_is)
    (case a__law_span => k_is)
    (case l__law_span => k_is)
    (case c__law_span => k_is)
    (case k__law_span => k_is)
    (case a__law_row_tokens => k_is)
    (case l__law_row_tokens => k_is)
    (case c__law_row_tokens => k_is)
    (case k__law_row_tokens => k_is)
    (case a__law_drawn_row => k_is)
    (case l__law_drawn_row => k_is)
    (case c__law_drawn_row => k_is)
    (case k__law_drawn_row => k_is)
    (case a__law_met => k_is)
    (case l__law_met => k_is)
    (case c__law_met => k_is)
    (case k__law_met => k_is)
    (case a_law => k_is)
    (case l_law => k_is)
    (case c_law => k_is)
    (case k_law => k_is)
    (case a_NoText => k_is)
    (case x_NoText => first | k_is | k_exc)
    (case r_NoText => decide +kernel)
    (case sa_NoText => k_is)
    (case ga_NoText => k_is)
    (case gg_NoText => k_is)
    (case nf_NoText => k_is)
    (case in_NoText => k_is)
    (case kC_NoText => k_is)
    (case eC_NoText => k_is)
    (case tC_NoText => k_is)
    (case hC_NoText => k_is)
    (case iC_NoText => k_is)
    (case sC_NoText => first | rfl | k_is)
    (case ki_NoText => k_is)
    (case ti_NoText => k_is)
    (case l_NoText => k_is)
    (case c_NoText => k_is)
    (case a_Unread => k_is)
    (case x_Unread => first | k_is | k_exc)
    (case r_Unread => decide +kernel)
    (case sa_Unread => k_is)
    (case ga_Unread => k_is)
    (case gg_Unread => k_is)
    (case nf_Unread => k_is)
    (case in_Unread => k_is)
    (case kC_Unread => k_is)
    (case eC_Unread => k_is)
    (case tC_Unread => k_is)
    (case hC_Unread => k_is)
    (case iC_Unread => k_is)
    (case sC_Unread => first | rfl | k_is)
    (case ki_Unread => k_is)
    (case ti_Unread => k_is)
    (case l_Unread => k_is)
    (case c_Unread => k_is)
    (case z_isinstance => k_is)
    (case z_list => k_is)
    (case z_tuple => k_is)
    (case z_dict => k_is)
    (case z_bool => k_is)
    (case z_int => k_is)
    (case z_str => k_is)
    (case z_len => k_is)
    (case z_zip => k_is)
    (case z_all => k_is)
    (case z_range => k_is)
    (case z_enumerate => k_is)
    (case z_abs => k_is)
    (case v_LETTERS => k_is)
    (case v_FIGURES => k_is)
    (case sX => k_is)
    (case cH => refine' K24.codeHd_look ?a ?b; (case a => k_is); (case b => decide +kernel))
    (case nT => first | rfl | k_is)
end
