import PyProof.Rows.All
import Wide.All
import OpenK.AllK
import Wide.FinOn
import HandS.ForMost
import HandS.ForExc
import HandS.HeadHook4
import HandS.TupAny
import HandS.IsInst
import HandS.Zip
import HandS.ExcInit
import HandS.ExcField
import HandS.ExcIs
import HandS.TryMany
import KE.KExcInit
import HandS.HotCalls
import KE.KExcIs
import HandS.HeadNt
import HandS.HeadEnd
import HandS.Head0
import HandS.Head1
import HandS.Head2
import PySem.Challenge.RW_fewbreak_k00_errors_by_themselves
set_option Elab.async false
set_option linter.all false
set_option autoImplicit false
set_option maxRecDepth 100000
set_option maxHeartbeats 4000000
namespace DL
open PySem PySem.Spec PyProof.Rows L2

abbrev VSt := List (Option V)
inductive D where
  | non | bl (b : Bool) | int (i : Int) | str (x : Str) | ty (n : String)
  | tup (xs : List D) | lst (xs : List D)
  | dic (kvs : List (Key × D))
  | obj (c : Str) (fs : List (Str × D))
  | exc (c : Str) (fs : List (Str × D))
  | adr (a : Addr)

/-- an exception object that nobody changes -/
def excHO (a : Addr) (oe : Obj) : HO := .frz oe (.ext fun h => h.get? a = some oe)

mutual
def Rep (K : PySem.W.Frag) (G : Hp) : D → V → Prop
  | .non, v => v = .non
  | .bl b, v => v = .bl b
  | .int i, v => v = .int i
  | .str x, v => v = .str x
  | .ty n, v => v = .ty n
  | .tup ds, v => ∃ a vs, v = .ref a ∧ SqT K G a vs ∧ Reps K G ds vs
  | .lst ds, v => ∃ a vs, v = .ref a ∧ G a = some (.lst vs) ∧ Reps K G ds vs
  | .dic kvs, v => ∃ a vs, v = .ref a ∧ G a = some (.dK vs) ∧ RepsK K G kvs vs
  | .obj c fs, v => ∃ a dx vs, v = .ref a ∧ G a = some (.ins (He.ga K c) dx vs) ∧ RepsF K G fs vs
  | .exc c fs, v => ∃ a oe d vs, v = .ref a ∧ G a = some (excHO a oe) ∧ oe.cls = .ref (He.ga K c) ∧ oe.dict = some d ∧ (∃ ws, oe.data = .fields ws) ∧ G d = some (.xd vs) ∧ RepsF K G fs vs
  | .adr a, v => v = .ref a
def Reps (K : PySem.W.Frag) (G : Hp) : List D → List V → Prop
  | [], vs => vs = []
  | d :: ds, vs => ∃ v r, vs = v :: r ∧ Rep K G d v ∧ Reps K G ds r
def RepsK (K : PySem.W.Frag) (G : Hp) : List (Key × D) → List (Key × V) → Prop
  | [], vs => vs = []
  | d :: ds, vs => ∃ v r, vs = (d.1, v) :: r ∧ Rep K G d.2 v ∧ RepsK K G ds r
def RepsF (K : PySem.W.Frag) (G : Hp) : List (Str × D) → List (Str × V) → Prop
  | [], vs => vs = []
  | d :: ds, vs => ∃ v r, vs = (d.1, v) :: r ∧ Rep K G d.2 v ∧ RepsF K G ds r
end

section
variable {K : PySem.W.Frag} {G G' : Hp}
theorem sameT {a : Addr} {xs : List V} (e : Same G G') (h : SqT K G a xs) : SqT K G' a xs := by
  rcases h with (h | ⟨o, h⟩) | h
  · exact .inl (.inl (e _ _ h))
  · exact .inl (.inr ⟨o, e _ _ h⟩)
  · exact .inr h
mutual
theorem Rep.mono (e : Same G G') : ∀ {d : D} {v : V}, Rep K G d v → Rep K G' d v
  | .non, _, h => h
  | .bl _, _, h => h
  | .int _, _, h => h
  | .str _, _, h => h
  | .ty _, _, h => h
  | .tup ds, v, h => by
    unfold Rep at h ⊢
    obtain ⟨a, vs, e1, h1, h2⟩ := h
    exact ⟨a, vs, e1, sameT e h1, Reps.mono e h2⟩
  | .lst ds, v, h => by
    unfold Rep at h ⊢
    obtain ⟨a, vs, e1, h1, h2⟩ := h
    exact ⟨a, vs, e1, e _ _ h1, Reps.mono e h2⟩
  | .dic kvs, v, h => by
    unfold Rep at h ⊢
    obtain ⟨a, vs, e1, h1, h2⟩ := h
    exact ⟨a, vs, e1, e _ _ h1, RepsK.mono e h2⟩
  | .obj c fs, v, h => by
    unfold Rep at h ⊢
    obtain ⟨a, dx, vs, e1, h1, h2⟩ := h
    exact ⟨a, dx, vs, e1, e _ _ h1, RepsF.mono e h2⟩
  | .exc c fs, v, h => by
    unfold Rep at h ⊢
    obtain ⟨a, oe, d, vs, e1, h1, h2, h3, h4, h5, h6⟩ := h
    exact ⟨a, oe, d, vs, e1, e _ _ h1, h2, h3, h4, e _ _ h5, RepsF.mono e h6⟩
  | .adr _, _, h => h
theorem Reps.mono (e : Same G G') : ∀ {ds : List D} {vs : List V}, Reps K G ds vs → Reps K G' ds vs
  | [], _, h => h
  | d :: ds, vs, h => by
    unfold Reps at h ⊢
    obtain ⟨v, r, e1, h1, h2⟩ := h
    exact ⟨v, r, e1, Rep.mono e h1, Reps.mono e h2⟩
theorem RepsK.mono (e : Same G G') : ∀ {ds : List (Key × D)} {vs : List (Key × V)}, RepsK K G ds vs → RepsK K G' ds vs
  | [], _, h => h
  | d :: ds, vs, h => by
    unfold RepsK at h ⊢
    obtain ⟨v, r, e1, h1, h2⟩ := h
    exact ⟨v, r, e1, Rep.mono e h1, RepsK.mono e h2⟩
theorem RepsF.mono (e : Same G G') : ∀ {ds : List (Str × D)} {vs : List (Str × V)}, RepsF K G ds vs → RepsF K G' ds vs
  | [], _, h => h
  | d :: ds, vs, h => by
    unfold RepsF at h ⊢
    obtain ⟨v, r, e1, h1, h2⟩ := h
    exact ⟨v, r, e1, Rep.mono e h1, RepsF.mono e h2⟩
end
theorem Reps.nil : Reps K G [] [] := by unfold Reps; rfl
theorem Reps.cons {d : D} {v : V} {ds : List D} {vs : List V} (h : Rep K G d v) (t : Reps K G ds vs) : Reps K G (d :: ds) (v :: vs) := by
  unfold Reps; exact ⟨v, vs, rfl, h, t⟩
theorem Reps.cons_iff {d : D} {ds : List D} {vs : List V} : Reps K G (d :: ds) vs ↔ ∃ v r, vs = v :: r ∧ Rep K G d v ∧ Reps K G ds r := by
  constructor
  · intro h; unfold Reps at h; exact h
  · intro h; unfold Reps; exact h
theorem Reps.nil_iff {vs : List V} : Reps K G [] vs ↔ vs = [] := by
  constructor
  · intro h; unfold Reps at h; exact h
  · intro h; unfold Reps; exact h
theorem Reps.length : ∀ {ds : List D} {vs : List V}, Reps K G ds vs → ds.length = vs.length
  | [], vs, h => by rw [Reps.nil_iff.mp h]; rfl
  | d :: ds, vs, h => by
    obtain ⟨v, r, rfl, _, h2⟩ := Reps.cons_iff.mp h
    rw [List.length_cons, List.length_cons, Reps.length h2]
theorem Reps.append : ∀ {ds es : List D} {vs ws : List V}, Reps K G ds vs → Reps K G es ws → Reps K G (ds ++ es) (vs ++ ws)
  | [], _, vs, _, h, h' => by rw [Reps.nil_iff.mp h]; exact h'
  | d :: ds, _, vs, _, h, h' => by
    obtain ⟨v, r, rfl, h1, h2⟩ := Reps.cons_iff.mp h
    exact Reps.cons h1 (Reps.append h2 h')
theorem Reps.get : ∀ {ds : List D} {vs : List V} {i : Nat} {d : D}, Reps K G ds vs → ds[i]? = some d → ∃ v, vs[i]? = some v ∧ Rep K G d v
  | [], _, _, _, _, e => by simp at e
  | d :: ds, vs, 0, d', h, e => by
    obtain ⟨v, r, rfl, h1, _⟩ := Reps.cons_iff.mp h
    simp at e; subst e
    exact ⟨v, rfl, h1⟩
  | d :: ds, vs, i + 1, d', h, e => by
    obtain ⟨v, r, rfl, _, h2⟩ := Reps.cons_iff.mp h
    obtain ⟨w, h3, h4⟩ := Reps.get (i := i) h2 (by simpa using e)
    exact ⟨w, by simpa using h3, h4⟩
theorem Reps.getV : ∀ {ds : List D} {vs : List V} {i : Nat} {v : V}, Reps K G ds vs → vs[i]? = some v → ∃ d, ds[i]? = some d ∧ Rep K G d v
  | [], vs, i, v, h, e => by rw [Reps.nil_iff.mp h] at e; simp at e
  | d :: ds, vs, 0, v, h, e => by
    obtain ⟨v', r, rfl, h1, _⟩ := Reps.cons_iff.mp h
    simp at e; subst e
    exact ⟨d, rfl, h1⟩
  | d :: ds, vs, i + 1, v, h, e => by
    obtain ⟨v', r, rfl, _, h2⟩ := Reps.cons_iff.mp h
    obtain ⟨w, h3, h4⟩ := Reps.getV (i := i) h2 (by simpa using e)
    exact ⟨w, by simpa using h3, h4⟩
theorem Reps.take : ∀ {ds : List D} {vs : List V} (n : Nat), Reps K G ds vs → Reps K G (ds.take n) (vs.take n)
  | _, _, 0, _ => by simp [Reps.nil_iff]
  | [], vs, n + 1, h => by rw [Reps.nil_iff.mp h]; simp [Reps.nil_iff]
  | d :: ds, vs, n + 1, h => by
    obtain ⟨v, r, rfl, h1, h2⟩ := Reps.cons_iff.mp h
    exact Reps.cons h1 (Reps.take n h2)
theorem Reps.drop : ∀ {ds : List D} {vs : List V} (n : Nat), Reps K G ds vs → Reps K G (ds.drop n) (vs.drop n)
  | _, _, 0, h => h
  | [], vs, n + 1, h => by rw [Reps.nil_iff.mp h]; simp [Reps.nil_iff]
  | d :: ds, vs, n + 1, h => by
    obtain ⟨v, r, rfl, _, h2⟩ := Reps.cons_iff.mp h
    exact Reps.drop n h2
theorem Reps.set {d : D} {v : V} (hd : Rep K G d v) : ∀ {ds : List D} {vs : List V} (n : Nat), Reps K G ds vs → Reps K G (ds.set n d) (vs.set n v)
  | [], vs, n, h => by rw [Reps.nil_iff.mp h]; simp [Reps.nil_iff]
  | d' :: ds, vs, 0, h => by
    obtain ⟨v', r, rfl, _, h2⟩ := Reps.cons_iff.mp h
    exact Reps.cons hd h2
  | d' :: ds, vs, n + 1, h => by
    obtain ⟨v', r, rfl, h1, h2⟩ := Reps.cons_iff.mp h
    exact Reps.cons h1 (Reps.set hd n h2)
theorem Reps.snoc {ds : List D} {vs : List V} {d : D} {v : V} (h : Reps K G ds vs) (hd : Rep K G d v) : Reps K G (ds ++ [d]) (vs ++ [v]) := h.append (Reps.cons hd Reps.nil)
theorem Reps.reverse : ∀ {ds : List D} {vs : List V}, Reps K G ds vs → Reps K G ds.reverse vs.reverse
  | [], vs, h => by rw [Reps.nil_iff.mp h]; simp [Reps.nil_iff]
  | d :: ds, vs, h => by
    obtain ⟨v, r, rfl, h1, h2⟩ := Reps.cons_iff.mp h
    rw [List.reverse_cons, List.reverse_cons]
    exact (Reps.reverse h2).snoc h1
theorem Reps.eraseIdx : ∀ {ds : List D} {vs : List V} (n : Nat), Reps K G ds vs → Reps K G (ds.eraseIdx n) (vs.eraseIdx n)
  | [], vs, n, h => by rw [Reps.nil_iff.mp h]; simp [Reps.nil_iff]
  | d' :: ds, vs, 0, h => by
    obtain ⟨v', r, rfl, _, h2⟩ := Reps.cons_iff.mp h
    exact h2
  | d' :: ds, vs, n + 1, h => by
    obtain ⟨v', r, rfl, h1, h2⟩ := Reps.cons_iff.mp h
    exact Reps.cons h1 (Reps.eraseIdx n h2)
theorem RepsF.nil : RepsF K G [] [] := by unfold RepsF; rfl
theorem RepsF.cons {f : Str} {d : D} {v : V} {ds : List (Str × D)} {vs : List (Str × V)} (h : Rep K G d v) (t : RepsF K G ds vs) : RepsF K G ((f, d) :: ds) ((f, v) :: vs) := by
  unfold RepsF; exact ⟨v, vs, rfl, h, t⟩
theorem RepsF.cons_iff {d : Str × D} {ds : List (Str × D)} {vs : List (Str × V)} : RepsF K G (d :: ds) vs ↔ ∃ v r, vs = (d.1, v) :: r ∧ Rep K G d.2 v ∧ RepsF K G ds r := by
  constructor
  · intro h; unfold RepsF at h; exact h
  · intro h; unfold RepsF; exact h
theorem RepsF.nil_iff {vs : List (Str × V)} : RepsF K G [] vs ↔ vs = [] := by
  constructor
  · intro h; unfold RepsF at h; exact h
  · intro h; unfold RepsF; exact h
theorem RepsF.length : ∀ {ds : List (Str × D)} {vs : List (Str × V)}, RepsF K G ds vs → ds.length = vs.length
  | [], vs, h => by rw [RepsF.nil_iff.mp h]; rfl
  | d :: ds, vs, h => by
    obtain ⟨v, r, rfl, _, h2⟩ := RepsF.cons_iff.mp h
    rw [List.length_cons, List.length_cons, RepsF.length h2]
theorem RepsF.lookup {f : Str} {d : D} : ∀ {ds : List (Str × D)} {vs : List (Str × V)}, RepsF K G ds vs → ds.lookup f = some d → ∃ v, vs.lookup f = some v ∧ Rep K G d v
  | [], _, _, e => by simp at e
  | (g, x) :: ds, vs, h, e => by
    obtain ⟨v, r, rfl, h1, h2⟩ := RepsF.cons_iff.mp h
    rw [List.lookup_cons] at e ⊢
    by_cases q : (f == g) = true
    · rw [q] at e ⊢
      cases e
      exact ⟨v, rfl, h1⟩
    · rw [Bool.not_eq_true] at q
      rw [q] at e ⊢
      exact RepsF.lookup h2 e
theorem RepsF.lookup_none {f : Str} : ∀ {ds : List (Str × D)} {vs : List (Str × V)}, RepsF K G ds vs → ds.lookup f = none → vs.lookup f = none
  | [], vs, h, e => by rw [RepsF.nil_iff.mp h]; rfl
  | (g, x) :: ds, vs, h, e => by
    obtain ⟨v, r, rfl, h1, h2⟩ := RepsF.cons_iff.mp h
    rw [List.lookup_cons] at e ⊢
    by_cases q : (f == g) = true
    · rw [q] at e; cases e
    · rw [Bool.not_eq_true] at q
      rw [q] at e ⊢
      exact RepsF.lookup_none h2 e
theorem RepsK.nil : RepsK K G [] [] := by unfold RepsK; rfl
theorem RepsK.cons {f : Key} {d : D} {v : V} {ds : List (Key × D)} {vs : List (Key × V)} (h : Rep K G d v) (t : RepsK K G ds vs) : RepsK K G ((f, d) :: ds) ((f, v) :: vs) := by
  unfold RepsK; exact ⟨v, vs, rfl, h, t⟩
theorem RepsK.cons_iff {d : Key × D} {ds : List (Key × D)} {vs : List (Key × V)} : RepsK K G (d :: ds) vs ↔ ∃ v r, vs = (d.1, v) :: r ∧ Rep K G d.2 v ∧ RepsK K G ds r := by
  constructor
  · intro h; unfold RepsK at h; exact h
  · intro h; unfold RepsK; exact h
theorem RepsK.nil_iff {vs : List (Key × V)} : RepsK K G [] vs ↔ vs = [] := by
  constructor
  · intro h; unfold RepsK at h; exact h
  · intro h; unfold RepsK; exact h
end

/-- the bag's list, the list of the script's copy within it, the script -/
structure Bag where
  a : Addr
  L : Addr
  ns : List Int
/-- what stands at the bag: the script's copy, a place, what is left of a great number, a seed, a count -/
def BagOk (K : PySem.W.Frag) (b : Bag) (G H : Hp) : Prop :=
  G b.a = none ∧ G b.L = some (.lst (b.ns.map V.int)) ∧ ∃ (i g s c : Int), H b.a = some (.lst [.ref b.L, .int i, .int g, .int s, .int c]) ∧ 0 ≤ i ∧ 0 ≤ g ∧ 0 ≤ s ∧ s < 2147483629

structure Ext (K : PySem.W.Frag) (b : Bag) (G H G' H' : Hp) : Prop where
  gg : Same G G'
  sub : Same G' H'
  keep : ∀ a o, a ≠ b.a → H a = some o → H' a = some o
  new : ∀ a, H a ≠ none → G' a ≠ none → G a ≠ none
  bag : BagOk K b G' H'
section
variable {K : PySem.W.Frag} {b : Bag} {G H G1 H1 G2 H2 : Hp}
theorem BagOk.ne (h : BagOk K b G H) {a : Addr} (ha : G a ≠ none) : a ≠ b.a := fun e => ha (by rw [e]; exact h.1)
theorem BagOk.at (h : BagOk K b G H) : H b.a ≠ none := by
  obtain ⟨_, _, _, _, _, _, e, _⟩ := h
  rw [e]; exact fun z => nomatch z
theorem Ext.refl (s : Same G H) (hb : BagOk K b G H) : Ext K b G H G H := ⟨Same.refl _, s, fun _ _ _ h => h, fun _ _ h => h, hb⟩
theorem Ext.there (x : Ext K b G H G1 H1) (hb : H b.a ≠ none) {a : Addr} (h : H a ≠ none) : H1 a ≠ none := by
  by_cases e : a = b.a
  · rw [e]; exact x.bag.at
  · cases q : H a with
    | none => exact absurd q h
    | some o => rw [x.keep a o e q]; exact fun z => nomatch z
theorem Ext.trans (hb : H b.a ≠ none) (x : Ext K b G H G1 H1) (y : Ext K b G1 H1 G2 H2) : Ext K b G H G2 H2 :=
  ⟨x.gg.trans y.gg, y.sub, fun a o n h => y.keep a o n (x.keep a o n h), fun a h g => x.new a h (y.new a (x.there hb h) g), y.bag⟩
/-- a new object, tracked from now on -/
theorem Ext.laid (s : Same G H) (hb : BagOk K b G H) {a : Addr} {o : HO} (n : H a = none) : Ext K b G H (upd G a o) (upd H a o) := by
  have nG : G a = none := s.free n
  have nb : a ≠ b.a := fun e => hb.at (e ▸ n)
  refine ⟨fun c u h => ?_, fun c u h => ?_, fun c u _ h => ?_, fun c h g => ?_, ?_⟩
  · rw [upd_ne (ne_of_none h nG)]; exact h
  · by_cases e : c = a
    · rw [e, upd_same] at h ⊢; exact h
    · rw [upd_ne e] at h ⊢; exact s _ _ h
  · rw [upd_ne (ne_of_none h n)]; exact h
  · by_cases e : c = a
    · rw [e] at h; exact absurd n h
    · rw [upd_ne e] at g; exact g
  · obtain ⟨h0, h2, i, g, s', c, h1, h3⟩ := hb
    have e : Same G (upd G a o) := fun c u h => by rw [upd_ne (ne_of_none h nG)]; exact h
    exact ⟨by rw [upd_ne (Ne.symm nb)]; exact h0, e _ _ h2, i, g, s', c, by rw [upd_ne (Ne.symm nb)]; exact h1, h3⟩
end

/-- a thing that belongs to one name alone and may be changed through it -/
inductive DO where
  | lst (ds : List D)
  | dic (kvs : List (Key × D))
  | ins (c : Str) (fs : List (Str × D))
inductive Sl where
  | non
  | val (d : D)
  | own (o : DO)
abbrev DSt := List Sl
def DO.d : DO → D
  | .lst ds => .lst ds
  | .dic kvs => .dic kvs
  | .ins c fs => .obj c fs
def OwnAt (K : PySem.W.Frag) (G H : Hp) (a : Addr) : DO → Prop
  | .lst ds => ∃ vs, H a = some (.lst vs) ∧ Reps K G ds vs
  | .dic kvs => ∃ vs, H a = some (.dK vs) ∧ RepsK K G kvs vs
  | .ins c fs => ∃ dx vs, H a = some (.ins (He.ga K c) dx vs) ∧ RepsF K G fs vs
/-- what a def's entry fixes: the bag, the heap, the part that stays -/
structure Pr where
  b : Bag
  H0 : Hp
  G0 : Hp
def SlOk (K : PySem.W.Frag) (p : Pr) (G : Hp) (σ : VSt) (H : Hp) (i : Nat) : Sl → Prop
  | .non => True
  | .val d => ∃ v, σ[i]? = some (some v) ∧ Rep K G d v
  | .own o => ∃ a, σ[i]? = some (some (.ref a)) ∧ G a = none ∧ p.H0 a = none ∧ OwnAt K G H a o
structure DR (K : PySem.W.Frag) (p : Pr) (G : Hp) (σ : VSt) (H : Hp) (δ : DSt) : Prop where
  base : Same p.G0 G
  sub : Same G H
  keep : ∀ a o, a ≠ p.b.a → p.H0 a = some o → H a = some o
  new : ∀ a, p.H0 a ≠ none → G a ≠ none → p.G0 a ≠ none
  bag : BagOk K p.b G H
  bin : p.H0 p.b.a ≠ none
  len : δ.length = σ.length
  slot : ∀ (i : Nat) (s : Sl), δ[i]? = some s → SlOk K p G σ H i s
  dis : ∀ (i j : Nat) (o o' : DO) (a : Addr), i ≠ j → δ[i]? = some (.own o) → δ[j]? = some (.own o') → σ[i]? = some (some (.ref a)) → σ[j]? ≠ some (some (.ref a))
section
variable {K : PySem.W.Frag} {p : Pr} {G H G' H' : Hp} {σ : VSt} {δ : DSt}
theorem OwnAt.there {a : Addr} {o : DO} (h : OwnAt K G H a o) : H a ≠ none := by
  cases o with
  | lst ds => obtain ⟨_, e, _⟩ := h; rw [e]; exact fun z => nomatch z
  | dic ds => obtain ⟨_, e, _⟩ := h; rw [e]; exact fun z => nomatch z
  | ins c fs => obtain ⟨_, _, e, _⟩ := h; rw [e]; exact fun z => nomatch z
theorem OwnAt.mono {a : Addr} {o : DO} (h : OwnAt K G H a o) (e : Same G G') (k : ∀ u, H a = some u → H' a = some u) : OwnAt K G' H' a o := by
  cases o with
  | lst ds => obtain ⟨_, q, r⟩ := h; exact ⟨_, k _ q, r.mono e⟩
  | dic ds => obtain ⟨_, q, r⟩ := h; exact ⟨_, k _ q, r.mono e⟩
  | ins c fs => obtain ⟨_, _, q, r⟩ := h; exact ⟨_, _, k _ q, r.mono e⟩
theorem DR.nb (r : DR K p G σ H δ) {a : Addr} (h : p.H0 a = none) : a ≠ p.b.a := fun e => r.bin (by rw [← e]; exact h)
/-- behind an evaluation -/
theorem DR.ext (r : DR K p G σ H δ) (x : Ext K p.b G H G' H') : DR K p G' σ H' δ where
  base := r.base.trans x.gg
  sub := x.sub
  keep := fun a o n h => x.keep a o n (r.keep a o n h)
  new := fun a h g => r.new a h (x.new a (by
    by_cases e : a = p.b.a
    · rw [e]; exact r.bag.at
    · cases q : p.H0 a with
      | none => exact absurd q h
      | some o => rw [r.keep a o e q]; exact fun z => nomatch z) g)
  bag := x.bag
  bin := r.bin
  len := r.len
  slot := fun i s e => by
    have q := r.slot i s e
    cases s with
    | non => exact q
    | val d => obtain ⟨v, h1, h2⟩ := q; exact ⟨v, h1, h2.mono x.gg⟩
    | own o =>
      obtain ⟨a, h1, h2, h3, h4⟩ := q
      refine ⟨a, h1, ?_, h3, h4.mono x.gg fun u hu => x.keep a u (r.nb h3) hu⟩
      cases z : G' a with
      | none => rfl
      | some u => exact absurd h2 (x.new a h4.there (by rw [z]; exact fun y => nomatch y))
  dis := r.dis
theorem DR.refl (r : DR K p G σ H δ) : Ext K p.b G H G H := Ext.refl r.sub r.bag
theorem DR.at (r : DR K p G σ H δ) : H p.b.a ≠ none := r.bag.at
/-- behind an evaluation whose value is of no use for the part that stays -/
theorem DR.back (r : DR K p G σ H δ) {G1 : Hp} (k : ∀ a o, a ≠ p.b.a → H a = some o → H' a = some o) (hb : BagOk K p.b G1 H') : DR K p G σ H' δ :=
  r.ext ⟨Same.refl _, fun a o h => k a o (r.bag.ne (by rw [h]; exact fun z => nomatch z)) (r.sub a o h), k, fun _ _ h => h, r.bag.1, r.bag.2.1, hb.2.2⟩
/-- a slot is forgotten, or gets a value -/
theorem DR.set (r : DR K p G σ H δ) {i : Nat} {x : Option V} {s : Sl} (h : match s with | .non => True | .val d => ∃ v, x = some v ∧ Rep K G d v | .own _ => False) : DR K p G (σ.set i x) H (δ.set i s) where
  base := r.base
  sub := r.sub
  keep := r.keep
  new := r.new
  bag := r.bag
  bin := r.bin
  len := by rw [List.length_set, List.length_set]; exact r.len
  slot := fun j t e => by
    by_cases q : i = j
    · subst q
      have hi : i < δ.length := by
        have := (List.getElem?_eq_some_iff.mp e).1
        rw [List.length_set] at this
        exact this
      rw [List.getElem?_set_self hi] at e
      cases e
      cases s with
      | non => exact True.intro
      | val d =>
        obtain ⟨v, rfl, h2⟩ := h
        exact ⟨v, List.getElem?_set_self (by rw [← r.len]; exact hi), h2⟩
      | own o => exact h.elim
    · rw [List.getElem?_set_ne q] at e
      have z := r.slot j t e
      cases t with
      | non => exact z
      | val d => obtain ⟨v, h1, h2⟩ := z; exact ⟨v, by rw [List.getElem?_set_ne q]; exact h1, h2⟩
      | own o => obtain ⟨a, h1, h2⟩ := z; exact ⟨a, by rw [List.getElem?_set_ne q]; exact h1, h2⟩
  dis := fun j k o o' a n e1 e2 h1 => by
    have nj : i ≠ j := fun z => by
      subst z
      have hi : i < δ.length := by
        have := (List.getElem?_eq_some_iff.mp e1).1
        rw [List.length_set] at this
        exact this
      rw [List.getElem?_set_self hi] at e1
      cases e1
      exact h.elim
    have nk : i ≠ k := fun z => by
      subst z
      have hi : i < δ.length := by
        have := (List.getElem?_eq_some_iff.mp e2).1
        rw [List.length_set] at this
        exact this
      rw [List.getElem?_set_self hi] at e2
      cases e2
      exact h.elim
    rw [List.getElem?_set_ne nj] at e1 h1
    rw [List.getElem?_set_ne nk] at e2
    rw [List.getElem?_set_ne nk]
    exact r.dis j k o o' a n e1 e2 h1
/-- an own thing: frozen -/
theorem DR.freeze1 (r : DR K p G σ H δ) {i : Nat} {o : DO} (e : δ[i]? = some (.own o)) : ∃ G1, Same G G1 ∧ DR K p G1 σ H (δ.set i (.val o.d)) := by
  obtain ⟨a, h1, h2, h3, h4⟩ := r.slot i _ e
  have hi : i < δ.length := (List.getElem?_eq_some_iff.mp e).1
  obtain ⟨u, hu⟩ : ∃ u, H a = some u := by
    cases q : H a with
    | none => exact absurd q h4.there
    | some u => exact ⟨u, rfl⟩
  have gg : Same G (upd G a u) := fun c w h => by rw [upd_ne (ne_of_none h h2)]; exact h
  have nb := r.nb h3
  have hd : Rep K (upd G a u) o.d (.ref a) := by
    cases o with
    | lst ds =>
      obtain ⟨vs, q, w⟩ := h4
      rw [hu] at q; cases q
      unfold DO.d Rep
      exact ⟨a, vs, rfl, upd_same, w.mono gg⟩
    | dic ds =>
      obtain ⟨vs, q, w⟩ := h4
      rw [hu] at q; cases q
      unfold DO.d Rep
      exact ⟨a, vs, rfl, upd_same, w.mono gg⟩
    | ins c fs =>
      obtain ⟨dx, vs, q, w⟩ := h4
      rw [hu] at q; cases q
      unfold DO.d Rep
      exact ⟨a, dx, vs, rfl, upd_same, w.mono gg⟩
  refine ⟨upd G a u, gg, ⟨r.base.trans gg, fun c w h => ?_, r.keep, fun c h g => ?_, ?_, r.bin, by rw [List.length_set]; exact r.len, fun j t q => ?_, fun j k o1 o2 c n e1 e2 q => ?_⟩⟩
  · by_cases z : c = a
    · rw [z, upd_same] at h; rw [z, hu]; exact h
    · rw [upd_ne z] at h; exact r.sub _ _ h
  · by_cases z : c = a
    · rw [z] at h; exact absurd h3 h
    · rw [upd_ne z] at g; exact r.new c h g
  · obtain ⟨b0, b2, b3⟩ := r.bag
    exact ⟨by rw [upd_ne (Ne.symm nb)]; exact b0, gg _ _ b2, b3⟩
  · by_cases z : i = j
    · subst z
      rw [List.getElem?_set_self hi] at q
      cases q
      exact ⟨_, h1, hd⟩
    · rw [List.getElem?_set_ne z] at q
      have w := r.slot j t q
      cases t with
      | non => exact w
      | val d => obtain ⟨v, w1, w2⟩ := w; exact ⟨v, w1, w2.mono gg⟩
      | own o' =>
        obtain ⟨c, w1, w2, w3, w4⟩ := w
        have nc : c ≠ a := fun y => r.dis i j o o' a z e q h1 (by rw [← y]; exact w1)
        exact ⟨c, w1, by rw [upd_ne nc]; exact w2, w3, w4.mono gg fun _ y => y⟩
  · have nj : i ≠ j := fun z => by
      subst z
      rw [List.getElem?_set_self hi] at e1
      cases e1
    have nk : i ≠ k := fun z => by
      subst z
      rw [List.getElem?_set_self hi] at e2
      cases e2
    rw [List.getElem?_set_ne nj] at e1
    rw [List.getElem?_set_ne nk] at e2
    exact r.dis j k o1 o2 c n e1 e2 q
/-- the slots of a list frozen -/
def frz : List Nat → DSt → DSt
  | [], δ => δ
  | i :: r, δ => frz r (match δ[i]? with
    | some (.own o) => δ.set i (.val o.d)
    | _ => δ)
theorem DR.freeze : ∀ {S : List Nat} {G : Hp} {δ : DSt}, DR K p G σ H δ → ∃ G1, Same G G1 ∧ DR K p G1 σ H (frz S δ)
  | [], G, δ, r => ⟨G, Same.refl _, r⟩
  | i :: S, G, δ, r => by
    unfold frz
    cases e : δ[i]? with
    | none => exact DR.freeze r
    | some s =>
      cases s with
      | non => exact DR.freeze r
      | val d => exact DR.freeze r
      | own o =>
        obtain ⟨G1, h1, r1⟩ := r.freeze1 e
        obtain ⟨G2, h2, r2⟩ := DR.freeze (S := S) r1
        exact ⟨G2, h1.trans h2, r2⟩
/-- an own thing is changed -/
theorem DR.change (r : DR K p G σ H δ) {i : Nat} {o o' : DO} {a : Addr} {u : HO} (e : δ[i]? = some (.own o)) (ha : σ[i]? = some (some (.ref a))) (h : OwnAt K G (upd H a u) a o') : DR K p G σ (upd H a u) (δ.set i (.own o')) := by
  obtain ⟨a', h1, h2, h3, h4⟩ := r.slot i _ e
  rw [ha] at h1; cases h1
  have hi : i < δ.length := (List.getElem?_eq_some_iff.mp e).1
  have nb := r.nb h3
  refine ⟨r.base, fun c w h => ?_, fun c w n h => ?_, r.new, ?_, r.bin, by rw [List.length_set]; exact r.len, fun j t q => ?_, fun j k o1 o2 c n e1 e2 q => ?_⟩
  · rw [upd_ne (ne_of_none h h2)]; exact r.sub _ _ h
  · rw [upd_ne (ne_of_none h h3)]; exact r.keep c w n h
  · obtain ⟨b0, b2, i', g, s, c, b1, b3⟩ := r.bag
    exact ⟨b0, b2, i', g, s, c, by rw [upd_ne (Ne.symm nb)]; exact b1, b3⟩
  · by_cases z : i = j
    · subst z
      rw [List.getElem?_set_self hi] at q
      cases q
      exact ⟨a, ha, h2, h3, h⟩
    · rw [List.getElem?_set_ne z] at q
      have w := r.slot j t q
      cases t with
      | non => exact w
      | val d => exact w
      | own o'' =>
        obtain ⟨c, w1, w2, w3, w4⟩ := w
        have nc : c ≠ a := fun y => r.dis i j o o'' a z e q ha (by rw [← y]; exact w1)
        exact ⟨c, w1, w2, w3, w4.mono (Same.refl _) fun _ y => by rw [upd_ne nc]; exact y⟩
  · have ej : ∃ o3, δ[j]? = some (.own o3) := by
      by_cases z : i = j
      · exact ⟨o, by rw [← z]; exact e⟩
      · rw [List.getElem?_set_ne z] at e1; exact ⟨_, e1⟩
    have ek : ∃ o3, δ[k]? = some (.own o3) := by
      by_cases z : i = k
      · exact ⟨o, by rw [← z]; exact e⟩
      · rw [List.getElem?_set_ne z] at e2; exact ⟨_, e2⟩
    obtain ⟨o3, f1⟩ := ej
    obtain ⟨o4, f2⟩ := ek
    exact r.dis j k o3 o4 c n f1 f2 q
/-- a name gets a thing of its own, new -/
theorem DR.setOwn (r : DR K p G σ H δ) {i : Nat} {a : Addr} {o : DO} (hG : G a = none) (h0 : p.H0 a = none) (h : OwnAt K G H a o) (hn : ∀ (j : Nat) (o' : DO), δ[j]? = some (.own o') → σ[j]? ≠ some (some (.ref a))) : DR K p G (σ.set i (some (.ref a))) H (δ.set i (.own o)) where
  base := r.base
  sub := r.sub
  keep := r.keep
  new := r.new
  bag := r.bag
  bin := r.bin
  len := by rw [List.length_set, List.length_set]; exact r.len
  slot := fun j t e => by
    by_cases q : i = j
    · subst q
      have hi : i < δ.length := by
        have := (List.getElem?_eq_some_iff.mp e).1
        rw [List.length_set] at this
        exact this
      rw [List.getElem?_set_self hi] at e
      cases e
      exact ⟨a, List.getElem?_set_self (by rw [← r.len]; exact hi), hG, h0, h⟩
    · rw [List.getElem?_set_ne q] at e
      have z := r.slot j t e
      cases t with
      | non => exact z
      | val d => obtain ⟨v, h1, h2⟩ := z; exact ⟨v, by rw [List.getElem?_set_ne q]; exact h1, h2⟩
      | own o => obtain ⟨a, h1, h2⟩ := z; exact ⟨a, by rw [List.getElem?_set_ne q]; exact h1, h2⟩
  dis := fun j k o1 o2 c n e1 e2 h1 => by
    by_cases q : i = j
    · subst q
      have hi : i < δ.length := by
        have := (List.getElem?_eq_some_iff.mp e1).1
        rw [List.length_set] at this
        exact this
      rw [List.getElem?_set_self (by rw [← r.len]; exact hi)] at h1
      cases h1
      rw [List.getElem?_set_ne n] at e2 ⊢
      exact hn k o2 e2
    · rw [List.getElem?_set_ne q] at e1 h1
      by_cases q2 : i = k
      · subst q2
        have hi : i < δ.length := by
          have := (List.getElem?_eq_some_iff.mp e2).1
          rw [List.length_set] at this
          exact this
        rw [List.getElem?_set_self (by rw [← r.len]; exact hi)]
        intro z
        cases z
        exact hn j o1 e1 h1
      · rw [List.getElem?_set_ne q2] at e2 ⊢
        exact r.dis j k o1 o2 c n e1 e2 h1
end
end DL

namespace DL
open PySem PySem.Spec PyProof.Rows L2

abbrev XD := Str → List (Str × D) → Prop
abbrev QD := D → Prop
abbrev TDE := DSt → QD → XD → Prop
abbrev TDT := DSt → (Bool → Prop) → XD → Prop
abbrev TDA := DSt → (List D → Prop) → XD → Prop
abbrev RD2 := D → D → QD → Prop

/-- what leaves by an exception is what the context wishes -/
def XOk (K : PySem.W.Frag) (b : Bag) (W : WX) (G : Hp) (σ : VSt) (H : Hp) (Ed : XD) : Prop :=
  ∀ G' H' c fs d vs, Ext K b G H G' H' → G' d = some (.xd vs) → RepsF K G' fs vs → Ed c fs → W (.ref (He.ga K c)) (some d) σ H'
theorem XOk.step {K : PySem.W.Frag} {b : Bag} {W : WX} {G G1 : Hp} {σ : VSt} {H H1 : Hp} {Ed : XD} (h : XOk K b W G σ H Ed) (hb : H b.a ≠ none) (x : Ext K b G H G1 H1) : XOk K b W G1 σ H1 Ed :=
  fun G' H' c fs d vs y e r q => h G' H' c fs d vs (x.trans hb y) e r q

/-- the data-level reading td is right for the reading t -/
def RefE (K : PySem.W.Frag) (p : Pr) (W : WX) (t : TE) (td : TDE) : Prop :=
  ∀ (G : Hp) (σ : VSt) (H : Hp) (δ : DSt) (Q : VK) (Qd : QD) (Ed : XD), DR K p G σ H δ → td δ Qd Ed →
    (∀ G' H' v d, Ext K p.b G H G' H' → Rep K G' d v → Qd d → Q v H') → XOk K p.b W G σ H Ed → t σ H Q
def RefT (K : PySem.W.Frag) (p : Pr) (W : WX) (t : TT) (td : TDT) : Prop :=
  ∀ (G : Hp) (σ : VSt) (H : Hp) (δ : DSt) (Q : Bool → Hp → Prop) (Qd : Bool → Prop) (Ed : XD), DR K p G σ H δ → td δ Qd Ed →
    (∀ G' H' b, Ext K p.b G H G' H' → Qd b → Q b H') → XOk K p.b W G σ H Ed → t σ H Q
def RefA (K : PySem.W.Frag) (p : Pr) (W : WX) (t : TA) (td : TDA) : Prop :=
  ∀ (G : Hp) (σ : VSt) (H : Hp) (δ : DSt) (Q : List V → Hp → Prop) (Qd : List D → Prop) (Ed : XD), DR K p G σ H δ → td δ Qd Ed →
    (∀ G' H' vs ds, Ext K p.b G H G' H' → Reps K G' ds vs → Qd ds → Q vs H') → XOk K p.b W G σ H Ed → t σ H Q
structure DE (p : Pr) (X : Cx) (W : WX) (e : Expr) (td : TDE) : Prop where
  ex : ∃ t : TE, PE X e t ∧ RefE X.K p W t td
structure DT (p : Pr) (X : Cx) (W : WX) (e : Expr) (td : TDT) : Prop where
  ex : ∃ t : TT, PT X e t ∧ RefT X.K p W t td
/-- a chain of and, or -/
structure DW (p : Pr) (X : Cx) (W : WX) (e : Expr) (td : TDT) : Prop where
  ex : ∃ t : TT, PW X e t ∧ RefT X.K p W t td
structure DA (p : Pr) (X : Cx) (W : WX) (es : List Expr) (td : TDA) : Prop where
  ex : ∃ t : TA, PA X es t ∧ RefA X.K p W t td
/-- an operation on values -/
def RefR (K : PySem.W.Frag) (b : Bag) (r : R2) (rd : RD2) : Prop :=
  ∀ (G H : Hp) (x y : D) (v u : V) (Q : VK) (Qd : QD), Same G H → BagOk K b G H → Rep K G x v → Rep K G y u → rd x y Qd →
    (∀ G' H' w d, Ext K b G H G' H' → Rep K G' d w → Qd d → Q w H') → r v u H Q
/-- a call of a known value, by values -/
def RefC (K : PySem.W.Frag) (b : Bag) (r : List V → Hp → VK → Prop) (rd : List D → QD → Prop) : Prop :=
  ∀ (G H : Hp) (xs : List D) (vs : List V) (Q : VK) (Qd : QD), Same G H → BagOk K b G H → Reps K G xs vs → rd xs Qd →
    (∀ G' H' w d, Ext K b G H G' H' → Rep K G' d w → Qd d → Q w H') → r vs H Q

section
variable {p : Pr} {X : Cx} {W : WX} {K : PySem.W.Frag} {a b c e : Expr} {es : List Expr} {ta tb tc te : TDE} {ts : TDA} {tt tu tv : TDT} {pos : Pos}

def xVar (i : Nat) : TDE := fun δ Q _ => ∃ d, δ[i]? = some (.val d) ∧ Q d
def xC (d : D) : TDE := fun _ Q _ => Q d
theorem d_var (i : Nat) {x : Str} (hN : X.N[i]? = some x := by rfl) (hv : Vis X.env.scope x := by first | exact Or.inl rfl | exact Or.inr (Or.inl rfl) | exact Or.inr (Or.inr rfl)) (hd : (x == ("__debug__" : Str)) = false := by decide)
    (hcd : (x == ("__classdict__" : Str)) = false := by decide) : DE p X W (.Name x pos) (xVar i) := by
  refine ⟨_, pe_var hN hv hd hcd, fun G σ H δ Q Qd Ed r h k _ => ?_⟩
  obtain ⟨d, h1, h2⟩ := h
  obtain ⟨v, h3, h4⟩ := r.slot i _ h1
  exact ⟨v, h3, k G H v d r.refl h4 h2⟩
/-- a scalar's value -/
def scV : D → Option V
  | .non => some .non
  | .bl b => some (.bl b)
  | .int i => some (.int i)
  | .str x => some (.str x)
  | .ty n => some (.ty n)
  | .adr a => some (.ref a)
  | _ => none
theorem rep_sc {G : Hp} {d : D} {v : V} (h : scV d = some v) : Rep K G d v := by
  cases d <;> first | (unfold Rep; exact (Option.some.inj h).symm) | cases h
theorem sc_rep {G : Hp} {d : D} {v w : V} (h : scV d = some v) (r : Rep K G d w) : w = v := by
  cases d <;> first | (unfold Rep at r; rw [r]; exact Option.some.inj h) | cases h
theorem refC {v : V} {d : D} (h : scV d = some v) : RefE K p W (tC v) (xC d) := fun G σ H δ Q Qd Ed r q k _ => k G H v d r.refl (rep_sc h) q
theorem d_int {i j} : DE p X W (.Constant (.int i) j pos) (xC (.int i)) := ⟨_, pe_int, refC rfl⟩
theorem d_bl {i j} : DE p X W (.Constant (.bool i) j pos) (xC (.bl i)) := ⟨_, pe_bl, refC rfl⟩
theorem d_non {j} : DE p X W (.Constant .none j pos) (xC .non) := ⟨_, pe_non, refC rfl⟩
theorem d_str {i j} : DE p X W (.Constant (.str i) j pos) (xC (.str i)) := ⟨_, pe_str, refC rfl⟩
/-- a constant of the module -/
theorem d_glob {x : Str} {v : V} {u : Value} {d : D} (hs : scV d = some v) (hg : Gl X x) (hm : X.mg x = some u) (r : RelV v u) (hd : (x == ("__debug__" : Str)) = false := by decide) : DE p X W (.Name x pos) (xC d) := ⟨_, pe_glob hg hm r hd, refC hs⟩
/-- a built-in's name as a value -/
theorem d_bltn {x : Str} {v : V} {u : Value} {d : D} (hs : scV d = some v) (hg : Gl X x) (hm : X.mg x = none) (hv : bootBuiltins x = some u) (r : RelV v u) (hn : x ≠ "__name__" := by decide) (hd : (x == ("__debug__" : Str)) = false := by decide) : DE p X W (.Name x pos) (xC d) :=
  ⟨_, pe_bltn hg hm hv r hn hd, refC hs⟩

def xOp (rd : RD2) (ta tb : TDE) : TDE := fun δ Q E => ta δ (fun x => tb δ (fun y => rd x y Q) E) E
theorem refOp {r : R2} {rd : RD2} {t u : TE} (hr : RefR K p.b r rd) (h1 : RefE K p W t ta) (h2 : RefE K p W u tb) : RefE K p W (tOp r t u) (xOp rd ta tb) := by
  intro G σ H δ Q Qd Ed r q k x
  refine h1 G σ H δ _ _ Ed r q (fun G1 H1 v d1 e1 r1 q1 => ?_) x
  have R1 := r.ext e1
  refine h2 G1 σ H1 δ _ _ Ed R1 q1 (fun G2 H2 u d2 e2 r2 q2 => ?_) (x.step r.at e1)
  have e12 := e1.trans r.at e2
  exact hr G2 H2 d1 d2 v u Q Qd e12.sub e12.bag (r1.mono e2.gg) r2 q2 fun G3 H3 w d e3 r3 q3 => k G3 H3 w d (e12.trans r.at e3) r3 q3
theorem d_op {op : Operator} {r : R2} {rd : RD2} (ho : OpR X (binaryOp op) r) (hr : RefR X.K p.b r rd) (ha : DE p X W a ta) (hb : DE p X W b tb) : DE p X W (.BinOp a op b pos) (xOp rd ta tb) := by
  obtain ⟨t, h1, h2⟩ := ha
  obtain ⟨u, h3, h4⟩ := hb
  exact ⟨_, pe_op ho h1 h3, refOp hr h2 h4⟩
theorem d_cmp {op : CmpOp} {r : R2} {rd : RD2} (ho : OpR X (compareOp op) r) (hr : RefR X.K p.b r rd) (hm : behindInMarks op b = false) (ha : DE p X W a ta) (hb : DE p X W b tb) : DE p X W (.Compare a [op] [b] pos) (xOp rd ta tb) := by
  obtain ⟨t, h1, h2⟩ := ha
  obtain ⟨u, h3, h4⟩ := hb
  exact ⟨_, pe_cmpR ho h1 h3 hm, refOp hr h2 h4⟩
def xTest (ta : TDE) : TDT := fun δ Q E => ta δ (fun x => ∃ k, x = .bl k ∧ Q k) E
theorem refTest {t : TE} (h : RefE K p W t ta) : RefT K p W (tTest t) (xTest ta) := by
  intro G σ H δ Q Qd Ed r q k x
  refine h G σ H δ _ _ Ed r q (fun G1 H1 v d1 e1 r1 q1 => ?_) x
  obtain ⟨b, rfl, q2⟩ := q1
  unfold Rep at r1
  exact ⟨b, r1, k G1 H1 b e1 q2⟩
theorem dt_cmp {op : CmpOp} {r : R2} {rd : RD2} (ho : OpR X (compareOp op) r) (hr : RefR X.K p.b r rd) (hm : behindInMarks op b = false) (ha : DE p X W a ta) (hb : DE p X W b tb) : DT p X W (.Compare a [op] [b] pos) (xTest (xOp rd ta tb)) := by
  obtain ⟨t, h1, h2⟩ := ha
  obtain ⟨u, h3, h4⟩ := hb
  exact ⟨_, pt_cmpR ho h1 h3 hm, refTest (refOp hr h2 h4)⟩
/-- a < b < c -/
def xChain (rd rd' : RD2) (ta tb tc : TDE) : TDE := fun δ Q E => ta δ (fun x => tb δ (fun y => rd x y fun z => ∃ k, z = .bl k ∧ if k = true then tc δ (fun w => rd' y w Q) E else Q (.bl false)) E) E
theorem d_chain {op op' : CmpOp} {r r' : R2} {rd rd' : RD2} (ho : OpR X (compareOp op) r) (ho' : OpR X (compareOp op') r') (hr : RefR X.K p.b r rd) (hr' : RefR X.K p.b r' rd') (ha : DE p X W a ta) (hb : DE p X W b tb) (hc : DE p X W c tc)
    (hm : lastMarks [op, op'] [b, c] = false := by rfl) : DE p X W (.Compare a [op, op'] [b, c] pos) (xChain rd rd' ta tb tc) := by
  obtain ⟨t, h1, h2⟩ := ha
  obtain ⟨u, h3, h4⟩ := hb
  obtain ⟨w, h5, h6⟩ := hc
  refine ⟨_, pe_chain ho ho' h1 h3 h5 (hm := hm), fun G σ H δ Q Qd Ed r q k x => ?_⟩
  refine h2 G σ H δ _ _ Ed r q (fun G1 H1 v d1 e1 r1 q1 => ?_) x
  have R1 := r.ext e1
  refine h4 G1 σ H1 δ _ _ Ed R1 q1 (fun G2 H2 v2 d2 e2 r2 q2 => ?_) (x.step r.at e1)
  have e12 := e1.trans r.at e2
  refine hr G2 H2 d1 d2 v v2 _ _ e12.sub e12.bag (r1.mono e2.gg) r2 q2 fun G3 H3 z d3 e3 r3 q3 => ?_
  obtain ⟨kk, rfl, q4⟩ := q3
  unfold Rep at r3
  have e13 := e12.trans r.at e3
  refine ⟨kk, r3, ?_⟩
  cases kk with
  | true =>
    rw [if_pos rfl] at q4 ⊢
    refine h6 G3 σ H3 δ _ _ Ed (r.ext e13) q4 (fun G4 H4 v4 d4 e4 r4 q5 => ?_) (x.step r.at e13)
    have e14 := e13.trans r.at e4
    exact hr' G4 H4 d2 d4 v2 v4 _ _ e14.sub e14.bag ((r2.mono e3.gg).mono e4.gg) r4 q5 fun G5 H5 w5 d5 e5 r5 q6 => k G5 H5 w5 d5 (e14.trans r.at e5) r5 q6
  | false =>
    rw [if_neg Bool.false_ne_true] at q4 ⊢
    exact k G3 H3 _ _ e13 (rep_sc rfl) q4

/-- an expression that gives a bool, as a test -/
theorem dt_val {he : ∀ whole, isTrue e X.env whole = (do let v ← whole; standAt e.pos; holding [v] (truthy v))} (h : DE p X W e te) : DT p X W e (xTest te) := by
  obtain ⟨t, h1, h2⟩ := h
  exact ⟨_, pt_val h1 he, refTest h2⟩
/-- truth of data -/
def truD : D → Bool → Prop
  | .non, k => k = false
  | .bl b, k => k = b
  | .int i, k => k = (i != 0)
  | .str y, k => y.length ≤ sizeLine ∧ k = ((y.length : Int) != 0)
  | .tup ds, k => k = !ds.isEmpty
  | .lst ds, k => k = !ds.isEmpty
  | .dic ds, k => k = !ds.isEmpty
  | _, _ => False
theorem Reps.isEmpty {G : Hp} {ds : List D} {vs : List V} (h : Reps K G ds vs) : vs.isEmpty = ds.isEmpty := by
  have e := h.length
  cases ds <;> cases vs <;> first | rfl | (simp at e)
theorem RepsK.length {G : Hp} : ∀ {ds : List (Key × D)} {vs : List (Key × V)}, RepsK K G ds vs → ds.length = vs.length
  | [], vs, h => by rw [RepsK.nil_iff.mp h]; rfl
  | d :: ds, vs, h => by
    obtain ⟨v, r, rfl, _, h2⟩ := RepsK.cons_iff.mp h
    rw [List.length_cons, List.length_cons, RepsK.length h2]
theorem truD_ok {G H : Hp} {d : D} {v : V} {k : Bool} (s : Same G H) (r : Rep K G d v) (h : truD d k) : TruV K v H k := by
  cases d with
  | non => unfold Rep at r; subst r; exact h
  | bl b => unfold Rep at r; subst r; exact h
  | int b => unfold Rep at r; subst r; exact h
  | str b => unfold Rep at r; subst r; exact h
  | tup ds =>
    unfold Rep at r
    obtain ⟨a, vs, rfl, h1, h2⟩ := r
    exact .inr (.inl ⟨vs, sameT s h1, by rw [h2.isEmpty]; exact h⟩)
  | lst ds =>
    unfold Rep at r
    obtain ⟨a, vs, rfl, h1, h2⟩ := r
    exact .inl ⟨vs, SqL.of (s _ _ h1), by rw [h2.isEmpty]; exact h⟩
  | dic ds =>
    unfold Rep at r
    obtain ⟨a, vs, rfl, h1, h2⟩ := r
    refine .inr (.inr ⟨vs, s _ _ h1, ?_⟩)
    have e := h2.length
    have h' : k = !ds.isEmpty := h
    rw [h']
    cases ds <;> cases vs <;> first | rfl | (simp at e)
  | _ => exact h.elim
def xTru (te : TDE) : TDT := fun δ Q E => te δ (fun x => ∃ k, truD x k ∧ Q k) E
theorem dt_truth {he : ∀ whole, isTrue e X.env whole = (do let v ← whole; standAt e.pos; holding [v] (truthy v))} (h : DE p X W e te) : DT p X W e (xTru te) := by
  obtain ⟨t, h1, h2⟩ := h
  refine ⟨_, pt_truth h1 he, fun G σ H δ Q Qd Ed r q k x => ?_⟩
  refine h2 G σ H δ _ _ Ed r q (fun G1 H1 v d1 e1 r1 q1 => ?_) x
  obtain ⟨kk, q2, q3⟩ := q1
  exact ⟨kk, truD_ok e1.sub r1 q2, k G1 H1 kk e1 q3⟩
def xAnd (t u : TDT) : TDT := fun δ Q E => t δ (fun k => if k = true then u δ Q E else Q false) E
def xOr (t u : TDT) : TDT := fun δ Q E => t δ (fun k => if k = true then Q true else u δ Q E) E
def xNot (t : TDT) : TDT := fun δ Q E => t δ (fun k => Q (!k)) E
theorem dw_and1 (h : DT p X W a tt) : DW p X W (.BoolOp .And [a] pos) tt := by
  obtain ⟨t, h1, h2⟩ := h
  exact ⟨_, pw_and1 h1, h2⟩
theorem dw_or1 (h : DT p X W a tt) : DW p X W (.BoolOp .Or [a] pos) tt := by
  obtain ⟨t, h1, h2⟩ := h
  exact ⟨_, pw_or1 h1, h2⟩
theorem dw_and (h : DT p X W a tt) (hb : DW p X W (.BoolOp .And (b :: es) pos) tu) : DW p X W (.BoolOp .And (a :: b :: es) pos) (xAnd tt tu) := by
  obtain ⟨t, h1, h2⟩ := h
  obtain ⟨u, h3, h4⟩ := hb
  refine ⟨_, pw_and h1 h3, fun G σ H δ Q Qd Ed r q k x => ?_⟩
  refine h2 G σ H δ _ _ Ed r q (fun G1 H1 kk e1 q1 => ?_) x
  cases kk with
  | true =>
    rw [if_pos rfl] at q1 ⊢
    exact h4 G1 σ H1 δ _ _ Ed (r.ext e1) q1 (fun G2 H2 b2 e2 q2 => k G2 H2 b2 (e1.trans r.at e2) q2) (x.step r.at e1)
  | false =>
    rw [if_neg Bool.false_ne_true] at q1 ⊢
    exact k G1 H1 _ e1 q1
theorem dw_or (h : DT p X W a tt) (hb : DW p X W (.BoolOp .Or (b :: es) pos) tu) : DW p X W (.BoolOp .Or (a :: b :: es) pos) (xOr tt tu) := by
  obtain ⟨t, h1, h2⟩ := h
  obtain ⟨u, h3, h4⟩ := hb
  refine ⟨_, pw_or h1 h3, fun G σ H δ Q Qd Ed r q k x => ?_⟩
  refine h2 G σ H δ _ _ Ed r q (fun G1 H1 kk e1 q1 => ?_) x
  cases kk with
  | false =>
    rw [if_neg Bool.false_ne_true] at q1 ⊢
    exact h4 G1 σ H1 δ _ _ Ed (r.ext e1) q1 (fun G2 H2 b2 e2 q2 => k G2 H2 b2 (e1.trans r.at e2) q2) (x.step r.at e1)
  | true =>
    rw [if_pos rfl] at q1 ⊢
    exact k G1 H1 _ e1 q1
theorem DW.t (h : DW p X W e tt) : DT p X W e tt := by
  obtain ⟨t, h1, h2⟩ := h
  exact ⟨_, h1.pt, h2⟩
theorem dt_not (h : DT p X W a tt) : DT p X W (.UnaryOp .Not a pos) (xNot tt) := by
  obtain ⟨t, h1, h2⟩ := h
  refine ⟨_, pt_not h1, fun G σ H δ Q Qd Ed r q k x => ?_⟩
  exact h2 G σ H δ _ _ Ed r q (fun G1 H1 kk e1 q1 => k G1 H1 _ e1 q1) x
/-- as values: all but the last are bools -/
def xAndV (ta tb : TDE) : TDE := fun δ Q E => ta δ (fun x => ∃ k, x = .bl k ∧ if k = true then tb δ Q E else Q (.bl false)) E
def xOrV (ta tb : TDE) : TDE := fun δ Q E => ta δ (fun x => ∃ k, x = .bl k ∧ if k = true then Q (.bl true) else tb δ Q E) E
def xNotV (ta : TDE) : TDE := fun δ Q E => ta δ (fun x => ∃ k, x = .bl k ∧ Q (.bl (!k))) E
theorem d_one {op} (h : DE p X W a ta) : DE p X W (.BoolOp op [a] pos) ta := by
  obtain ⟨t, h1, h2⟩ := h
  exact ⟨_, pe_one h1, h2⟩
theorem d_and (h : DE p X W a ta) (hb : DE p X W (.BoolOp .And (b :: es) pos) tb) : DE p X W (.BoolOp .And (a :: b :: es) pos) (xAndV ta tb) := by
  obtain ⟨t, h1, h2⟩ := h
  obtain ⟨u, h3, h4⟩ := hb
  refine ⟨_, pe_and h1 h3, fun G σ H δ Q Qd Ed r q k x => ?_⟩
  refine h2 G σ H δ _ _ Ed r q (fun G1 H1 v d1 e1 r1 q1 => ?_) x
  obtain ⟨kk, rfl, q2⟩ := q1
  unfold Rep at r1
  refine ⟨kk, r1, ?_⟩
  cases kk with
  | true =>
    rw [if_pos rfl] at q2 ⊢
    exact h4 G1 σ H1 δ _ _ Ed (r.ext e1) q2 (fun G2 H2 b2 d2 e2 r2 q3 => k G2 H2 b2 d2 (e1.trans r.at e2) r2 q3) (x.step r.at e1)
  | false =>
    rw [if_neg Bool.false_ne_true] at q2 ⊢
    exact k G1 H1 _ _ e1 (rep_sc rfl) q2
theorem d_or (h : DE p X W a ta) (hb : DE p X W (.BoolOp .Or (b :: es) pos) tb) : DE p X W (.BoolOp .Or (a :: b :: es) pos) (xOrV ta tb) := by
  obtain ⟨t, h1, h2⟩ := h
  obtain ⟨u, h3, h4⟩ := hb
  refine ⟨_, pe_or h1 h3, fun G σ H δ Q Qd Ed r q k x => ?_⟩
  refine h2 G σ H δ _ _ Ed r q (fun G1 H1 v d1 e1 r1 q1 => ?_) x
  obtain ⟨kk, rfl, q2⟩ := q1
  unfold Rep at r1
  refine ⟨kk, r1, ?_⟩
  cases kk with
  | false =>
    rw [if_neg Bool.false_ne_true] at q2 ⊢
    exact h4 G1 σ H1 δ _ _ Ed (r.ext e1) q2 (fun G2 H2 b2 d2 e2 r2 q3 => k G2 H2 b2 d2 (e1.trans r.at e2) r2 q3) (x.step r.at e1)
  | true =>
    rw [if_pos rfl] at q2 ⊢
    exact k G1 H1 _ _ e1 (rep_sc rfl) q2
theorem d_not (h : DE p X W a ta) : DE p X W (.UnaryOp .Not a pos) (xNotV ta) := by
  obtain ⟨t, h1, h2⟩ := h
  refine ⟨_, pe_not h1, fun G σ H δ Q Qd Ed r q k x => ?_⟩
  refine h2 G σ H δ _ _ Ed r q (fun G1 H1 v d1 e1 r1 q1 => ?_) x
  obtain ⟨kk, rfl, q2⟩ := q1
  unfold Rep at r1
  exact ⟨kk, r1, k G1 H1 _ _ e1 (rep_sc rfl) q2⟩
def xIf (tt : TDT) (ta tb : TDE) : TDE := fun δ Q E => tt δ (fun k => if k = true then ta δ Q E else tb δ Q E) E
theorem d_if (hc : DT p X W c tt) (ha : DE p X W a ta) (hb : DE p X W b tb) : DE p X W (.IfExp c a b pos) (xIf tt ta tb) := by
  obtain ⟨t, h1, h2⟩ := hc
  obtain ⟨u, h3, h4⟩ := ha
  obtain ⟨w, h5, h6⟩ := hb
  refine ⟨_, pe_ifExp h1 h3 h5, fun G σ H δ Q Qd Ed r q k x => ?_⟩
  refine h2 G σ H δ _ _ Ed r q (fun G1 H1 kk e1 q1 => ?_) x
  cases kk with
  | true =>
    rw [if_pos rfl] at q1 ⊢
    exact h4 G1 σ H1 δ _ _ Ed (r.ext e1) q1 (fun G2 H2 b2 d2 e2 r2 q3 => k G2 H2 b2 d2 (e1.trans r.at e2) r2 q3) (x.step r.at e1)
  | false =>
    rw [if_neg Bool.false_ne_true] at q1 ⊢
    exact h6 G1 σ H1 δ _ _ Ed (r.ext e1) q1 (fun G2 H2 b2 d2 e2 r2 q3 => k G2 H2 b2 d2 (e1.trans r.at e2) r2 q3) (x.step r.at e1)
/-- is None -/
def D.isNon : D → Bool
  | .non => true
  | _ => false
def xIsN (neg : Bool) (ta : TDE) : TDE := fun δ Q E => ta δ (fun x => Q (.bl (if neg then !x.isNon else x.isNon))) E
theorem refIsN {t : TE} (neg : Bool) (h : RefE K p W t ta) : RefE K p W (fun σ H Q => t σ H fun x H1 => Q (.bl (if neg then !decide (x = .non) else decide (x = .non))) H1) (xIsN neg ta) := by
  intro G σ H δ Q Qd Ed r q k x
  refine h G σ H δ _ _ Ed r q (fun G1 H1 v d1 e1 r1 q1 => ?_) x
  have e : d1.isNon = decide (v = .non) := by
    cases d1 with
    | non => unfold Rep at r1; subst r1; rfl
    | bl b => unfold Rep at r1; subst r1; rfl
    | int b => unfold Rep at r1; subst r1; rfl
    | str b => unfold Rep at r1; subst r1; rfl
    | ty b => unfold Rep at r1; subst r1; rfl
    | adr b => unfold Rep at r1; subst r1; rfl
    | tup b => unfold Rep at r1; obtain ⟨_, _, r1, _⟩ := r1; subst r1; rfl
    | lst b => unfold Rep at r1; obtain ⟨_, _, r1, _⟩ := r1; subst r1; rfl
    | dic b => unfold Rep at r1; obtain ⟨_, _, r1, _⟩ := r1; subst r1; rfl
    | obj b => unfold Rep at r1; obtain ⟨_, _, _, r1, _⟩ := r1; subst r1; rfl
    | exc b => unfold Rep at r1; obtain ⟨_, _, _, _, r1, _⟩ := r1; subst r1; rfl
  rw [e] at q1
  exact k G1 H1 _ _ e1 (rep_sc rfl) q1
theorem d_isN {j pos'} (h : DE p X W a ta) : DE p X W (.Compare a [.Is] [.Constant .none j pos'] pos) (xIsN false ta) := by
  obtain ⟨t, h1, h2⟩ := h
  exact ⟨_, pe_cmp (pc_isN h1) rfl, refIsN false h2⟩
theorem d_notN {j pos'} (h : DE p X W a ta) : DE p X W (.Compare a [.IsNot] [.Constant .none j pos'] pos) (xIsN true ta) := by
  obtain ⟨t, h1, h2⟩ := h
  exact ⟨_, pe_cmp (pc_notN h1) rfl, refIsN true h2⟩

def xNil : TDA := fun _ Q _ => Q []
def xCons (ta : TDE) (ts : TDA) : TDA := fun δ Q E => ta δ (fun x => ts δ (fun xs => Q (x :: xs)) E) E
theorem refNil : RefA K p W tNil xNil := fun G σ H δ Q Qd Ed r q k x => k G H [] [] r.refl Reps.nil q
theorem refCons {t : TE} {u : TA} (h2 : RefE K p W t ta) (h4 : RefA K p W u ts) : RefA K p W (tCons t u) (xCons ta ts) := by
  intro G σ H δ Q Qd Ed r q k x
  refine h2 G σ H δ _ _ Ed r q (fun G1 H1 v d1 e1 r1 q1 => ?_) x
  refine h4 G1 σ H1 δ _ _ Ed (r.ext e1) q1 (fun G2 H2 vs ds e2 r2 q2 => ?_) (x.step r.at e1)
  exact k G2 H2 (v :: vs) (d1 :: ds) (e1.trans r.at e2) (Reps.cons (r1.mono e2.gg) r2) q2
theorem da_nil : DA p X W [] xNil := ⟨_, pa_nil, refNil⟩
theorem da_cons (h : DE p X W e te) (hr : DA p X W es ts) (hs : starEach (e :: es) X.env = (false, eval e X.env) :: starEach es X.env := by rfl) : DA p X W (e :: es) (xCons te ts) := by
  obtain ⟨t, h1, h2⟩ := h
  obtain ⟨u, h3, h4⟩ := hr
  exact ⟨_, pa_cons h1 h3 hs, refCons h2 h4⟩
def xTup (ts : TDA) : TDE := fun δ Q E => ts δ (fun xs => xs.length ≤ sizeLine ∧ Q (.tup xs)) E
def xLst (ts : TDA) : TDE := fun δ Q E => ts δ (fun xs => xs.length ≤ sizeLine ∧ Q (.lst xs)) E
theorem rep_tup {G : Hp} {q : Addr} {ds : List D} {vs : List V} {H : Hp} (s : Same G H) (n : H q = none) (h : Reps K G ds vs) : Rep K (upd G q (.tup vs)) (.tup ds) (.ref q) := by
  unfold Rep
  exact ⟨q, vs, rfl, SqT.of upd_same, h.mono fun c u e => by rw [upd_ne (ne_of_none e (s.free n))]; exact e⟩
theorem rep_lst {G : Hp} {q : Addr} {ds : List D} {vs : List V} {H : Hp} (s : Same G H) (n : H q = none) (h : Reps K G ds vs) : Rep K (upd G q (.lst vs)) (.lst ds) (.ref q) := by
  unfold Rep
  exact ⟨q, vs, rfl, upd_same, h.mono fun c u e => by rw [upd_ne (ne_of_none e (s.free n))]; exact e⟩
theorem d_tup {k} (h : DA p X W es ts) : DE p X W (.Tuple es k pos) (xTup ts) := by
  obtain ⟨t, h1, h2⟩ := h
  refine ⟨_, pe_tup h1, fun G σ H δ Q Qd Ed r q k x => ?_⟩
  refine h2 G σ H δ _ _ Ed r q (fun G1 H1 vs ds e1 r1 q1 => ?_) x
  refine ⟨by rw [← r1.length]; exact q1.1, fun a hn => ?_⟩
  exact k _ _ _ _ (e1.trans r.at (Ext.laid e1.sub e1.bag hn)) (rep_tup e1.sub hn r1) q1.2
theorem d_lst (h : DA p X W es ts) : DE p X W (.List es pos) (xLst ts) := by
  obtain ⟨t, h1, h2⟩ := h
  refine ⟨_, pe_lst h1, fun G σ H δ Q Qd Ed r q k x => ?_⟩
  refine h2 G σ H δ _ _ Ed r q (fun G1 H1 vs ds e1 r1 q1 => ?_) x
  refine ⟨by rw [← r1.length]; exact q1.1, fun a hn => ?_⟩
  exact k _ _ _ _ (e1.trans r.at (Ext.laid e1.sub e1.bag hn)) (rep_lst e1.sub hn r1) q1.2

def xCall (rd : List D → QD → Prop) (ts : TDA) : TDE := fun δ Q E => ts δ (fun xs => rd xs Q) E
theorem refCall {r : List V → Hp → VK → Prop} {rd : List D → QD → Prop} {t : TA} (hr : RefC K p.b r rd) (h : RefA K p W t ts) : RefE K p W (tCB r t) (xCall rd ts) := by
  intro G σ H δ Q Qd Ed r q k x
  refine h G σ H δ _ _ Ed r q (fun G1 H1 vs ds e1 r1 q1 => ?_) x
  exact hr G1 H1 ds vs Q Qd e1.sub e1.bag r1 q1 fun G2 H2 w d e2 r2 q2 => k G2 H2 w d (e1.trans r.at e2) r2 q2
theorem d_callB {id : String} {x : Str} {q : Pos} {r : List V → Hp → VK → Prop} {rd : List D → QD → Prop} (hc : CallR X (.builtin id) r) (hr : RefC X.K p.b r rd) (hg : Gl X x) (hm : X.mg x = none) (hv : bootBuiltins x = some (.builtin id)) (ha : DA p X W (e :: es) ts)
    (hn : x ≠ "__name__" := by decide) (hdb : (x == ("__debug__" : Str)) = false := by decide)
    (he : starEach (e :: es) X.env = (false, eval e X.env) :: starEach es X.env := by rfl) (hpl : (backTo pos (starEach es X.env)).any (·.1) = false := by rfl) : DE p X W (.Call (.Name x q) (e :: es) [] pos) (xCall rd ts) := by
  obtain ⟨t, h1, h2⟩ := ha
  exact ⟨_, pe_callB hc hg hm hv h1 hn hdb he hpl, refCall hr h2⟩
theorem d_callTy {id : String} {x : Str} {q : Pos} {r : List V → Hp → VK → Prop} {rd : List D → QD → Prop} (hc : CallR X (.type id) r) (hr : RefC X.K p.b r rd) (hg : Gl X x) (hm : X.mg x = none) (hv : bootBuiltins x = some (.type id)) (ha : DA p X W (e :: es) ts)
    (hn : x ≠ "__name__" := by decide) (hdb : (x == ("__debug__" : Str)) = false := by decide)
    (he : starEach (e :: es) X.env = (false, eval e X.env) :: starEach es X.env := by rfl) (hpl : (backTo pos (starEach es X.env)).any (·.1) = false := by rfl) : DE p X W (.Call (.Name x q) (e :: es) [] pos) (xCall rd ts) := by
  obtain ⟨t, h1, h2⟩ := ha
  exact ⟨_, pe_callTy hc hg hm hv h1 hn hdb he hpl, refCall hr h2⟩
end
end DL

namespace DL
open PySem PySem.Spec PyProof.Rows L2
section
variable {p : Pr} {X : Cx} {W : WX} {K : PySem.W.Frag} {b : Bag}

theorem rep_int {G : Hp} {i : Int} {v : V} : Rep K G (.int i) v ↔ v = .int i := by
  constructor
  · intro h; unfold Rep at h; exact h
  · intro h; unfold Rep; exact h
theorem rep_str {G : Hp} {i : Str} {v : V} : Rep K G (.str i) v ↔ v = .str i := by
  constructor
  · intro h; unfold Rep at h; exact h
  · intro h; unfold Rep; exact h
theorem rep_bl {G : Hp} {i : Bool} {v : V} : Rep K G (.bl i) v ↔ v = .bl i := by
  constructor
  · intro h; unfold Rep at h; exact h
  · intro h; unfold Rep; exact h
theorem rep_non {G : Hp} {v : V} : Rep K G .non v ↔ v = .non := by
  constructor
  · intro h; unfold Rep at h; exact h
  · intro h; unfold Rep; exact h
theorem rep_lstI {G : Hp} {ds : List D} {v : V} : Rep K G (.lst ds) v ↔ ∃ a vs, v = .ref a ∧ G a = some (.lst vs) ∧ Reps K G ds vs := by
  constructor
  · intro h; unfold Rep at h; exact h
  · intro h; unfold Rep; exact h
theorem rep_tupI {G : Hp} {ds : List D} {v : V} : Rep K G (.tup ds) v ↔ ∃ a vs, v = .ref a ∧ SqT K G a vs ∧ Reps K G ds vs := by
  constructor
  · intro h; unfold Rep at h; exact h
  · intro h; unfold Rep; exact h
theorem rep_dicI {G : Hp} {ds : List (Key × D)} {v : V} : Rep K G (.dic ds) v ↔ ∃ a vs, v = .ref a ∧ G a = some (.dK vs) ∧ RepsK K G ds vs := by
  constructor
  · intro h; unfold Rep at h; exact h
  · intro h; unfold Rep; exact h

def dAdd : RD2 := fun x y Q => match x, y with
  | .int i, .int j => Q (.int (i + j))
  | .str s, .str t => s.length + t.length ≤ sizeLine ∧ Q (.str (s ++ t))
  | .lst s, .lst t => s.length + t.length ≤ sizeLine ∧ Q (.lst (s ++ t))
  | .tup s, .tup t => s.length + t.length ≤ sizeLine ∧ Q (.tup (s ++ t))
  | _, _ => False
def rAddAll (K : PySem.W.Frag) : R2 := fun x y H Q => rI0 (fun i j => .int (i + j)) x y H Q ∨ ((fun x y H Q => ∃ i j, x = V.str i ∧ y = V.str j ∧ i.length + j.length ≤ sizeLine ∧ Q (.str (i ++ j)) H) x y H Q ∨ (rCat x y H Q ∨ rCatA K x y H Q))
theorem o_add : OpR X (binaryOp .Add) (rAddAll X.K) := OpR.or op_add (OpR.or op_add_str (OpR.or op_cat op_catA))
theorem r_add : RefR K b (rAddAll K) dAdd := by
  intro G H x y v u Q Qd s hb rx ry h k
  cases x <;> cases y <;> try exact h.elim
  · rw [rep_int.mp rx, rep_int.mp ry]
    exact .inl ⟨_, _, rfl, rfl, k G H _ _ (Ext.refl s hb) (rep_sc rfl) h⟩
  · rw [rep_str.mp rx, rep_str.mp ry]
    exact .inr (.inl ⟨_, _, rfl, rfl, h.1, k G H _ _ (Ext.refl s hb) (rep_sc rfl) h.2⟩)
  · obtain ⟨a, vs, rfl, h1, h2⟩ := rep_tupI.mp rx
    obtain ⟨c, ws, rfl, h3, h4⟩ := rep_tupI.mp ry
    refine .inr (.inr (.inr ⟨a, c, vs, ws, rfl, rfl, sameT s h1, sameT s h3, by rw [← h2.length, ← h4.length]; exact h.1, fun e => ?_, fun _ e => ?_, fun _ _ q hq => ?_⟩))
    · subst e
      refine k G H _ _ (Ext.refl s hb) ?_ h.2
      have e2 := h2.length
      rw [List.length_nil] at e2
      rw [List.eq_nil_of_length_eq_zero e2, List.nil_append]
      exact ry
    · subst e
      refine k G H _ _ (Ext.refl s hb) ?_ h.2
      have e2 := h4.length
      rw [List.length_nil] at e2
      rw [List.eq_nil_of_length_eq_zero e2, List.append_nil]
      exact rx
    · exact k _ _ _ _ (Ext.laid s hb hq) (rep_tup s hq (h2.append h4)) h.2
  · obtain ⟨a, vs, rfl, h1, h2⟩ := rep_lstI.mp rx
    obtain ⟨c, ws, rfl, h3, h4⟩ := rep_lstI.mp ry
    exact .inr (.inr (.inl ⟨a, c, vs, ws, rfl, rfl, s _ _ h1, s _ _ h3, by rw [← h2.length, ← h4.length]; exact h.1, fun q hq => k _ _ _ _ (Ext.laid s hb hq) (rep_lst s hq (h2.append h4)) h.2⟩))
/-- two ints, under C -/
def dI (C : Int → Int → Prop) (g : Int → Int → D) : RD2 := fun x y Q => match x, y with
  | .int i, .int j => C i j ∧ Q (g i j)
  | _, _ => False
theorem r_I {C : Int → Int → Prop} {g : Int → Int → V} {g' : Int → Int → D} (hg : ∀ i j, scV (g' i j) = some (g i j)) : RefR K b (rI C g) (dI C g') := by
  intro G H x y v u Q Qd s hb rx ry h k
  cases x <;> cases y <;> try exact h.elim
  rw [rep_int.mp rx, rep_int.mp ry]
  exact ⟨_, _, rfl, rfl, h.1, k G H _ _ (Ext.refl s hb) (rep_sc (hg _ _)) h.2⟩
def dI0 (g : Int → Int → D) : RD2 := fun x y Q => match x, y with
  | .int i, .int j => Q (g i j)
  | _, _ => False
theorem r_I0 {g : Int → Int → V} {g' : Int → Int → D} (hg : ∀ i j, scV (g' i j) = some (g i j)) : RefR K b (rI0 g) (dI0 g') := by
  intro G H x y v u Q Qd s hb rx ry h k
  cases x <;> cases y <;> try exact h.elim
  rw [rep_int.mp rx, rep_int.mp ry]
  exact ⟨_, _, rfl, rfl, k G H _ _ (Ext.refl s hb) (rep_sc (hg _ _)) h⟩
def dSub : RD2 := dI0 fun i j => .int (i - j)
def dMul : RD2 := dI CMul fun i j => .int (i * j)
def dMod : RD2 := dI (fun _ j => 0 < j) fun i j => .int (i % j)
def dDiv : RD2 := dI CDiv fun i j => .int (i / j)
def dPow : RD2 := dI CPow fun i j => .int (i ^ j.toNat)
def dLt : RD2 := dI0 fun i j => .bl (decide (i < j))
def dLe : RD2 := dI0 fun i j => .bl (decide (i ≤ j))
def dGt : RD2 := dI0 fun i j => .bl (decide (j < i))
def dGe : RD2 := dI0 fun i j => .bl (decide (j ≤ i))
variable {e1 e2 : Expr} {ta tb : TDE} {pos : Pos}
theorem d_add (ha : DE p X W e1 ta) (hb : DE p X W e2 tb) : DE p X W (.BinOp e1 .Add e2 pos) (xOp dAdd ta tb) := d_op o_add r_add ha hb
theorem d_sub (ha : DE p X W e1 ta) (hb : DE p X W e2 tb) : DE p X W (.BinOp e1 .Sub e2 pos) (xOp dSub ta tb) := d_op op_sub (r_I0 fun _ _ => rfl) ha hb
theorem d_mul (ha : DE p X W e1 ta) (hb : DE p X W e2 tb) : DE p X W (.BinOp e1 .Mult e2 pos) (xOp dMul ta tb) := d_op op_mul (r_I fun _ _ => rfl) ha hb
theorem d_mod (ha : DE p X W e1 ta) (hb : DE p X W e2 tb) : DE p X W (.BinOp e1 .Mod e2 pos) (xOp dMod ta tb) := d_op op_mod (r_I fun _ _ => rfl) ha hb
theorem d_div (ha : DE p X W e1 ta) (hb : DE p X W e2 tb) : DE p X W (.BinOp e1 .FloorDiv e2 pos) (xOp dDiv ta tb) := d_op op_fdiv (r_I fun _ _ => rfl) ha hb
theorem d_pow (ha : DE p X W e1 ta) (hb : DE p X W e2 tb) : DE p X W (.BinOp e1 .Pow e2 pos) (xOp dPow ta tb) := d_op op_pow (r_I fun _ _ => rfl) ha hb
theorem d_lt (ha : DE p X W e1 ta) (hb : DE p X W e2 tb) : DE p X W (.Compare e1 [.Lt] [e2] pos) (xOp dLt ta tb) := d_cmp op_lt (r_I0 fun _ _ => rfl) (nomark _) ha hb
theorem d_le (ha : DE p X W e1 ta) (hb : DE p X W e2 tb) : DE p X W (.Compare e1 [.LtE] [e2] pos) (xOp dLe ta tb) := d_cmp op_le (r_I0 fun _ _ => rfl) (nomark _) ha hb
theorem d_gt (ha : DE p X W e1 ta) (hb : DE p X W e2 tb) : DE p X W (.Compare e1 [.Gt] [e2] pos) (xOp dGt ta tb) := d_cmp op_gt (r_I0 fun _ _ => rfl) (nomark _) ha hb
theorem d_ge (ha : DE p X W e1 ta) (hb : DE p X W e2 tb) : DE p X W (.Compare e1 [.GtE] [e2] pos) (xOp dGe ta tb) := d_cmp op_ge (r_I0 fun _ _ => rfl) (nomark _) ha hb
theorem dt_lt (ha : DE p X W e1 ta) (hb : DE p X W e2 tb) : DT p X W (.Compare e1 [.Lt] [e2] pos) (xTest (xOp dLt ta tb)) := dt_cmp op_lt (r_I0 fun _ _ => rfl) (nomark _) ha hb
theorem dt_le (ha : DE p X W e1 ta) (hb : DE p X W e2 tb) : DT p X W (.Compare e1 [.LtE] [e2] pos) (xTest (xOp dLe ta tb)) := dt_cmp op_le (r_I0 fun _ _ => rfl) (nomark _) ha hb
theorem dt_gt (ha : DE p X W e1 ta) (hb : DE p X W e2 tb) : DT p X W (.Compare e1 [.Gt] [e2] pos) (xTest (xOp dGt ta tb)) := dt_cmp op_gt (r_I0 fun _ _ => rfl) (nomark _) ha hb
theorem dt_ge (ha : DE p X W e1 ta) (hb : DE p X W e2 tb) : DT p X W (.Compare e1 [.GtE] [e2] pos) (xTest (xOp dGe ta tb)) := dt_cmp op_ge (r_I0 fun _ _ => rfl) (nomark _) ha hb

mutual
def D.py : D → Option PyData
  | .non => some .none
  | .bl b => some (.bool b)
  | .int i => some (.int i)
  | .str x => some (.str x)
  | .tup ds => (D.pys ds).map .tuple
  | .lst ds => (D.pys ds).map .list
  | _ => none
def D.pys : List D → Option (List PyData)
  | [] => some []
  | d :: ds => (D.py d).bind fun x => (D.pys ds).map fun xs => x :: xs
end
mutual
theorem dp_of {G H : Hp} (s : Same G H) : ∀ {d : D} {v : V} {x : PyData}, Rep K G d v → d.py = some x → Dp K H v x
  | .non, _, _, r, e => by unfold Rep at r; unfold D.py at e; cases e; subst r; exact .non
  | .bl _, _, _, r, e => by unfold Rep at r; unfold D.py at e; cases e; subst r; exact .bl _
  | .int _, _, _, r, e => by unfold Rep at r; unfold D.py at e; cases e; subst r; exact .int _
  | .str _, _, _, r, e => by unfold Rep at r; unfold D.py at e; cases e; subst r; exact .str _
  | .tup ds, _, _, r, e => by
    unfold Rep at r
    unfold D.py at e
    obtain ⟨a, vs, rfl, h1, h2⟩ := r
    obtain ⟨xs, e1, rfl⟩ := Option.map_eq_some_iff.mp e
    exact .tup (sameT s h1) (dps_of s h2 e1)
  | .lst ds, _, _, r, e => by
    unfold Rep at r
    unfold D.py at e
    obtain ⟨a, vs, rfl, h1, h2⟩ := r
    obtain ⟨xs, e1, rfl⟩ := Option.map_eq_some_iff.mp e
    exact .lst (SqL.of (s _ _ h1)) (dps_of s h2 e1)
  | .ty _, _, _, _, e => by unfold D.py at e; cases e
  | .dic _, _, _, _, e => by unfold D.py at e; cases e
  | .obj _ _, _, _, _, e => by unfold D.py at e; cases e
  | .exc _ _, _, _, _, e => by unfold D.py at e; cases e
  | .adr _, _, _, _, e => by unfold D.py at e; cases e
theorem dps_of {G H : Hp} (s : Same G H) : ∀ {ds : List D} {vs : List V} {xs : List PyData}, Reps K G ds vs → D.pys ds = some xs → DpAll K H vs xs
  | [], _, _, r, e => by
    unfold Reps at r
    unfold D.pys at e
    cases e
    subst r
    exact .nil
  | d :: ds, _, _, r, e => by
    unfold Reps at r
    unfold D.pys at e
    obtain ⟨v, w, rfl, h1, h2⟩ := r
    obtain ⟨x, e1, e2⟩ := Option.bind_eq_some_iff.mp e
    obtain ⟨xs, e3, rfl⟩ := Option.map_eq_some_iff.mp e2
    exact .cons (dp_of s h1 e1) (dps_of s h2 e3)
end
/-- of scalars: decided here; else by the library's equality of data -/
def scEq : D → D → Option Bool
  | .int i, .int j => some (decide (i = j))
  | .str i, .str j => some (decide (i = j))
  | .bl i, .bl j => some (decide (i = j))
  | .non, .non => some true
  | .non, .int _ => some false
  | .int _, .non => some false
  | .non, .str _ => some false
  | .str _, .non => some false
  | .non, .bl _ => some false
  | .bl _, .non => some false
  | .int _, .str _ => some false
  | .str _, .int _ => some false
  | .bl _, .str _ => some false
  | .str _, .bl _ => some false
  | _, _ => none
def dEq (neg : Bool) : RD2 := fun x y Q => match scEq x y with
  | some k => Q (.bl (if neg then !k else k))
  | none => ∃ d e, x.py = some d ∧ y.py = some e ∧ SeqAt.shaped d = true ∧ SeqAt.shaped e = true ∧ Q (.bl (if neg then !PyData.eqv d e else PyData.eqv d e))
theorem scEq_ok {G : Hp} {x y : D} {v u : V} {k : Bool} (rx : Rep K G x v) (ry : Rep K G y u) (h : scEq x y = some k) : scal v u = true ∧ decide (v = u) = k := by
  cases x <;> cases y <;> unfold scEq at h <;> (try cases h) <;> (unfold Rep at rx ry; subst rx; subst ry; refine ⟨rfl, ?_⟩; simp)
theorem r_eq : RefR K b (fun x y H Q => rEq x y H Q ∨ rEqD K x y H Q) (dEq false) := by
  intro G H x y v u Q Qd s hb rx ry h k
  unfold dEq at h
  cases e : scEq x y with
  | some kk =>
    rw [e] at h
    obtain ⟨h1, h2⟩ := scEq_ok rx ry e
    refine .inl ⟨h1, ?_⟩
    rw [h2]
    exact k G H _ _ (Ext.refl s hb) (rep_sc rfl) h
  | none =>
    rw [e] at h
    obtain ⟨d, d', h1, h2, h3, h4, h5⟩ := h
    exact .inr ⟨d, d', dp_of s rx h1, dp_of s ry h2, h3, h4, k G H _ _ (Ext.refl s hb) (rep_sc rfl) h5⟩
theorem r_ne : RefR K b (fun x y H Q => rNe x y H Q ∨ rNeD K x y H Q) (dEq true) := by
  intro G H x y v u Q Qd s hb rx ry h k
  unfold dEq at h
  cases e : scEq x y with
  | some kk =>
    rw [e] at h
    obtain ⟨h1, h2⟩ := scEq_ok rx ry e
    refine .inl ⟨h1, ?_⟩
    rw [h2]
    exact k G H _ _ (Ext.refl s hb) (rep_sc rfl) h
  | none =>
    rw [e] at h
    obtain ⟨d, d', h1, h2, h3, h4, h5⟩ := h
    exact .inr ⟨d, d', dp_of s rx h1, dp_of s ry h2, h3, h4, k G H _ _ (Ext.refl s hb) (rep_sc rfl) h5⟩
theorem d_eq (hu : X.A.units + 64 < cLine) (ha : DE p X W e1 ta) (hb : DE p X W e2 tb) : DE p X W (.Compare e1 [.Eq] [e2] pos) (xOp (dEq false) ta tb) := d_cmp (OpR.or op_eq (op_eqD hu)) r_eq (nomark _) ha hb
theorem d_ne (hu : X.A.units + 64 < cLine) (ha : DE p X W e1 ta) (hb : DE p X W e2 tb) : DE p X W (.Compare e1 [.NotEq] [e2] pos) (xOp (dEq true) ta tb) := d_cmp (OpR.or op_ne (op_neD hu)) r_ne (nomark _) ha hb
theorem dt_eq (hu : X.A.units + 64 < cLine) (ha : DE p X W e1 ta) (hb : DE p X W e2 tb) : DT p X W (.Compare e1 [.Eq] [e2] pos) (xTest (xOp (dEq false) ta tb)) := dt_cmp (OpR.or op_eq (op_eqD hu)) r_eq (nomark _) ha hb
theorem dt_ne (hu : X.A.units + 64 < cLine) (ha : DE p X W e1 ta) (hb : DE p X W e2 tb) : DT p X W (.Compare e1 [.NotEq] [e2] pos) (xTest (xOp (dEq true) ta tb)) := dt_cmp (OpR.or op_ne (op_neD hu)) r_ne (nomark _) ha hb

def flatD : D → Bool
  | .non => true
  | .bl _ => true
  | .int _ => true
  | .str _ => true
  | _ => false
def eqF : D → D → Bool
  | .non, .non => true
  | .bl a, .bl b => a == b
  | .bl a, .int b => (if a then 1 else 0) == b
  | .int a, .bl b => a == (if b then 1 else 0)
  | .int a, .int b => a == b
  | .str a, .str b => a == b
  | _, _ => false
def inD (x : D) (xs : List D) : Bool := xs.any fun y => eqF y x
theorem flat_rep {G : Hp} {d : D} {v : V} (r : Rep K G d v) (h : flatD d = true) : flatV v = true := by
  cases d <;> first | (unfold Rep at r; subst r; rfl) | exact absurd (show false = true from h) Bool.false_ne_true
theorem flats_rep {G : Hp} : ∀ {ds : List D} {vs : List V}, Reps K G ds vs → ds.all flatD = true → vs.all flatV = true
  | [], vs, r, _ => by rw [Reps.nil_iff.mp r]; rfl
  | d :: ds, vs, r, h => by
    obtain ⟨v, w, rfl, h1, h2⟩ := Reps.cons_iff.mp r
    rw [List.all_cons, Bool.and_eq_true] at h ⊢
    exact ⟨flat_rep h1 h.1, flats_rep h2 h.2⟩
theorem eqF_rep {G : Hp} {x y : D} {v u : V} (rx : Rep K G x v) (ry : Rep K G y u) (fx : flatD x = true) (fy : flatD y = true) : eqV v u = eqF x y := by
  cases x <;> (first | exact absurd (show false = true from fx) Bool.false_ne_true | skip) <;> cases y <;> (first | exact absurd (show false = true from fy) Bool.false_ne_true | skip) <;> (unfold Rep at rx ry; subst rx; subst ry; rfl)
theorem inD_rep {G : Hp} {x : D} {v : V} (rx : Rep K G x v) (fx : flatD x = true) : ∀ {ds : List D} {vs : List V}, Reps K G ds vs → ds.all flatD = true → inV v vs = inD x ds
  | [], vs, r, _ => by rw [Reps.nil_iff.mp r]; rfl
  | d :: ds, vs, r, h => by
    obtain ⟨u, w, rfl, h1, h2⟩ := Reps.cons_iff.mp r
    rw [List.all_cons, Bool.and_eq_true] at h
    have q := inD_rep rx fx h2 h.2
    unfold inV inD at q ⊢
    rw [List.any_cons, List.any_cons, q, eqF_rep h1 rx h.1 fx]
def dIn (neg : Bool) : RD2 := fun x y Q => match y with
  | .lst ds => flatD x = true ∧ ds.all flatD = true ∧ Q (.bl (if neg then !inD x ds else inD x ds))
  | .tup ds => flatD x = true ∧ ds.all flatD = true ∧ Q (.bl (if neg then !inD x ds else inD x ds))
  | _ => False
theorem r_in (neg : Bool) : RefR K b (rIn K neg) (dIn neg) := by
  intro G H x y v u Q Qd s hb rx ry h k
  cases y <;> try exact h.elim
  · obtain ⟨a, vs, rfl, h1, h2⟩ := rep_tupI.mp ry
    refine ⟨a, vs, rfl, .inr (sameT s h1), flat_rep rx h.1, flats_rep h2 h.2.1, ?_⟩
    rw [inD_rep rx h.1 h2 h.2.1]
    exact k G H _ _ (Ext.refl s hb) (rep_sc rfl) h.2.2
  · obtain ⟨a, vs, rfl, h1, h2⟩ := rep_lstI.mp ry
    refine ⟨a, vs, rfl, .inl (SqL.of (s _ _ h1)), flat_rep rx h.1, flats_rep h2 h.2.1, ?_⟩
    rw [inD_rep rx h.1 h2 h.2.1]
    exact k G H _ _ (Ext.refl s hb) (rep_sc rfl) h.2.2

def dIx : RD2 := fun x y Q => match x, y with
  | .lst ds, .int i => ∃ d, atI ds i = some d ∧ Q d
  | .tup ds, .int i => ∃ d, atI ds i = some d ∧ Q d
  | .str z, .int i => z.length ≤ sizeLine ∧ ∃ c, atI z.cps.toList i = some c ∧ Q (.str ⟨#[c]⟩)
  | _, _ => False
theorem atI_rep {G : Hp} {ds : List D} {vs : List V} {i : Int} {d : D} (r : Reps K G ds vs) (h : atI ds i = some d) : ∃ v, atI vs i = some v ∧ Rep K G d v := by
  unfold atI at h ⊢
  rw [← r.length]
  cases e : ixN ds.length i with
  | none => rw [e] at h; cases h
  | some j =>
    rw [e] at h
    exact r.get h
theorem r_ix : RefR K b (rIx K) dIx := by
  intro G H x y v u Q Qd s hb rx ry h k
  cases x <;> cases y <;> try exact h.elim
  · rw [rep_str.mp rx, rep_int.mp ry]
    obtain ⟨h1, c, h2, h3⟩ := h
    exact .inr (.inr ⟨_, _, c, rfl, rfl, h1, h2, k G H _ _ (Ext.refl s hb) (rep_sc rfl) h3⟩)
  · obtain ⟨a, vs, rfl, h1, h2⟩ := rep_tupI.mp rx
    rw [rep_int.mp ry]
    obtain ⟨d, h3, h4⟩ := h
    obtain ⟨w, h5, h6⟩ := atI_rep h2 h3
    exact .inr (.inl ⟨a, vs, _, w, rfl, rfl, sameT s h1, h5, k G H _ _ (Ext.refl s hb) h6 h4⟩)
  · obtain ⟨a, vs, rfl, h1, h2⟩ := rep_lstI.mp rx
    rw [rep_int.mp ry]
    obtain ⟨d, h3, h4⟩ := h
    obtain ⟨w, h5, h6⟩ := atI_rep h2 h3
    exact .inl ⟨a, vs, _, w, rfl, rfl, SqL.of (s _ _ h1), h5, k G H _ _ (Ext.refl s hb) h6 h4⟩
theorem d_ix (hs : PlainIx e2) (ha : DE p X W e1 ta) (hb : DE p X W e2 tb) : DE p X W (.Subscript e1 e2 pos) (xOp dIx ta tb) := by
  obtain ⟨t, h1, h2⟩ := ha
  obtain ⟨u, h3, h4⟩ := hb
  exact ⟨_, pe_ix ix_seq h1 h3 hs, refOp r_ix h2 h4⟩
abbrev TDO := DSt → (Option Int → Prop) → XD → Prop
def RefO (K : PySem.W.Frag) (p : Pr) (W : WX) (t : TO) (td : TDO) : Prop :=
  ∀ (G : Hp) (σ : VSt) (H : Hp) (δ : DSt) (Q : Option Int → Hp → Prop) (Qd : Option Int → Prop) (Ed : XD), DR K p G σ H δ → td δ Qd Ed →
    (∀ G' H' o, Ext K p.b G H G' H' → Qd o → Q o H') → XOk K p.b W G σ H Ed → t σ H Q
structure DO' (p : Pr) (X : Cx) (W : WX) (e : Option Expr) (td : TDO) : Prop where
  ex : ∃ t : TO, PO X e t ∧ RefO X.K p W t td
def xNoPart : TDO := fun _ Q _ => Q none
def xPart (te : TDE) : TDO := fun δ Q E => te δ (fun x => ∃ i, x = .int i ∧ Q (some i)) E
theorem do_none : DO' p X W none xNoPart := ⟨_, po_none, fun G σ H δ Q Qd Ed r q k x => k G H _ r.refl q⟩
theorem do_some (h : DE p X W e1 ta) : DO' p X W (some e1) (xPart ta) := by
  obtain ⟨t, h1, h2⟩ := h
  refine ⟨_, po_some h1, fun G σ H δ Q Qd Ed r q k x => ?_⟩
  refine h2 G σ H δ _ _ Ed r q (fun G1 H1 v d1 e1 r1 q1 => ?_) x
  obtain ⟨i, rfl, q2⟩ := q1
  exact ⟨i, rep_int.mp r1, k G1 H1 _ e1 q2⟩
def cutD {α : Type} (xs : List α) (lo hi : Option Int) : List α := (xs.drop (HT.sIx xs.length 0 lo)).take (HT.sIx xs.length xs.length hi - HT.sIx xs.length 0 lo)
theorem cut_rep {G : Hp} {ds : List D} {vs : List V} (r : Reps K G ds vs) (lo hi : Option Int) : Reps K G (cutD ds lo hi) (cutV vs lo hi) := by
  unfold cutD cutV
  rw [← r.length]
  exact (r.drop _).take _
def dSl (x : D) (lo hi : Option Int) (Q : QD) : Prop := match x with
  | .lst ds => Q (.lst (cutD ds lo hi))
  | .tup ds => Q (.tup (cutD ds lo hi))
  | .str z => z.length ≤ sizeLine ∧ Q (.str (cutS z lo hi))
  | _ => False
def rSlAll (K : PySem.W.Frag) : V → Option Int → Option Int → Hp → VK → Prop := fun x lo hi H Q => rSlL K x lo hi H Q ∨ (rSlA K x lo hi H Q ∨ rSlS x lo hi H Q)
def xSl (te : TDE) (tl th : TDO) : TDE := fun δ Q E => te δ (fun x => tl δ (fun lo => th δ (fun hi => dSl x lo hi Q) E) E) E
theorem cutD_whole {α : Type} (xs : List α) (lo hi : Option Int) (h : HT.sIx xs.length 0 lo = 0 ∧ HT.sIx xs.length xs.length hi = xs.length) : cutD xs lo hi = xs := by
  unfold cutD
  rw [h.1, h.2]
  simp
theorem d_slice {lo hi : Option Expr} {p2 : Pos} {tl th : TDO} (ha : DE p X W e1 ta) (hl : DO' p X W lo tl) (hh : DO' p X W hi th) : DE p X W (.Subscript e1 (.Slice lo hi none p2) pos) (xSl ta tl th) := by
  obtain ⟨t, h1, h2⟩ := ha
  obtain ⟨u, h3, h4⟩ := hl
  obtain ⟨w, h5, h6⟩ := hh
  refine ⟨_, pe_slice (SlR.or sl_list (SlR.or sl_tupA sl_str)) h1 h3 h5, fun G σ H δ Q Qd Ed r q k x => ?_⟩
  refine h2 G σ H δ _ _ Ed r q (fun G1 H1 v d1 e1 r1 q1 => ?_) x
  refine h4 G1 σ H1 δ _ _ Ed (r.ext e1) q1 (fun G2 H2 lo e2 q2 => ?_) (x.step r.at e1)
  have e12 := e1.trans r.at e2
  refine h6 G2 σ H2 δ _ _ Ed (r.ext e12) q2 (fun G3 H3 hi e3 q3 => ?_) (x.step r.at e12)
  have e13 := e12.trans r.at e3
  have r3 := (r1.mono e2.gg).mono e3.gg
  cases d1 <;> try exact False.elim q3
  · rw [rep_str.mp r3]
    exact .inr (.inr ⟨_, rfl, q3.1, k G3 H3 _ _ e13 (rep_sc rfl) q3.2⟩)
  · obtain ⟨a, vs, rfl, c1, c2⟩ := rep_tupI.mp r3
    refine .inr (.inl ⟨a, vs, rfl, sameT e13.sub c1, fun hw => ?_, fun _ q hq => ?_⟩)
    · rw [← c2.length] at hw
      have q4 : Qd (.tup (cutD _ lo hi)) := q3
      rw [cutD_whole _ _ _ hw] at q4
      exact k G3 H3 _ _ e13 r3 q4
    · exact k _ _ _ _ (e13.trans r.at (Ext.laid e13.sub e13.bag hq)) (rep_tup e13.sub hq (cut_rep c2 _ _)) q3
  · obtain ⟨a, vs, rfl, c1, c2⟩ := rep_lstI.mp r3
    exact .inl ⟨a, vs, rfl, SqL.of (e13.sub _ _ c1), fun q hq => k _ _ _ _ (e13.trans r.at (Ext.laid e13.sub e13.bag hq)) (rep_lst e13.sub hq (cut_rep c2 _ _)) q3⟩

def dLen (xs : List D) (Q : QD) : Prop := match xs with
  | [.str z] => z.length ≤ sizeLine ∧ Q (.int z.length)
  | [.lst ds] => Q (.int ds.length)
  | [.tup ds] => Q (.int ds.length)
  | _ => False
theorem reps1 {G : Hp} {d : D} {vs : List V} (h : Reps K G [d] vs) : ∃ v, vs = [v] ∧ Rep K G d v := by
  obtain ⟨v, r, rfl, h1, h2⟩ := Reps.cons_iff.mp h
  rw [Reps.nil_iff.mp h2]
  exact ⟨v, rfl, h1⟩
theorem r_len : RefC K b (fun xs H Q => ∃ x n, xs = [x] ∧ LenV K x H n ∧ Q (.int n) H) dLen := by
  intro G H xs vs Q Qd s hb rs h k
  unfold dLen at h
  split at h
  · obtain ⟨v, rfl, r⟩ := reps1 rs
    rw [rep_str.mp r]
    exact ⟨_, _, rfl, ⟨h.1, rfl⟩, k G H _ _ (Ext.refl s hb) (rep_sc rfl) h.2⟩
  · obtain ⟨v, rfl, r⟩ := reps1 rs
    obtain ⟨a, vs, rfl, c1, c2⟩ := rep_lstI.mp r
    refine ⟨_, vs.length, rfl, .inl ⟨vs, SqL.of (s _ _ c1), rfl⟩, ?_⟩
    rw [← c2.length]
    exact k G H _ _ (Ext.refl s hb) (rep_sc rfl) h
  · obtain ⟨v, rfl, r⟩ := reps1 rs
    obtain ⟨a, vs, rfl, c1, c2⟩ := rep_tupI.mp r
    refine ⟨_, vs.length, rfl, .inr ⟨vs, sameT s c1, rfl⟩, ?_⟩
    rw [← c2.length]
    exact k G H _ _ (Ext.refl s hb) (rep_sc rfl) h
  · exact h.elim
def dInt (xs : List D) (Q : QD) : Prop := match xs with
  | [.int i] => Q (.int i)
  | [.bl k] => Q (.int (if k then 1 else 0))
  | _ => False
theorem r_int : RefC K b (fun xs H Q => (∃ i, xs = [V.int i] ∧ Q (.int i) H) ∨ ∃ k, xs = [V.bl k] ∧ Q (.int (if k then 1 else 0)) H) dInt := by
  intro G H xs vs Q Qd s hb rs h k
  unfold dInt at h
  split at h
  · obtain ⟨v, rfl, r⟩ := reps1 rs
    rw [rep_int.mp r]
    exact .inl ⟨_, rfl, k G H _ _ (Ext.refl s hb) (rep_sc rfl) h⟩
  · obtain ⟨v, rfl, r⟩ := reps1 rs
    rw [rep_bl.mp r]
    exact .inr ⟨_, rfl, k G H _ _ (Ext.refl s hb) (rep_sc rfl) h⟩
  · exact h.elim
/-- list(x), x a list or tuple -/
def dList (xs : List D) (Q : QD) : Prop := match xs with
  | [.lst ds] => Q (.lst ds)
  | [.tup ds] => Q (.lst ds)
  | _ => False
theorem r_list : RefC K b (fun xs H Q => ∃ p ys, xs = [V.ref p] ∧ (SqL K H p ys ∨ SqT K H p ys) ∧ ∀ l, H l = none → Q (.ref l) (upd H l (.lst ys))) dList := by
  intro G H xs vs Q Qd s hb rs h k
  unfold dList at h
  split at h
  · obtain ⟨v, rfl, r⟩ := reps1 rs
    obtain ⟨a, vs, rfl, c1, c2⟩ := rep_lstI.mp r
    exact ⟨a, vs, rfl, .inl (SqL.of (s _ _ c1)), fun l hl => k _ _ _ _ (Ext.laid s hb hl) (rep_lst s hl c2) h⟩
  · obtain ⟨v, rfl, r⟩ := reps1 rs
    obtain ⟨a, vs, rfl, c1, c2⟩ := rep_tupI.mp r
    exact ⟨a, vs, rfl, .inr (sameT s c1), fun l hl => k _ _ _ _ (Ext.laid s hb hl) (rep_lst s hl c2) h⟩
  · exact h.elim
def dTuple (xs : List D) (Q : QD) : Prop := match xs with
  | [.lst ds] => Q (.tup ds)
  | [.tup ds] => Q (.tup ds)
  | _ => False
theorem r_tuple : RefC K b (fun xs H Q => ∃ p ys, xs = [V.ref p] ∧ ((SqL K H p ys ∧ ∀ l, H l = none → Q (.ref l) (upd H l (.tup ys))) ∨ (SqT K H p ys ∧ Q (.ref p) H))) dTuple := by
  intro G H xs vs Q Qd s hb rs h k
  unfold dTuple at h
  split at h
  · obtain ⟨v, rfl, r⟩ := reps1 rs
    obtain ⟨a, vs, rfl, c1, c2⟩ := rep_lstI.mp r
    exact ⟨a, vs, rfl, .inl ⟨SqL.of (s _ _ c1), fun l hl => k _ _ _ _ (Ext.laid s hb hl) (rep_tup s hl c2) h⟩⟩
  · obtain ⟨v, rfl, r⟩ := reps1 rs
    obtain ⟨a, vs, rfl, c1, c2⟩ := rep_tupI.mp r
    exact ⟨a, vs, rfl, .inr ⟨sameT s c1, k _ _ _ _ (Ext.refl s hb) r h⟩⟩
  · exact h.elim
/-- bools as data -/
def blsD : List D → Option (List Bool)
  | [] => some []
  | .bl k :: r => (blsD r).map fun ks => k :: ks
  | _ :: _ => none
theorem blsD_rep {G : Hp} : ∀ {ds : List D} {vs : List V} {ks : List Bool}, Reps K G ds vs → blsD ds = some ks → vs = ks.map V.bl
  | [], vs, ks, r, e => by
    cases e
    rw [Reps.nil_iff.mp r]; rfl
  | d :: ds, vs, ks, r, e => by
    obtain ⟨v, w, rfl, h1, h2⟩ := Reps.cons_iff.mp r
    cases d with
    | bl kk =>
      obtain ⟨ks', e1, rfl⟩ := Option.map_eq_some_iff.mp (show (blsD ds).map (fun ks => kk :: ks) = some ks from e)
      rw [rep_bl.mp h1, blsD_rep h2 e1]; rfl
    | _ => cases e
def dAll (f : List Bool → Bool) (xs : List D) (Q : QD) : Prop := match xs with
  | [.lst ds] => ∃ ks, blsD ds = some ks ∧ Q (.bl (f ks))
  | _ => False
theorem r_all : RefC K b (rAll K) (dAll fun ks => ks.all id) := by
  intro G H xs vs Q Qd s hb rs h k
  unfold dAll at h
  split at h
  · obtain ⟨v, rfl, r⟩ := reps1 rs
    obtain ⟨a, vs, rfl, c1, c2⟩ := rep_lstI.mp r
    obtain ⟨ks, h1, h2⟩ := h
    refine ⟨a, ks, rfl, SqL.of ?_, k _ _ _ _ (Ext.refl s hb) (rep_sc rfl) h2⟩
    rw [← blsD_rep c2 h1]
    exact s _ _ c1
  · exact h.elim
theorem r_any : RefC K b (rAny K) (dAll fun ks => ks.any id) := by
  intro G H xs vs Q Qd s hb rs h k
  unfold dAll at h
  split at h
  · obtain ⟨v, rfl, r⟩ := reps1 rs
    obtain ⟨a, vs, rfl, c1, c2⟩ := rep_lstI.mp r
    obtain ⟨ks, h1, h2⟩ := h
    refine ⟨a, ks, rfl, SqL.of ?_, k _ _ _ _ (Ext.refl s hb) (rep_sc rfl) h2⟩
    rw [← blsD_rep c2 h1]
    exact s _ _ c1
  · exact h.elim

/-- a method's reading: the receiver, the arguments -/
def RefM (K : PySem.W.Frag) (b : Bag) (T : String) (r : V → List V → Hp → VK → Prop) (rd : D → List D → QD → Prop) : Prop :=
  ∀ (G H : Hp) (x : D) (xs : List D) (v : V) (vs : List V) (Q : VK) (Qd : QD), Same G H → BagOk K b G H → Rep K G x v → Reps K G xs vs → rd x xs Qd →
    (∀ G' H' w d, Ext K b G H G' H' → Rep K G' d w → Qd d → Q w H') → r v vs H Q
/-- the receiver's type -/
def tyD (T : String) : D → Prop
  | .str _ => T = "str"
  | .int _ => T = "int"
  | .lst _ => T = "list"
  | .dic _ => T = "dict"
  | _ => False
theorem tyD_ok {G H : Hp} {T : String} {x : D} {v : V} (s : Same G H) (r : Rep K G x v) (h : tyD T x) : tyV K T v H := by
  cases x <;> try exact h.elim
  · rw [rep_int.mp r]; exact h
  · rw [rep_str.mp r]; exact h
  · obtain ⟨a, vs, rfl, c1, c2⟩ := rep_lstI.mp r
    exact .inl ⟨h, vs, SqL.of (s _ _ c1)⟩
  · obtain ⟨a, vs, rfl, c1, c2⟩ := rep_dicI.mp r
    exact .inr (.inr (.inl ⟨h, .inl ⟨vs, s _ _ c1⟩⟩))
def xMeth (T : String) (rd : D → List D → QD → Prop) (to : TDE) (ts : TDA) : TDE := fun δ Q E => to δ (fun x => tyD T x ∧ ts δ (fun xs => rd x xs Q) E) E
def xMeth0 (T : String) (rd : D → List D → QD → Prop) (to : TDE) : TDE := fun δ Q E => to δ (fun x => tyD T x ∧ rd x [] Q) E
theorem d_bm {T id : String} {name : Str} {apos cpos : Pos} {o e : Expr} {es : List Expr} {to : TDE} {ts : TDA} {r : V → List V → Hp → VK → Prop} {rd : D → List D → QD → Prop}
    (pa : PlainAttrs T) (slot : Slot T name id) (hty : typeOf (.builtin id) = pure (.type "method_descriptor")) (hm : MtR X id r) (hr : RefM X.K p.b T r rd) (ho : DE p X W o to) (ha : DA p X W (e :: es) ts)
    (hbase : attributeBase o name X.env (eval o X.env) = eval o X.env := by rfl)
    (hfew : ((backTo cpos (starEach (e :: es) X.env)).all (fun x => !x.1) && (backToKw cpos (keywordEach [] X.env)).all (fun x => x.1.isSome)
      && decide ((e :: es).length + ([] : List Keyword).length + (if ([] : List Keyword).isEmpty then 0 else 1) < 30)) = true := by rfl)
    (hline : (apos.endLine == cpos.line) = true := by rfl) (hs : starEach (e :: es) X.env = (false, eval e X.env) :: starEach es X.env := by rfl) (hplain : (backTo cpos (starEach es X.env)).any (·.1) = false := by rfl) :
    DE p X W (.Call (.Attribute o name apos) (e :: es) [] cpos) (xMeth T rd to ts) := by
  obtain ⟨t, h1, h2⟩ := ho
  obtain ⟨u, h3, h4⟩ := ha
  refine ⟨_, pe_bm pa slot hty hm h1 h3 hbase hfew hline hs hplain, fun G σ H δ Q Qd Ed r q k x => ?_⟩
  refine h2 G σ H δ _ _ Ed r q (fun G1 H1 v d1 e1 r1 q1 => ?_) x
  refine ⟨tyD_ok e1.sub r1 q1.1, ?_⟩
  refine h4 G1 σ H1 δ _ _ Ed (r.ext e1) q1.2 (fun G2 H2 vs ds e2 r2 q2 => ?_) (x.step r.at e1)
  have e12 := e1.trans r.at e2
  exact hr G2 H2 d1 ds v vs Q Qd e12.sub e12.bag (r1.mono e2.gg) r2 q2 fun G3 H3 w d e3 r3 q3 => k G3 H3 w d (e12.trans r.at e3) r3 q3
theorem d_bm0 {T id : String} {name : Str} {apos cpos : Pos} {o : Expr} {to : TDE} {r : V → List V → Hp → VK → Prop} {rd : D → List D → QD → Prop}
    (pa : PlainAttrs T) (slot : Slot T name id) (hty : typeOf (.builtin id) = pure (.type "method_descriptor")) (hm : MtR X id r) (hr : RefM X.K p.b T r rd) (ho : DE p X W o to)
    (hbase : attributeBase o name X.env (eval o X.env) = eval o X.env := by rfl) (hline : (apos.endLine == cpos.line) = true := by rfl) : DE p X W (.Call (.Attribute o name apos) [] [] cpos) (xMeth0 T rd to) := by
  obtain ⟨t, h1, h2⟩ := ho
  refine ⟨_, pe_bm0 pa slot hty hm h1 hbase hline, fun G σ H δ Q Qd Ed r q k x => ?_⟩
  refine h2 G σ H δ _ _ Ed r q (fun G1 H1 v d1 e1 r1 q1 => ?_) x
  refine ⟨tyD_ok e1.sub r1 q1.1, ?_⟩
  exact hr G1 H1 d1 [] v [] Q Qd e1.sub e1.bag r1 Reps.nil q1.2 fun G3 H3 w d e3 r3 q3 => k G3 H3 w d (e1.trans r.at e3) r3 q3
/-- texts as data -/
def strsD : List D → Option (List Str)
  | [] => some []
  | .str k :: r => (strsD r).map fun ks => k :: ks
  | _ :: _ => none
theorem strsD_rep {G : Hp} : ∀ {ds : List D} {vs : List V} {ks : List Str}, Reps K G ds vs → strsD ds = some ks → vs = ks.map V.str
  | [], vs, ks, r, e => by
    cases e
    rw [Reps.nil_iff.mp r]; rfl
  | d :: ds, vs, ks, r, e => by
    obtain ⟨v, w, rfl, h1, h2⟩ := Reps.cons_iff.mp r
    cases d with
    | str kk =>
      obtain ⟨ks', e1, rfl⟩ := Option.map_eq_some_iff.mp (show (strsD ds).map (fun ks => kk :: ks) = some ks from e)
      rw [rep_str.mp h1, strsD_rep h2 e1]; rfl
    | _ => cases e
def dJoin (x : D) (xs : List D) (Q : QD) : Prop := match x, xs with
  | .str a, [.lst ds] => ∃ ks, strsD ds = some ks ∧ (ks.map (·.length)).sum + ks.length * a.length ≤ 16777216 ∧ Q (.str (Txt.join a ks))
  | .str a, [.tup ds] => ∃ ks, strsD ds = some ks ∧ (ks.map (·.length)).sum + ks.length * a.length ≤ 16777216 ∧ Q (.str (Txt.join a ks))
  | _, _ => False
theorem r_join : RefM K b "str" (fun x xs H Q => ∃ a p, ∃ ys : List Str, x = .str a ∧ xs = [.ref p] ∧ (SqL K H p (ys.map V.str) ∨ SqT K H p (ys.map V.str)) ∧
    (ys.map (·.length)).sum + ys.length * a.length ≤ 16777216 ∧ Q (.str (Txt.join a ys)) H) dJoin := by
  intro G H x xs v vs Q Qd s hb rx rs h k
  unfold dJoin at h
  split at h
  · obtain ⟨w, rfl, r⟩ := reps1 rs
    obtain ⟨a, us, rfl, c1, c2⟩ := rep_lstI.mp r
    obtain ⟨ks, h1, h2, h3⟩ := h
    refine ⟨_, a, ks, rep_str.mp rx, rfl, .inl (SqL.of ?_), h2, k _ _ _ _ (Ext.refl s hb) (rep_sc rfl) h3⟩
    rw [← strsD_rep c2 h1]
    exact s _ _ c1
  · obtain ⟨w, rfl, r⟩ := reps1 rs
    obtain ⟨a, us, rfl, c1, c2⟩ := rep_tupI.mp r
    obtain ⟨ks, h1, h2, h3⟩ := h
    refine ⟨_, a, ks, rep_str.mp rx, rfl, .inr ?_, h2, k _ _ _ _ (Ext.refl s hb) (rep_sc rfl) h3⟩
    rw [← strsD_rep c2 h1]
    exact sameT s c1
  · exact h.elim
end
end DL

namespace DL
open PySem PySem.Spec PyProof.Rows L2

structure DEnds where
  nx : DSt → Prop
  rt : D → Prop
  bk : DSt → Prop := fun _ => False
  ct : DSt → Prop := fun _ => False
  xc : Str → List (Str × D) → DSt → Prop := fun _ _ _ => False
abbrev TDS := DEnds → DSt → Prop
structure EndsOk (K : PySem.W.Frag) (p : Pr) (Gb : Hp) (W : WX) (D : Ends) (Dd : DEnds) : Prop where
  nx : ∀ G σ H δ, Same Gb G → DR K p G σ H δ → Dd.nx δ → D.nx σ H
  rt : ∀ G σ H δ v d, Same Gb G → DR K p G σ H δ → Rep K G d v → Dd.rt d → D.rt v H
  bk : ∀ G σ H δ, Same Gb G → DR K p G σ H δ → Dd.bk δ → D.bk σ H
  ct : ∀ G σ H δ, Same Gb G → DR K p G σ H δ → Dd.ct δ → D.ct σ H
  xc : ∀ G σ H δ c fs d vs, Same Gb G → DR K p G σ H δ → G d = some (.xd vs) → RepsF K G fs vs → Dd.xc c fs δ → W (.ref (He.ga K c)) (some d) σ H
def RefS (K : PySem.W.Frag) (p : Pr) (W : WX) (t : TS) (td : TDS) : Prop :=
  ∀ (Gb G : Hp) (σ : VSt) (H : Hp) (δ : DSt) (D : Ends) (Dd : DEnds), Same Gb G → DR K p G σ H δ → td Dd δ → EndsOk K p Gb W D Dd → t D σ H
structure DS (p : Pr) (X : Cx) (W : WX) (st : Stmt) (td : TDS) : Prop where
  ex : ∃ t : TS, PS X st t ∧ RefS X.K p W t td
structure DSs (p : Pr) (X : Cx) (W : WX) (st : List Stmt) (td : TDS) : Prop where
  ex : ∃ t : TS, PSs X st t ∧ RefS X.K p W t td
section
variable {p : Pr} {X : Cx} {W : WX} {K : PySem.W.Frag} {Gb G H : Hp} {σ : VSt} {δ : DSt} {D' : Ends} {Dd : DEnds}
theorem EndsOk.mono {Gb' : Hp} (h : EndsOk K p Gb W D' Dd) (e : Same Gb Gb') : EndsOk K p Gb' W D' Dd :=
  ⟨fun G σ H δ s => h.nx G σ H δ (e.trans s), fun G σ H δ v d s => h.rt G σ H δ v d (e.trans s), fun G σ H δ s => h.bk G σ H δ (e.trans s), fun G σ H δ s => h.ct G σ H δ (e.trans s), fun G σ H δ c fs d vs s => h.xc G σ H δ c fs d vs (e.trans s)⟩
/-- the wish about exceptions, from a state on -/
theorem EndsOk.x (h : EndsOk K p Gb W D' Dd) (s : Same Gb G) (r : DR K p G σ H δ) : XOk K p.b W G σ H (fun c fs => Dd.xc c fs δ) :=
  fun G' H' c fs d vs e h1 h2 h3 => h.xc G' σ H' δ c fs d vs (s.trans e.gg) (r.ext e) h1 h2 h3

def yNext : TDS := fun Dd δ => Dd.nx δ
def ySeq (t u : TDS) : TDS := fun Dd δ => t { Dd with nx := u Dd } δ
variable {st : Stmt} {rest : List Stmt} {t u : TDS} {e c : Expr} {te : TDE} {tt : TDT} {pos : Pos}
theorem dss_nil : DSs p X W [] yNext := ⟨_, pss_nil, fun Gb G σ H δ D Dd s r q h => h.nx G σ H δ s r q⟩
theorem dss_cons (h1 : DS p X W st t) (h2 : DSs p X W rest u) : DSs p X W (st :: rest) (ySeq t u) := by
  obtain ⟨a, a1, a2⟩ := h1
  obtain ⟨b, b1, b2⟩ := h2
  refine ⟨_, pss_cons a1 b1, fun Gb G σ H δ D Dd s r q h => ?_⟩
  exact a2 Gb G σ H δ _ _ s r q ⟨fun G σ H δ s r q => b2 Gb G σ H δ D Dd s r q h, h.rt, h.bk, h.ct, h.xc⟩
theorem dss_one (h1 : DS p X W st t) : DSs p X W [st] t := by
  obtain ⟨a, a1, a2⟩ := h1
  exact ⟨_, pss_one a1, a2⟩
def yBreak : TDS := fun Dd δ => Dd.bk δ
def yCont : TDS := fun Dd δ => Dd.ct δ
theorem ds_pass : DS p X W (.Pass pos) yNext := ⟨_, ps_pass, fun Gb G σ H δ D Dd s r q h => h.nx G σ H δ s r q⟩
theorem ds_break : DS p X W (.Break pos) yBreak := ⟨_, ps_break, fun Gb G σ H δ D Dd s r q h => h.bk G σ H δ s r q⟩
theorem ds_continue : DS p X W (.Continue pos) yCont := ⟨_, ps_continue, fun Gb G σ H δ D Dd s r q h => h.ct G σ H δ s r q⟩
theorem ds_doc {x : Str} {j pos pos'} : DS p X W (.Expr (.Constant (.str x) j pos) pos') yNext := ⟨_, ps_doc, fun Gb G σ H δ D Dd s r q h => h.nx G σ H δ s r q⟩
def yNever : TDS := fun _ _ => False
theorem ds_never : DS p X W st yNever := ⟨_, ps_never, fun Gb G σ H δ D Dd s r q h => q.elim⟩
theorem dss_never {sts : List Stmt} : DSs p X W sts yNever := ⟨_, pss_never, fun Gb G σ H δ D Dd s r q h => q.elim⟩

/-- an expression of whose value nothing is kept: the own things stay own -/
def yExpr (S : List Nat) (te : TDE) : TDS := fun Dd δ => te (frz S δ) (fun _ => Dd.nx δ) (fun c fs => Dd.xc c fs (frz S δ))
theorem ds_expr (S : List Nat) (he : DE p X W e te) (hs : swapsWith e none pos.line X.env = pure false := by rfl) : DS p X W (.Expr e pos) (yExpr S te) := by
  obtain ⟨a, a1, a2⟩ := he
  refine ⟨_, ps_expr a1 hs, fun Gb G σ H δ D Dd s r q h => ?_⟩
  obtain ⟨G1, g1, r1⟩ := DR.freeze (S := S) r
  exact a2 G1 σ H _ _ _ _ r1 q (fun G2 H2 v d e2 _ q2 => h.nx G σ H2 δ s (r.back e2.keep e2.bag) q2) (h.x (s.trans g1) r1)
def yRet (S : List Nat) (te : TDE) : TDS := fun Dd δ => te (frz S δ) Dd.rt (fun c fs => Dd.xc c fs (frz S δ))
theorem ds_ret (S : List Nat) (he : DE p X W e te) : DS p X W (.Return (some e) pos) (yRet S te) := by
  obtain ⟨a, a1, a2⟩ := he
  refine ⟨_, ps_ret a1, fun Gb G σ H δ D Dd s r q h => ?_⟩
  obtain ⟨G1, g1, r1⟩ := DR.freeze (S := S) r
  exact a2 G1 σ H _ _ _ _ r1 q (fun G2 H2 v d e2 r2 q2 => h.rt G2 σ H2 _ v d ((s.trans g1).trans e2.gg) (r1.ext e2) r2 q2) (h.x (s.trans g1) r1)
def yRetN : TDS := fun Dd _ => Dd.rt .non
theorem ds_retN : DS p X W (.Return none pos) yRetN := ⟨_, ps_retN, fun Gb G σ H δ D Dd s r q h => h.rt G σ H δ _ _ s r (rep_sc rfl) q⟩
def yIf (S : List Nat) (tt : TDT) (t u : TDS) : TDS := fun Dd δ => tt (frz S δ) (fun k => if k = true then t Dd δ else u Dd δ) (fun c fs => Dd.xc c fs (frz S δ))
theorem ds_if (S : List Nat) {a b : List Stmt} (hc : DT p X W c tt) (ha : DSs p X W a t) (hb : DSs p X W b u) : DS p X W (.If c a b pos) (yIf S tt t u) := by
  obtain ⟨x, x1, x2⟩ := hc
  obtain ⟨y, y1, y2⟩ := ha
  obtain ⟨z, z1, z2⟩ := hb
  refine ⟨_, ps_if x1 y1 z1, fun Gb G σ H δ D Dd s r q h => ?_⟩
  obtain ⟨G1, g1, r1⟩ := DR.freeze (S := S) r
  refine x2 G1 σ H _ _ _ _ r1 q (fun G2 H2 k e2 q2 => ?_) (h.x (s.trans g1) r1)
  cases k with
  | true =>
    rw [if_pos rfl] at q2 ⊢
    exact y2 Gb G σ H2 δ D Dd s (r.back e2.keep e2.bag) q2 h
  | false =>
    rw [if_neg Bool.false_ne_true] at q2 ⊢
    exact z2 Gb G σ H2 δ D Dd s (r.back e2.keep e2.bag) q2 h
/-- is it a scalar -/
def D.sc : D → Bool
  | .non => true
  | .bl _ => true
  | .int _ => true
  | .str _ => true
  | .ty _ => true
  | .adr _ => true
  | _ => false
theorem rep_of_sc {d : D} {v : V} {G G' : Hp} (h : d.sc = true) (r : Rep K G d v) : Rep K G' d v := by
  cases d <;> first | (unfold Rep at r ⊢; exact r) | exact absurd (show false = true from h) Bool.false_ne_true
/-- x = e -/
def ySet (S : List Nat) (i : Nat) (te : TDE) : TDS := fun Dd δ => te (frz S δ) (fun d => Dd.nx ((if d.sc = true then δ else frz S δ).set i (.val d))) (fun c fs => Dd.xc c fs (frz S δ))
theorem refSet {a : TE} (S : List Nat) (i : Nat) (a2 : RefE K p W a te) : RefS K p W (tAsg a (gName i)) (ySet S i te) := by
  intro Gb G σ H δ D Dd s r q h
  obtain ⟨G1, g1, r1⟩ := DR.freeze (S := S) r
  refine a2 G1 σ H _ _ _ _ r1 q (fun G2 H2 v d e2 r2 q2 => ?_) (h.x (s.trans g1) r1)
  by_cases hd : d.sc = true
  · rw [if_pos hd] at q2
    exact h.nx G _ H2 _ s ((r.back e2.keep e2.bag).set (s := .val d) ⟨v, rfl, rep_of_sc hd r2⟩) q2
  · rw [if_neg hd] at q2
    exact h.nx G2 _ H2 _ ((s.trans g1).trans e2.gg) ((r1.ext e2).set (s := .val d) ⟨v, rfl, r2⟩) q2
theorem ds_set (S : List Nat) (i : Nat) {x : Str} {pos' : Pos} (hN : X.N.Nodup) (he : DE p X W e te) (hi : X.N[i]? = some x := by rfl) (hx : Loc X.env.scope x := by first | exact .inl rfl | exact .inr rfl) (hs : swapsWith e (some (.Name x pos')) pos.line X.env = pure false := by rfl)
    (hf : X.fn x = true ∨ X.env.scope.names.lookup x = some .local := by first | exact .inl rfl | exact .inr rfl | assumption) : DS p X W (.Assign [.Name x pos'] e pos) (ySet S i te) := by
  obtain ⟨a, a1, a2⟩ := he
  exact ⟨_, ps_set hN hi hx a1 hs hf, refSet S i a2⟩

abbrev TDG := D → DSt → (DSt → Prop) → Prop
/-- the slots outside of vs stay -/
def Outs (vs : List Nat) (σ σ' : VSt) : Prop := σ'.length = σ.length ∧ ∀ j, j ∉ vs → σ'[j]? = σ[j]?
theorem Outs.refl {vs : List Nat} {σ : VSt} : Outs vs σ σ := ⟨rfl, fun _ _ => rfl⟩
theorem Outs.trans {vs ws : List Nat} {σ σ1 σ2 : VSt} (a : Outs vs σ σ1) (b : Outs ws σ1 σ2) : Outs (vs ++ ws) σ σ2 :=
  ⟨b.1.trans a.1, fun j h => by
    rw [List.mem_append, not_or] at h
    exact (b.2 j h.2).trans (a.2 j h.1)⟩
def RefG (K : PySem.W.Frag) (p : Pr) (ix : List Nat) (g : TG) (gd : TDG) : Prop :=
  ∀ (G : Hp) (σ : VSt) (H : Hp) (δ : DSt) (d : D) (v : V) (Q : VSt → Hp → Prop) (Qd : DSt → Prop), DR K p G σ H δ → Rep K G d v → gd d δ Qd →
    (∀ G' σ' H' δ', Same G G' → DR K p G' σ' H' δ' → (∀ a o, a ≠ p.b.a → H a = some o → H' a = some o) → (∀ a, H a ≠ none → G' a ≠ none → G a ≠ none) → Outs ix σ σ' → Qd δ' → Q σ' H') → g v σ H Q
structure DG (p : Pr) (X : Cx) (tg : Expr) (ix : List Nat) (gd : TDG) : Prop where
  ex : ∃ g : TG, PG X tg g ∧ RefG X.K p ix g gd
abbrev TDGs := List D → DSt → (DSt → Prop) → Prop
def RefGs (K : PySem.W.Frag) (p : Pr) (ix : List Nat) (g : TGs) (gd : TDGs) : Prop :=
  ∀ (G : Hp) (σ : VSt) (H : Hp) (δ : DSt) (ds : List D) (vs : List V) (Q : VSt → Hp → Prop) (Qd : DSt → Prop), DR K p G σ H δ → Reps K G ds vs → gd ds δ Qd →
    (∀ G' σ' H' δ', Same G G' → DR K p G' σ' H' δ' → (∀ a o, a ≠ p.b.a → H a = some o → H' a = some o) → (∀ a, H a ≠ none → G' a ≠ none → G a ≠ none) → Outs ix σ σ' → Qd δ' → Q σ' H') → g vs σ H Q
structure DGs (p : Pr) (X : Cx) (tgs : List Expr) (ix : List Nat) (gd : TDGs) : Prop where
  ex : ∃ g : TGs, PGs X tgs g ∧ RefGs X.K p ix g gd
def zName (i : Nat) : TDG := fun d δ Q => Q (δ.set i (.val d))
theorem dg_name (i : Nat) {x : Str} (hN : X.N.Nodup) (hi : X.N[i]? = some x := by rfl) (hx : Loc X.env.scope x := by first | exact .inl rfl | exact .inr rfl)
    (hf : X.fn x = true ∨ X.env.scope.names.lookup x = some .local := by first | exact .inl rfl | exact .inr rfl | assumption) : DG p X (.Name x pos) [i] (zName i) :=
  ⟨_, pg_name hN hi hx hf, fun G σ H δ d v Q Qd r rv q k => k G _ H _ (Same.refl _) (r.set (s := .val d) ⟨v, rfl, rv⟩) (fun _ _ _ h => h) (fun _ _ h => h)
    ⟨List.length_set, fun j hj => List.getElem?_set_ne (fun e => hj (by rw [e]; exact List.mem_cons_self))⟩ q⟩
def zNil : TDGs := fun ds δ Q => ds = [] ∧ Q δ
def zCons (g : TDG) (gs : TDGs) : TDGs := fun ds δ Q => match ds with
  | d :: r => g d δ fun δ1 => gs r δ1 Q
  | [] => False
theorem dgs_nil : DGs p X [] [] zNil := ⟨_, pgs_nil, fun G σ H δ ds vs Q Qd r rv q k => by
  obtain ⟨rfl, q⟩ := q
  rw [Reps.nil_iff.mp rv]
  exact ⟨rfl, k G σ H δ (Same.refl _) r (fun _ _ _ h => h) (fun _ _ h => h) Outs.refl q⟩⟩
theorem dgs_cons {e1 : Expr} {es : List Expr} {g : TDG} {gs : TDGs} {ix iy : List Nat} (h1 : DG p X e1 ix g) (h2 : DGs p X es iy gs) (hs : (assignEach (e1 :: es) X.env).map (·.2) = assign e1 X.env :: (assignEach es X.env).map (·.2) := by rfl) : DGs p X (e1 :: es) (ix ++ iy) (zCons g gs) := by
  obtain ⟨a, a1, a2⟩ := h1
  obtain ⟨b, b1, b2⟩ := h2
  refine ⟨_, pgs_cons a1 b1 hs, fun G σ H δ ds vs Q Qd r rv q k => ?_⟩
  cases ds with
  | nil => exact q.elim
  | cons d ds =>
    obtain ⟨v, w, rfl, r1, r2⟩ := Reps.cons_iff.mp rv
    refine ⟨v, w, rfl, ?_⟩
    refine a2 G σ H δ d v _ _ r r1 q fun G1 σ1 H1 δ1 s1 d1 k1 n1 o1 q1 => ?_
    exact b2 G1 σ1 H1 δ1 ds w _ _ d1 (r2.mono s1) q1 fun G2 σ2 H2 δ2 s2 d2 k2 n2 o2 q2 => k G2 σ2 H2 δ2 (s1.trans s2) d2 (fun a o n h => k2 a o n (k1 a o n h))
      (fun a h g => n1 a h (n2 a (by
        by_cases e : a = p.b.a
        · rw [e]; exact d1.at
        · cases z : H a with
          | none => exact absurd z h
          | some o => rw [k1 a o e z]; exact fun y => nomatch y) g)) (o1.trans o2) q2
def zTup (n : Nat) (gs : TDGs) : TDG := fun d δ Q => match d with
  | .tup ds => ds.length = n ∧ gs ds δ Q
  | _ => False
theorem dg_tup {es : List Expr} {k : Nat} {gs : TDGs} {ix : List Nat} {n : Nat} (hc : X.calm = true) (h : DGs p X es ix gs)
    (hn : (assignEach es X.env).length = n := by rfl) (hst : (assignEach es X.env).findIdx? (·.1) = none := by rfl) : DG p X (.Tuple es k pos) ix (zTup n gs) := by
  obtain ⟨a, a1, a2⟩ := h
  refine ⟨_, pg_tup hc a1 hn hst, fun G σ H δ d v Q Qd r rv q k => ?_⟩
  cases d <;> try exact q.elim
  obtain ⟨c, vs, rfl, c1, c2⟩ := rep_tupI.mp rv
  exact ⟨c, vs, rfl, sameT r.sub c1, by rw [← c2.length]; exact q.1, a2 G σ H δ _ vs _ _ r c2 q.2 k⟩
/-- target = e, the target no plain name -/
def yAsg (S : List Nat) (te : TDE) (g : TDG) : TDS := fun Dd δ => te (frz S δ) (fun d => g d (frz S δ) Dd.nx) (fun c fs => Dd.xc c fs (frz S δ))
theorem ds_asg (S : List Nat) {tg : Expr} {g : TDG} {ix : List Nat} (he : DE p X W e te) (hg : DG p X tg ix g) (hs : swapsWithSole [tg] e pos.line X.env = pure false := by rfl) (hw : swappedStores [tg] e X.env = pure none := by rfl)
    (h1 : (assignEach [tg] X.env).map (·.2) = [assign tg X.env] := by rfl) : DS p X W (.Assign [tg] e pos) (yAsg S te g) := by
  obtain ⟨a, a1, a2⟩ := he
  obtain ⟨b, b1, b2⟩ := hg
  refine ⟨_, ps_asg a1 b1 hs hw h1, fun Gb G σ H δ D Dd s r q h => ?_⟩
  obtain ⟨G1, g1, r1⟩ := DR.freeze (S := S) r
  refine a2 G1 σ H _ _ _ _ r1 q (fun G2 H2 v d e2 r2 q2 => ?_) (h.x (s.trans g1) r1)
  exact b2 G2 σ H2 _ d v _ _ (r1.ext e2) r2 q2 fun G3 σ3 H3 δ3 s3 r3 _ _ _ q3 => h.nx G3 σ3 H3 δ3 (((s.trans g1).trans e2.gg).trans s3) r3 q3

structure ItOk (K : PySem.W.Frag) (b : Bag) (G1 : Hp) (J : It) (items : List D) : Prop where
  go : ∀ G H i, Same G1 G → Same G H → i < items.length → J.go i H
  stop : ∀ G H, Same G1 G → Same G H → J.stop items.length H
  yld : ∀ G H i x H', Same G1 G → Same G H → BagOk K b G H → i < items.length → J.yld i H x H' → ∃ G' d, items[i]? = some d ∧ Ext K b G H G' H' ∧ Rep K G' d x
abbrev TDI := DSt → (List D → Prop) → XD → Prop
def RefI (K : PySem.W.Frag) (p : Pr) (W : WX) (wi : TI) (ti : TDI) : Prop :=
  ∀ (G : Hp) (σ : VSt) (H : Hp) (δ : DSt) (R : It → Hp → Prop) (Rd : List D → Prop) (Ed : XD), DR K p G σ H δ → ti δ Rd Ed →
    (∀ G' H' J items, Ext K p.b G H G' H' → ItOk K p.b G' J items → Rd items → R J H') → XOk K p.b W G σ H Ed → wi σ H R
structure DI (p : Pr) (X : Cx) (W : WX) (tg iter : Expr) (ti : TDI) : Prop where
  ex : ∃ wi : TI, PI X tg iter wi ∧ RefI X.K p W wi ti
theorem itl_ok {b : Bag} {G1 : Hp} {a : Addr} {ds : List D} {vs : List V} (h : G1 a = some (.lst vs)) (r : Reps K G1 ds vs) : ItOk K b G1 (Itl K a) ds := by
  have l := r.length
  refine ⟨fun G H i s1 s2 hi => ?_, fun G H s1 s2 => ?_, fun G H i x H' s1 s2 hb hi hy => ?_⟩
  · exact ⟨vs, vs[i]'(by rw [← l]; exact hi), SqL.of (s2 _ _ (s1 _ _ h)), by simp [l ▸ hi]⟩
  · exact ⟨vs, SqL.of (s2 _ _ (s1 _ _ h)), by rw [l]; exact Nat.le_refl _⟩
  · obtain ⟨rfl, hy⟩ := hy
    obtain ⟨d, h1, h2⟩ := r.getV (hy vs (SqL.of (s2 _ _ (s1 _ _ h))))
    exact ⟨G, d, h1, Ext.refl s2 hb, h2.mono s1⟩
theorem itt_ok {b : Bag} {G1 : Hp} {a : Addr} {ds : List D} {vs : List V} (h : SqT K G1 a vs) (r : Reps K G1 ds vs) : ItOk K b G1 (Itt K a) ds := by
  have l := r.length
  refine ⟨fun G H i s1 s2 hi => ?_, fun G H s1 s2 => ?_, fun G H i x H' s1 s2 hb hi hy => ?_⟩
  · exact ⟨vs, vs[i]'(by rw [← l]; exact hi), sameT s2 (sameT s1 h), by simp [l ▸ hi]⟩
  · exact ⟨vs, sameT s2 (sameT s1 h), by rw [l]; exact Nat.le_refl _⟩
  · obtain ⟨rfl, hy⟩ := hy
    obtain ⟨d, h1, h2⟩ := r.getV (hy vs (sameT s2 (sameT s1 h)))
    exact ⟨G, d, h1, Ext.refl s2 hb, h2.mono s1⟩
def rangeD (lo : Int) (n : Nat) : List D := (List.range n).map fun (k : Nat) => D.int (lo + ((k : Nat) : Int))
theorem itr_ok {b : Bag} {G1 : Hp} (lo : Int) (n : Nat) : ItOk K b G1 (Itr lo n) (rangeD lo n) := by
  have l : (rangeD lo n).length = n := by unfold rangeD; simp
  refine ⟨fun G H i s1 s2 hi => by rw [l] at hi; exact hi, fun G H s1 s2 => by rw [l]; exact Nat.le_refl _, fun G H i x H' s1 s2 hb hi hy => ?_⟩
  obtain ⟨rfl, rfl⟩ := hy
  rw [l] at hi
  exact ⟨G, .int (lo + (i : Int)), by unfold rangeD; simp [hi], Ext.refl s2 hb, rep_sc rfl⟩
/-- the signs of a text -/
def signsD (z : Str) : List D := z.cps.toList.map fun c => .str ⟨#[c]⟩
theorem its_ok {b : Bag} {G1 : Hp} (z : Str) : ItOk K b G1 (Its z) (signsD z) := by
  have l : (signsD z).length = z.cps.size := by unfold signsD; simp
  refine ⟨fun G H i s1 s2 hi => by rw [l] at hi; exact hi, fun G H s1 s2 => by rw [l]; exact Nat.le_refl _, fun G H i x H' s1 s2 hb hi hy => ?_⟩
  obtain ⟨rfl, c, h1, rfl⟩ := hy
  refine ⟨G, .str ⟨#[c]⟩, ?_, Ext.refl s2 hb, rep_sc rfl⟩
  unfold signsD
  rw [List.getElem?_map, Array.getElem?_toList, h1]; rfl
/-- iteration over a list -/
def xiSeq (te : TDE) : TDI := fun δ R E => te δ (fun d => match d with | .lst ds => R ds | _ => False) E
def xiTup (te : TDE) : TDI := fun δ R E => te δ (fun d => match d with | .tup ds => R ds | _ => False) E
def xiStr (te : TDE) : TDI := fun δ R E => te δ (fun d => match d with | .str z => R (signsD z) | _ => False) E
variable {tg : Expr}
theorem di_list (he : DE p X W e te) : DI p X W tg e (xiSeq te) := by
  obtain ⟨a, a1, a2⟩ := he
  refine ⟨_, pi_list a1, fun G σ H δ R Rd Ed r q k x => ?_⟩
  refine a2 G σ H δ _ _ Ed r q (fun G1 H1 v d e1 r1 q1 => ?_) x
  cases d <;> try exact q1.elim
  obtain ⟨c, vs, rfl, c1, c2⟩ := rep_lstI.mp r1
  exact ⟨c, rfl, ⟨vs, SqL.of (e1.sub _ _ c1)⟩, k G1 H1 _ _ e1 (itl_ok c1 c2) q1⟩
theorem di_tup (he : DE p X W e te) : DI p X W tg e (xiTup te) := by
  obtain ⟨a, a1, a2⟩ := he
  refine ⟨_, pi_tup a1, fun G σ H δ R Rd Ed r q k x => ?_⟩
  refine a2 G σ H δ _ _ Ed r q (fun G1 H1 v d e1 r1 q1 => ?_) x
  cases d <;> try exact q1.elim
  obtain ⟨c, vs, rfl, c1, c2⟩ := rep_tupI.mp r1
  exact ⟨c, rfl, ⟨vs, sameT e1.sub c1⟩, k G1 H1 _ _ e1 (itt_ok c1 c2) q1⟩
theorem di_str (he : DE p X W e te) : DI p X W tg e (xiStr te) := by
  obtain ⟨a, a1, a2⟩ := he
  refine ⟨_, pi_str a1, fun G σ H δ R Rd Ed r q k x => ?_⟩
  refine a2 G σ H δ _ _ Ed r q (fun G1 H1 v d e1 r1 q1 => ?_) x
  cases d <;> try exact q1.elim
  rw [rep_str.mp r1]
  exact ⟨_, rfl, k G1 H1 _ _ e1 (its_ok _) q1⟩
def xiRng1 (ts : TDA) : TDI := fun δ R E => ts δ (fun xs => match xs with | [.int j] => -(2 ^ 62) ≤ j ∧ j < 2 ^ 62 ∧ R (rangeD 0 j.toNat) | _ => False) E
theorem di_range1 {p' : Pos} {ts : TDA} (hg : Gl X "range") (hm : X.mg "range" = none) (ha : DA p X W [e] ts) (hs : starEach [e] X.env = [(false, eval e X.env)] := by rfl) : DI p X W tg (.Call (.Name "range" p') [e] [] pos) (xiRng1 ts) := by
  obtain ⟨a, a1, a2⟩ := ha
  refine ⟨_, pi_range1 hg hm a1 hs, fun G σ H δ R Rd Ed r q k x => ?_⟩
  refine a2 G σ H δ _ _ Ed r q (fun G1 H1 vs ds e1 r1 q1 => ?_) x
  split at q1
  · obtain ⟨v, rfl, r2⟩ := reps1 r1
    rw [rep_int.mp r2]
    exact ⟨_, rfl, q1.1, q1.2.1, k G1 H1 _ _ e1 (itr_ok _ _) q1.2.2⟩
  · exact q1.elim
def xiRng2 (ts : TDA) : TDI := fun δ R E => ts δ (fun xs => match xs with | [.int i, .int j] => (-(2 ^ 62) ≤ i ∧ i < 2 ^ 62 ∧ -(2 ^ 62) ≤ j ∧ j < 2 ^ 62) ∧ R (rangeD i (j - i).toNat) | _ => False) E
theorem di_range2 {p' : Pos} {e2 : Expr} {ts : TDA} (hg : Gl X "range") (hm : X.mg "range" = none) (ha : DA p X W [e, e2] ts) (hs : starEach [e, e2] X.env = [(false, eval e X.env), (false, eval e2 X.env)] := by rfl) (hs2 : starEach [e2] X.env = [(false, eval e2 X.env)] := by rfl) : DI p X W tg (.Call (.Name "range" p') [e, e2] [] pos) (xiRng2 ts) := by
  obtain ⟨a, a1, a2⟩ := ha
  refine ⟨_, pi_range2 hg hm a1 hs hs2, fun G σ H δ R Rd Ed r q k x => ?_⟩
  refine a2 G σ H δ _ _ Ed r q (fun G1 H1 vs ds e1 r1 q1 => ?_) x
  split at q1
  · obtain ⟨v, w, rfl, r2, r3⟩ := Reps.cons_iff.mp r1
    obtain ⟨v2, rfl, r4⟩ := reps1 r3
    rw [rep_int.mp r2, rep_int.mp r4]
    exact ⟨_, _, rfl, q1.1, k G1 H1 _ _ e1 (itr_ok _ _) q1.2⟩
  · exact q1.elim
/-- enumerate of a list -/
def enumD (i : Nat) : List D → List D
  | [] => []
  | d :: r => .tup [.int (i : Int), d] :: enumD (i + 1) r
theorem enumD_len : ∀ (ds : List D) (i : Nat), (enumD i ds).length = ds.length
  | [], _ => rfl
  | d :: r, i => by show (enumD (i + 1) r).length + 1 = r.length + 1; rw [enumD_len r]
theorem enumD_get : ∀ (ds : List D) (i j : Nat) (d : D), ds[j]? = some d → (enumD i ds)[j]? = some (.tup [.int ((i + j : Nat) : Int), d])
  | [], _, _, _, h => by simp at h
  | d :: r, i, 0, d', h => by simp at h; subst h; rfl
  | d :: r, i, j + 1, d', h => by
    show (enumD (i + 1) r)[j]? = _
    rw [enumD_get r (i + 1) j d' (by simpa using h)]
    congr 4
    omega
theorem ite_ok {b : Bag} {G1 : Hp} {a : Addr} {ds : List D} {vs : List V} (h : G1 a = some (.lst vs)) (r : Reps K G1 ds vs) : ItOk K b G1 (Ite K a) (enumD 0 ds) := by
  have l := r.length
  refine ⟨fun G H i s1 s2 hi => ?_, fun G H s1 s2 => ?_, fun G H i x H' s1 s2 hb hi hy => ?_⟩
  · rw [enumD_len] at hi
    exact ⟨vs, vs[i]'(by rw [← l]; exact hi), SqL.of (s2 _ _ (s1 _ _ h)), by simp [l ▸ hi]⟩
  · rw [enumD_len]
    exact ⟨vs, SqL.of (s2 _ _ (s1 _ _ h)), by rw [l]; exact Nat.le_refl _⟩
  · obtain ⟨T, y, rfl, hn, rfl, hy⟩ := hy
    obtain ⟨d, h1, h2⟩ := r.getV (hy vs (SqL.of (s2 _ _ (s1 _ _ h))))
    refine ⟨_, _, enumD_get ds 0 i d h1, Ext.laid s2 hb hn, rep_tup s2 hn ?_⟩
    rw [Nat.zero_add]
    exact Reps.cons (rep_sc rfl) (Reps.cons (h2.mono s1) Reps.nil)
def xiEnum (ts : TDA) : TDI := fun δ R E => ts δ (fun xs => match xs with | [.lst ds] => R (enumD 0 ds) | _ => False) E
theorem di_enum {p' tpos : Pos} {elts : List Expr} {kk : Nat} {ts : TDA} (hg : Gl X "enumerate") (hm : X.mg "enumerate" = none) (ha : DA p X W [e] ts) (hs : starEach [e] X.env = [(false, eval e X.env)] := by rfl) : DI p X W (.Tuple elts kk tpos) (.Call (.Name "enumerate" p') [e] [] pos) (xiEnum ts) := by
  obtain ⟨a, a1, a2⟩ := ha
  refine ⟨_, pi_enum hg hm a1 hs, fun G σ H δ R Rd Ed r q k x => ?_⟩
  refine a2 G σ H δ _ _ Ed r q (fun G1 H1 vs ds e1 r1 q1 => ?_) x
  split at q1
  · obtain ⟨v, rfl, r2⟩ := reps1 r1
    obtain ⟨c, vs, rfl, c1, c2⟩ := rep_lstI.mp r2
    exact ⟨c, vs, rfl, SqL.of (e1.sub _ _ c1), k G1 H1 _ _ e1 (ite_ok c1 c2) q1⟩
  · exact q1.elim
/-- zip of two lists, of two tuples -/
def zipD : List D → List D → List D
  | a :: r, b :: s => .tup [a, b] :: zipD r s
  | _, _ => []
theorem zipD_len : ∀ (xs ys : List D), (zipD xs ys).length = min xs.length ys.length
  | [], _ => by simp [zipD]
  | _ :: _, [] => by simp [zipD]
  | a :: r, b :: s => by
    show (zipD r s).length + 1 = _
    rw [zipD_len r s, List.length_cons, List.length_cons]; omega
theorem zipD_get : ∀ (xs ys : List D) (i : Nat) (x y : D), xs[i]? = some x → ys[i]? = some y → (zipD xs ys)[i]? = some (.tup [x, y])
  | [], _, _, _, _, h, _ => by simp at h
  | _ :: _, [], _, _, _, _, h => by simp at h
  | a :: r, b :: s, 0, x, y, h1, h2 => by simp at h1 h2; subst h1; subst h2; rfl
  | a :: r, b :: s, i + 1, x, y, h1, h2 => zipD_get r s i x y (by simpa using h1) (by simpa using h2)
theorem itz_ok {b : Bag} {G1 : Hp} {a a' : Addr} {ds es : List D} {vs ws : List V} (h : G1 a = some (.lst vs)) (h' : G1 a' = some (.lst ws)) (r : Reps K G1 ds vs) (r' : Reps K G1 es ws) : ItOk K b G1 (Itz K a a') (zipD ds es) := by
  have l := r.length
  have l' := r'.length
  refine ⟨fun G H i s1 s2 hi => ?_, fun G H s1 s2 => ?_, fun G H i x H' s1 s2 hb hi hy => ?_⟩
  · rw [zipD_len] at hi
    exact ⟨vs, ws, vs[i]'(by omega), ws[i]'(by omega), SqL.of (s2 _ _ (s1 _ _ h)), SqL.of (s2 _ _ (s1 _ _ h')), by simp, by simp⟩
  · rw [zipD_len]
    exact ⟨vs, ws, SqL.of (s2 _ _ (s1 _ _ h)), SqL.of (s2 _ _ (s1 _ _ h')), by omega⟩
  · obtain ⟨T, y, z, rfl, hn, rfl, hy, hz⟩ := hy
    obtain ⟨d, h1, h2⟩ := r.getV (hy vs (SqL.of (s2 _ _ (s1 _ _ h))))
    obtain ⟨d', h3, h4⟩ := r'.getV (hz ws (SqL.of (s2 _ _ (s1 _ _ h'))))
    exact ⟨_, _, zipD_get ds es i d d' h1 h3, Ext.laid s2 hb hn, rep_tup s2 hn (Reps.cons (h2.mono s1) (Reps.cons (h4.mono s1) Reps.nil))⟩
theorem itzT_ok {b : Bag} {G1 : Hp} {a a' : Addr} {ds es : List D} {vs ws : List V} (h : SqT K G1 a vs) (h' : SqT K G1 a' ws) (r : Reps K G1 ds vs) (r' : Reps K G1 es ws) : ItOk K b G1 (RZ.ItzT K a a') (zipD ds es) := by
  have l := r.length
  have l' := r'.length
  refine ⟨fun G H i s1 s2 hi => ?_, fun G H s1 s2 => ?_, fun G H i x H' s1 s2 hb hi hy => ?_⟩
  · rw [zipD_len] at hi
    exact ⟨vs, ws, vs[i]'(by omega), ws[i]'(by omega), sameT s2 (sameT s1 h), sameT s2 (sameT s1 h'), by simp, by simp⟩
  · rw [zipD_len]
    exact ⟨vs, ws, sameT s2 (sameT s1 h), sameT s2 (sameT s1 h'), by omega⟩
  · obtain ⟨T, y, z, rfl, hn, rfl, hy, hz⟩ := hy
    obtain ⟨d, h1, h2⟩ := r.getV (hy vs (sameT s2 (sameT s1 h)))
    obtain ⟨d', h3, h4⟩ := r'.getV (hz ws (sameT s2 (sameT s1 h')))
    exact ⟨_, _, zipD_get ds es i d d' h1 h3, Ext.laid s2 hb hn, rep_tup s2 hn (Reps.cons (h2.mono s1) (Reps.cons (h4.mono s1) Reps.nil))⟩
def xiZip (ts : TDA) : TDI := fun δ R E => ts δ (fun xs => match xs with | [.lst ds, .lst es] => R (zipD ds es) | [.tup ds, .tup es] => R (zipD ds es) | _ => False) E
theorem di_zip {p' tpos : Pos} {e2 : Expr} {elts : List Expr} {kk : Nat} {ts : TDA} (hg : Gl X "zip") (hm : X.mg "zip" = none) (ha : DA p X W [e, e2] ts)
    (hs : starEach [e, e2] X.env = (false, eval e X.env) :: starEach [e2] X.env := by rfl) (hpl : (backTo pos (starEach [e2] X.env)).any (·.1) = false := by rfl) : DI p X W (.Tuple elts kk tpos) (.Call (.Name "zip" p') [e, e2] [] pos) (xiZip ts) := by
  obtain ⟨a, a1, a2⟩ := ha
  refine ⟨_, RZ.pi_zipA hg hm a1 hs hpl, fun G σ H δ R Rd Ed r q k x => ?_⟩
  refine a2 G σ H δ _ _ Ed r q (fun G1 H1 vs ds e1 r1 q1 => ?_) x
  split at q1
  · obtain ⟨v, w, rfl, r2, r3⟩ := Reps.cons_iff.mp r1
    obtain ⟨v2, rfl, r4⟩ := reps1 r3
    obtain ⟨c, vs, rfl, c1, c2⟩ := rep_lstI.mp r2
    obtain ⟨c', vs', rfl, c3, c4⟩ := rep_lstI.mp r4
    exact ⟨c, c', vs, vs', rfl, .inl ⟨SqL.of (e1.sub _ _ c1), SqL.of (e1.sub _ _ c3), k G1 H1 _ _ e1 (itz_ok c1 c3 c2 c4) q1⟩⟩
  · obtain ⟨v, w, rfl, r2, r3⟩ := Reps.cons_iff.mp r1
    obtain ⟨v2, rfl, r4⟩ := reps1 r3
    obtain ⟨c, vs, rfl, c1, c2⟩ := rep_tupI.mp r2
    obtain ⟨c', vs', rfl, c3, c4⟩ := rep_tupI.mp r4
    exact ⟨c, c', vs, vs', rfl, .inr ⟨sameT e1.sub c1, sameT e1.sub c3, k G1 H1 _ _ e1 (itzT_ok c1 c3 c2 c4) q1⟩⟩
  · exact q1.elim

def loopD (g : TDG) (tb : TDS) (Dd : DEnds) : List D → DSt → Prop
  | [], δ => Dd.nx δ
  | d :: ds, δ => g d δ fun δ1 => tb { nx := loopD g tb Dd ds, ct := loopD g tb Dd ds, bk := Dd.nx, rt := Dd.rt, xc := Dd.xc } δ1
def yFor (S : List Nat) (ti : TDI) (g : TDG) (tb : TDS) : TDS := fun Dd δ => ti (frz S δ) (fun items => loopD g tb Dd items (frz S δ)) (fun c fs => Dd.xc c fs (frz S δ))
theorem ds_for (S : List Nat) {iter : Expr} {body : List Stmt} {ti : TDI} {g : TDG} {tb : TDS} {ix : List Nat} (hp : PassesOwn (model X.prog X.w) X.A X.env X.xe) (hc : X.calm = true) (hi : DI p X W tg iter ti) (hg : DG p X tg ix g) (hb : DSs p X W body tb)
    (hs : ∀ x, foldedSetIterable iter X.env x = pure x := by intro _; rfl) : DS p X W (.For tg iter body [] pos) (yFor S ti g tb) := by
  obtain ⟨a, a1, a2⟩ := hi
  obtain ⟨b, b1, b2⟩ := hg
  obtain ⟨f, f1, f2⟩ := hb
  refine ⟨_, ps_for hp hc a1 b1 f1 hs, fun Gb G σ H δ D Dd s r q h => ?_⟩
  obtain ⟨G1, g1, r1⟩ := DR.freeze (S := S) r
  refine a2 G1 σ H _ _ _ _ r1 q (fun G2 H2 J items e2 it q2 => ?_) (h.x (s.trans g1) r1)
  have s2 : Same Gb G2 := (s.trans g1).trans e2.gg
  refine ⟨fun i m σ H => m = items.length - i ∧ i ≤ items.length ∧ ∃ G δ, Same G2 G ∧ DR X.K p G σ H δ ∧ loopD g tb Dd (items.drop i) δ, ⟨_, rfl, Nat.zero_le _, G2, _, Same.refl _, r1.ext e2, q2⟩, ?_⟩
  rintro i m σ3 H3 ⟨rfl, hi, G3, δ3, s3, r3, q3⟩
  by_cases hlt : i < items.length
  · refine .inr ⟨it.go G3 H3 i s3 r3.sub hlt, fun σ H => ∃ G δ, Same G2 G ∧ DR X.K p G σ H δ ∧ loopD g tb Dd (items.drop (i + 1)) δ, fun σ' H' ⟨G', δ', x1, x2, x3⟩ => ⟨items.length - (i + 1), by omega, rfl, hlt, G', δ', x1, x2, x3⟩, fun x H' y => ?_⟩
    obtain ⟨G4, d, h1, e4, r4⟩ := it.yld G3 H3 i x H' s3 r3.sub r3.bag hlt y
    have dr : items.drop i = d :: items.drop (i + 1) := by
      rw [List.drop_eq_getElem_cons hlt]
      congr 1
      rw [List.getElem?_eq_getElem hlt] at h1
      exact Option.some.inj h1
    rw [dr] at q3
    refine b2 G4 σ3 H' δ3 d x _ _ (r3.ext e4) r4 q3 fun G5 σ5 H5 δ5 s5 r5 _ _ _ q5 => ?_
    have s25 : Same G2 G5 := (s3.trans e4.gg).trans s5
    exact f2 G2 G5 σ5 H5 δ5 _ _ s25 r5 q5 ⟨fun G σ H δ z1 z2 z3 => ⟨G, δ, z1, z2, z3⟩, fun G σ H δ v d z1 => h.rt G σ H δ v d (s2.trans z1), fun G σ H δ z1 => h.nx G σ H δ (s2.trans z1), fun G σ H δ z1 z2 z3 => ⟨G, δ, z1, z2, z3⟩, fun G σ H δ c fs d vs z1 => h.xc G σ H δ c fs d vs (s2.trans z1)⟩
  · have e : i = items.length := by omega
    subst e
    rw [List.drop_length] at q3
    exact .inl ⟨it.stop G3 H3 s3 r3.sub, h.nx G3 σ3 H3 δ3 (s2.trans s3) r3 q3⟩

def yWhile (S : List Nat) (tt : TDT) (tb : TDS) : TDS := fun Dd δ => ∃ P : Nat → DSt → Prop, (∃ m, P m δ) ∧ ∀ m δ, P m δ →
  tt (frz S δ) (fun k => if k = true then tb { nx := fun δ' => ∃ m', m' < m ∧ P m' δ', ct := fun δ' => ∃ m', m' < m ∧ P m' δ', bk := Dd.nx, rt := Dd.rt, xc := Dd.xc } δ else Dd.nx δ) (fun c fs => Dd.xc c fs (frz S δ))
theorem ds_while (S : List Nat) {body : List Stmt} {tb : TDS} (hp : PassesOwn (model X.prog X.w) X.A X.env X.xe) (hc : DT p X W c tt) (hb : DSs p X W body tb) : DS p X W (.While c body [] pos) (yWhile S tt tb) := by
  obtain ⟨a, a1, a2⟩ := hc
  obtain ⟨f, f1, f2⟩ := hb
  refine ⟨_, ps_while hp a1 f1, fun Gb G σ H δ D Dd s r q h => ?_⟩
  obtain ⟨P, ⟨m0, p0⟩, turn⟩ := q
  refine ⟨fun m σ H => ∃ G δ, Same Gb G ∧ DR X.K p G σ H δ ∧ P m δ, ⟨m0, G, δ, s, r, p0⟩, ?_⟩
  rintro m σ3 H3 ⟨G3, δ3, s3, r3, q3⟩
  obtain ⟨G1, g1, r1⟩ := DR.freeze (S := S) r3
  refine a2 G1 σ3 H3 _ _ _ _ r1 (turn m δ3 q3) (fun G2 H2 k e2 q2 => ?_) (h.x (s3.trans g1) r1)
  have rb := r3.back e2.keep e2.bag
  cases k with
  | true =>
    rw [if_pos rfl] at q2 ⊢
    refine ⟨fun σ H => ∃ m', m' < m ∧ ∃ G δ, Same Gb G ∧ DR X.K p G σ H δ ∧ P m' δ, fun σ' H' z => z, ?_⟩
    exact f2 Gb G3 σ3 H2 δ3 _ _ s3 rb q2 ⟨fun G σ H δ z1 z2 ⟨m', l, z3⟩ => ⟨m', l, G, δ, z1, z2, z3⟩, h.rt, h.nx, fun G σ H δ z1 z2 ⟨m', l, z3⟩ => ⟨m', l, G, δ, z1, z2, z3⟩, h.xc⟩
  | false =>
    rw [if_neg Bool.false_ne_true] at q2 ⊢
    exact h.nx G3 σ3 H2 δ3 s3 rb q2

/-- the block's own names are forgotten -/
def wipeD (δ : DSt) : List Nat → DSt
  | [] => δ
  | i :: r => (wipeD δ r).set i .non
theorem DR.wipe (r : DR K p G σ H δ) : ∀ vs : List Nat, DR K p G (L2.wipe σ vs) H (wipeD δ vs)
  | [] => r
  | i :: vs => (DR.wipe r vs).set (s := .non) True.intro
theorem wipe_get (σ : VSt) : ∀ (vs : List Nat) (j : Nat), (L2.wipe σ vs)[j]? = if j ∈ vs then σ[j]?.map (fun _ => none) else σ[j]?
  | [], j => by simp [L2.wipe]
  | v :: vs, j => by
    unfold L2.wipe
    have ih := wipe_get σ vs j
    by_cases e : v = j
    · subst e
      rw [if_pos List.mem_cons_self]
      by_cases h : v < σ.length
      · rw [List.getElem?_set_self (by rw [L2.wipe_length]; exact h)]
        simp [h]
      · rw [List.getElem?_eq_none (by rw [List.length_set, L2.wipe_length]; omega), List.getElem?_eq_none (by omega)]
        rfl
    · rw [List.getElem?_set_ne e, ih]
      have : (j ∈ v :: vs) = (j ∈ vs) := by
        rw [List.mem_cons, eq_iff_iff]
        exact ⟨fun h => h.elim (fun z => absurd z.symm e) id, .inr⟩
      simp only [this]
theorem wipe_outs {vs ix : List Nat} {σ σ' : VSt} (h : Outs ix (L2.wipe σ vs) σ') (hs : ∀ j ∈ ix, j ∈ vs) : L2.wipe σ' vs = L2.wipe σ vs := by
  refine List.ext_getElem? fun j => ?_
  rw [wipe_get, wipe_get]
  by_cases hj : j ∈ vs
  · rw [if_pos hj, if_pos hj]
    have l : σ'.length = σ.length := h.1.trans (L2.wipe_length σ vs)
    by_cases q : j < σ.length
    · simp [q, l]
    · rw [List.getElem?_eq_none (by omega), List.getElem?_eq_none (by omega)]
  · rw [if_neg hj, if_neg hj]
    have z := h.2 j (fun m => hj (hs j m))
    rw [z, wipe_get, if_neg hj]
structure DTs (p : Pr) (X : Cx) (W : WX) (ifs : List Expr) (td : TDT) : Prop where
  ex : ∃ t : TT, PTs X ifs t ∧ RefT X.K p W t td
def xYes : TDT := fun _ Q _ => Q true
theorem dts_nil : DTs p X W [] xYes := ⟨_, pts_nil, fun G σ H δ Q Qd Ed r q k _ => k G H true r.refl q⟩
theorem dts_one {c : Expr} {tt : TDT} (h : DT p X W c tt) : DTs p X W [c] tt := by
  obtain ⟨t, h1, h2⟩ := h
  exact ⟨_, pts_one h1, h2⟩
/-- a block's wish: nothing leaves it by an exception -/
abbrev W0 : WX := fun _ _ _ _ => False
def compD (g : TDG) (tt : TDT) (te : TDE) (δ : DSt) : List D → (List D → Prop) → Prop
  | [], k => k []
  | d :: ds, k => g d δ fun δ1 => tt δ1 (fun b => if b = true then te δ1 (fun y => compD g tt te δ ds fun ys => k (y :: ys)) (fun _ _ => False) else compD g tt te δ ds k) (fun _ _ => False)
def xLc (vs : List Nat) (ti : TDI) (g : TDG) (tt : TDT) (te : TDE) : DSt → (List D → Prop) → XD → Prop := fun δ Q E => ti δ (fun items => items.length ≤ sizeLine ∧ compD g tt te (wipeD δ vs) items Q) E
theorem ref_lc {vs ix : List Nat} {wi : TI} {g : TG} {t : TT} {e : TE} {ti : TDI} {gd : TDG} {td : TDT} {ed : TDE} (hs : ∀ j ∈ ix, j ∈ vs) (hi : RefI K p W wi ti) (hg : RefG K p ix g gd) (ht : RefT K p W0 t td) (he : RefE K p W0 e ed)
    {Q : VK} {Qd : List D → Prop} {Ed : XD} (r : DR K p G σ H δ) (q : xLc vs ti gd td ed δ Qd Ed)
    (k : ∀ G' H' a ds us, Ext K p.b G H G' H' → H' a = some (.lst us) → Reps K G' ds us → G' a = none → H a = none → Qd ds → Q (.ref a) H') (x : XOk K p.b W G σ H Ed) : tLc wi g t e vs σ H Q := by
  refine hi G σ H δ _ _ Ed r q (fun G1 H1 J items e1 it q1 => ?_) x
  intro A hA
  obtain ⟨hz, q1⟩ := q1
  have r1 := r.ext e1
  have nb : A ≠ p.b.a := fun z => r1.at (by rw [← z]; exact hA)
  have nG : G1 A = none := r1.sub.free hA
  have hHA : H A = none := by
    cases z : H A with
    | none => rfl
    | some o => rw [e1.keep A o nb z] at hA; cases hA
  refine ⟨fun i m H => m = items.length - i ∧ i ≤ items.length ∧ ∃ G us ds, Ext K p.b G1 H1 G H ∧ G A = none ∧ H A = some (.lst us) ∧ Reps K G ds us ∧ us.length ≤ i ∧ compD gd td ed (wipeD δ vs) (items.drop i) (fun ys => Qd (ds ++ ys)),
    ⟨_, rfl, Nat.zero_le _, G1, [], [], ⟨Same.refl _, fun c o z => ?_, fun c o n z => ?_, fun _ _ z => z, r1.bag.1, r1.bag.2.1, ?_⟩, nG, upd_same, Reps.nil, Nat.le_refl _, q1⟩, ?_⟩
  · rw [upd_ne (ne_of_none z nG)]; exact e1.sub _ _ z
  · rw [upd_ne (ne_of_none z hA)]; exact z
  · obtain ⟨i', g', s', c', b1, b3⟩ := r1.bag.2.2
    exact ⟨i', g', s', c', by rw [upd_ne (Ne.symm nb)]; exact b1, b3⟩
  rintro i m H2 ⟨rfl, hi', G2, us, ds, e2, nG2, hA2, rs2, hl2, q2⟩
  by_cases hlt : i < items.length
  · refine .inr ⟨it.go G2 H2 i e2.gg e2.sub hlt, fun H => ∃ G us ds, Ext K p.b G1 H1 G H ∧ G A = none ∧ H A = some (.lst us) ∧ Reps K G ds us ∧ us.length ≤ i + 1 ∧ compD gd td ed (wipeD δ vs) (items.drop (i + 1)) (fun ys => Qd (ds ++ ys)),
      fun H' ⟨G', us', ds', z⟩ => ⟨items.length - (i + 1), by omega, rfl, hlt, G', us', ds', z⟩, fun y H' hy => ?_⟩
    obtain ⟨G3, d, h3, e3, r3⟩ := it.yld G2 H2 i y H' e2.gg e2.sub e2.bag hlt hy
    have dr : items.drop i = d :: items.drop (i + 1) := by
      rw [List.drop_eq_getElem_cons hlt]
      congr 1
      rw [List.getElem?_eq_getElem hlt] at h3
      exact Option.some.inj h3
    rw [dr] at q2
    have e23 := e2.trans r1.at e3
    have nA : ∀ {Gx Hx : Hp}, Ext K p.b G2 H2 Gx Hx → Gx A = none := fun {Gx Hx} z => by
      cases w : Gx A with
      | none => rfl
      | some o => exact absurd nG2 (z.new A (by rw [hA2]; exact fun v => nomatch v) (by rw [w]; exact fun v => nomatch v))
    have r3' : DR K p G3 (L2.wipe σ vs) H' (wipeD δ vs) := (r1.ext e23).wipe vs
    refine hg G3 (L2.wipe σ vs) H' (wipeD δ vs) d y _ _ r3' r3 q2 fun G4 σ4 H4 δ4 s4 r4 k4 n4 o4 q4 => ?_
    have e34 : Ext K p.b G3 H' G4 H4 := ⟨s4, r4.sub, k4, n4, r4.bag⟩
    have e24 := e3.trans e2.bag.at e34
    refine ⟨wipe_outs o4 hs, ?_⟩
    refine ht G4 σ4 H4 δ4 _ _ _ r4 q4 (fun G5 H5 b e5 q5 => ?_) (fun _ _ _ _ _ _ _ _ _ z => z)
    have e25 := e24.trans e2.bag.at e5
    have e15 := e2.trans r1.at e25
    cases b with
    | false =>
      rw [if_neg Bool.false_ne_true] at q5 ⊢
      exact ⟨G5, us, ds, e15, nA e25, e25.keep A _ nb hA2, rs2.mono e25.gg, Nat.le_succ_of_le hl2, q5⟩
    | true =>
      rw [if_pos rfl] at q5 ⊢
      refine he G5 σ4 H5 δ4 _ _ _ (r4.ext e5) q5 (fun G6 H6 v d6 e6 r6 q6 => ?_) (fun _ _ _ _ _ _ _ _ _ z => z)
      have e26 := e25.trans e2.bag.at e6
      have e16 := e2.trans r1.at e26
      have nA6 := nA e26
      refine ⟨us, e26.keep A _ nb hA2, by omega, G6, us ++ [v], ds ++ [d6], ⟨e16.gg, fun c o z => ?_, fun c o n z => ?_, fun c z w => e16.new c z w, e16.bag.1, e16.bag.2.1, ?_⟩, nA6, upd_same, (rs2.mono e26.gg).snoc r6, ?_, ?_⟩
      · rw [upd_ne (ne_of_none z nA6)]; exact e16.sub _ _ z
      · rw [upd_ne (ne_of_none z hA)]; exact e16.keep c o n z
      · obtain ⟨i', g', s', c', b1, b3⟩ := e16.bag.2.2
        exact ⟨i', g', s', c', by rw [upd_ne (Ne.symm nb)]; exact b1, b3⟩
      · rw [List.length_append, List.length_singleton]; omega
      · have eq : (fun ys => Qd (ds ++ (d6 :: ys))) = fun ys => Qd (ds ++ [d6] ++ ys) := by
          funext ys
          rw [List.append_assoc]; rfl
        rw [← eq]
        exact q6
  · have e : i = items.length := by omega
    subst e
    rw [List.drop_length] at q2
    have q3 : Qd (ds ++ []) := q2
    rw [List.append_nil] at q3
    exact .inl ⟨it.stop G2 H2 e2.gg e2.sub, k G2 H2 A ds us (e1.trans r.at e2) hA2 rs2 nG2 hHA q3⟩
/-- a list that nobody else knows joins what stays -/
theorem lst_join {a : Addr} {us : List V} {ds : List D} {G' H' : Hp} (e : Ext K p.b G H G' H') (hb : H p.b.a ≠ none) (h1 : H' a = some (.lst us)) (h2 : Reps K G' ds us) (h3 : G' a = none) (h4 : H a = none) : Ext K p.b G H (upd G' a (.lst us)) H' ∧ Rep K (upd G' a (.lst us)) (.lst ds) (.ref a) := by
  have gg : Same G' (upd G' a (.lst us)) := fun c o z => by rw [upd_ne (ne_of_none z h3)]; exact z
  refine ⟨⟨e.gg.trans gg, fun c o z => ?_, e.keep, fun c z w => ?_, ?_, gg _ _ e.bag.2.1, e.bag.2.2⟩, ?_⟩
  · by_cases q : c = a
    · rw [q, upd_same] at z; rw [q, h1]; exact z
    · rw [upd_ne q] at z; exact e.sub _ _ z
  · by_cases q : c = a
    · rw [q] at z; exact absurd h4 z
    · rw [upd_ne q] at w; exact e.new c z w
  · rw [upd_ne (fun q => hb (by rw [q]; exact h4))]; exact e.bag.1
  · exact rep_lstI.mpr ⟨a, us, rfl, upd_same, h2.mono gg⟩
section
variable {elt iter : Expr} {ifs : List Expr} {scope : Scope} {own : List (Str × Nat)} {ix : List Nat} {ti : TDI} {g : TDG} {tt : TDT} {te : TDE}
/-- the comprehension's block: its parts' readings, one for all entries -/
theorem lc_parts (hi : DI p X W tg iter ti) (hg : ∀ (s : Shared) (H : Hp) (C : Addr) (cl : List (Str × Addr)) (fp : List Addr), DG p (X.blk s H scope (compEnvC scope cl C X.env) fp) tg ix g)
    (ht : ∀ (s : Shared) (H : Hp) (C : Addr) (cl : List (Str × Addr)) (fp : List Addr), DTs p (X.blk s H scope (compEnvC scope cl C X.env) fp) W0 ifs tt)
    (he : ∀ (s : Shared) (H : Hp) (C : Addr) (cl : List (Str × Addr)) (fp : List Addr), DE p (X.blk s H scope (compEnvC scope cl C X.env) fp) W0 elt te) :
    ∃ (wi : TI) (gv : TG) (tv : TT) (ev : TE), PI X tg iter wi ∧ (∀ (s : Shared) (H : Hp) (C : Addr) (cl : List (Str × Addr)) (fp : List Addr), PG (X.blk s H scope (compEnvC scope cl C X.env) fp) tg gv) ∧
      (∀ (s : Shared) (H : Hp) (C : Addr) (cl : List (Str × Addr)) (fp : List Addr), PTs (X.blk s H scope (compEnvC scope cl C X.env) fp) ifs tv) ∧
      (∀ (s : Shared) (H : Hp) (C : Addr) (cl : List (Str × Addr)) (fp : List Addr), PE (X.blk s H scope (compEnvC scope cl C X.env) fp) elt ev) ∧ RefI X.K p W wi ti ∧ RefG X.K p ix gv g ∧ RefT X.K p W0 tv tt ∧ RefE X.K p W0 ev te := by
  obtain ⟨wi, w1, w2⟩ := hi
  refine ⟨wi, fun v σ H Q => ∀ (s : Shared) (H' : Hp) (C : Addr) (cl : List (Str × Addr)) (fp : List Addr), ∃ g, PG (X.blk s H' scope (compEnvC scope cl C X.env) fp) tg g ∧ g v σ H Q,
    fun σ H Q => ∀ (s : Shared) (H' : Hp) (C : Addr) (cl : List (Str × Addr)) (fp : List Addr), ∃ t, PTs (X.blk s H' scope (compEnvC scope cl C X.env) fp) ifs t ∧ t σ H Q,
    fun σ H Q => ∀ (s : Shared) (H' : Hp) (C : Addr) (cl : List (Str × Addr)) (fp : List Addr), ∃ t, PE (X.blk s H' scope (compEnvC scope cl C X.env) fp) elt t ∧ t σ H Q, w1, fun s H C cl fp => ⟨fun pins s' σ H' v u Q I r h => ?_⟩, fun s H C cl fp => ⟨fun pins s' σ H' Q I h => ?_⟩, fun s H C cl fp => ⟨fun pins s' σ H' Q I h => ?_⟩, w2, ?_, ?_, ?_⟩
  · obtain ⟨g', h1, h2⟩ := h s H C cl fp
    exact h1.run pins s' σ H' v u Q I r h2
  · obtain ⟨g', h1, h2⟩ := h s H C cl fp
    exact h1.run pins s' σ H' Q I h2
  · obtain ⟨g', h1, h2⟩ := h s H C cl fp
    exact h1.run pins s' σ H' Q I h2
  · intro G σ H δ d v Q Qd r rv q k s H' C cl fp
    obtain ⟨g', h1, h2⟩ := hg s H' C cl fp
    exact ⟨g', h1, h2 G σ H δ d v Q Qd r rv q k⟩
  · intro G σ H δ Q Qd Ed r q k x s H' C cl fp
    obtain ⟨g', h1, h2⟩ := ht s H' C cl fp
    exact ⟨g', h1, h2 G σ H δ Q Qd Ed r q k x⟩
  · intro G σ H δ Q Qd Ed r q k x s H' C cl fp
    obtain ⟨g', h1, h2⟩ := he s H' C cl fp
    exact ⟨g', h1, h2 G σ H δ Q Qd Ed r q k x⟩
def xLcE (vs : List Nat) (ti : TDI) (g : TDG) (tt : TDT) (te : TDE) : TDE := fun δ Q E => xLc vs ti g tt te δ (fun ds => Q (.lst ds)) E
/-- [elt for tg in iter if ..] as a value -/
theorem d_lc (own : List (Str × Nat)) (hsub : ∀ j ∈ ix, j ∈ own.map (·.2)) (hc : X.calm = true) (hN : X.N.Nodup) (ok : BlkOk X.N X.env.scope scope own) (hi : DI p X W tg iter ti)
    (hg : ∀ (s : Shared) (H : Hp) (C : Addr) (cl : List (Str × Addr)) (fp : List Addr), DG p (X.blk s H scope (compEnvC scope cl C X.env) fp) tg ix g)
    (ht : ∀ (s : Shared) (H : Hp) (C : Addr) (cl : List (Str × Addr)) (fp : List Addr), DTs p (X.blk s H scope (compEnvC scope cl C X.env) fp) W0 ifs tt)
    (he : ∀ (s : Shared) (H : Hp) (C : Addr) (cl : List (Str × Addr)) (fp : List Addr), DE p (X.blk s H scope (compEnvC scope cl C X.env) fp) W0 elt te)
    (hs : ∀ x, foldedSetIterable iter X.env x = pure x := by intro _; rfl) : DE p X W (.ListComp elt [⟨tg, iter, ifs, 0⟩] scope pos) (xLcE (own.map (·.2)) ti g tt te) := by
  obtain ⟨wi, gv, tv, ev, a1, a2, a3, a4, b1, b2, b3, b4⟩ := lc_parts hi hg ht he
  refine ⟨_, pe_lc hc hN a1 ok a2 a3 a4 hs, fun G σ H δ Q Qd Ed r q k x => ?_⟩
  refine ref_lc hsub b1 b2 b3 b4 r q (fun G' H' a ds us e h1 h2 h3 h4 q' => ?_) x
  obtain ⟨e', r'⟩ := lst_join e r.at h1 h2 h3 h4
  exact k _ H' _ _ e' r' q'
/-- y = [elt for ..] on one line, y a local -/
def ySetLc (S : List Nat) (i : Nat) (vs : List Nat) (ti : TDI) (g : TDG) (tt : TDT) (te : TDE) : TDS := fun Dd δ => xLc vs ti g tt te (frz S δ) (fun ds => Dd.nx ((frz S δ).set i (.val (.lst ds)))) (fun c fs => Dd.xc c fs (frz S δ))
theorem ds_setLc (S : List Nat) (i : Nat) (own : List (Str × Nat)) {y : Str} {py spos : Pos} (hsub : ∀ j ∈ ix, j ∈ own.map (·.2)) (hc : X.calm = true) (hN : X.N.Nodup) (ok : BlkOk X.N X.env.scope scope own) (hi : DI p X W tg iter ti)
    (hg : ∀ (s : Shared) (H : Hp) (C : Addr) (cl : List (Str × Addr)) (fp : List Addr), DG p (X.blk s H scope (compEnvC scope cl C X.env) fp) tg ix g)
    (ht : ∀ (s : Shared) (H : Hp) (C : Addr) (cl : List (Str × Addr)) (fp : List Addr), DTs p (X.blk s H scope (compEnvC scope cl C X.env) fp) W0 ifs tt)
    (he : ∀ (s : Shared) (H : Hp) (C : Addr) (cl : List (Str × Addr)) (fp : List Addr), DE p (X.blk s H scope (compEnvC scope cl C X.env) fp) W0 elt te)
    (hsw : swapsWith (.ListComp elt [⟨tg, iter, ifs, 0⟩] scope pos) (some (.Name y py)) spos.line X.env = pure true) (hy : X.N[i]? = some y := by rfl) (hyl : X.env.scope.names.lookup y = some .local := by rfl)
    (hs : ∀ x, foldedSetIterable iter X.env x = pure x := by intro _; rfl) : DS p X W (.Assign [.Name y py] (.ListComp elt [⟨tg, iter, ifs, 0⟩] scope pos) spos) (ySetLc S i (own.map (·.2)) ti g tt te) := by
  obtain ⟨wi, gv, tv, ev, a1, a2, a3, a4, b1, b2, b3, b4⟩ := lc_parts hi hg ht he
  refine ⟨_, ps_setLc (i := i) hc hN hy hyl hsw a1 ok a2 a3 a4 hs, fun Gb G σ H δ D Dd s r q h => ?_⟩
  obtain ⟨G1, g1, r1⟩ := DR.freeze (S := S) r
  show tLc wi gv tv ev (own.map (·.2)) σ H (fun x H1 => gName i x σ H1 D.nx)
  refine ref_lc hsub b1 b2 b3 b4 r1 q (fun G' H' a ds us e h1 h2 h3 h4 q' => ?_) (h.x (s.trans g1) r1)
  obtain ⟨e', r'⟩ := lst_join e r1.at h1 h2 h3 h4
  exact h.nx _ _ H' _ ((s.trans g1).trans e'.gg) ((r1.ext e').set (s := .val (.lst ds)) ⟨.ref a, rfl, r'⟩) q'
/-- .. the list the name's own -/
def ySetLcO (S : List Nat) (i : Nat) (vs : List Nat) (ti : TDI) (g : TDG) (tt : TDT) (te : TDE) : TDS := fun Dd δ => xLc vs ti g tt te (frz S δ) (fun ds => Dd.nx ((frz S δ).set i (.own (.lst ds)))) (fun c fs => Dd.xc c fs (frz S δ))
theorem own_fresh {a : Addr} (r : DR K p G σ H δ) (h : H a = none) : ∀ (j : Nat) (o' : DO), δ[j]? = some (.own o') → σ[j]? ≠ some (some (.ref a)) := fun j o' hj z => by
  obtain ⟨c, c1, _, _, c4⟩ := r.slot j _ hj
  rw [z] at c1
  cases c1
  exact c4.there h
theorem h0_none {a : Addr} (r : DR K p G σ H δ) (h : H a = none) : p.H0 a = none := by
  cases z : p.H0 a with
  | none => rfl
  | some o =>
    by_cases e : a = p.b.a
    · exact absurd (e ▸ h) r.at
    · rw [r.keep a o e z] at h; cases h
theorem ds_setLcO (S : List Nat) (i : Nat) (own : List (Str × Nat)) {y : Str} {py spos : Pos} (hsub : ∀ j ∈ ix, j ∈ own.map (·.2)) (hc : X.calm = true) (hN : X.N.Nodup) (ok : BlkOk X.N X.env.scope scope own) (hi : DI p X W tg iter ti)
    (hg : ∀ (s : Shared) (H : Hp) (C : Addr) (cl : List (Str × Addr)) (fp : List Addr), DG p (X.blk s H scope (compEnvC scope cl C X.env) fp) tg ix g)
    (ht : ∀ (s : Shared) (H : Hp) (C : Addr) (cl : List (Str × Addr)) (fp : List Addr), DTs p (X.blk s H scope (compEnvC scope cl C X.env) fp) W0 ifs tt)
    (he : ∀ (s : Shared) (H : Hp) (C : Addr) (cl : List (Str × Addr)) (fp : List Addr), DE p (X.blk s H scope (compEnvC scope cl C X.env) fp) W0 elt te)
    (hsw : swapsWith (.ListComp elt [⟨tg, iter, ifs, 0⟩] scope pos) (some (.Name y py)) spos.line X.env = pure true) (hy : X.N[i]? = some y := by rfl) (hyl : X.env.scope.names.lookup y = some .local := by rfl)
    (hs : ∀ x, foldedSetIterable iter X.env x = pure x := by intro _; rfl) : DS p X W (.Assign [.Name y py] (.ListComp elt [⟨tg, iter, ifs, 0⟩] scope pos) spos) (ySetLcO S i (own.map (·.2)) ti g tt te) := by
  obtain ⟨wi, gv, tv, ev, a1, a2, a3, a4, b1, b2, b3, b4⟩ := lc_parts hi hg ht he
  refine ⟨_, ps_setLc (i := i) hc hN hy hyl hsw a1 ok a2 a3 a4 hs, fun Gb G σ H δ D Dd s r q h => ?_⟩
  obtain ⟨G1, g1, r1⟩ := DR.freeze (S := S) r
  show tLc wi gv tv ev (own.map (·.2)) σ H (fun x H1 => gName i x σ H1 D.nx)
  refine ref_lc hsub b1 b2 b3 b4 r1 q (fun G' H' a ds us e h1 h2 h3 h4 q' => ?_) (h.x (s.trans g1) r1)
  exact h.nx _ _ H' _ ((s.trans g1).trans e.gg) ((r1.ext e).setOwn (o := .lst ds) h3 (h0_none r1 h4) ⟨us, h1, h2⟩ (own_fresh r1 h4)) q'
end
end
end DL

namespace DL
open PySem PySem.Spec PyProof.Rows L2

/-- a contract: the bag's address, the arguments, what is wanted of the value, of an exception -/
abbrev DC := Addr → List D → QD → XD → Prop
def spD (K : PySem.W.Frag) (c : DC) : Sp := fun vs H Q E => ∃ (b : Bag) (G : Hp) (ds : List D) (Qd : QD) (Ed : XD), Same G H ∧ BagOk K b G H ∧ Reps K G ds vs ∧ c b.a ds Qd Ed ∧
  (∀ G' H' v d, Ext K b G H G' H' → Rep K G' d v → Qd d → Q v H') ∧ (∀ G' H' cn fs d us, Ext K b G H G' H' → G' d = some (.xd us) → RepsF K G' fs us → Ed cn fs → E (.ref (He.ga K cn)) (some d) H')
def startD (n : Nat) (ds : List D) : DSt := ds.map Sl.val ++ List.replicate (n - ds.length) .non
section
variable {P : Program} {w : World} {K : PySem.W.Frag} {mg : Str → Option Value} {base : Heap}
theorem start_DR {b : Bag} {G H : Hp} {N : List Str} {ds : List D} {vs : List V} (s : Same G H) (hb : BagOk K b G H) (r : Reps K G ds vs) : DR K ⟨b, H, G⟩ G (L2.start N vs) H (startD N.length ds) where
  base := Same.refl _
  sub := s
  keep := fun _ _ _ h => h
  new := fun _ _ g => g
  bag := hb
  bin := hb.at
  len := by unfold startD L2.start; simp [r.length]
  slot := fun i sl e => by
    unfold startD at e
    by_cases hi : i < ds.length
    · rw [List.getElem?_append_left (by simpa using hi), List.getElem?_map] at e
      cases q : ds[i]? with
      | none => rw [q] at e; cases e
      | some d =>
        rw [q] at e
        cases e
        obtain ⟨v, h1, h2⟩ := r.get q
        refine ⟨v, ?_, h2⟩
        unfold L2.start
        rw [List.getElem?_append_left (by rw [List.length_map, ← r.length]; exact hi), List.getElem?_map, h1]; rfl
    · rw [List.getElem?_append_right (by simpa using hi), List.getElem?_replicate] at e
      split at e
      · cases e; exact True.intro
      · cases e
  dis := fun i j o o' a n e1 => by
    exfalso
    unfold startD at e1
    by_cases hi : i < ds.length
    · rw [List.getElem?_append_left (by simpa using hi), List.getElem?_map] at e1
      cases q : ds[i]? with
      | none => rw [q] at e1; cases e1
      | some d => rw [q] at e1; cases e1
    · rw [List.getElem?_append_right (by simpa using hi), List.getElem?_replicate] at e1
      split at e1 <;> cases e1
/-- a state of the body, seen from the entry -/
theorem DR.seen {p : Pr} {G : Hp} {σ : VSt} {H : Hp} {δ : DSt} (r : DR K p G σ H δ) : Ext K p.b p.G0 p.H0 G H := ⟨r.base, r.sub, r.keep, r.new, r.bag⟩
/-- THE RULE for a def: c its contract -/
theorem fnD {x qual : Str} {st : Stmt} {f : Addr} {fd : FuncData} {N ps : List Str} {k : Nat} (c : DC) (F : Fun K x qual st f fd) (S : FnScope N ps (defScope st)) (len : ∀ β ds Q E, c β ds Q E → ds.length = ps.length)
    (hbody : ∀ (cdv : Value) (A : Around) (outer : List Env) (s : Shared) (p : Pr) (E : XK), Room k (A.deeper (envOfC qual (defScope st) s.heap.objs.size f cdv)) →
      ∃ td, DSs p (cxOf (L2.CX P w) P w K mg base N qual (defScope st) f cdv A outer s p.H0 E) (fun cls d _ H => E cls d H) (defBody st) td ∧
        ∀ ds Qd Ed, c p.b.a ds Qd Ed → td { nx := fun _ => Qd .non, rt := Qd, xc := fun cn fs _ => Ed cn fs } (startD N.length ds)) :
    FnOk P w K mg base (L2.CX P w) (k + 1) f fd ps (spD K c) := by
  refine F.okX S (fun vs H Q E h => ?_) (fun cdv A outer s H vs Q E hr h => ?_)
  · obtain ⟨b, G, ds, Qd, Ed, _, _, r, q, _⟩ := h
    rw [← r.length]
    exact len _ _ _ _ q
  · obtain ⟨b, G, ds, Qd, Ed, s1, hb, r, q, k1, k2⟩ := h
    obtain ⟨td, ⟨t, h1, h2⟩, h3⟩ := hbody cdv A outer s ⟨b, H, G⟩ E hr
    refine ⟨t, h1, ?_⟩
    refine h2 G G (L2.start N vs) H (startD N.length ds) _ _ (Same.refl _) (start_DR s1 hb r) (h3 ds Qd Ed q) ⟨fun G' σ' H' δ' _ r' q' => ?_, fun G' σ' H' δ' v d _ r' rv q' => ?_, fun _ _ _ _ _ _ z => z, fun _ _ _ _ _ _ z => z, fun G' σ' H' δ' cn fs d us _ r' hd rf q' => ?_⟩
    · exact k1 G' H' _ _ r'.seen (rep_sc rfl) q'
    · exact k1 G' H' v d r'.seen rv q'
    · exact k2 G' H' cn fs d us r'.seen hd rf q'
/-- a stronger contract serves for a weaker one -/
theorem fnD_imp {k : Nat} {f : Addr} {fd : FuncData} {ps : List Str} {CX : CXT} {c c' : DC} (F : FnOk P w K mg base CX k f fd ps (spD K c)) (h : ∀ β ds Q E, c' β ds Q E → c β ds Q E) : FnOk P w K mg base CX k f fd ps (spD K c') :=
  F.imp fun vs H Q E ⟨b, G, ds, Qd, Ed, h1, h2, h3, h4, h5⟩ => ⟨b, G, ds, Qd, Ed, h1, h2, h3, h _ _ _ _ h4, h5⟩
end

section
variable {p : Pr} {X : Cx} {W : WX} {K : PySem.W.Frag} {Gb G H : Hp} {σ : VSt} {δ : DSt} {e : Expr} {es : List Expr} {te : TDE} {ts : TDA} {pos : Pos}
/-- f(..) by f's contract -/
def xFn (β : Addr) (c : DC) (ts : TDA) : TDE := fun δ Q E => ts δ (fun ds => c β ds Q E) E
theorem d_call {c : DC} {k : Nat} {f : Addr} {fd : FuncData} {ps : List Str} {x : Str} {q : Pos} (F : FnOk X.prog X.w X.K X.mg X.base (L2.CX X.prog X.w) k f fd ps (spD X.K c)) (hr : Room k X.A) (tk : Takes X W) (hm : X.mg x = some (.ref f)) (hk : PySem.W.keepIn X.K (.ref f) = true) (hb : Binds X.K fd ps [])
    (ha : DA p X W (e :: es) ts) (hg : Gl X x := by rfl) (hdb : (x == ("__debug__" : Str)) = false := by decide) (he : starEach (e :: es) X.env = (false, eval e X.env) :: starEach es X.env := by rfl) (hpl : (backTo pos (starEach es X.env)).any (·.1) = false := by rfl) :
    DE p X W (.Call (.Name x q) (e :: es) [] pos) (xFn p.b.a c ts) := by
  obtain ⟨a, a1, a2⟩ := ha
  refine ⟨_, pe_callS F hr hg hm hk hb (fun σ => passAt tk σ) a1 hdb he hpl, fun G σ H δ Q Qd Ed r q k x => ?_⟩
  refine a2 G σ H δ _ _ Ed r q (fun G1 H1 vs ds e1 r1 q1 => ?_) x
  exact ⟨p.b, G1, ds, Qd, Ed, e1.sub, e1.bag, r1, q1, fun G2 H2 v d e2 r2 q2 => k G2 H2 v d (e1.trans r.at e2) r2 q2, fun G2 H2 cn fs d us e2 hd rf q2 => x G2 H2 cn fs d us (e1.trans r.at e2) hd rf q2⟩

theorem frz_get : ∀ {S : List Nat} {δ : DSt} {i : Nat}, i ∉ S → (frz S δ)[i]? = δ[i]?
  | [], _, _, _ => rfl
  | j :: S, δ, i, h => by
    rw [List.mem_cons, not_or] at h
    unfold frz
    rw [frz_get h.2]
    split
    · exact List.getElem?_set_ne (Ne.symm h.1)
    · rfl
/-- a method of a name's own list: its content, the arguments, the content behind -/
def RefOM (K : PySem.W.Frag) (r : V → List V → Hp → VK → Prop) (rd : List D → List D → (List D → Prop) → Prop) : Prop :=
  ∀ (G H : Hp) (a : Addr) (us : List V) (ds args : List D) (vs : List V) (Q : VK) (Qd : List D → Prop), Same G H → H a = some (.lst us) → G a = none → Reps K G ds us → Reps K G args vs → rd ds args Qd →
    (∀ us' ds' v, Reps K G ds' us' → Qd ds' → Q v (upd H a (.lst us'))) → r (.ref a) vs H Q
/-- all scalars -/
def scs (ds : List D) : Bool := ds.all D.sc
theorem reps_of_sc {G G' : Hp} : ∀ {ds : List D} {vs : List V}, scs ds = true → Reps K G ds vs → Reps K G' ds vs
  | [], vs, _, r => by rw [Reps.nil_iff.mp r]; exact Reps.nil
  | d :: ds, vs, h, r => by
    unfold scs at h
    rw [List.all_cons, Bool.and_eq_true] at h
    obtain ⟨v, w, rfl, r1, r2⟩ := Reps.cons_iff.mp r
    exact Reps.cons (rep_of_sc h.1 r1) (reps_of_sc h.2 r2)
def yOM (S : List Nat) (i : Nat) (rd : List D → List D → (List D → Prop) → Prop) (ts : TDA) : TDS := fun Dd δ => ∃ ds, δ[i]? = some (.own (.lst ds)) ∧ i ∉ S ∧
  ts (frz S δ) (fun args => rd ds args fun ds' => Dd.nx ((if scs args = true then δ else frz S δ).set i (.own (.lst ds')))) (fun c fs => Dd.xc c fs (frz S δ))
theorem ref_om {r : V → List V → Hp → VK → Prop} {rd : List D → List D → (List D → Prop) → Prop} {t : TA} (S : List Nat) (i : Nat) (hr : RefOM K r rd) (h : RefA K p W t ts) : RefS K p W (tDrop (tBM K "list" r (tVar i) t)) (yOM S i rd ts) := by
  intro Gb G σ H δ D Dd s rr q h'
  obtain ⟨ds, hi, hS, q⟩ := q
  obtain ⟨G1, g1, r1⟩ := DR.freeze (S := S) rr
  have hi1 : (frz S δ)[i]? = some (.own (.lst ds)) := by rw [frz_get hS]; exact hi
  obtain ⟨a, a1, a2, a3, us, a4, a5⟩ := rr.slot i _ hi
  obtain ⟨a', b1, b2, b3, us', b4, b5⟩ := r1.slot i _ hi1
  rw [a1] at b1; cases b1
  rw [a4] at b4; cases b4
  refine ⟨.ref a, a1, .inl ⟨rfl, us, SqL.of a4⟩, ?_⟩
  refine h G1 σ H (frz S δ) _ _ _ r1 q (fun G2 H2 vs args e2 ra q2 => ?_) (h'.x (s.trans g1) r1)
  have nb := rr.nb a3
  have h2a : H2 a = some (.lst us) := e2.keep a _ nb a4
  by_cases hsc : scs args = true
  · rw [if_pos hsc] at q2
    have rb := rr.back e2.keep e2.bag
    refine hr G H2 a us ds args vs _ _ rb.sub h2a a2 a5 (reps_of_sc hsc ra) q2 fun us' ds' v ru q3 => ?_
    exact h'.nx G σ _ _ s (rb.change (o' := .lst ds') hi a1 ⟨us', upd_same, ru⟩) q3
  · rw [if_neg hsc] at q2
    have rx := r1.ext e2
    obtain ⟨a', c1, c2, c3, us2, c4, c5⟩ := rx.slot i _ hi1
    rw [a1] at c1; cases c1
    rw [h2a] at c4; cases c4
    refine hr G2 H2 a us ds args vs _ _ e2.sub h2a c2 c5 ra q2 fun us' ds' v ru q3 => ?_
    exact h'.nx G2 σ _ _ ((s.trans g1).trans e2.gg) (rx.change (o' := .lst ds') hi1 a1 ⟨us', upd_same, ru⟩) q3
theorem ds_om {id : String} {name x : Str} {apos cpos pn : Pos} {r : V → List V → Hp → VK → Prop} {rd : List D → List D → (List D → Prop) → Prop} (S : List Nat) (i : Nat) (slot : Slot "list" name id) (hty : typeOf (.builtin id) = pure (.type "method_descriptor")) (hm : MtR X id r) (hr : RefOM X.K r rd) (ha : DA p X W (e :: es) ts)
    (hN : X.N[i]? = some x := by rfl) (hv : Vis X.env.scope x := by first | exact Or.inl rfl | exact Or.inr (Or.inl rfl) | exact Or.inr (Or.inr rfl)) (hd : (x == ("__debug__" : Str)) = false := by decide) (hcd : (x == ("__classdict__" : Str)) = false := by decide)
    (hbase : attributeBase (.Name x pn) name X.env (eval (.Name x pn) X.env) = eval (.Name x pn) X.env := by rfl)
    (hfew : ((backTo cpos (starEach (e :: es) X.env)).all (fun x => !x.1) && (backToKw cpos (keywordEach [] X.env)).all (fun x => x.1.isSome)
      && decide ((e :: es).length + ([] : List Keyword).length + (if ([] : List Keyword).isEmpty then 0 else 1) < 30)) = true := by rfl)
    (hline : (apos.endLine == cpos.line) = true := by rfl) (hs : starEach (e :: es) X.env = (false, eval e X.env) :: starEach es X.env := by rfl) (hplain : (backTo cpos (starEach es X.env)).any (·.1) = false := by rfl)
    (hsw : swapsWith (.Call (.Attribute (.Name x pn) name apos) (e :: es) [] cpos) none pos.line X.env = pure false := by rfl) : DS p X W (.Expr (.Call (.Attribute (.Name x pn) name apos) (e :: es) [] cpos) pos) (yOM S i rd ts) := by
  obtain ⟨a, a1, a2⟩ := ha
  exact ⟨_, ps_expr (pe_bm PySem.F.plainAttrs_list slot hty hm (pe_var hN hv hd hcd) a1 hbase hfew hline hs hplain) hsw, ref_om S i hr a2⟩
def oAppend (ds args : List D) (k : List D → Prop) : Prop := match args with
  | [d] => ds.length < sizeLine ∧ k (ds ++ [d])
  | _ => False
theorem r_append : RefOM K rAppend oAppend := by
  intro G H a us ds args vs Q Qd s ha hG r ra h k
  unfold oAppend at h
  split at h
  · obtain ⟨v, rfl, r1⟩ := reps1 ra
    exact ⟨a, us, v, rfl, rfl, ha, by rw [← r.length]; exact h.1, k _ _ _ (r.snoc r1) h.2⟩
  · exact h.elim
def oExtend (ds args : List D) (k : List D → Prop) : Prop := match args with
  | [.lst es] => ds.length + es.length ≤ sizeLine ∧ k (ds ++ es)
  | _ => False
theorem r_extend : RefOM K rExtend oExtend := by
  intro G H a us ds args vs Q Qd s ha hG r ra h k
  unfold oExtend at h
  split at h
  · obtain ⟨v, rfl, r1⟩ := reps1 ra
    obtain ⟨c, ws, rfl, c1, c2⟩ := rep_lstI.mp r1
    exact ⟨a, c, us, ws, rfl, rfl, ha, s _ _ c1, by rw [← r.length, ← c2.length]; exact h.1, k _ _ _ (r.append c2) h.2⟩
  · exact h.elim
theorem ds_append {x : Str} {apos cpos pn : Pos} (S : List Nat) (i : Nat) (ha : DA p X W [e] ts)
    (hN : X.N[i]? = some x := by rfl) (hv : Vis X.env.scope x := by first | exact Or.inl rfl | exact Or.inr (Or.inl rfl) | exact Or.inr (Or.inr rfl)) (hd : (x == ("__debug__" : Str)) = false := by decide) (hcd : (x == ("__classdict__" : Str)) = false := by decide)
    (hbase : attributeBase (.Name x pn) "append" X.env (eval (.Name x pn) X.env) = eval (.Name x pn) X.env := by rfl)
    (hfew : ((backTo cpos (starEach [e] X.env)).all (fun x => !x.1) && (backToKw cpos (keywordEach [] X.env)).all (fun x => x.1.isSome)
      && decide (([e]).length + ([] : List Keyword).length + (if ([] : List Keyword).isEmpty then 0 else 1) < 30)) = true := by rfl)
    (hline : (apos.endLine == cpos.line) = true := by rfl) (hs : starEach [e] X.env = (false, eval e X.env) :: starEach [] X.env := by rfl) (hplain : (backTo cpos (starEach [] X.env)).any (·.1) = false := by rfl)
    (hsw : swapsWith (.Call (.Attribute (.Name x pn) "append" apos) [e] [] cpos) none pos.line X.env = pure false := by rfl) : DS p X W (.Expr (.Call (.Attribute (.Name x pn) "append" apos) [e] [] cpos) pos) (yOM S i oAppend ts) :=
  ds_om S i PySem.F.slot_list_append PySem.F.type_list_append mt_append r_append ha hN hv hd hcd hbase hfew hline hs hplain hsw
/-- x = [..], the list x's own -/
def ySetLstO (S : List Nat) (i : Nat) (ts : TDA) : TDS := fun Dd δ => ts (frz S δ) (fun ds => ds.length ≤ sizeLine ∧ Dd.nx ((if scs ds = true then δ else frz S δ).set i (.own (.lst ds)))) (fun c fs => Dd.xc c fs (frz S δ))
theorem ds_setLstO (S : List Nat) (i : Nat) {x : Str} {pl px : Pos} (hN : X.N.Nodup) (ha : DA p X W es ts) (hi : X.N[i]? = some x := by rfl) (hx : Loc X.env.scope x := by first | exact .inl rfl | exact .inr rfl) (hs : swapsWith (.List es pl) (some (.Name x px)) pos.line X.env = pure false := by rfl)
    (hf : X.fn x = true ∨ X.env.scope.names.lookup x = some .local := by first | exact .inl rfl | exact .inr rfl | assumption) : DS p X W (.Assign [.Name x px] (.List es pl) pos) (ySetLstO S i ts) := by
  obtain ⟨a, a1, a2⟩ := ha
  refine ⟨_, ps_set hN hi hx (pe_lst a1) hs hf, fun Gb G σ H δ D Dd s r q h => ?_⟩
  obtain ⟨G1, g1, r1⟩ := DR.freeze (S := S) r
  refine a2 G1 σ H _ _ _ _ r1 q (fun G2 H2 vs ds e2 r2 q2 => ?_) (h.x (s.trans g1) r1)
  refine ⟨by rw [← r2.length]; exact q2.1, fun A hA => ?_⟩
  have q3 := q2.2
  have up : ∀ c o, c ≠ p.b.a → H2 c = some o → upd H2 A (.lst vs) c = some o := fun c o _ z => by rw [upd_ne (ne_of_none z hA)]; exact z
  have rx := r1.ext e2
  have nb : p.b.a ≠ A := fun z => rx.at (by rw [z]; exact hA)
  have bg : BagOk X.K p.b G2 (upd H2 A (.lst vs)) := by
    obtain ⟨i', g', s', c', b1, b3⟩ := rx.bag.2.2
    exact ⟨rx.bag.1, rx.bag.2.1, i', g', s', c', by rw [upd_ne nb]; exact b1, b3⟩
  by_cases hsc : scs ds = true
  · rw [if_pos hsc] at q3
    have rb := r.back (fun c o n z => up c o n (e2.keep c o n z)) bg
    exact h.nx G _ _ _ s (rb.setOwn (o := .lst ds) ((r.back e2.keep e2.bag).sub.free hA) (h0_none (r.back e2.keep e2.bag) hA) ⟨vs, upd_same, reps_of_sc hsc r2⟩ (own_fresh (r.back e2.keep e2.bag) hA)) q3
  · rw [if_neg hsc] at q3
    have rb := rx.back up bg
    exact h.nx G2 _ _ _ ((s.trans g1).trans e2.gg) (rb.setOwn (o := .lst ds) (rx.sub.free hA) (h0_none rx hA) ⟨vs, upd_same, r2⟩ (own_fresh rx hA)) q3
end
end DL

namespace PySem
namespace EXG
open PySem.W PySem.Calls PyProof.Rows PySem.HandSPX
section
variable {M : Model} {A : Around} {E : Value → Shared → Prop} {h : Heap} {g : Array GenState} {d : Drawn} {t : Nat} {os : OsState}
variable {nm q : Str} {C N : Addr} {bs bm bmB : List Value} {hdct : Bool} {sn : List Str} {sub : List Value} {ab : Bool} {col : Option Bool} {dd : Option Addr} {k0 k1 k2 k3 k5 : Option Value} {B newId initId : String}
theorem check_new_kw (F : ExcBaseFacts B newId initId bmB) (hT : ∀ X : String, bm.contains (.type X) = bmB.contains (.type X)) {rest : List Value} {kw : List (Str × Value)} {Q : Unit → Shared → Prop}
    (hC : h.get? C = some (excClassObj nm q C N bs bm hdct sn sub ab col dd k0 k1 k2 k3 k5 newId)) (hq : Q () ⟨h, g, d, t, os⟩) : wpAny M A (checkBuiltinCall newId ⟨.ref C :: rest, kw⟩) Q E ⟨h, g, d, t, os⟩ := by
  have hcont : (Value.ref C :: bm).contains (.type B) = true := by rw [List.contains_cons, hT, F.hasB, Bool.or_true]
  have hstar := F.noStar
  simp only [checkBuiltinCall, F.newKind, F.newSplit, F.newRow]
  repeat (first | refine wpAny_loadPart_at hC ?_ | (refine wpAny_isSubtype_exc hC ?_; rw [hcont]) | refine wpAny_staticBase_exc hC ?_ | refine wpAny_madeBy_exc hC ?_ | simp only [bne_self_eq_false, Bool.false_eq_true, if_false] | wp_step)
  exact hq
theorem check_call_kw {rest : List Value} {kw : List (Str × Value)} {Q : Unit → Shared → Prop} (hC : h.get? C = some (excClassObj nm q C N bs bm hdct sn sub ab col dd k0 k1 k2 k3 k5 newId))
    (hq : Q () ⟨h, g, d, t, os⟩) : wpAny M A (checkBuiltinCall "type.__call__" ⟨.ref C :: rest, kw⟩) Q E ⟨h, g, d, t, os⟩ := by
  have f3 := tc_sub
  have hT : (⟨h, g, d, t, os⟩ : Shared).TypeIs (.ref C) "type" := ⟨_, hC, rfl⟩
  simp only [checkBuiltinCall, tc_kind, tc_split]
  repeat (any_goals (first | assumption | with_reducible refine wpAny_loadPart_at hC ?_ | with_reducible refine wpAny_onRaise ?_ | with_reducible refine wpAny_map ?_ | wp_step))
end
section
variable {prog : Program} {w : World} {A : Around} {E : Value → Shared → Prop} {R : Result → Shared → Prop} {h : Heap} {g : Array GenState} {d : Drawn} {t : Nat} {os : OsState}
variable {nm q : Str} {C N : Addr} {bs bm bmB : List Value} {hdct : Bool} {sn : List Str} {sub : List Value} {ab : Bool} {col : Option Bool} {dd : Option Addr} {k0 k1 k2 k3 k5 : Option Value} {B newId initId : String}
theorem new_kw (F : ExcBaseFacts B newId initId bmB) (hT : ∀ X : String, bm.contains (.type X) = bmB.contains (.type X)) {rest : List Value} {kw : List (Str × Value)}
    (hC : h.get? C = some (excClassObj nm q C N bs bm hdct sn sub ab col dd k0 k1 k2 k3 k5 newId))
    (hq : R (.ok (.ret (.ref (h.objs.size + 1)))) ⟨(h.push { cls := .type "tuple", data := .seq rest.toArray }).push
      { cls := .ref C, data := .fields #[.ref h.objs.size, .none, .none, .none, .bool false, .none] }, g, d, t, os⟩) (hrest : rest.length ≤ sizeLine) :
    codeAny (model prog w) A (.builtin newId ⟨.ref C :: rest, kw⟩) R ⟨h, g, d, t, os⟩ := by
  have hends := F.ends
  have hcB : (Value.ref C :: bm).contains (.type B) = true := by rw [List.contains_cons, hT, F.hasB, Bool.or_true]
  have hcA : (Value.ref C :: bm).contains (.type "AttributeError") = false := by rw [List.contains_cons, hT, F.noAttr]; rfl
  have hcN : (Value.ref C :: bm).contains (.type "NameError") = false := by rw [List.contains_cons, hT, F.noName]; rfl
  refine codeAny_builtinAt F.entry ?_
  unfold Builtin.«BaseException.__new__»
  refine wpAt_bind ?_
  show wpAt _ _ _ (stack >>= _) _ _ _
  refine wpAt_bind (wpAt_stack fun p below => wpAt_of_wpAny ?_)
  wp_walk
  refine wpAt_of_wpAny ?_
  rw [F.owner]
  repeat (first | with_reducible refine wpAny_madeHere_exc F.canon hC ?_ | with_reducible refine wpAny_loadPart_at hC ?_ | (with_reducible refine wpAny_isSubtype_exc hC ?_; first | rw [hcB] | rw [hcA] | rw [hcN]) | wp_step)
  show R _ _
  rw [Heap.size_push]
  exact hq
theorem type_call_kw (F : ExcBaseFacts B newId initId bmB) (hT : ∀ X : String, bm.contains (.type X) = bmB.contains (.type X)) {rest : List Value} {kw : List (Str × Value)} {fI : Addr} {Q : Fin → Shared → Prop}
    (hC : h.get? C = some (excClassObj nm q C N bs bm hdct sn sub ab col dd k0 k1 k2 k3 k5 newId))
    (hi : W.Looks (model prog w) h (typeLookup (.ref C) "__init__") (some (.ref fI))) (hb : ∀ self, W.Looks (model prog w) h (bindSpecial (.ref fI) self) (.ref fI, [self])) (hrest : rest.length ≤ sizeLine)
    (hq : codeAny (model prog w) A (.call (.ref fI) ⟨.ref (h.objs.size + 1) :: rest, kw⟩)
      (fun r s' => match r with | .ok (.ret v) => v = .none ∧ Q (.done (.ret (.ref (h.objs.size + 1)))) s' | .ok _ => False | .error e => E e s')
      ⟨(h.push (W.kdv_tup rest)).push (excO C h.objs.size), g, d, t, os⟩) :
    wpAny (model prog w) A (Builtin.«type.__call__» ⟨.ref C :: rest, kw⟩) Q E ⟨h, g, d, t, os⟩ := by
  repeat (first | with_reducible refine wpAny_loadPart_at hC ?_ | with_reducible refine wpAny_madeBy_exc hC ?_ | wp_step)
  refine codeAny_call_builtin_code (Code.quiet_builtin _ F.quiet) (check_new_kw F hT hC ?_)
  refine new_kw F hT hC ?_ hrest
  show wpAny _ _ _ _ _ _
  have k : ∀ b o, h.get? b = some o → ((h.push (W.kdv_tup rest)).push (excO C h.objs.size)).get? b = some o := fun b o e => Heap.get?_push_of_some _ (Heap.get?_push_of_some _ e)
  have hC₁ := k _ _ hC
  have hget : ((h.push (W.kdv_tup rest)).push (excO C h.objs.size)).get? (h.objs.size + 1) = some (excO C h.objs.size) := by heap_get
  have hcC : (Value.ref C :: bm).contains (.ref C) = true := by simp
  have i1 := hi.keeps k
  have b1 := (hb (.ref (h.objs.size + 1))).keeps k
  unfold isInstance
  repeat (first | with_reducible refine wpAny_loadPart_at hget ?_ | (with_reducible refine wpAny_isSubtype_exc hC₁ ?_; rw [hcC]) | wp_step)
  show wpAny _ _ (typeLookup (.ref C) _) _ _ _
  refine i1.at ?_
  refine wpAny_holding (wpAny_bind (b1.at ?_))
  refine wpAny_bind (wpAny_call (codeAny_mono hq fun r s' z => ?_))
  rcases r with e | (v | _ | _ | _) <;> first | exact z | exact z.elim | skip
  obtain ⟨rfl, z⟩ := z
  first
    | exact wpAny_pure (wpAny_pure z)
    | (wp_walk; exact z)
theorem call_kw (F : ExcBaseFacts B newId initId bmB) (hT : ∀ X : String, bm.contains (.type X) = bmB.contains (.type X)) {rest : List Value} {kw : List (Str × Value)} {fI : Addr}
    (hC : h.get? C = some (excClassObj nm q C N bs bm hdct sn sub ab col dd k0 k1 k2 k3 k5 newId))
    (hi : W.Looks (model prog w) h (typeLookup (.ref C) "__init__") (some (.ref fI))) (hb : ∀ self, W.Looks (model prog w) h (bindSpecial (.ref fI) self) (.ref fI, [self])) (hrest : rest.length ≤ sizeLine)
    (hq : codeAny (model prog w) (A.under (.builtin "type.__call__" ⟨.ref C :: rest, kw⟩)) (.call (.ref fI) ⟨.ref (h.objs.size + 1) :: rest, kw⟩) (W.InitBack (h.objs.size + 1) R)
      ⟨(h.push (W.kdv_tup rest)).push (excO C h.objs.size), g, d, t, os⟩) :
    codeAny (model prog w) A (.call (.ref C) ⟨rest, kw⟩) R ⟨h, g, d, t, os⟩ := by
  have f1 := tc_lookup
  have f2 := tc_bind (.ref C)
  have hTy : (⟨h, g, d, t, os⟩ : Shared).TypeIs (.ref C) "type" := ⟨_, hC, rfl⟩
  refine codeAny_of_tree ?_
  show wpAny _ _ (callAny (.ref C) _) _ _ _
  repeat (any_goals (first | assumption | with_reducible refine wpAny_loadPart_at hC ?_ | wp_step))
  refine ⟨rfl, ?_⟩
  refine codeAny_call_builtin_at (Code.quiet_builtin _ (by decide +kernel)) entry_typeCall (check_call_kw hC (type_call_kw F hT hC hi hb hrest ?_))
  refine codeAny_mono hq fun r s' z => ?_
  rcases r with e | (v | _ | _ | _) <;> exact z
end
/-- what a store asks of a class's mro -/
structure MroOk (m : List Value) : Prop where
  ne : m.isEmpty = false
  ob : m.contains (.type "object") = true
  pass : ∀ self, refuseLoop self "__setattr__" m = pure ()
theorem mroOk_of {B : String} {bmB bm : List Value} {C : Addr} (SF : StoreFacts B bmB "object.__setattr__" "object") (h : excTail bmB bm = true) : MroOk (.ref C :: bm) :=
  ⟨rfl, by rw [List.contains_cons, excTail_contains "object" _ h, SF.hasOwner, Bool.or_true], fun self => by rw [refuseLoop_ref]; exact excTail_pass self (SF.passes self) _ h⟩
section
open Builtin Builtin.ObjectAttr
variable {prog : Program} {w : World} {A : Around} {E : Value → Shared → Prop} {R : Result → Shared → Prop} {hp : Heap} {g : Array GenState} {d : Drawn} {t : Nat} {os : OsState}
theorem osa_first {K : W.Frag} {name : Str} {tk : Tok} {v : Value} {x C : Addr} {fv : Array Value} {cd : ClassData}
    (X : K.In hp) (hx : hp.get? x = some { cls := .ref C, data := .fields fv }) (hcd : W.clsIn K C = some cd) (hm : MroOk cd.mro) (hh : cd.hasDict = true) (ha : W.findIn K (.ref C) name = some none)
    (hq : ∀ h' tk' dx, (∀ b o, b ≠ x → hp.get? b = some o → h'.get? b = some o) → hp.objs.size ≤ dx → dx ≠ x → h'.get? x = some { cls := .ref C, dict := some dx, data := .fields fv } →
      h'.Ns1 dx (fun y => if y = name then some v else none) → R (.ok (.ret .none)) ⟨h', g, d, tk', os⟩) :
    codeAny (model prog w) A (.call (.builtin "object.__setattr__") ⟨[.ref x, .str name tk, v], []⟩) R ⟨hp, g, d, t, os⟩ := by
  have I : W.InstAt hp x { cls := .ref C, data := .fields fv } C none := ⟨hx, rfl, rfl, trivial⟩
  have SF := F.store_object
  have ne := hm.ne
  have hob := hm.ob
  have hxs : x ≠ hp.objs.size := Nat.ne_of_lt (Heap.lt_size hx)
  have sub : W.Looks (model prog w) hp (isInstance (.ref x) (.type "object")) true := I.type.andThen (W.looks_mroIn X (by unfold W.mroIn; rw [hcd, Option.bind_some, if_neg (by rw [ne]; decide), hob]))
  refine codeAny_call_builtin SF.slot.plain SF.entry (@W.check_slot (model prog w) _ _ ⟨hp, g, d, t, os⟩ "object.__setattr__" "object" "__setattr__" (.ref x) [.str name tk, v] [] _ SF.kind SF.split sub (SF.args (.ref x) (.str name tk) v) ?_)
  have hmr : W.Looks (model prog w) hp (mroOf (.ref C)) cd.mro := (W.looks_clsIn X hcd).andThen .now
  have L3 : W.Looks (model prog w) hp (storeTaker? none) none := .now
  have hcls : W.Looks (model prog w) hp (classData C) cd := W.looks_clsIn X hcd
  rw [W.osa_eq, refuse_eq]
  refine wpAny_bind (wpAny_bind (I.type.at (wpAny_bind (hmr.at ?_))))
  rw [hm.pass]
  refine wpAny_pure (wpAny_bind (I.type.at (wpAny_bind ((W.looks_findIn X ha).at (wpAny_bind (L3.at ?_))))))
  show wpAny _ _ (storeInOwnDict (.ref x) (.ref C) (.str name tk) name v false) _ _ _
  obtain ⟨nm, bs, mro, ns, qn, hd, sn, sb, ab, col, del⟩ := cd
  dsimp only at hh
  subst hh
  unfold storeInOwnDict ownDictForStores
  repeat (first | with_reducible refine store_in_new ?_ ?_ | with_reducible refine wpAny_loadPart_at hx ?_ | with_reducible refine hcls.at ?_ | wp_step)
  · exact ⟨_, #[], _, (Heap.get?_update_ne _ _ _ _ hxs.symm).trans (Heap.get?_push_at rfl rfl), rfl, fun e he => absurd he (by simp), fun _ => rfl⟩
  · intro h' tk' hn' hs
    have hx₁ : (hp.push { cls := .type "dict", data := .dict #[] }).get? x = some { cls := .ref C, data := .fields fv } := Heap.get?_push_of_some _ hx
    refine hq h' tk' hp.objs.size (fun b o hb ho => ?_) (Nat.le_refl _) hxs.symm ?_ hn'
    · exact (hs.2 b (Nat.ne_of_lt (Heap.lt_size ho))).trans ((Heap.get?_update_ne _ _ _ _ hb).trans (Heap.get?_push_of_some _ ho))
    · exact (hs.2 x hxs).trans (Heap.get?_update_self _ hx₁ rfl)
theorem osa_next {K : W.Frag} {name : Str} {tk : Tok} {v : Value} {x C dx : Addr} {fv : Array Value} {cd : ClassData} {m0 : Str → Option Value} {nl : List Str}
    (X : K.In hp) (hx : hp.get? x = some { cls := .ref C, dict := some dx, data := .fields fv }) (hns : hp.Ns1 dx m0) (hw : Within m0 nl) (hz : nl.length ≤ 1000) (hcd : W.clsIn K C = some cd) (hm : MroOk cd.mro) (hh : cd.hasDict = true)
    (ha : W.findIn K (.ref C) name = some none)
    (hq : ∀ h' tk', (∀ b o, b ≠ dx → hp.get? b = some o → h'.get? b = some o) → h'.Ns1 dx (fun y => if y = name then some v else m0 y) → R (.ok (.ret .none)) ⟨h', g, d, tk', os⟩) :
    codeAny (model prog w) A (.call (.builtin "object.__setattr__") ⟨[.ref x, .str name tk, v], []⟩) R ⟨hp, g, d, t, os⟩ := by
  obtain ⟨oD, esD, epD, hoD, hdD, _⟩ := hns.count hw
  have I : W.InstAt hp x { cls := .ref C, dict := some dx, data := .fields fv } C (some oD) := ⟨hx, rfl, rfl, hoD⟩
  have SF := F.store_object
  have ne := hm.ne
  have hob := hm.ob
  have sub : W.Looks (model prog w) hp (isInstance (.ref x) (.type "object")) true := I.type.andThen (W.looks_mroIn X (by unfold W.mroIn; rw [hcd, Option.bind_some, if_neg (by rw [ne]; decide), hob]))
  refine codeAny_call_builtin SF.slot.plain SF.entry (@W.check_slot (model prog w) _ _ ⟨hp, g, d, t, os⟩ "object.__setattr__" "object" "__setattr__" (.ref x) [.str name tk, v] [] _ SF.kind SF.split sub (SF.args (.ref x) (.str name tk) v) ?_)
  have hmr : W.Looks (model prog w) hp (mroOf (.ref C)) cd.mro := (W.looks_clsIn X hcd).andThen .now
  have L3 : W.Looks (model prog w) hp (storeTaker? none) none := .now
  have hcls : W.Looks (model prog w) hp (classData C) cd := W.looks_clsIn X hcd
  rw [W.osa_eq, refuse_eq]
  refine wpAny_bind (wpAny_bind (I.type.at (wpAny_bind (hmr.at ?_))))
  rw [hm.pass]
  refine wpAny_pure (wpAny_bind (I.type.at (wpAny_bind ((W.looks_findIn X ha).at (wpAny_bind (L3.at ?_))))))
  show wpAny _ _ (storeInOwnDict (.ref x) (.ref C) (.str name tk) name v false) _ _ _
  obtain ⟨nm, bs, mro, ns, qn, hd, sn, sb, ab, col, del⟩ := cd
  dsimp only at hh
  subst hh
  unfold storeInOwnDict ownDictForStores
  repeat (first | with_reducible refine OEX.store_in_old hns hw hz ?_ | with_reducible refine wpAny_loadPart_at hx ?_ | with_reducible refine hcls.at ?_ | wp_step)
  intro h' tk' hn' hs
  exact hq h' tk' (fun b o hb ho => (hs.2 b hb).trans ho) hn'
end
end EXG
end PySem

namespace EX
open PySem PySem.Spec PyProof.Rows L2

/-- what the written part says of an own exception class -/
structure OxC (K : PySem.W.Frag) (C : Addr) : Prop where
  cls : ∃ (B newId initId : String) (bmB : List Value) (nm q : Str) (N : Addr) (bs bm : List Value) (sn : List Str) (sub : List Value) (ab : Bool) (col : Option Bool) (dd : Option Addr) (k0 k1 k2 k3 k5 : Option Value), ExcBaseFacts B newId initId bmB ∧ (∀ X : String, bm.contains (.type X) = bmB.contains (.type X)) ∧ PySem.EXG.MroOk (.ref C :: bm) ∧
    K.lookup C = some (excClassObj nm q C N bs bm true sn sub ab col dd k0 k1 k2 k3 k5 newId)
  sa : PySem.W.findIn K (.ref C) "__setattr__" = some (some (.builtin "object.__setattr__"))
  exC : PySem.W.subIn K (.ref C) (.type "BaseException") = some true
  tyC : PySem.W.typeIn K (.ref C) = some (.type "type")
  kC : PySem.W.keepIn K (.ref C) = true
  ga : PySem.W.findIn K (.ref C) "__getattribute__" = some (some (.builtin "BaseException.__getattribute__"))
  gg : PySem.W.findIn K (.ref C) "__getattr__" = some none
  hd : PySem.W.hasDictIn K C = true
  ha : PySem.W.findIn K (.ref C) "__class__" = some (some (.builtin "object.__class__"))
  hn : PySem.W.specialIn K (.builtin "object.__class__") "__get__" = some (some (.builtin "getset_descriptor.__get__"))
  ht : PySem.W.takesIn K (.builtin "object.__class__") = some true
  hm : PySem.W.mroIn K C (.type "object") = some true
def veB : List Value := [.type "ValueError", .type "Exception", .type "BaseException", .type "object"]
def leB : List Value := [.type "LookupError", .type "Exception", .type "BaseException", .type "object"]
def ieB : List Value := [.type "IndexError", .type "LookupError", .type "Exception", .type "BaseException", .type "object"]
def oxIn (K : PySem.W.Frag) (C : Addr) (bmB : List Value) (newId : String) : Bool := match K.lookup C with
  | some ⟨.type "type", _, .cls cd, sl⟩ => (match cd.mro, sl.toList with
    | .ref C' :: bm, [_, _, _, _, some (.builtin n), _] => C' == C && n == newId && !cd.hasDel && PySem.W.excTail bmB bm && cd.hasDict
    | _, _ => false)
  | _ => false
theorem oxIn_of {K : PySem.W.Frag} {C : Addr} {bmB : List Value} {newId : String} (q : oxIn K C bmB newId = true) : ∃ (nm qn : Str) (N : Addr) (bs bm : List Value) (sn : List Str) (sub : List Value) (ab : Bool) (col : Option Bool) (dd : Option Addr) (k0 k1 k2 k3 k5 : Option Value),
    PySem.W.excTail bmB bm = true ∧ K.lookup C = some (excClassObj nm qn C N bs bm true sn sub ab col dd k0 k1 k2 k3 k5 newId) := by
  unfold oxIn at q
  split at q
  · rename_i dd cd sl ho
    split at q
    · rename_i C' bm k0 k1 k2 k3 n k5 hm hs
      simp only [Bool.and_eq_true, beq_iff_eq, Bool.not_eq_true'] at q
      obtain ⟨⟨⟨⟨rfl, rfl⟩, hdel⟩, ht⟩, hdi⟩ := q
      obtain ⟨nm, bs, mro, ns, qn, hd, sn, sub, ab, col, del⟩ := cd
      dsimp only at hm hdel hdi
      subst hm hdel hdi
      have hsl : sl = #[k0, k1, k2, k3, some (.builtin n), k5] := by
        obtain ⟨l⟩ := sl
        simp only at hs
        rw [hs]
      subst hsl
      exact ⟨nm, qn, ns, bs, bm, sn, sub, ab, col, dd, k0, k1, k2, k3, k5, ht, ho⟩
    · cases q
  · cases q
def oxB (K : PySem.W.Frag) (C : Addr) : Bool := (oxIn K C veB "ValueError.__new__" || (oxIn K C leB "LookupError.__new__" || oxIn K C ieB "IndexError.__new__")) &&
  (He.eqO (PySem.W.findIn K (.ref C) "__setattr__") (some (some (.builtin "object.__setattr__"))) && (decide (PySem.W.subIn K (.ref C) (.type "BaseException") = some true) && (decide (PySem.W.typeIn K (.ref C) = some (.type "type")) && (PySem.W.keepIn K (.ref C) &&
  (He.eqO (PySem.W.findIn K (.ref C) "__getattribute__") (some (some (.builtin "BaseException.__getattribute__"))) && (He.eqO (PySem.W.findIn K (.ref C) "__getattr__") (some none) && (PySem.W.hasDictIn K C && (He.eqO (PySem.W.findIn K (.ref C) "__class__") (some (some (.builtin "object.__class__"))) &&
  (He.eqO (PySem.W.specialIn K (.builtin "object.__class__") "__get__") (some (some (.builtin "getset_descriptor.__get__"))) && (decide (PySem.W.takesIn K (.builtin "object.__class__") = some true) && decide (PySem.W.mroIn K C (.type "object") = some true)))))))))))
theorem oxB_ok {K : PySem.W.Frag} {C : Addr} (h : oxB K C = true) : OxC K C := by
  obtain ⟨h0, h⟩ := He.ba h
  obtain ⟨h1, h⟩ := He.ba h
  obtain ⟨h2, h⟩ := He.ba h
  obtain ⟨h3, h⟩ := He.ba h
  obtain ⟨h4, h⟩ := He.ba h
  obtain ⟨h5, h⟩ := He.ba h
  obtain ⟨h6, h⟩ := He.ba h
  obtain ⟨h7, h⟩ := He.ba h
  obtain ⟨h8, h⟩ := He.ba h
  obtain ⟨h9, h⟩ := He.ba h
  obtain ⟨h10, h11⟩ := He.ba h
  refine ⟨?_, He.eqO_ok h1, of_decide_eq_true h2, of_decide_eq_true h3, h4, He.eqO_ok h5, He.eqO_ok h6, h7, He.eqO_ok h8, He.eqO_ok h9, of_decide_eq_true h10, of_decide_eq_true h11⟩
  rcases Bool.or_eq_true_iff.mp h0 with z | z
  · obtain ⟨nm, q, N, bs, bm, sn, sub, ab, col, dd, k0, k1, k2, k3, k5, t, l⟩ := oxIn_of z
    exact ⟨_, _, _, _, nm, q, N, bs, bm, sn, sub, ab, col, dd, k0, k1, k2, k3, k5, PySem.F.excBase_ValueError, fun X => PySem.W.excTail_contains X _ t, PySem.EXG.mroOk_of PySem.F.store_ValueError t, l⟩
  · rcases Bool.or_eq_true_iff.mp z with z | z
    · obtain ⟨nm, q, N, bs, bm, sn, sub, ab, col, dd, k0, k1, k2, k3, k5, t, l⟩ := oxIn_of z
      exact ⟨_, _, _, _, nm, q, N, bs, bm, sn, sub, ab, col, dd, k0, k1, k2, k3, k5, PySem.F.excBase_LookupError, fun X => PySem.W.excTail_contains X _ t, PySem.EXG.mroOk_of PySem.F.store_LookupError t, l⟩
    · obtain ⟨nm, q, N, bs, bm, sn, sub, ab, col, dd, k0, k1, k2, k3, k5, t, l⟩ := oxIn_of z
      exact ⟨_, _, _, _, nm, q, N, bs, bm, sn, sub, ab, col, dd, k0, k1, k2, k3, k5, PySem.F.excBase_IndexError, fun X => PySem.W.excTail_contains X _ t, PySem.EXG.mroOk_of PySem.F.store_IndexError t, l⟩

section
variable {X : Cx} {pins : List (Addr × Obj)} {σ : DL.VSt} {H : Hp} {s : Shared} {a C dx : Addr} {f : Str} {y : V} {u : Value} {fs : List (Str × V)} {Q : Unit → Shared → Prop} {E : Value → Shared → Prop} {A : Around}
/-- self.f = y, the first one -/
theorem ox_new (T : OxC X.K C) (I : Inv X pins σ H s) (e : H a = some (exo a C none)) (hno : PySem.W.findIn X.K (.ref C) f = some none) (ry : RelV y u)
    (h : ∀ dx s', H dx = none → dx ≠ a → Inv X pins σ (upd (upd H dx (exd dx [(f, y)])) a (exo a C (some dx))) s' → Q () s') : wpAny (model X.prog X.w) A (setAttr (.ref a) f u) Q E s := by
  obtain ⟨_, _, _, _, nm, q, N, bs, bm, sn, sub, ab, col, dd, k0, k1, k2, k3, k5, _, _, hM, hC⟩ := T.cls
  have hcl : PySem.W.clsIn X.K C = some { name := nm, bases := bs, mro := .ref C :: bm, ns := N, qualname := q, hasDict := true, slotNames := sn, subclasses := sub, abstract := ab, collection := col, hasDel := false } := by unfold PySem.W.clsIn; rw [hC] <;> rfl
  obtain ⟨t1, ho⟩ := exo_at I.hok e
  obtain ⟨hp, g, d, t, os⟩ := s
  refine PySem.W.set_plain I.kIn (ox := { cls := .ref C, dict := none, data := .fields #[.ref t1, .none, .none, .none, .bool false, .none] }) (od := none) ⟨ho, rfl, rfl, trivial⟩ T.sa ?_
  refine PySem.EXG.osa_first I.kIn ho hcl hM rfl hno (fun h' tk' dx k dn dne hx hn => ?_)
  have hnd : H dx = none := I.hok.fresh dn
  have nd : ∀ {b : Addr} {o : Obj}, hp.get? b = some o → b ≠ dx := fun {b o} q => Nat.ne_of_lt (Nat.lt_of_lt_of_le (Heap.lt_size q) dn)
  have na : ∀ {b : Addr}, H b = none → b ≠ a := fun {b} n z => by
    rw [z, e] at n
    cases n
  have Un1 : Un X.fs [] H (upd (upd H dx (exd dx [(f, y)])) a (exo a C (some dx))) hp h' := {
    keep := fun b o q n _ _ => k b o (na n) q
    slot := fun b o q n _ _ => ⟨o.slots, k b o (na n) q⟩
    free := fun b o q n _ => by rw [upd_ne (na n), upd_ne (nd q)]; exact n
    there := fun b o q _ => by
      by_cases hb : b = a
      · exact ⟨_, by rw [hb]; exact hx⟩
      · exact ⟨o, k b o hb q⟩
    tups := fun b xs q => by rw [upd_ne (at_ne e q exo_tup), upd_ne (ne_of_none q hnd)]; exact q
    frzs := fun b o v q => by rw [upd_ne (at_ne e q exo_frz), upd_ne (ne_of_none q hnd)]; exact q
    tbls := fun b ps q => ⟨#[], by rw [upd_ne (at_ne e q exo_tbl), upd_ne (ne_of_none q hnd), q]; simp⟩ }
  refine h dx _ hnd dne (I.un (t' := tk') Un1 fun b o q => ?_)
  by_cases hb : b = a
  · subst hb
    rw [upd_same] at q
    cases q
    exact exo_ok hx
  · rw [upd_ne hb] at q
    by_cases hd : b = dx
    · subst hd
      rw [upd_same] at q
      cases q
      exact exd_ok hn (relO_put (fs := []) ry fun g => True.intro)
    · rw [upd_ne hd] at q
      exact (I.hok b o q).stay (fun c v hc z => k c v (by
          rcases hc with hc | hc
          · rw [hc]
            exact hb
          · exact at_ne e hc exo_own) z)
        (fun c hc => by rw [upd_ne (at_ne e hc exo_own), upd_ne (ne_of_none hc hnd)]; exact hc) (fun c xs hc => by rw [upd_ne (at_ne e hc exo_tup), upd_ne (ne_of_none hc hnd)]; exact hc)
/-- self.f = y, a further one -/
theorem ox_old (T : OxC X.K C) (I : Inv X pins σ H s) (e : H a = some (exo a C (some dx))) (ed : H dx = some (exd dx fs)) (hl : fs.length ≤ 900) (hno : PySem.W.findIn X.K (.ref C) f = some none) (ry : RelV y u)
    (h : ∀ s', Inv X pins σ (upd H dx (exd dx ((f, y) :: fs))) s' → Q () s') : wpAny (model X.prog X.w) A (setAttr (.ref a) f u) Q E s := by
  obtain ⟨_, _, _, _, nm, q, N, bs, bm, sn, sub, ab, col, dd, k0, k1, k2, k3, k5, _, _, hM, hC⟩ := T.cls
  have hcl : PySem.W.clsIn X.K C = some { name := nm, bases := bs, mro := .ref C :: bm, ns := N, qualname := q, hasDict := true, slotNames := sn, subclasses := sub, abstract := ab, collection := col, hasDel := false } := by unfold PySem.W.clsIn; rw [hC] <;> rfl
  obtain ⟨t1, ho⟩ := exo_at I.hok e
  obtain ⟨mA, hns, rel⟩ := exd_at I.hok ed
  have hw := within_of rel
  obtain ⟨hp, g, d, t, os⟩ := s
  obtain ⟨oD, _, _, hoD, _, _⟩ := hns.count hw
  refine PySem.W.set_plain I.kIn (ox := { cls := .ref C, dict := some dx, data := .fields #[.ref t1, .none, .none, .none, .bool false, .none] }) (od := some oD) ⟨ho, rfl, rfl, hoD⟩ T.sa ?_
  refine PySem.EXG.osa_next I.kIn ho hns hw (by rw [List.length_map]; omega) hcl hM rfl hno (fun h' tk' k hn => ?_)
  have hd : ∃ o, h'.get? dx = some o := by
    obtain ⟨o, _, _, e', _⟩ := hn
    exact ⟨o, e'⟩
  exact h _ (I.write (t' := tk') (x := dx) (e := dx) (o := exd dx ((f, y) :: fs)) (by rw [ed]; exact True.intro) (.inl rfl) k hd (exd_ok hn (relO_put ry rel)))
end
/-- self.f = e -/
def tOx (K : PySem.W.Frag) (f : Str) (to te : TE) : TS := fun D σ H => te σ H fun y H1 => to σ H1 fun x H2 => ∃ a C : Addr, x = .ref a ∧ OxC K C ∧ PySem.W.findIn K (.ref C) f = some none ∧
  ((H2 a = some (exo a C none) ∧ ∀ dx, H2 dx = none → dx ≠ a → D.nx σ (upd (upd H2 dx (exd dx [(f, y)])) a (exo a C (some dx)))) ∨
    ∃ (dx : Addr) (fs : List (Str × V)), H2 a = some (exo a C (some dx)) ∧ H2 dx = some (exd dx fs) ∧ fs.length ≤ 900 ∧ D.nx σ (upd H2 dx (exd dx ((f, y) :: fs))))
section
variable {X : Cx} {o e : Expr} {es : List Expr} {to te : TE} {ta : TA} {f : Str} {p p' p1 p2 pos : Pos}
theorem ps_ox (ho : PE X o to) (he : PE X e te) (hs : swapsWith e (some (.Attribute o f p')) pos.line X.env = pure false := by rfl) : PS X (.Assign [.Attribute o f p'] e pos) (tOx X.K f to te) := by
  refine ⟨fun pins s σ H D I h => ?_⟩
  refine plainObj_wpAny_Assign_Attribute (thn (he.run pins s σ H _ I h) fun v s1 ⟨y, H1, I1, r1, q1⟩ => thn (ho.run pins s1 σ H1 _ I1 q1) fun u s2 ⟨x, H2, I2, r2, a, C, ex, T, hno, q⟩ => ?_) hs
  subst ex
  obtain rfl : u = Value.ref a := r2
  rcases q with ⟨ea, q⟩ | ⟨dx, fs, ea, ed, hl, q⟩
  · exact ox_new T I2 ea hno r1 fun dx s' n ne J => ⟨σ, _, J, q dx n ne⟩
  · exact ox_old T I2 ea ed hl hno r1 fun s' J => ⟨σ, _, J, q⟩
end

/-- the fields behind __init__ -/
def xFs (code : Str) (ns : List Str) (args : List V) : List (Str × V) := (ns.zip args).reverse ++ [((("code" : Str), V.str code) : Str × V)]
def spXI (C : Addr) (code : Str) (ns : List Str) : Sp := fun vs H Q _ => ∃ (a : Addr) (args : List V), vs = .ref a :: args ∧ args.length = ns.length ∧ H a = some (exo a C none) ∧
  ∀ dx H', H dx = none → dx ≠ a → H' a = some (exo a C (some dx)) → H' dx = some (exd dx (xFs code ns args)) → (∀ b, b ≠ a → b ≠ dx → H' b = H b) → Q .non H'
def body0 (c : Str) (j : Nat) (p1 p2 p3 p4 : Pos) : List Stmt := [.Assign [.Attribute (.Name "self" p1) "code" p2] (.Constant (.str c) j p3) p4]
def body1 (c f : Str) (j : Nat) (p1 p2 p3 p4 p5 p6 p7 p8 : Pos) : List Stmt := body0 c j p1 p2 p3 p4 ++ [.Assign [.Attribute (.Name "self" p5) f p6] (.Name f p7) p8]
def body2 (c f g : Str) (j : Nat) (p1 p2 p3 p4 p5 p6 p7 p8 q5 q6 q7 q8 : Pos) : List Stmt := body1 c f j p1 p2 p3 p4 p5 p6 p7 p8 ++ [.Assign [.Attribute (.Name "self" q5) g q6] (.Name g q7) q8]
section
variable {P : Program} {w : World} {K : PySem.W.Frag} {mg : Str → Option Value} {base : Heap} {qual : Str} {st : Stmt} {f C : Addr} {fd : FuncData} {c f1 f2 : Str} {j : Nat} {p1 p2 p3 p4 p5 p6 p7 p8 q5 q6 q7 q8 : Pos}
theorem init0 (T : OxC K C) (F : Fun K "__init__" qual st f fd) (S : FnScope ["self"] ["self"] (defScope st)) (hc : PySem.W.findIn K (.ref C) "code" = some none)
    (hb : defBody st = body0 c j p1 p2 p3 p4) (hs : (defScope st).names.lookup ("self" : Str) = some .local) : FnOk P w K mg base (L2.CX P w) 1 f fd ["self"] (spXI C c []) := by
  refine F.okX S (fun vs H Q E h => ?_) (fun cdv A outer s H vs Q E hr h => ?_)
  · obtain ⟨a, args, rfl, h1, _⟩ := h
    simp only [List.length_cons, h1]
  · obtain ⟨a, args, rfl, h1, h2, k⟩ := h
    rw [hb]
    refine ⟨_, pss_one (ps_ox (pe_var (i := 0) rfl (.inl hs)) pe_str), ?_⟩
    have e0 : args = [] := List.eq_nil_of_length_eq_zero h1
    subst e0
    refine ⟨_, rfl, a, C, rfl, T, hc, .inl ⟨h2, fun dx n ne => ?_⟩⟩
    exact k dx _ n ne upd_same (by rw [upd_ne ne, upd_same]; rfl) (fun b h3 h4 => by rw [upd_ne h3, upd_ne h4])
theorem init1 (T : OxC K C) (F : Fun K "__init__" qual st f fd) (S : FnScope ["self", f1] ["self", f1] (defScope st)) (hc : PySem.W.findIn K (.ref C) "code" = some none) (hc1 : PySem.W.findIn K (.ref C) f1 = some none)
    (hb : defBody st = body1 c f1 j p1 p2 p3 p4 p5 p6 p7 p8) (hs : (defScope st).names.lookup ("self" : Str) = some .local) (hs1 : (defScope st).names.lookup f1 = some .local) (d1 : (f1 == ("__debug__" : Str)) = false) (d1' : (f1 == ("__classdict__" : Str)) = false) :
    FnOk P w K mg base (L2.CX P w) 1 f fd ["self", f1] (spXI C c [f1]) := by
  refine F.okX S (fun vs H Q E h => ?_) (fun cdv A outer s H vs Q E hr h => ?_)
  · obtain ⟨a, args, rfl, h1, _⟩ := h
    simp only [List.length_cons, h1]
  · obtain ⟨a, args, rfl, h1, h2, k⟩ := h
    rw [hb]
    refine ⟨_, pss_cons (ps_ox (pe_var (i := 0) rfl (.inl hs)) pe_str) (pss_one (ps_ox (pe_var (i := 0) rfl (.inl hs)) (pe_var (i := 1) rfl (.inl hs1) d1 d1'))), ?_⟩
    obtain ⟨y, rfl⟩ : ∃ y, args = [y] := by
      match args, h1 with
      | [y], _ => exact ⟨y, rfl⟩
    refine ⟨_, rfl, a, C, rfl, T, hc, .inl ⟨h2, fun dx n ne => ?_⟩⟩
    refine ⟨_, rfl, _, rfl, a, C, rfl, T, hc1, .inr ⟨dx, _, upd_same, by rw [upd_ne ne, upd_same], by show 1 ≤ 900; decide, ?_⟩⟩
    exact k dx _ n ne (by rw [upd_ne (Ne.symm ne), upd_same]) upd_same (fun b h3 h4 => by rw [upd_ne h4, upd_ne h3, upd_ne h4])
theorem init2 (T : OxC K C) (F : Fun K "__init__" qual st f fd) (S : FnScope ["self", f1, f2] ["self", f1, f2] (defScope st)) (hc : PySem.W.findIn K (.ref C) "code" = some none) (hc1 : PySem.W.findIn K (.ref C) f1 = some none) (hc2 : PySem.W.findIn K (.ref C) f2 = some none)
    (hb : defBody st = body2 c f1 f2 j p1 p2 p3 p4 p5 p6 p7 p8 q5 q6 q7 q8) (hs : (defScope st).names.lookup ("self" : Str) = some .local) (hs1 : (defScope st).names.lookup f1 = some .local) (hs2 : (defScope st).names.lookup f2 = some .local) (d1 : (f1 == ("__debug__" : Str)) = false) (d1' : (f1 == ("__classdict__" : Str)) = false) (d2 : (f2 == ("__debug__" : Str)) = false) (d2' : (f2 == ("__classdict__" : Str)) = false) :
    FnOk P w K mg base (L2.CX P w) 1 f fd ["self", f1, f2] (spXI C c [f1, f2]) := by
  refine F.okX S (fun vs H Q E h => ?_) (fun cdv A outer s H vs Q E hr h => ?_)
  · obtain ⟨a, args, rfl, h1, _⟩ := h
    simp only [List.length_cons, h1]
  · obtain ⟨a, args, rfl, h1, h2, k⟩ := h
    rw [hb]
    refine ⟨_, pss_cons (ps_ox (pe_var (i := 0) rfl (.inl hs)) pe_str) (pss_cons (ps_ox (pe_var (i := 0) rfl (.inl hs)) (pe_var (i := 1) rfl (.inl hs1) d1 d1')) (pss_one (ps_ox (pe_var (i := 0) rfl (.inl hs)) (pe_var (i := 2) rfl (.inl hs2) d2 d2')))), ?_⟩
    obtain ⟨y, z, rfl⟩ : ∃ y z, args = [y, z] := by
      match args, h1 with
      | [y, z], _ => exact ⟨y, z, rfl⟩
    refine ⟨_, rfl, a, C, rfl, T, hc, .inl ⟨h2, fun dx n ne => ?_⟩⟩
    refine ⟨_, rfl, _, rfl, a, C, rfl, T, hc1, .inr ⟨dx, _, upd_same, by rw [upd_ne ne, upd_same], by show 1 ≤ 900; decide, ?_⟩⟩
    refine ⟨_, rfl, _, rfl, a, C, rfl, T, hc2, .inr ⟨dx, _, by rw [upd_ne (Ne.symm ne), upd_same], upd_same, by show 2 ≤ 900; decide, ?_⟩⟩
    exact k dx _ n ne (by rw [upd_ne (Ne.symm ne), upd_ne (Ne.symm ne), upd_same]) upd_same (fun b h3 h4 => by rw [upd_ne h4, upd_ne h4, upd_ne h3, upd_ne h4])
end

def pickP {α : Type} (pm : List Nat) (l : List α) : List α := pm.filterMap fun i => l[i]?
theorem vals_at {vs : List V} {us : List Value} (r : Vals vs us) : ∀ i : Nat, (vs[i]? = none ∧ us[i]? = none) ∨ ∃ x y, vs[i]? = some x ∧ us[i]? = some y ∧ RelV x y := by
  induction r with
  | nil => exact fun i => .inl ⟨rfl, rfl⟩
  | cons h t ih =>
    intro i
    cases i with
    | zero => exact .inr ⟨_, _, rfl, rfl, h⟩
    | succ i => simpa using ih i
theorem pickP_vals {vs : List V} {us : List Value} (r : Vals vs us) : ∀ pm : List Nat, Vals (pickP pm vs) (pickP pm us)
  | [] => .nil
  | i :: pm => by
    have t := pickP_vals r pm
    unfold pickP at t ⊢
    rcases vals_at r i with ⟨h1, h2⟩ | ⟨x, y, h1, h2, h3⟩
    · rw [List.filterMap_cons_none h1, List.filterMap_cons_none h2]; exact t
    · rw [List.filterMap_cons_some h1, List.filterMap_cons_some h2]; exact .cons h3 t
/-- a class and its __init__, as the maker needs them -/
structure IFn (X : Cx) (C : Addr) (code : Str) (ns : List Str) (fI : Addr) (fd : FuncData) : Prop where
  T : OxC X.K C
  iC : PySem.W.findIn X.K (.ref C) "__init__" = some (some (.ref fI))
  tI : PySem.W.typeIn X.K (.ref fI) = some (.type "function")
  F : FnOk X.prog X.w X.K X.mg X.base (L2.CX X.prog X.w) 1 fI fd ("self" :: ns) (spXI C code ns)
/-- how m values by place and the keywords ks bind -/
structure BX (fd : FuncData) (ns : List Str) (m : Nat) (ks : List Str) (pm : List Nat) : Prop where
  to : ∀ (s : Shared) (u : Value) (us ws : List Value), us.length = m → ws.length = ks.length → BindsTo s fd ⟨u :: us, ks.zip ws⟩ (((("self" : Str) :: ns)).zip (u :: pickP pm (us ++ ws)))
section
variable {X : Cx} {pins : List (Addr × Obj)} {σ : DL.VSt} {H1 : Hp} {s : Shared} {C fI : Addr} {fd : FuncData} {code : Str} {ns ks : List Str} {pm : List Nat}
theorem run_mkx {us ws : List Value} {vs zs : List V} {Qv : Value → Shared → Prop} (D : IFn X C code ns fI fd) (B : BX fd ns us.length ks pm) (hr : Room 2 X.A) (I1 : Inv X pins σ H1 s) (r1 : Vals vs us) (r3 : Vals zs ws) (hw : ws.length = ks.length)
    (hl : (pickP pm (vs ++ zs)).length = ns.length) (hus : us.length ≤ sizeLine)
    (h : ∀ (a d : Addr) (H2 : Hp) (hp2 h2 : Heap) (g2 : Array GenState) (d2 : Drawn) (t2 : Nat), s.heap.objs.size ≤ a → (∀ b o, s.heap.get? b = some o → hp2.get? b = some o) → Un (frs X.stack) [] (upd H1 a (exo a C none)) H2 hp2 h2 → HOk X.prog X.w H2 h2 → AllBare g2 →
      H2 a = some (exo a C (some d)) → H2 d = some (exd d (xFs code ns (pickP pm (vs ++ zs)))) → H1 d = none → d ≠ a → (∀ b, b ≠ a → b ≠ d → H2 b = H1 b) → Qv (.ref a) ⟨h2, g2, d2, t2, s.os⟩) :
    wpAny (model X.prog X.w) X.A (call (.ref C) us (ks.zip ws)) Qv X.xe s := by
  obtain ⟨T, iC, tI, F⟩ := D
  obtain ⟨_, _, _, _, nm, q, N, bs, bm, sn, sub, ab, col, dd, k0, k1, k2, k3, k5, FB, hT, hM, hC⟩ := T.cls
  obtain ⟨hp, g, dr, tk, os⟩ := s
  have hsz : hp.objs.size ≤ hp.objs.size + 1 := Nat.le_succ _
  have hn : H1 (hp.objs.size + 1) = none := I1.hok.fresh hsz
  have kk : ∀ b o, hp.get? b = some o → ((hp.push (PySem.W.kdv_tup us)).push (PySem.HandSPX.excO C hp.objs.size)).get? b = some o := fun b o e => Heap.get?_push_of_some _ (Heap.get?_push_of_some _ e)
  have hget : ((hp.push (PySem.W.kdv_tup us)).push (PySem.HandSPX.excO C hp.objs.size)).get? (hp.objs.size + 1) = some (PySem.HandSPX.excO C hp.objs.size) := by heap_get
  have I2 : Inv X pins σ (upd H1 (hp.objs.size + 1) (exo (hp.objs.size + 1) C none)) ⟨(hp.push (PySem.W.kdv_tup us)).push (PySem.HandSPX.excO C hp.objs.size), g, dr, tk, os⟩ :=
    I1.laid (t' := tk) (a := hp.objs.size + 1) (o := exo (hp.objs.size + 1) C none) (h' := (hp.push (PySem.W.kdv_tup us)).push (PySem.HandSPX.excO C hp.objs.size)) kk hsz (exo_ok hget)
  have r2 : Vals (V.ref (hp.objs.size + 1) :: pickP pm (vs ++ zs)) (Value.ref (hp.objs.size + 1) :: pickP pm (us ++ ws)) := .cons rfl (pickP_vals (r1.append r3) pm)
  have hq : spXI C code ns (V.ref (hp.objs.size + 1) :: pickP pm (vs ++ zs)) (upd H1 (hp.objs.size + 1) (exo (hp.objs.size + 1) C none)) (fun v H2 => v = .non ∧ ∃ d, H2 (hp.objs.size + 1) = some (exo (hp.objs.size + 1) C (some d)) ∧
      H2 d = some (exd d (xFs code ns (pickP pm (vs ++ zs)))) ∧ H1 d = none ∧ d ≠ hp.objs.size + 1 ∧ ∀ b, b ≠ hp.objs.size + 1 → b ≠ d → H2 b = H1 b) (fun _ _ _ => False) :=
    ⟨_, _, rfl, hl, upd_same, fun dx H' n ne e1 e2 fr => ⟨rfl, dx, e1, e2, by rw [upd_ne ne] at n; exact n, ne, fun b x y => by rw [fr b x y, upd_ne x]⟩⟩
  refine wpAny_call (PySem.EXG.call_kw FB hT (I1.kIn _ _ hC) (PySem.W.looks_findIn I1.kIn iC) (fun self => PySem.W.bind_fn I1.kIn self tI) hus
    (codeAny_mono (F.run _ X.stack _ _ ⟨Value.ref (hp.objs.size + 1) :: us, ks.zip ws⟩ (Value.ref (hp.objs.size + 1) :: pickP pm (us ++ ws)) _ _ (fun _ _ _ => False) (hr.make C us (ks.zip ws)) (I2.env0.make C us (ks.zip ws)) (B.to _ _ us ws rfl hw) r2 hq) fun r s' hq' => ?_))
  cases r with
  | error er => exact passL pins σ _ _ er s' I2 hq'
  | ok fl =>
    cases fl with
    | ret u =>
      obtain ⟨v, H2, os2, bare2, un2, hok2, rv, ev, d, ea, ed, hd1, ne, fr⟩ := hq'
      subst ev
      obtain ⟨h2, g2, d2, t2, os'⟩ := s'
      obtain rfl : os' = os := os2
      exact ⟨rv, h _ d H2 _ h2 g2 d2 t2 hsz kk un2 hok2 bare2 ea ed hd1 ne fr⟩
    | next => exact False.elim hq'
    | brk => exact False.elim hq'
    | cont => exact False.elim hq'
/-- kept as a value: nobody changes it further -/
theorem mk_kept {H2 : Hp} {hp hp2 h2 : Heap} {g1 g2 : Array GenState} {d1 d2 : Drawn} {t1 t2 : Nat} {os : OsState} {a d : Addr} {fs : List (Str × V)} (I1 : Inv X pins σ H1 ⟨hp, g1, d1, t1, os⟩)
    (ha : hp.objs.size ≤ a) (k : ∀ b o, hp.get? b = some o → hp2.get? b = some o) (un : Un (frs X.stack) [] (upd H1 a (exo a C none)) H2 hp2 h2) (hok : HOk X.prog X.w H2 h2) (hb : AllBare g2)
    (ea : H2 a = some (exo a C (some d))) (ed : H2 d = some (exd d fs)) (hd1 : H1 d = none) (hda : d ≠ a) (fr : ∀ b, b ≠ a → b ≠ d → H2 b = H1 b) :
    ∃ oe : Obj, oe.cls = .ref C ∧ oe.dict = some d ∧ (∃ ws, oe.data = .fields ws) ∧ H1 a = none ∧ Inv X pins σ (upd (upd H1 d (.xd fs)) a (DL.excHO a oe)) ⟨h2, g2, d2, t2, os⟩ := by
  obtain ⟨t0, hoe⟩ := exo_at hok ea
  obtain ⟨mA, hns, rel⟩ := exd_at hok ed
  have hn : H1 a = none := I1.hok.fresh ha
  refine ⟨{ cls := .ref C, dict := some d, data := .fields #[.ref t0, .none, .none, .none, .bool false, .none] }, rfl, rfl, ⟨_, rfl⟩, hn, ?_⟩
  have nha : ∀ {b : Addr} {o : Obj}, hp.get? b = some o → b ≠ a := fun {b o} z => Nat.ne_of_lt (Nat.lt_of_lt_of_le (Heap.lt_size z) ha)
  have up : ∀ {b : Addr}, b ≠ a → H1 b = none → upd H1 a (exo a C none) b = none := fun {b} hb n => by rw [upd_ne hb]; exact n
  have nd : ∀ {b : Addr} {o : Obj}, hp.get? b = some o → H1 b = none → b ≠ d := fun {b o} z n e => by
    have y := un.free b o (k b o z) (up (nha z) n) (by simp)
    rw [e, ed] at y
    cases y
  have U : Un (frs X.stack) [] H1 (upd (upd H1 d (.xd fs)) a (DL.excHO a { cls := .ref C, dict := some d, data := .fields #[.ref t0, .none, .none, .none, .bool false, .none] })) hp h2 := {
    keep := fun b o z n hf hx => un.keep b o (k b o z) (up (nha z) n) hf hx
    slot := fun b o z n hf hx => un.slot b o (k b o z) (up (nha z) n) hf hx
    free := fun b o z n hx => by
      rw [upd_ne (nha z), upd_ne (nd z n)]
      exact n
    there := fun b o z hx => un.there b o (k b o z) hx
    tups := fun b xs z => by
      rw [upd_ne (ne_of_none z hn), upd_ne (ne_of_none z hd1)]
      exact z
    frzs := fun b o v z => by
      rw [upd_ne (ne_of_none z hn), upd_ne (ne_of_none z hd1)]
      exact z
    tbls := fun b ps z => by
      rw [upd_ne (ne_of_none z hn), upd_ne (ne_of_none z hd1), z]
      exact ⟨#[], by simp⟩ }
  refine I1.call' (ch := []) rfl U (fun b o z => ?_) hb (fun b z => absurd z (by simp))
  by_cases hba : b = a
  · subst hba
    rw [upd_same] at z
    cases z
    exact ⟨hoe, hoe, ⟨_, hoe⟩, fun h1 h3 e kp => kp _ e⟩
  · rw [upd_ne hba] at z
    by_cases hbd : b = d
    · subst hbd
      rw [upd_same] at z
      cases z
      exact ⟨mA, hns, rel⟩
    · rw [upd_ne hbd] at z
      rw [← fr b hba hbd] at z
      exact (hok b o z).stay (fun c v hc y => y) (fun c hc => by
          have h1 := at_ne ea hc exo_own
          have h2 := at_ne ed hc exd_own
          rw [upd_ne h1, upd_ne h2, ← fr c h1 h2]; exact hc) (fun c xs hc => by
          have h1 := at_ne ea hc exo_tup
          have h2 := at_ne ed hc exd_tup
          rw [upd_ne h1, upd_ne h2, ← fr c h1 h2]; exact hc)
end

/-- the values by place, then those of the keywords -/
def tAK (ta tk : TA) : TA := fun σ H Q => ta σ H fun vs H1 => tk σ H1 fun zs H2 => Q (vs ++ zs) H2
def tXV (C : Addr) (code : Str) (ns : List Str) (pm : List Nat) (n : Nat) (ta : TA) : TE := fun σ H Q => ta σ H fun vs H1 => vs.length = n ∧ (pickP pm vs).length = ns.length ∧
  ∀ (a d : Addr) (oe : Obj), H1 a = none → H1 d = none → d ≠ a → oe.cls = .ref C → oe.dict = some d → (∃ ws, oe.data = .fields ws) → Q (.ref a) (upd (upd H1 d (.xd (xFs code ns (pickP pm vs)))) a (DL.excHO a oe))
def tXR (C : Addr) (code : Str) (ns : List Str) (pm : List Nat) (n : Nat) (ta : TA) : DL.VSt → Hp → XK → Prop := fun σ H Q => ta σ H fun vs H1 => vs.length = n ∧ (pickP pm vs).length = ns.length ∧
  ∀ (d : Addr), H1 d = none → Q (.ref C) (some d) (upd H1 d (.xd (xFs code ns (pickP pm vs))))
/-- what a maker's call runs: a class, a shape of its arguments -/
structure MkArgs (X : Cx) (pos : Pos) (es : List Expr) (kws : List Keyword) (ks : List Str) (t : TA) : Prop where
  run : ∀ (C : Addr) (pins : List (Addr × Obj)) (s : Shared) (σ : DL.VSt) (H : Hp) (Q : List V → Hp → Prop) (R : Value → Shared → Prop), Inv X pins σ H s → PySem.W.keepIn X.K (.ref C) = true → t σ H Q →
    (∀ (us ws : List Value) (vs zs : List V) (H2 : Hp) (s2 : Shared), us.length = es.length → ws.length = ks.length → Vals vs us → Vals zs ws → Inv X pins σ H2 s2 → Q (vs ++ zs) H2 → wpAny (model X.prog X.w) X.A (call (.ref C) us (ks.zip ws)) R X.xe s2) →
    wpAny (model X.prog X.w) X.A (callWith pos (.ref C) [] (backTo pos (starEach es X.env)) (backToKw pos (keywordEach kws X.env))) R X.xe s
section
variable {X : Cx} {C fI : Addr} {fd : FuncData} {code : Str} {ns ks : List Str} {pm : List Nat} {x : Str} {p pos : Pos} {e : Expr} {es : List Expr} {kws : List Keyword} {ta tk : TA}
theorem pe_mkx (D : IFn X C code ns fI fd) (B : BX fd ns es.length ks pm) (hr : Room 2 X.A) (hm : X.mg x = some (.ref C)) (ha : MkArgs X pos es kws ks ta) (hle : es.length ≤ sizeLine) (hg : Gl X x := by rfl) (hdb : (x == ("__debug__" : Str)) = false := by decide) :
    PE X (.Call (.Name x p) es kws pos) (tXV C code ns pm (es.length + ks.length) ta) := by
  refine ⟨fun pins s σ H Q I h => ?_⟩
  refine wpAny_Call_Name_kw (ld_glob I hg hm ?_ hdb)
  refine ha.run C pins s σ H _ _ I D.T.kC h fun us ws vs zs H2 s2 hu hw r1 r3 I2 ⟨hl, hl2, q⟩ => ?_
  refine run_mkx D (by rw [hu]; exact B) hr I2 r1 r3 hw hl2 (by rw [hu]; exact hle) fun a d H3 hp2 h2 g2 d2 t2 hsz kk un hok hb ea ed hd1 ne fr => ?_
  obtain ⟨oe, c1, c2, c3, hn, J⟩ := mk_kept (d2 := d2) (t2 := t2) I2 hsz kk un hok hb ea ed hd1 ne fr
  exact ⟨.ref a, _, J, rfl, q a d oe hn hd1 ne c1 c2 c3⟩
theorem pmk_mkx (D : IFn X C code ns fI fd) (B : BX fd ns es.length ks pm) (hr : Room 2 X.A) (hm : X.mg x = some (.ref C)) (ha : MkArgs X pos es kws ks ta) (hle : es.length ≤ sizeLine) (hg : Gl X x := by rfl) (hdb : (x == ("__debug__" : Str)) = false := by decide) :
    PMk X (.Call (.Name x p) es kws pos) (tXR C code ns pm (es.length + ks.length) ta) := by
  intro pins s σ H Q I h
  refine wpAny_Call_Name_kw (ld_glob I hg hm ?_ hdb)
  refine ha.run C pins s σ H _ _ I D.T.kC h fun us ws vs zs H2 s2 hu hw r1 r3 I2 ⟨hl, hl2, q⟩ => ?_
  refine run_mkx D (by rw [hu]; exact B) hr I2 r1 r3 hw hl2 (by rw [hu]; exact hle) fun a d H3 hp2 h2 g2 d2 t2 hsz kk un hok hb ea ed hd1 ne fr => ?_
  obtain ⟨hp, g, dr, t, os⟩ := s2
  refine mk_end (raises_own D.T.exC D.T.tyC) I2 hsz kk un hok rfl hb ea ed hd1 ?_
  have hn : H2 a = none := I2.hok.fresh hsz
  have e0 : upd (del H3 a) d (.xd (xFs code ns (pickP pm (vs ++ zs)))) = upd H2 d (.xd (xFs code ns (pickP pm (vs ++ zs)))) := by
    funext b
    by_cases hbd : b = d
    · subst hbd; rw [upd_same, upd_same]
    · rw [upd_ne hbd, upd_ne hbd]
      by_cases hba : b = a
      · subst hba; rw [del_same, hn]
      · rw [del_ne hba]; exact fr b hba hbd
  rw [e0]
  exact q d hd1
theorem mka_pos (ha : PA X (e :: es) ta) (he : starEach (e :: es) X.env = (false, eval e X.env) :: starEach es X.env := by rfl) (hpl : (backTo pos (starEach es X.env)).any (·.1) = false := by rfl)
    : MkArgs X pos (e :: es) [] [] (fun σ H Q => ta σ H fun vs H1 => vs.length = (e :: es).length ∧ Q vs H1) := by
  refine ⟨fun C pins s σ H Q R I hk h k => ?_⟩
  refine PySem.W.callWith_K (h₀ := X.base) I.ok.mod.kin hk (thn (ha.run pos pins s σ H _ I h) fun us s1 ⟨vs, H1, I1, r1, hz, q1⟩ => ⟨I1.kIn, ?_⟩) he hpl
  exact k us [] vs [] H1 s1 (by rw [← hz]; exact (Paired.length r1).symm) rfl r1 .nil I1 (by rw [List.append_nil]; exact q1)
theorem mka_nil : MkArgs X pos [] [] [] tNil := by
  refine ⟨fun C pins s σ H Q R I hk h k => ?_⟩
  exact PySem.W.callWith_K0 I.kIn hk (k [] [] [] [] H s rfl rfl .nil .nil I h)
theorem mka_kw (hkw : PK X kws tk) (hall : (backToKw pos (keywordEach kws X.env)).all (·.1.isSome) = true := by rfl) (hks : (backToKw pos (keywordEach kws X.env)).filterMap (·.1) = ks := by rfl)
    (hpl : ((backTo pos (starEach [] X.env)).any (·.1) || (backToKw pos (keywordEach kws X.env)).any (·.1.isNone)) = false := by rfl) : MkArgs X pos [] kws ks (fun σ H Q => tk σ H fun vs H1 => vs.length = ks.length ∧ Q vs H1) := by
  refine ⟨fun C pins s σ H Q R I hk h k => ?_⟩
  refine PySem.W.callWith_KW0 (h₀ := X.base) I.ok.mod.kin hk hall (thn (hkw.run pos pins s σ H _ I h) fun ws s2 ⟨zs, H2, I2, rz, hz, q2⟩ => ⟨I2.kIn, ?_⟩) hpl
  rw [hks]
  exact k [] ws [] zs H2 s2 rfl (by rw [← hz]; exact (Paired.length rz).symm) .nil rz I2 q2
theorem mka_both (ha : PA X (e :: es) ta) (hkw : PK X kws tk) (hall : (backToKw pos (keywordEach kws X.env)).all (·.1.isSome) = true := by rfl) (hks : (backToKw pos (keywordEach kws X.env)).filterMap (·.1) = ks := by rfl)
    (he : starEach (e :: es) X.env = (false, eval e X.env) :: starEach es X.env := by rfl)
    (hpl : ((backTo pos (starEach (e :: es) X.env)).any (·.1) || (backToKw pos (keywordEach kws X.env)).any (·.1.isNone)) = false := by rfl) :
    MkArgs X pos (e :: es) kws ks (fun σ H Q => ta σ H fun vs H1 => vs.length = (e :: es).length ∧ tk σ H1 fun zs H2 => zs.length = ks.length ∧ Q (vs ++ zs) H2) := by
  refine ⟨fun C pins s σ H Q R I hk h k => ?_⟩
  refine PySem.W.callWith_KW (h₀ := X.base) I.ok.mod.kin hk hall (thn (ha.run pos pins s σ H _ I h) fun us s1 ⟨vs, H1, I1, r1, hz, q1⟩ => ?_) hpl he
  refine thn (hkw.run pos pins s1 σ H1 _ I1 q1) fun ws s2 ⟨zs, H2, I2, rz, hz2, q2⟩ => ⟨I2.kIn, ?_⟩
  rw [hks]
  exact k us ws vs zs H2 s2 (by rw [← hz]; exact (Paired.length r1).symm) (by rw [← hz2]; exact (Paired.length rz).symm) r1 rz I2 q2
end
end EX

namespace PySem.W
open PySem PySem.Spec PySem.Calls PyProof.Rows
section
variable {prog : Program} {w : World} {A : Around} {E : Value → Shared → Prop} {s : Shared} {K : Frag} {x D : Addr} {ox : Obj} {od : Option Obj}
theorem kin_classO {Q : Option Value → Shared → Prop} (hga : findIn K (.ref D) "__getattribute__" = some (some (.builtin "BaseException.__getattribute__"))) (hgt : findIn K (.ref D) "__getattr__" = some none) (hsub : subIn K (.ref D) (.type "BaseException") = some true)
    (hdct : hasDictIn K D = true) (ha : findIn K (.ref D) "__class__" = some (some (.builtin "object.__class__")))
    (hn : specialIn K (.builtin "object.__class__") "__get__" = some (some (.builtin "getset_descriptor.__get__"))) (htk : takesIn K (.builtin "object.__class__") = some true) (hm : mroIn K D (.type "object") = some true)
    (X : K.In s.heap) (I : InstAt s.heap x ox D od) (h : Q (some (.ref D)) { s with toks := s.toks + 1 }) : wpAny (model prog w) A (getAttr? (.ref x) "__class__") Q E s := by
  have hf : findObj K D od "__class__" = some (.bind (.builtin "getset_descriptor.__get__") (.builtin "object.__class__")) := findObj_dataE (by obtain ⟨cd, hc, _⟩ := any_some hdct; rw [hc]; rfl) ha hn htk
  obtain ⟨hp, g, d, t, os⟩ := s
  have L0 := I.type (M := model prog w)
  have L1 := looks_findIn (M := model prog w) X hga
  have L2 := looks_findIn (M := model prog w) X hgt
  have L3 := looks_find (M := model prog w) X I hf
  have sub : Looks (model prog w) hp (isInstance (.ref x) (.type "BaseException")) true := L0.andThen (looks_subIn X hsub)
  have hx0 : (false && onTheHeap (Value.builtin "BaseException.__getattribute__")) = false := rfl
  have hx2 : (Value.builtin "BaseException.__getattribute__" == Value.builtin "object.__getattribute__") = false := by decide +kernel
  have hx1 : (onTheHeap (Value.ref D) && Value.builtin "BaseException.__getattribute__" == Value.builtin "object.__getattribute__") = false := by rw [hx2]; rfl
  unfold getAttr? getAttrBy? getAttrBy
  refine wpAny_bind (wpAny_mkText (wpAny_bind (wpAny_attempt (wpAny_holding (wpAny_bind (L0.at (wpAny_bind (L1.at ?_))))))))
  show wpAny _ _ (if (onTheHeap (Value.ref D) && Value.builtin "BaseException.__getattribute__" == Value.builtin "object.__getattribute__") = true then _ else _) _ _ _
  rw [hx1, if_neg Bool.false_ne_true]
  unfold getAttrByItsOwn hookBefore
  refine wpAny_bind ?_
  rw [if_pos (show onTheHeap (Value.ref D) = true from rfl)]
  refine L2.at ?_
  refine wpAny_bind (wpAny_attempt (wpAny_holding ?_))
  unfold callGetattribute
  rw [hx0, if_neg Bool.false_ne_true]
  unfold boundAndCalled
  rw [PySem.F.excAttr_ValueError.ga.bind (.ref x)]
  refine wpAny_bind (wpAny_pure ?_)
  show wpAny _ _ (call (.builtin "BaseException.__getattribute__") [.ref x, .str "__class__" t]) _ _ _
  refine wpAny_call (codeAny_call_builtin PySem.F.excAttr_ValueError.ga.plain PySem.F.entry_bexc_ga ?_)
  refine @check_slot (model prog w) _ _ ⟨hp, g, d, t + 1, os⟩ "BaseException.__getattribute__" "BaseException" "__getattribute__" (.ref x) [.str "__class__" t] [] _ (by decide +kernel) (by decide +kernel) sub (PySem.F.args_bexc_ga (.ref x) (.str "__class__" t)) ?_
  unfold Builtin.«object.__getattribute__»
  refine wpAny_bind (wpAny_of_eq (a := ((Value.ref x : Value), [Value.str "__class__" t])) (by first | rfl | (simp only [slotArgs]; rfl)) ?_)
  refine wpAny_bind (wpAny_pure (wpAny_bind (L0.at (wpAny_bind (L3.at ?_)))))
  show wpAny _ _ (holding [Value.builtin "object.__class__"] (call (.builtin "getset_descriptor.__get__") [.builtin "object.__class__", .ref x, .ref D]) >>= ret) _ _ _
  refine wpAny_bind (wpAny_holding (wpAny_call (class_get (s := ⟨hp, g, d, t + 1, os⟩) (ox := ox) (od := od) X I hm ?_)))
  refine wpAny_pure ?_
  show wpAny _ _ (handedOut (.ref D)) _ _ _
  rw [handedOut_of (v := .ref D) rfl]
  first
    | exact wpAny_pure (wpAny_pure h)
    | exact wpAny_pure h
    | exact wpAny_pure (wpAny_bind (wpAny_pure (wpAny_pure h)))
theorem kitx_excO (hga : findIn K (.ref D) "__getattribute__" = some (some (.builtin "BaseException.__getattribute__"))) (hgt : findIn K (.ref D) "__getattr__" = some none) (hsub : subIn K (.ref D) (.type "BaseException") = some true) (hdct : hasDictIn K D = true) (ha : findIn K (.ref D) "__class__" = some (some (.builtin "object.__class__")))
    (hn : specialIn K (.builtin "object.__class__") "__get__" = some (some (.builtin "getset_descriptor.__get__"))) (htk : takesIn K (.builtin "object.__class__") = some true) (hm : mroIn K D (.type "object") = some true) :
    KitX K (.ref x) (.ref D) (fun h => InstAt h x ox D od) where
  ty := fun _ _ _ I => I.type
  it := fun _ _ X _ => by
    obtain ⟨cdD, hcD, _⟩ := any_some hdct
    unfold clsIn at hcD
    split at hcD
    · rename_i c' d' cd' sl' ho
      intro A' Q' E' s' k q
      unfold isType loadHead
      exact wpAny_bind (wpAny_loadPart (k _ _ (X _ _ ho)) (wpAny_pure q))
    · cases hcD
  ne := fun h tp dd its n sl X htp => by
    obtain ⟨cdD, hcD, _⟩ := any_some hdct
    refine Bool.eq_false_iff.mpr fun q => ?_
    have e : D = tp := Value.ref.inj (beq_iff_eq.mp q)
    subst e
    unfold clsIn at hcD
    split at hcD
    · rename_i c' d' cd' sl' ho
      have z := (X _ _ ho).symm.trans htp
      cases z
    · cases hcD
  ca := fun X I k => kin_classO hga hgt hsub hdct ha hn htk hm X I k
end
end PySem.W
namespace EX
open PySem PySem.Spec PyProof.Rows L2
/-- a tracked exception: a its place, d its dict -/
structure TrE (K : PySem.W.Frag) (H : Hp) (a C d : Addr) (fs : List (Str × V)) : Prop where
  ob : ∃ oe : Obj, H a = some (DL.excHO a oe) ∧ oe.cls = .ref C ∧ oe.dict = some d ∧ ∃ ws, oe.data = .fields ws
  xd : H d = some (.xd fs)
  T : OxC K C
section
variable {X : Cx} {pins : List (Addr × Obj)} {σ : DL.VSt} {H : Hp} {s : Shared} {a C d : Addr} {fs : List (Str × V)}
theorem TrE.inst (t : TrE X.K H a C d fs) (I : Inv X pins σ H s) : ∃ (oe : Obj) (od : Obj), PySem.W.InstAt s.heap a oe C (some od) ∧ ∃ mA : Str → Option Value, (∀ n, PySem.W.lookIn n od = some (mA n)) ∧ ∀ f, RelO (fs.lookup f) (mA f) := by
  obtain ⟨oe, e1, c1, c2, ws, c3⟩ := t.ob
  have h1 : ObjOk X.prog X.w H s.heap a (DL.excHO a oe) := I.hok a _ e1
  obtain ⟨hget, _⟩ := h1
  have hx : ObjOk X.prog X.w H s.heap d (.xd fs) := I.hok d _ t.xd
  obtain ⟨mA, hns, hr⟩ := hx
  obtain ⟨od, ho, hl⟩ := lookIn_ns hns
  exact ⟨oe, od, ⟨hget, c1, by unfold PySem.W.notCls; rw [c3] <;> rfl, by rw [c2]; exact ho⟩, mA, hl, hr⟩
end
/-- e.f of a tracked exception -/
def tXo (K : PySem.W.Frag) (f : Str) (te : TE) : TE := fun σ H Q => te σ H fun x H1 => ∃ (a C d : Addr) (fs : List (Str × V)) (v : V), x = .ref a ∧ TrE K H1 a C d fs ∧ PySem.W.findIn K (.ref C) f = some none ∧ fs.lookup f = some v ∧ Q v H1
theorem pe_xo {X : Cx} {e : Expr} {te : TE} {pos : Pos} {n : Str} (he : PE X e te) (hb : attributeBase e n X.env (eval e X.env) = eval e X.env := by rfl) : PE X (.Attribute e n pos) (tXo X.K n te) := by
  refine ⟨fun pins s σ H Q I h => ?_⟩
  refine attr_of hb (thn (he.run pins s σ H _ I h) fun u s1 hh => ?_)
  obtain ⟨x, H1, I1, rx, a, C, d, fs, v, ex, t, hno, l, q⟩ := hh
  subst ex
  obtain rfl : u = Value.ref a := rx
  obtain ⟨oe, od, J, mA, hl, hr⟩ := t.inst I1
  obtain ⟨u, hu, ru⟩ := RelO.some_of (v := v) (o := mA n) (by rw [← l]; exact hr n)
  exact HandSPX.exc_get I1.kIn J t.T.ga t.T.gg t.T.exC (PySem.W.findObj_own t.T.hd hno rfl (by rw [hl, hu])) (handed_of ru) ⟨v, H1, I1.tok _, ru, q⟩

/-- a value's type, exceptions with -/
inductive TyZ (K : PySem.W.Frag) (H : Hp) : V → Value → Prop
  | base {x : V} {t : Value} (h : TyX K H x t) : TyZ K H x t
  | exc {a C d : Addr} {fs : List (Str × V)} (h : TrE K H a C d fs) : TyZ K H (.ref a) (.ref C)
section
variable {X : Cx} {pins : List (Addr × Obj)} {σ : DL.VSt} {H : Hp} {s : Shared}
theorem kitz_of {x : V} {u t : Value} (I : Inv X pins σ H s) (rx : RelV x u) (ty : TyZ X.K H x t) : ∃ P : Heap → Prop, PySem.W.KitX X.K u t P ∧ P s.heap ∧ u ≠ .builtin "__main__.__loader__#opaque" := by
  cases ty with
  | base h => exact kit_of I rx h
  | @exc a C d fs h =>
    cases (show u = Value.ref a from rx)
    obtain ⟨oe, od, J, _⟩ := h.inst I
    exact ⟨_, PySem.W.kitx_excO h.T.ga h.T.gg h.T.exC h.T.hd h.T.ha h.T.hn h.T.ht h.T.hm, J, fun z => nomatch z⟩
end
def rIsiZ (K : PySem.W.Frag) : List V → Hp → VK → Prop := fun xs H Q => ∃ (x : V) (t : Value) (b : Bool), TyZ K H x t ∧ Q (.bl b) H ∧
  ((∃ (c : V) (u : Value), xs = [x, c] ∧ ClsV c u ∧ PySem.W.kitOne K t u = some b) ∨ ∃ (tp : Addr) (cs : List V) (us : List Value), xs = [x, .ref tp] ∧ SqT K H tp cs ∧ Paired ClsV cs us ∧ PySem.W.kitAny K t us = some b)
theorem call_isiZ {X : Cx} : CallR X (.builtin "isinstance") (rIsiZ X.K) := by
  intro pins s σ H xs us Q I r h
  obtain ⟨x, t, b, ty, q, h⟩ := h
  rcases h with ⟨c, u, rfl, k, e⟩ | ⟨tp, cs, ws, rfl, hT, k, e⟩
  · obtain ⟨u1, u2, rfl, r1, r2⟩ := vals2 r
    have e2 := k.eq r2
    subst e2
    obtain ⟨P, Z, p, hx⟩ := kitz_of I r1 ty
    exact PySem.W.kia_one Z I.kIn p e hx fun tk => ⟨.bl b, H, I.tok tk, rfl, q⟩
  · obtain ⟨u1, u2, rfl, r1, r2⟩ := vals2 r
    cases (show u2 = Value.ref tp from r2)
    obtain ⟨P, Z, p, hx⟩ := kitz_of I r1 ty
    have tupc : ObjOk X.prog X.w H s.heap tp (.tup cs) → wpAny (model X.prog X.w) X.A (call (.builtin "isinstance") [u1, .ref tp]) (EP X pins σ Q) X.xe s := fun hh => by
      obtain ⟨_, its, rv, o, h1, h2, n, h3⟩ := hh
      have e3 := ClsV.all k rv
      subst e3
      obtain ⟨oc, od, dt, sl⟩ := o
      simp only at h2 h3
      subst h2 h3
      exact PySem.W.kia_tup Z I.kIn p h1 e hx fun tk => ⟨.bl b, H, I.tok tk, rfl, q⟩
    rcases hT with (hT | ⟨o, hT⟩) | ⟨o, its, n, hk, hc, hd, hsz, rv⟩
    · exact tupc (I.hok tp _ hT)
    · exact tupc (show ObjOk X.prog X.w H s.heap tp (.frz o (.tup cs)) from I.hok tp _ hT).2
    · have e3 := ClsV.all k rv
      obtain ⟨oc, od, dt, sl⟩ := o
      obtain ⟨l⟩ := its
      simp only at hc hd e3
      subst hc hd e3
      exact PySem.W.kia_tup Z I.kIn p (I.kIn _ _ hk) e hx fun tk => ⟨.bl b, H, I.tok tk, rfl, q⟩

open L2H (RoomH roomH_of)
structure FnN (P : Program) (w : World) (K : PySem.W.Frag) (mg : Str → Option Value) (base : Heap) (CX : CXT) (k : Nat) (f : Addr) (fd : FuncData) (ps : List Str) (sp : Sp) : Prop where
  len : ∀ vs H Q E, sp vs H Q E → vs.length = ps.length
  run : ∀ (A : Around) (outer : List Env) (s : Shared) (H : Hp) (args : Args) (us : List Value) (vs : List V) (Q : VK) (E : XK), RoomH k A → Env0 P w K mg base A outer s H → BindsTo s fd args (ps.zip us) → Vals vs us → sp vs H Q E →
    codeAny (model P w) A (.call (.ref f) args) (CR CX outer P w H s Q E) s
theorem FnN.ok {P : Program} {w : World} {K : PySem.W.Frag} {mg : Str → Option Value} {base : Heap} {CX : CXT} {k : Nat} {f : Addr} {fd : FuncData} {ps : List Str} {sp : Sp} (F : FnN P w K mg base CX k f fd ps sp) : FnOk P w K mg base CX k f fd ps sp :=
  ⟨F.len, fun A outer s H args us vs Q E hr => F.run A outer s H args us vs Q E (roomH_of hr)⟩
theorem FnN.mono {P : Program} {w : World} {K : PySem.W.Frag} {mg : Str → Option Value} {base : Heap} {CX : CXT} {j k : Nat} {f : Addr} {fd : FuncData} {ps : List Str} {sp : Sp} (F : FnN P w K mg base CX j f fd ps sp) (h : j ≤ k) :
    FnN P w K mg base CX k f fd ps sp := ⟨F.len, fun A outer s H args us vs Q E hr => F.run A outer s H args us vs Q E (hr.mono h)⟩
def cxN (CX : CXT) (P : Program) (w : World) (K : PySem.W.Frag) (mg : Str → Option Value) (base : Heap) (N : List Str) (qual : Str) (scope : Scope) (f : Addr) (cd : Value) (A : Around) (outer : List Env) (s : Shared) (H : Hp) (E : XK) : Cx :=
  { cxOf CX P w K mg base N qual scope f cd A outer s H E with calm := false }
theorem inv_startN {CX : CXT} {P : Program} {w : World} {K : PySem.W.Frag} {mg : Str → Option Value} {base : Heap} {N ps : List Str} {qual : Str} {scope : Scope} {f : Addr} {cd : Value} {A : Around} {outer : List Env} {s s1 : Shared} {H : Hp} {E : XK} {us : List Value} {vs : List V}
    (S : FnScope N ps scope) (e0 : Env0 P w K mg base A outer s H) (hl : vs.length = ps.length) (r : Vals vs us)
    (x : InCallC s s.heap.objs.size (bindL (envOfC qual scope s.heap.objs.size f cd).kindOf (ps.zip us) fun _ => none) (cellsFrom (s.heap.objs.size + 1) scope.names []) (bindC (envOfC qual scope s.heap.objs.size f cd).kindOf (ps.zip us) fun _ => none) s1) :
    Inv (cxN CX P w K mg base N qual scope f cd A outer s H E) [] (L2.start N vs) H s1 := by
  have hpl : ps.length ≤ N.length := by have := congrArg List.length S.pre; rw [List.length_take] at this; omega
  obtain ⟨h1, tk, rfl, hk⟩ := x.done
  have noA : ∀ b : Addr, b ∉ (cxN CX P w K mg base N qual scope f cd A outer s H E).ex := fun b z => absurd (show b ∈ ([] : List Addr) from z) (by simp)
  refine ⟨⟨e0.mod, S.kind, rfl, rfl, Nat.le_refl _, fun y z c h1 h2 => ?_, fun y hy => ?_, fun y c _ h => ?_, (fun z => Bool.noConfusion (show false = true from z)), Around.frames_deeper e0.frames, .inr ⟨rfl, rfl⟩, fun b z => absurd z (noA b), e0.bs, e0.bsz, fun b _ _ => noA b, fun b z => absurd z (noA b), e0.funs, e0.frf⟩,
    rfl, e0.bare, Un.kept hk, ⟨_, x.toInCall.ns, fun i y v h1 h2 h3 => ?_⟩, fun y c h => ⟨_, x.cell y c h⟩, e0.hok.fresh (Nat.le_refl _), fun y c h => ?_, fun q hq => ?_, e0.hok.kept hk, ?_⟩
  · exact name_of_addr x.apart (PySem.mem_of_lookup h1) (PySem.mem_of_lookup h2)
  · have hy : scope.names.lookup y = some .cell ∨ scope.names.lookup y = some .free := hy
    rcases hy with hy | hy
    · exact cell_has hy
    · exact absurd rfl (S.nofree _ (PySem.mem_of_lookup hy))
  · exact Nat.le_of_lt (x.above y c (PySem.mem_of_lookup h))
  · have hi : i < vs.length := by
      unfold L2.start at h2
      by_cases hi : i < vs.length
      · exact hi
      · rw [List.getElem?_append_right (by simpa using hi)] at h2
        rw [List.getElem?_replicate] at h2
        split at h2 <;> cases h2
    have ha : vs[i]? = some v := by
      unfold L2.start at h2
      rw [List.getElem?_append_left (by simpa using hi), List.getElem?_map] at h2
      cases e : vs[i]? with
      | none => rw [e] at h2; cases h2
      | some a => rw [e] at h2; cases h2; rfl
    obtain ⟨u, hu, rv⟩ := r.get ha
    have hp : ps[i]? = some y := by
      rw [← S.pre, List.getElem?_take_of_lt (by omega)]; exact h1
    have ndP : ps.Nodup := by rw [← S.pre]; exact S.nd.sublist (List.take_sublist _ _)
    refine ⟨u, rv, ?_⟩
    rcases S.par y (List.mem_of_getElem? hp) with k | k
    · exact .inl ⟨k, bindL_get ndP hp hu k⟩
    · obtain ⟨c, e⟩ := cell_has (n := s.heap.objs.size + 1) k
      refine .inr ⟨.inl k, c, e, ?_⟩
      have q := x.cell y c e
      rw [bindC_get ndP hp hu (by show scope.names.lookup y ≠ _; rw [k]; decide)] at q
      exact q
  · exact e0.hok.fresh (Nat.le_of_lt (x.above y c (PySem.mem_of_lookup h)))
  · exact absurd (show q ∈ ([] : List (Addr × Obj)) from hq) (by simp)
  · unfold L2.start
    show _ = N.length
    rw [List.length_append, List.length_map, List.length_replicate]
    omega
section
variable {P : Program} {w : World} {K : PySem.W.Frag} {mg : Str → Option Value} {base : Heap}
/-- THE RULE for such a def -/
theorem okN {x qual : Str} {st : Stmt} {f : Addr} {fd : FuncData} {N ps : List Str} {k : Nat} {sp : Sp} (F : Fun K x qual st f fd) (S : FnScope N ps (defScope st)) (len : ∀ vs H Q E, sp vs H Q E → vs.length = ps.length)
    (hbody : ∀ (cdv : Value) (A : Around) (outer : List Env) (s : Shared) (H : Hp) (vs : List V) (Q : VK) (E : XK), RoomH k (A.deeper (envOfC qual (defScope st) s.heap.objs.size f cdv)) → sp vs H Q E →
      ∃ t, PSs (cxN (L2.CX P w) P w K mg base N qual (defScope st) f cdv A outer s H E) (defBody st) t ∧ t { nx := fun _ H' => Q .non H', rt := Q } (L2.start N vs) H) : FnN P w K mg base (L2.CX P w) (k + 1) f fd ps sp := by
  obtain ⟨oc, od, dV, doc, pm, an, cdv, ct, osl, rfl, lk, hcd⟩ := F.ex
  refine ⟨len, fun A outer s H args us vs Q E hr e0 hb r hsp => ?_⟩
  have hl := len _ _ _ _ hsp
  have KX : K.In s.heap := e0.mod.kin.keeps fun b o e => (e0.bs b o e).1
  have lim : s.heap.NoLimit := e0.mod.nolimit.keeps fun b o e => (e0.bs b o e).1
  have hkind : ∀ y ∈ ps.zip us, (defScope st).names.lookup y.1 = some .local ∨ ((defScope st).names.lookup y.1 = some .cell ∧ ((cellsFrom (s.heap.objs.size + 1) (defScope st).names []).lookup y.1).isSome = true) := fun ⟨n, v⟩ hy => by
    rcases S.par n (List.of_mem_zip hy).1 with q | q
    · exact .inl q
    · exact .inr ⟨q, PySem.W.cellsFrom_some _ _ _ (.inl q)⟩
  refine codeAny_call_function hr.depth (KX _ _ lk) rfl S.co S.gen rfl (PySem.W.codeRec_of KX hcd) (hb _ _ _ _ ?_)
  refine wpAny_newFunctionEnv_cells S.kind hkind fun env he s1 x => ?_
  subst he
  refine ⟨lim.keeps x.toInCall.keep, codeAny_func ?_⟩
  obtain ⟨t, ht, hq⟩ := hbody cdv A outer s H vs Q E (hr.deeper _) hsp
  have I : Inv (cxN (L2.CX P w) P w K mg base N qual (defScope st) f cdv A outer s H E) [] (L2.start N vs) H s1 := inv_startN S e0 hl r x
  refine wpAny_mono (ht.run [] s1 (L2.start N vs) H _ I hq) (fun fl s' hs => ?_) fun e s' hs => hs
  have fin : ∀ {σ' : DL.VSt} {H' : Hp} {v : V} {u : Value}, Inv (cxN (L2.CX P w) P w K mg base N qual (defScope st) f cdv A outer s H E) [] σ' H' s' → RelV v u → Q v H' → CE outer P w H s Q u s' :=
    fun {σ' H' v u} J rv q => ⟨v, H', J.os, J.bare, J.base, J.hok, rv, q⟩
  cases fl with
  | ret u =>
    obtain ⟨v, σ', H', J, rv, q⟩ := hs
    exact fin J rv q
  | next =>
    obtain ⟨σ', H', J, q⟩ := hs
    exact fin (v := V.non) (u := Value.none) J rfl q
  | brk =>
    obtain ⟨_, _, _, q⟩ := hs
    exact False.elim q
  | cont =>
    obtain ⟨_, _, _, q⟩ := hs
    exact False.elim q
end
section
variable {X : Cx} {CX : CXT} {k : Nat} {f C : Addr} {fd : FuncData} {ps : List Str} {sp : Sp} {E : DL.VSt → XK} {x m : Str} {q pos apos : Pos} {e o : Expr} {es : List Expr} {ta : TE} {t : TA}
theorem run_fnN {pins : List (Addr × Obj)} {σ : DL.VSt} {H : Hp} {s : Shared} {Q : VK} {us : List Value} {vs : List V} (F : FnN X.prog X.w X.K X.mg X.base CX k f fd ps sp) (hr : RoomH k X.A) (hb : Binds X.K fd ps []) (hx : PassesAt CX X σ (E σ))
    (I : Inv X pins σ H s) (r : Vals vs us) (h : sp vs H Q (E σ)) : wpAny (model X.prog X.w) X.A (call (.ref f) us) (EP X pins σ Q) X.xe s := by
  have hl : us.length = ps.length := by rw [← r.length]; exact F.len _ _ _ _ h
  have b := hb s us I.kIn (by rw [List.append_nil]; exact hl)
  rw [List.append_nil] at b
  refine wpAny_call (codeAny_mono (F.run X.A X.stack s H ⟨us, []⟩ us vs Q (E σ) hr I.env0 b r h) fun r s' hq => ?_)
  cases r with
  | error e => exact hx pins H s e s' I hq
  | ok fl =>
    cases fl with
    | ret u => exact I.after hq
    | next => exact False.elim hq
    | brk => exact False.elim hq
    | cont => exact False.elim hq
theorem pe_callN (F : FnN X.prog X.w X.K X.mg X.base CX k f fd ps sp) (hr : RoomH k X.A) (hg : Gl X x) (hm : X.mg x = some (.ref f)) (hk : PySem.W.keepIn X.K (.ref f) = true) (hb : Binds X.K fd ps []) (hx : ∀ σ, PassesAt CX X σ (E σ))
    (ha : PA X (e :: es) t) (hdb : (x == ("__debug__" : Str)) = false := by decide) (he : starEach (e :: es) X.env = (false, eval e X.env) :: starEach es X.env := by rfl) (hpl : (backTo pos (starEach es X.env)).any (·.1) = false := by rfl) :
    PE X (.Call (.Name x q) (e :: es) [] pos) (tCallS sp E t) := by
  refine ⟨fun pins s σ H Q I h => ?_⟩
  refine wpAny_Call_Name_kw (ld_glob I hg hm ?_ hdb)
  refine PySem.W.callWith_K (h₀ := X.base) I.ok.mod.kin hk (thn (ha.run pos pins s σ H _ I h) fun us s1 ⟨vs, H1, I1, r, q⟩ => ⟨I1.kIn, ?_⟩) he hpl
  exact run_fnN F hr hb (hx σ) I1 r q
end

/-- an exception that landed becomes a tracked thing -/
theorem Inv.track {X : Cx} {pins : List (Addr × Obj)} {σ : DL.VSt} {H : Hp} {sI s : Shared} {B : Heap} {a : Addr} {oe : Obj} (J0 : Inv X pins σ H sI) (nb : ∀ b o, sI.heap.get? b = some o → b ∉ frs X.stack → B.get? b = some o) (nB : B.get? a = none) (nfs : a ∉ frs X.stack)
    (J : Inv X pins σ H s) (ha : s.heap.get? a = some oe) (hd : ∃ vs, oe.data = .fields vs) (na : H a = none) (nL : a ≠ X.env.locals) (ok : Cx.Ok (X.suite a (X.pn ++ pins))) : Inv (X.suite a (X.pn ++ pins)) [] σ (upd H a (DL.excHO a oe)) s := by
  obtain ⟨vs, hd⟩ := hd
  have nI : sI.heap.get? a = none := by
    cases z : sI.heap.get? a with
    | none => rfl
    | some o => rw [nb a o z nfs] at nB; cases nB
  have nc : ∀ {c : Addr} {v : Option Value}, s.heap.IsCell c v → c ≠ a := fun {c v} h e => by
    obtain ⟨o, h1, h2⟩ := h
    rw [e, ha] at h1
    cases h1
    rw [hd] at h2
    cases h2
  have n0 : ∀ b o, X.s_0.heap.get? b = some o → b ∉ X.ex → b ≠ a := fun b o e hx z => by
    obtain ⟨o', e'⟩ := J0.base.there b o e hx
    rw [z, nI] at e'; cases e'
  refine ⟨ok, J.os, J.bare, ⟨J.base.keep, J.base.slot, fun b o e n hx => by rw [upd_ne (n0 b o e hx)]; exact J.base.free b o e n hx, J.base.there, fun b xs e => ?_, fun b o u e => ?_, fun b ps e => ?_⟩, J.loc, J.cell, by rw [upd_ne (Ne.symm nL)]; exact J.free, fun x c e => ?_, fun p hp => ?_, fun b o e => ?_, J.len⟩
  · have := J.base.tups b xs e
    rw [upd_ne (ne_of_none this na)]; exact this
  · have := J.base.frzs b o u e
    rw [upd_ne (ne_of_none this na)]; exact this
  · obtain ⟨more, this⟩ := J.base.tbls b ps e
    exact ⟨more, by rw [upd_ne (ne_of_none this na)]; exact this⟩
  · obtain ⟨v, z⟩ := J.cell x c e
    rw [upd_ne (nc z)]; exact J.freeC x c e
  · have hp' : p ∈ X.pn ++ pins := by rw [List.append_nil] at hp; exact hp
    obtain ⟨p1, p2, p3, p4, p5⟩ := J.pin p hp'
    refine ⟨p1, ?_, p3, p4, p5⟩
    rw [upd_ne ?_]
    · exact p2
    · intro z
      have q := (J0.pin p hp').1
      rw [z, nI] at q; cases q
  · by_cases hb : b = a
    · subst hb
      rw [upd_same] at e
      cases e
      exact ⟨ha, ha, ⟨_, ha⟩, fun h1 h3 e kp => kp _ e⟩
    · rw [upd_ne hb] at e
      refine (J.hok b o e).stay (fun c v hc y => y) (fun c hc => ?_) (fun c xs hc => ?_)
      · rw [upd_ne (ne_of_none hc na)]; exact hc
      · rw [upd_ne (ne_of_none hc na)]; exact hc
theorem Inv.untrack {X : Cx} {pins : List (Addr × Obj)} {σ : DL.VSt} {H : Hp} {s : Shared} {a : Addr} {pn' : List (Addr × Obj)} (I : Inv (X.suite a (X.pn ++ pins)) pn' σ H s) (ok : X.Ok) : Inv X pins σ H s :=
  ⟨ok, I.os, I.bare, I.base, I.loc, I.cell, I.free, I.freeC, fun p hp => I.pin p (List.mem_append_left _ hp), I.hok, I.len⟩
/-- a clause: the class, the name's slot, the suite's reading -/
abbrev ClT := Value × Option Nat × (Addr → List (Addr × Obj) → TS)
def setO (i : Option Nat) (v : Option V) (σ : DL.VSt) : DL.VSt := match i with
  | some i => σ.set i v
  | none => σ
def endsO (i : Option Nat) (D : Ends) : Ends := { nx := fun σ' H' => D.nx (setO i none σ') H', rt := D.rt, bk := fun σ' H' => D.bk (setO i none σ') H', ct := fun σ' H' => D.ct (setO i none σ') H' }
def wManyT (K : PySem.W.Frag) (Wout : WX) (D : Ends) : List ClT → WX
  | [] => Wout
  | (c, i, ts) :: r => fun cls d σ H => ∃ b, PySem.W.exmOne K cls c = some b ∧ (b = true → ∀ (a : Addr) (oe : Obj) (pn : List (Addr × Obj)), H a = none → oe.cls = cls → oe.dict = d → (∃ vs, oe.data = .fields vs) → ts a pn (endsO i D) (setO i (some (.ref a)) σ) (upd H a (DL.excHO a oe))) ∧
      (b = false → wManyT K Wout D r cls d σ H)
inductive HdsT (X : Cx) : List ExceptHandler → List ClT → Prop
  | nil : HdsT X [] []
  | cons {x : Str} {c : Value} {ts : Addr → List (Addr × Obj) → TS} {b₀ : Stmt} {suite : List Stmt} {np pos' : Pos} {hds : List ExceptHandler} {l : List ClT} (hc : Names X x c)
      (hsu : ∀ (a : Addr) (pn : List (Addr × Obj)), PSs (X.suite a pn) (b₀ :: suite) (ts a pn)) (r : HdsT X hds l) :
      HdsT X (.ExceptHandler (some (.Name x np)) none (b₀ :: suite) pos' :: hds) ((c, none, ts) :: l)
  | as {x n : Str} {i : Nat} {c : Value} {ts : Addr → List (Addr × Obj) → TS} {b₀ : Stmt} {suite : List Stmt} {np pos' : Pos} {hds : List ExceptHandler} {l : List ClT} (hN : X.N.Nodup) (hi : X.N[i]? = some n) (hln : X.env.kindOf n = some .local) (hc : Names X x c)
      (hsu : ∀ (a : Addr) (pn : List (Addr × Obj)), PSs (X.suite a pn) (b₀ :: suite) (ts a pn)) (r : HdsT X hds l) :
      HdsT X (.ExceptHandler (some (.Name x np)) (some n) (b₀ :: suite) pos' :: hds) ((c, some i, ts) :: l)
section
variable {X : Cx} {body : List Stmt} {h₀ : ExceptHandler} {hds : List ExceptHandler} {l : List ClT} {pos : Pos} {tb : WX → List (Addr × Obj) → (Value → Shared → Prop) → TS} {Wout : WX}
theorem ps_tryT (hs : X.stack = X.env :: X.outer) (hf : X.env.frame = some X.env.locals) (tk : Takes X Wout)
    (hb : ∀ (W : WX) (pn : List (Addr × Obj)) (xe : Value → Shared → Prop), Takes (X.tr pn xe) W → PassesOwn (model X.prog X.w) X.A X.env xe → PSs (X.tr pn xe) body (tb W pn xe))
    (hh : HdsT X (h₀ :: hds) l) : PS X (.Try body (h₀ :: hds) [] [] pos) (fun D σ H => ∀ pn xe, Takes (X.tr pn xe) (wManyT X.K Wout D l) → PassesOwn (model X.prog X.w) X.A X.env xe → tb (wManyT X.K Wout D l) pn xe D σ H) := by
  refine ⟨fun pins s σ H D I h => ?_⟩
  have ok := I.ok
  have hfr : X.A.frames = some (X.env :: X.outer) := by rw [ok.frames, hs]
  refine wpAny_Try_except ?_
  refine (fun (tkk : Takes (X.tr (X.pn ++ pins) (fun e s₁ => wpAny (model X.prog X.w) X.A (noteFrame e X.env) (fun _ s₂ => wpAny (model X.prog X.w) X.A (setFlight e none) (fun _ s₃ =>
    wpAny (model X.prog X.w) X.A (handleBy e X.env (h₀ :: hds)) (SP X pins D) X.xe s₃) X.xe s₂) X.xe s₁)) (wManyT X.K Wout D l)) => ?_) (fun u s' xx => ?_)
  rotate_left
  · -- the catch
    obtain ⟨a, B, sI, pins', σ', H', cls, d, rfl, J', nb, up, sky, na, os, ag, w⟩ := xx
    have J : Inv X pins σ' H' sI := J'.ofTry ok
    have sky' : Sky B (X.env :: X.outer) a (Zc cls d) X.env.locals s'.heap := by rw [← hs]; exact sky
    show wpAny (model X.prog X.w) X.A (noteFrame (.ref a) X.env) _ _ _
    refine Sky.land Zc.steady hfr hf sky' fun h3 fl3 up3 => ?_
    have J3 : Inv X pins σ' H' { s' with heap := h3 } := J.landed nb fl3.1 (up.trans up3) os ag
    obtain ⟨oe3, vs3, he3, hz3, hd3⟩ := fl3.there
    have notFr : ∀ {h : Heap} {o : Obj} {vs : Array Value}, h.FunFrames B (X.env :: X.outer) → h.get? a = some o → o.data = .fields vs → a ∉ frs (X.env :: X.outer) := fun {h o vs} ff e dd hm => by
      obtain ⟨_, o', e', hnf⟩ := ff.mem hm
      rw [e] at e'; cases e'
      exact hnf _ dd
    have nfr := notFr fl3.2.2.1 he3 hd3
    have nfs : a ∉ frs X.stack := by rw [hs]; exact nfr
    have nL : a ≠ X.env.locals := fun z => nfr (List.mem_filterMap.mpr ⟨X.env, List.mem_cons_self, by rw [hf, z]⟩)
    have nF : a ∉ X.fs := fun hm => by
      obtain ⟨e, he, q⟩ := List.mem_filterMap.mp hm
      exact nfr (List.mem_filterMap.mpr ⟨e, List.mem_cons_of_mem _ he, q⟩)
    have S3 := J3.suite he3 hd3 na nL nF
    have go : ∀ {hds' : List ExceptHandler} {l' : List ClT}, HdsT X hds' l' → wManyT X.K Wout D l' cls d σ' H' →
        wpAny (model X.prog X.w) X.A (handleBy (.ref a) X.env hds') (SP X pins D) X.xe { s' with heap := h3 } := by
      intro hds' l' hk
      induction hk with
      | nil =>
        intro w
        refine wpAny_handleBy_nil ?_
        obtain ⟨k1, k2, k3, oe, vs, T, oT, ts', he, hz, hd, h1, hr⟩ := id fl3
        unfold PySem.passOn
        refine wpAny_bind (wpAny_field he hd h1 ?_)
        rw [if_neg (show ¬ ((Value.ref T == Value.none) = true) from by simp)]
        have fin : wpAny (model X.prog X.w) X.A (setFlight (.ref a) X.env.frame) (fun _ s4 => wpAny (model X.prog X.w) X.A (throw (.ref a) : Sem Flow) (SP X pins D) X.xe s4) X.xe { s' with heap := h3 } := by
          rw [hf]
          refine HandSPX.setFlight_upZ fl3 fun h4 hh4 up4 => wpAny_throw (tk _ _ ?_)
          exact ⟨a, B, sI, pins, σ', H', cls, d, rfl, J, nb, (up.trans up3).trans up4, .inr (.inr (by rw [hs]; exact hh4)), na, os, ag, w⟩
        first
          | exact wpAny_bind (wpAny_pure (wpAny_bind fin))
          | exact wpAny_bind fin
      | @cons x c ts b₀ suite np pos' hds2 l2 hc hsu r ih =>
        intro w
        obtain ⟨b, hb1, hyes, hno⟩ := w
        refine wpAny_handleBy_cons (codeAny_handlers_test ?_) (by intro q; cases q)
        have LT : PySem.W.Looks (model X.prog X.w) h3 (typeOf (.ref a)) cls := fun A Q E s k q => wpAny_typeOf_ref (k _ _ he3) (by rw [hz3.1]; exact q)
        have LM := PySem.W.exm_one (M := model X.prog X.w) (J3.kIn) LT hb1
        have test : ∀ {Q : Value → Shared → Prop} {E : Value → Shared → Prop}, Q c { s' with heap := h3 } → wpAny (model X.prog X.w) (X.A.mark (some (.ref a))) (eval (.Name x np) X.env) Q E { s' with heap := h3 } := fun {Q E} q => by
          obtain ⟨hg, hdbg, hm | ⟨hm, hv, hnn⟩⟩ := hc
          · exact ld_glob (X := X.suite a ((a, oe3) :: (X.pn ++ pins))) S3 hg hm q hdbg
          · exact ld_blt (X := X.suite a ((a, oe3) :: (X.pn ++ pins))) S3 hg hm hv q hnn hdbg
        refine test (LM.here ?_)
        cases b with
        | true =>
          refine codeAny_handlers_suite ?_
          refine HandSPX.lands_againZ fl3 fun h4 fl4 up4 => ?_
          have J4 : Inv X pins σ' H' { s' with heap := h4 } := J.landed nb fl4.1 ((up.trans up3).trans up4) os ag
          obtain ⟨oe4, vs4, he4, hz4, hd4⟩ := fl4.there
          have S4 := Inv.track J nb fl4.2.1 nfs J4 he4 ⟨_, hd4⟩ na nL (ok.suite a _)
          refine wpAny_mono ((hsu a (X.pn ++ pins)).run [] _ _ _ _ S4 (hyes rfl a oe4 (X.pn ++ pins) na hz4.1 hz4.2 ⟨_, hd4⟩)) (fun f s6 hsp => ?_) (fun _ _ z => False.elim z)
          cases f with
          | next =>
            obtain ⟨σ6, H6, S6, q6⟩ := hsp
            exact ⟨_, _, Inv.untrack S6 ok, q6⟩
          | brk =>
            obtain ⟨σ6, H6, S6, q6⟩ := hsp
            exact ⟨_, _, Inv.untrack S6 ok, q6⟩
          | cont =>
            obtain ⟨σ6, H6, S6, q6⟩ := hsp
            exact ⟨_, _, Inv.untrack S6 ok, q6⟩
          | ret u =>
            obtain ⟨v6, σ6, H6, S6, r6, q6⟩ := hsp
            exact ⟨_, _, _, Inv.untrack S6 ok, r6, q6⟩
        | false =>
          show wpAny _ X.A (handleBy (.ref a) X.env hds2) _ _ _
          exact ih (hno rfl)
      | @as x n i c ts b₀ suite np pos' hds2 l2 hN hi hln hc hsu r ih =>
        intro w
        obtain ⟨b, hb1, hyes, hno⟩ := w
        have hloc : Loc X.env.scope n := .inl hln
        refine wpAny_handleBy_cons (codeAny_handlers_test ?_) (by intro q; cases q)
        have LT : PySem.W.Looks (model X.prog X.w) h3 (typeOf (.ref a)) cls := fun A Q E s k q => wpAny_typeOf_ref (k _ _ he3) (by rw [hz3.1]; exact q)
        have LM := PySem.W.exm_one (M := model X.prog X.w) (J3.kIn) LT hb1
        have test : ∀ {Q : Value → Shared → Prop} {E : Value → Shared → Prop}, Q c { s' with heap := h3 } → wpAny (model X.prog X.w) (X.A.mark (some (.ref a))) (eval (.Name x np) X.env) Q E { s' with heap := h3 } := fun {Q E} q => by
          obtain ⟨hg, hdbg, hm | ⟨hm, hv, hnn⟩⟩ := hc
          · exact ld_glob (X := X.suite a ((a, oe3) :: (X.pn ++ pins))) S3 hg hm q hdbg
          · exact ld_blt (X := X.suite a ((a, oe3) :: (X.pn ++ pins))) S3 hg hm hv q hnn hdbg
        refine test (LM.here ?_)
        cases b with
        | true =>
          refine codeAny_handlers_suite_as ?_
          refine HandSPX.lands_againZ fl3 fun h4 fl4 up4 => ?_
          have J4 : Inv X pins σ' H' { s' with heap := h4 } := J.landed nb fl4.1 ((up.trans up3).trans up4) os ag
          obtain ⟨oe4, vs4, he4, hz4, hd4⟩ := fl4.there
          have S4 := Inv.track J nb fl4.2.1 nfs J4 he4 ⟨_, hd4⟩ na nL (ok.suite a _)
          refine store_ok (X := X.suite a (X.pn ++ pins)) (v := .ref a) S4 hN hi hloc rfl (fun s5 S5 => ?_) (.inr hln)
          refine wpAny_mono ((hsu a (X.pn ++ pins)).run [] s5 _ _ _ S5 (hyes rfl a oe4 (X.pn ++ pins) na hz4.1 hz4.2 ⟨_, hd4⟩)) (fun f s6 hsp => ?_) (fun _ _ z => False.elim z)
          have end_ : ∀ {σ6 : DL.VSt} {H6 : Hp} {Q : Shared → Prop}, Inv (X.suite a (X.pn ++ pins)) [] σ6 H6 s6 → (∀ s7, Inv X pins (σ6.set i none) H6 s7 → Q s7) →
              wpAny (model X.prog X.w) X.A (do bindName X.env n .none; unbindBehindTheSuite X.env n pos') (fun _ s7 => Q s7) X.xe s6 := fun {σ6 H6 Q} S6 hq => gone_ok (Inv.untrack S6 ok) hN hi hln hq
          cases f with
          | next =>
            obtain ⟨σ6, H6, S6, q6⟩ := hsp
            exact end_ S6 fun s7 J7 => ⟨_, _, J7, q6⟩
          | brk =>
            obtain ⟨σ6, H6, S6, q6⟩ := hsp
            exact end_ S6 fun s7 J7 => ⟨_, _, J7, q6⟩
          | cont =>
            obtain ⟨σ6, H6, S6, q6⟩ := hsp
            exact end_ S6 fun s7 J7 => ⟨_, _, J7, q6⟩
          | ret u =>
            obtain ⟨v6, σ6, H6, S6, r6, q6⟩ := hsp
            exact end_ S6 fun s7 J7 => ⟨_, _, _, J7, r6, q6⟩
        | false =>
          show wpAny _ X.A (handleBy (.ref a) X.env hds2) _ _ _
          exact ih (hno rfl)
    exact go hh w
  · refine wpAny_mono ((hb (wManyT X.K Wout D l) (X.pn ++ pins) _ tkk PassesOwn.looking).run [] s σ H D (I.toTry _) (h _ _ tkk PassesOwn.looking)) (fun f s1 hsp => ?_) (fun e s1 he => he)
    cases f with
    | next =>
      obtain ⟨σ', H', J', q⟩ := hsp
      exact wpAny_execs_nil ⟨σ', H', J'.ofTry ok, q⟩
    | brk =>
      obtain ⟨σ', H', J', q⟩ := hsp
      exact ⟨σ', H', J'.ofTry ok, q⟩
    | cont =>
      obtain ⟨σ', H', J', q⟩ := hsp
      exact ⟨σ', H', J'.ofTry ok, q⟩
    | ret u =>
      obtain ⟨v, σ', H', J', r, q⟩ := hsp
      exact ⟨v, σ', H', J'.ofTry ok, r, q⟩
end
end EX

namespace DL
open PySem PySem.Spec PyProof.Rows L2 EX

abbrev OxT := List (Str × List Str)
def OxF (K : PySem.W.Frag) (t : OxT) : Prop := ∀ p ∈ t, OxC K (He.ga K p.1) ∧ ∀ f ∈ p.2, PySem.W.findIn K (.ref (He.ga K p.1)) f = some none
def oxtB (K : PySem.W.Frag) (t : OxT) : Bool := t.all fun p => oxB K (He.ga K p.1) && p.2.all fun f => He.eqO (PySem.W.findIn K (.ref (He.ga K p.1)) f) (some none)
theorem oxtB_ok {K : PySem.W.Frag} {t : OxT} (h : oxtB K t = true) : OxF K t := fun p hp => by
  obtain ⟨h1, h2⟩ := He.ba (List.all_eq_true.mp h p hp)
  exact ⟨oxB_ok h1, fun f hf => He.eqO_ok (List.all_eq_true.mp h2 f hf)⟩
def hasC (t : OxT) (c : Str) : Bool := t.any fun p => p.1 == c
def hasF (t : OxT) (c f : Str) : Bool := t.any fun p => p.1 == c && p.2.contains f
section
variable {K : PySem.W.Frag} {t : OxT}
theorem OxF.c (h : OxF K t) {c : Str} (q : hasC t c = true) : OxC K (He.ga K c) := by
  obtain ⟨p, hp, e⟩ := List.any_eq_true.mp q
  rw [← beq_iff_eq.mp e]; exact (h p hp).1
theorem OxF.f (h : OxF K t) {c f : Str} (q : hasF t c f = true) : OxC K (He.ga K c) ∧ PySem.W.findIn K (.ref (He.ga K c)) f = some none := by
  obtain ⟨p, hp, e⟩ := List.any_eq_true.mp q
  obtain ⟨e1, e2⟩ := Bool.and_eq_true_iff.mp e
  rw [← beq_iff_eq.mp e1]
  exact ⟨(h p hp).1, (h p hp).2 f (List.contains_iff_mem.mp e2)⟩
end

/-- the fields behind __init__, as data -/
def xfD (code : Str) (ns : List Str) (args : List D) : List (Str × D) := (ns.zip args).reverse ++ [((("code" : Str), D.str code) : Str × D)]
section
variable {K : PySem.W.Frag} {G : Hp}
theorem repsF_zip {acc : List (Str × D)} {acc' : List (Str × V)} : ∀ {ns : List Str} {ds : List D} {vs : List V} {acc : List (Str × D)} {acc' : List (Str × V)}, Reps K G ds vs → RepsF K G acc acc' → RepsF K G ((ns.zip ds).reverse ++ acc) ((ns.zip vs).reverse ++ acc')
  | [], ds, vs, acc, acc', r, h => by simpa using h
  | n :: ns, [], vs, acc, acc', r, h => by rw [Reps.nil_iff.mp r]; simpa using h
  | n :: ns, d :: ds, vs, acc, acc', r, h => by
    obtain ⟨v, w, rfl, h1, h2⟩ := Reps.cons_iff.mp r
    rw [List.zip_cons_cons, List.zip_cons_cons, List.reverse_cons, List.reverse_cons, List.append_assoc, List.append_assoc]
    exact repsF_zip (acc := acc) (acc' := acc') h2 (RepsF.cons h1 h)
theorem repsF_xfs {code : Str} {ns : List Str} {ds : List D} {vs : List V} (r : Reps K G ds vs) : RepsF K G (xfD code ns ds) (xFs code ns vs) := repsF_zip (acc := []) (acc' := []) r (RepsF.cons (rep_sc rfl) RepsF.nil)
theorem reps_pick {ds : List D} {vs : List V} (r : Reps K G ds vs) : ∀ pm : List Nat, Reps K G (pickP pm ds) (pickP pm vs)
  | [] => Reps.nil
  | i :: pm => by
    have t := reps_pick r pm
    unfold pickP at t ⊢
    cases q : ds[i]? with
    | none =>
      have q' : vs[i]? = none := by
        rw [List.getElem?_eq_none_iff] at q ⊢
        rw [← r.length]; exact q
      rw [List.filterMap_cons_none q, List.filterMap_cons_none q']; exact t
    | some d =>
      obtain ⟨v, h1, h2⟩ := r.get q
      rw [List.filterMap_cons_some q, List.filterMap_cons_some h1]; exact Reps.cons h2 t
end
section
variable {p : Pr} {X : Cx} {W : WX} {K : PySem.W.Frag} {a b c e o : Expr} {es : List Expr} {te to : TDE} {ts tk : TDA} {pos : Pos} {kws : List Keyword} {ks : List Str}
structure DK (p : Pr) (X : Cx) (W : WX) (kws : List Keyword) (td : TDA) : Prop where
  ex : ∃ t : TA, PK X kws t ∧ RefA X.K p W t td
theorem dk_nil : DK p X W [] xNil := ⟨_, pk_nil, fun G σ H δ Q Qd Ed r q k x => k G H [] [] r.refl Reps.nil q⟩
theorem dk_cons {nm : Option Str} {kpos : Pos} (he : DE p X W e te) (hr : DK p X W kws ts) : DK p X W (⟨nm, e, kpos⟩ :: kws) (xCons te ts) := by
  obtain ⟨t, h1, h2⟩ := he
  obtain ⟨u, h3, h4⟩ := hr
  refine ⟨_, pk_cons h1 h3, fun G σ H δ Q Qd Ed r q k x => ?_⟩
  refine h2 G σ H δ _ _ Ed r q (fun G1 H1 v d e1 r1 q1 => ?_) x
  refine h4 G1 σ H1 δ _ _ Ed (r.ext e1) q1 (fun G2 H2 vs ds e2 r2 q2 => ?_) (x.step r.at e1)
  exact k G2 H2 (v :: vs) (d :: ds) (e1.trans r.at e2) (Reps.cons (r1.mono e2.gg) r2) q2
structure DMk (p : Pr) (X : Cx) (W : WX) (pos : Pos) (es : List Expr) (kws : List Keyword) (ks : List Str) (td : TDA) : Prop where
  ex : ∃ t : TA, MkArgs X pos es kws ks t ∧ RefA X.K p W t td
def xLen (n : Nat) (ts : TDA) : TDA := fun δ Q E => ts δ (fun ds => ds.length = n ∧ Q ds) E
def xApp (n m : Nat) (ts tk : TDA) : TDA := fun δ Q E => ts δ (fun ds => ds.length = n ∧ tk δ (fun zs => zs.length = m ∧ Q (ds ++ zs)) E) E
theorem refLen {n : Nat} {t : TA} (h : RefA K p W t ts) : RefA K p W (fun σ H Q => t σ H fun vs H1 => vs.length = n ∧ Q vs H1) (xLen n ts) := fun G σ H δ Q Qd Ed r q k x =>
  h G σ H δ _ _ Ed r q (fun G1 H1 vs ds e1 r1 q1 => ⟨by rw [← r1.length]; exact q1.1, k G1 H1 vs ds e1 r1 q1.2⟩) x
theorem dmk_pos (ha : DA p X W (e :: es) ts) (he : starEach (e :: es) X.env = (false, eval e X.env) :: starEach es X.env := by rfl) (hpl : (backTo pos (starEach es X.env)).any (·.1) = false := by rfl) : DMk p X W pos (e :: es) [] [] (xLen (e :: es).length ts) := by
  obtain ⟨t, h1, h2⟩ := ha
  exact ⟨_, mka_pos h1 he hpl, refLen h2⟩
theorem dmk_nil : DMk p X W pos [] [] [] xNil := ⟨_, mka_nil, fun G σ H δ Q Qd Ed r q k x => k G H [] [] r.refl Reps.nil q⟩
theorem dmk_kw (hk : DK p X W kws tk) (hall : (backToKw pos (keywordEach kws X.env)).all (·.1.isSome) = true := by rfl) (hks : (backToKw pos (keywordEach kws X.env)).filterMap (·.1) = ks := by rfl)
    (hpl : ((backTo pos (starEach [] X.env)).any (·.1) || (backToKw pos (keywordEach kws X.env)).any (·.1.isNone)) = false := by rfl) : DMk p X W pos [] kws ks (xLen ks.length tk) := by
  obtain ⟨t, h1, h2⟩ := hk
  exact ⟨_, mka_kw h1 hall hks hpl, refLen h2⟩
theorem dmk_both (ha : DA p X W (e :: es) ts) (hk : DK p X W kws tk) (hall : (backToKw pos (keywordEach kws X.env)).all (·.1.isSome) = true := by rfl) (hks : (backToKw pos (keywordEach kws X.env)).filterMap (·.1) = ks := by rfl)
    (he : starEach (e :: es) X.env = (false, eval e X.env) :: starEach es X.env := by rfl)
    (hpl : ((backTo pos (starEach (e :: es) X.env)).any (·.1) || (backToKw pos (keywordEach kws X.env)).any (·.1.isNone)) = false := by rfl) : DMk p X W pos (e :: es) kws ks (xApp (e :: es).length ks.length ts tk) := by
  obtain ⟨t, h1, h2⟩ := ha
  obtain ⟨u, h3, h4⟩ := hk
  refine ⟨_, mka_both h1 h3 hall hks he hpl, fun G σ H δ Q Qd Ed r q k x => ?_⟩
  refine h2 G σ H δ _ _ Ed r q (fun G1 H1 vs ds e1 r1 q1 => ⟨by rw [← r1.length]; exact q1.1, ?_⟩) x
  refine h4 G1 σ H1 δ _ _ Ed (r.ext e1) q1.2 (fun G2 H2 zs cs e2 r2 q2 => ⟨by rw [← r2.length]; exact q2.1, ?_⟩) (x.step r.at e1)
  exact k G2 H2 (vs ++ zs) (ds ++ cs) (e1.trans r.at e2) (Reps.append (r1.mono e2.gg) r2) q2.2
/-- C(e, .., k = v, ..) kept as a value -/
def xMkx (c code : Str) (ns : List Str) (pm : List Nat) (n : Nat) (ts : TDA) : TDE := fun δ Q E => ts δ (fun ds => ds.length = n ∧ (pickP pm ds).length = ns.length ∧ Q (.exc c (xfD code ns (pickP pm ds)))) E
theorem d_mkx {fI : Addr} {fd : FuncData} {code : Str} {ns : List Str} {pm : List Nat} {x cn : Str} {q : Pos} (D : IFn X (He.ga X.K cn) code ns fI fd) (B : BX fd ns es.length ks pm) (hr : Room 2 X.A) (hm : X.mg x = some (.ref (He.ga X.K cn))) (ha : DMk p X W pos es kws ks ts)
    (hle : es.length ≤ sizeLine := by decide) (hg : Gl X x := by rfl) (hdb : (x == ("__debug__" : Str)) = false := by decide) : DE p X W (.Call (.Name x q) es kws pos) (xMkx cn code ns pm (es.length + ks.length) ts) := by
  obtain ⟨t, h1, h2⟩ := ha
  refine ⟨_, pe_mkx D B hr hm h1 hle hg hdb, fun G σ H δ Q Qd Ed r q k x => ?_⟩
  refine h2 G σ H δ _ _ Ed r q (fun G1 H1 vs ds e1 r1 q1 => ?_) x
  obtain ⟨q2, q3, q4⟩ := q1
  have rp := reps_pick r1 pm
  refine ⟨by rw [← r1.length]; exact q2, by rw [← rp.length]; exact q3, fun a d oe na nd ne c1 c2 c3 => ?_⟩
  have y1 := Ext.laid (K := X.K) e1.sub e1.bag (o := .xd (xFs code ns (pickP pm vs))) nd
  have na1 : upd H1 d (.xd (xFs code ns (pickP pm vs))) a = none := by rw [upd_ne (Ne.symm ne)]; exact na
  have y2 := Ext.laid (K := X.K) y1.sub y1.bag (o := excHO a oe) na1
  have hb1 : H1 p.b.a ≠ none := e1.bag.at
  refine k _ _ _ (.exc cn (xfD code ns (pickP pm ds))) ((e1.trans r.at y1).trans r.at y2) ?_ q4
  unfold Rep
  exact ⟨a, oe, d, _, rfl, upd_same, c1, c2, c3, by rw [upd_ne ne, upd_same], repsF_xfs (rp.mono (y1.gg.trans y2.gg))⟩
/-- raise C(..) -/
def yRaise (S : List Nat) (c code : Str) (ns : List Str) (pm : List Nat) (n : Nat) (ts : TDA) : TDS := fun Dd δ => ts (frz S δ) (fun ds => ds.length = n ∧ (pickP pm ds).length = ns.length ∧ Dd.xc c (xfD code ns (pickP pm ds)) (frz S δ)) (fun c fs => Dd.xc c fs (frz S δ))
theorem ds_raise (S : List Nat) {fI : Addr} {fd : FuncData} {code : Str} {ns : List Str} {pm : List Nat} {x cn : Str} {q rpos : Pos} (hc : X.calm = true) (tk : Takes X W) (D : IFn X (He.ga X.K cn) code ns fI fd) (B : BX fd ns es.length ks pm) (hr : Room 2 X.A) (hm : X.mg x = some (.ref (He.ga X.K cn)))
    (ha : DMk p X W pos es kws ks ts) (hle : es.length ≤ sizeLine := by decide) (hg : Gl X x := by rfl) (hdb : (x == ("__debug__" : Str)) = false := by decide) : DS p X W (.Raise (some (.Call (.Name x q) es kws pos)) none rpos) (yRaise S cn code ns pm (es.length + ks.length) ts) := by
  obtain ⟨t, h1, h2⟩ := ha
  refine ⟨_, ps_raise hc tk (pmk_mkx D B hr hm h1 hle hg hdb), fun Gb G σ H δ D' Dd s r q h => ?_⟩
  obtain ⟨G1, g1, r1⟩ := DR.freeze (S := S) r
  refine h2 G1 σ H _ _ _ _ r1 q (fun G2 H2 vs ds e2 r2 q2 => ?_) (h.x (s.trans g1) r1)
  obtain ⟨q3, q4, q5⟩ := q2
  have rp := reps_pick r2 pm
  refine ⟨by rw [← r2.length]; exact q3, by rw [← rp.length]; exact q4, fun d nd => ?_⟩
  have y1 := Ext.laid (K := X.K) e2.sub e2.bag (o := .xd (xFs code ns (pickP pm vs))) nd
  exact h.xc _ σ _ _ cn _ d _ (((s.trans g1).trans e2.gg).trans y1.gg) ((r1.ext e2).ext y1) upd_same (repsF_xfs (rp.mono y1.gg)) q5
/-- e.f of an exception -/
def xXat (t : OxT) (f : Str) (te : TDE) : TDE := fun δ Q E => te δ (fun x => ∃ c fs d, x = .exc c fs ∧ hasF t c f = true ∧ fs.lookup f = some d ∧ Q d) E
theorem rep_exc {K : PySem.W.Frag} {G H : Hp} {c : Str} {fs : List (Str × D)} {v : V} (T : OxC K (He.ga K c)) (r : Rep K G (.exc c fs) v) (s : Same G H) : ∃ a d vs, v = .ref a ∧ TrE K H a (He.ga K c) d vs ∧ RepsF K G fs vs := by
  unfold Rep at r
  obtain ⟨a, oe, d, vs, rfl, e1, c1, c2, c3, e2, rf⟩ := r
  exact ⟨a, d, vs, rfl, ⟨⟨oe, s _ _ e1, c1, c2, c3⟩, s _ _ e2, T⟩, rf⟩
theorem d_xat {t : OxT} {f : Str} (T : OxF X.K t) (he : DE p X W e te) (hb : attributeBase e f X.env (eval e X.env) = eval e X.env := by rfl) : DE p X W (.Attribute e f pos) (xXat t f te) := by
  obtain ⟨u, h1, h2⟩ := he
  refine ⟨_, pe_xo h1 hb, fun G σ H δ Q Qd Ed r q k x => ?_⟩
  refine h2 G σ H δ _ _ Ed r q (fun G1 H1 v d e1 r1 q1 => ?_) x
  obtain ⟨c, fs, dd, rfl, hf, hl, q2⟩ := q1
  obtain ⟨oc, fn⟩ := T.f hf
  obtain ⟨a, d', vs, rfl, tr, rf⟩ := rep_exc oc r1 e1.sub
  obtain ⟨v, hv, rv⟩ := rf.lookup hl
  exact ⟨a, _, d', vs, v, rfl, tr, fn, hv, k G1 H1 v dd e1 rv q2⟩
end

inductive Tg where
  | b (n : String)
  | o (c : Str)
def Tg.v (K : PySem.W.Frag) : Tg → Value
  | .b n => .type n
  | .o c => .ref (He.ga K c)
def tgD (t : OxT) : D → Option Tg
  | .non => some (.b "NoneType")
  | .bl _ => some (.b "bool")
  | .int _ => some (.b "int")
  | .str _ => some (.b "str")
  | .tup _ => some (.b "tuple")
  | .lst _ => some (.b "list")
  | .dic _ => some (.b "dict")
  | .exc c _ => if hasC t c then some (.o c) else none
  | _ => none
def tgNames : List String := ["NoneType", "bool", "int", "str", "tuple", "list", "dict"]
def isB (n m : String) : Option Bool := if tgNames.contains n && tgNames.contains m then some (n == m || (n == "bool" && m == "int")) else none
theorem isB_ok {K : PySem.W.Frag} {n m : String} {r : Bool} (h : isB n m = some r) : PySem.W.kitOne K (.type n) (.type m) = some r := by
  unfold isB at h
  split at h
  · rename_i hc
    obtain ⟨h1, h2⟩ := Bool.and_eq_true_iff.mp hc
    cases h
    refine kit_ty ?_
    have key : ∀ n ∈ tgNames, ∀ m ∈ tgNames, kitB n m = some (n == m || (n == "bool" && m == "int")) := by decide +kernel
    exact key n (List.contains_iff_mem.mp h1) m (List.contains_iff_mem.mp h2)
  · cases h
def isOne (K : PySem.W.Frag) : Tg → D → Option Bool
  | .b n, .ty m => isB n m
  | g, .ty m => PySem.W.kitOne K (g.v K) (.type m)
  | g, .adr a => PySem.W.kitOne K (g.v K) (.ref a)
  | _, _ => none
def isAny (K : PySem.W.Frag) (g : Tg) : List D → Option Bool
  | [] => some false
  | c :: cs => match isOne K g c with
    | some true => (isAny K g cs).map fun _ => true
    | some false => isAny K g cs
    | none => none
def cvD : D → Value
  | .ty m => .type m
  | .adr a => .ref a
  | _ => .none
def dIsi (K : PySem.W.Frag) (t : OxT) (xs : List D) (Q : QD) : Prop := match xs with
  | [x, .tup cs] => ∃ g b, tgD t x = some g ∧ isAny K g cs = some b ∧ Q (.bl b)
  | [x, c] => ∃ g b, tgD t x = some g ∧ isOne K g c = some b ∧ Q (.bl b)
  | _ => False
section
variable {K : PySem.W.Frag} {b : Bag} {G H : Hp} {t : OxT}
theorem isOne_ok {g : Tg} {c : D} {r : Bool} {v : V} (h : isOne K g c = some r) (hv : Rep K G c v) : ClsV v (cvD c) ∧ PySem.W.kitOne K (g.v K) (cvD c) = some r := by
  unfold isOne at h
  split at h
  · rw [show v = V.ty _ from by unfold Rep at hv; exact hv]
    exact ⟨.ty _, isB_ok h⟩
  · rw [show v = V.ty _ from by unfold Rep at hv; exact hv]
    exact ⟨.ty _, h⟩
  · rw [show v = V.ref _ from by unfold Rep at hv; exact hv]
    exact ⟨.own _, h⟩
  · cases h
theorem isAny_ok {g : Tg} : ∀ {cs : List D} {r : Bool} {vs : List V}, isAny K g cs = some r → Reps K G cs vs → Paired ClsV vs (cs.map cvD) ∧ PySem.W.kitAny K (g.v K) (cs.map cvD) = some r
  | [], r, vs, h, hv => by
    rw [Reps.nil_iff.mp hv]
    cases h
    exact ⟨.nil, kitAny_nil⟩
  | c :: cs, r, vs, h, hv => by
    obtain ⟨v, w, rfl, h1, h2⟩ := Reps.cons_iff.mp hv
    unfold isAny at h
    split at h
    · rename_i e
      obtain ⟨k1, k2⟩ := isOne_ok e h1
      obtain ⟨r', e', rfl⟩ := Option.map_eq_some_iff.mp h
      obtain ⟨p1, p2⟩ := isAny_ok e' h2
      exact ⟨.cons k1 p1, kitAny_cons k2 (fun z => nomatch z) (fun _ => rfl)⟩
    · rename_i e
      obtain ⟨k1, k2⟩ := isOne_ok e h1
      obtain ⟨p1, p2⟩ := isAny_ok h h2
      exact ⟨.cons k1 p1, kitAny_cons k2 (fun _ => p2) (fun z => nomatch z)⟩
    · cases h
theorem tgD_ok (T : OxF K t) {x : D} {v : V} {g : Tg} (h : tgD t x = some g) (r : Rep K G x v) (s : Same G H) : TyZ K H v (g.v K) := by
  cases x with
  | non => cases h; rw [show v = V.non from by unfold Rep at r; exact r]; exact .base (.base .non)
  | bl y => cases h; rw [rep_bl.mp r]; exact .base (.base (.bl y))
  | int y => cases h; rw [rep_int.mp r]; exact .base (.base (.int y))
  | str y => cases h; rw [rep_str.mp r]; exact .base (.base (.str y))
  | tup ds =>
    cases h
    obtain ⟨a, vs, rfl, c1, c2⟩ := rep_tupI.mp r
    rcases sameT s c1 with (z | ⟨o, z⟩) | z
    · exact .base (.base (.tup z))
    · exact .base (.fTuple z)
    · obtain ⟨o, its, n, hk, hc, _⟩ := z
      exact .base (.kTuple hk hc)
  | lst ds =>
    cases h
    obtain ⟨a, vs, rfl, c1, c2⟩ := rep_lstI.mp r
    exact .base (.base (.lst (s _ _ c1)))
  | dic ds =>
    cases h
    obtain ⟨a, vs, rfl, c1, c2⟩ := rep_dicI.mp r
    exact .base (.base (.dK (s _ _ c1)))
  | exc c fs =>
    have h : (if hasC t c = true then some (Tg.o c) else none) = some g := h
    split at h
    · rename_i hc
      cases h
      obtain ⟨a, d, vs, rfl, tr, rf⟩ := rep_exc (T.c hc) r s
      exact .exc tr
    · cases h
  | _ => cases h
theorem r_isi (T : OxF K t) : RefC K b (rIsiZ K) (dIsi K t) := by
  intro G H xs vs Q Qd s hb r q k
  unfold dIsi at q
  split at q
  · rename_i x cs
    obtain ⟨g, bb, h1, h2, h3⟩ := q
    obtain ⟨v, w, rfl, r1, r2⟩ := Reps.cons_iff.mp r
    obtain ⟨v2, w2, rfl, r3, r4⟩ := Reps.cons_iff.mp r2
    cases Reps.nil_iff.mp r4
    obtain ⟨a, us, rfl, c1, c2⟩ := rep_tupI.mp r3
    obtain ⟨p1, p2⟩ := isAny_ok h2 c2
    exact ⟨v, _, bb, tgD_ok T h1 r1 s, k _ _ _ _ (Ext.refl s hb) (rep_sc rfl) h3, .inr ⟨a, us, _, rfl, sameT s c1, p1, p2⟩⟩
  · rename_i x c _
    obtain ⟨g, bb, h1, h2, h3⟩ := q
    obtain ⟨v, w, rfl, r1, r2⟩ := Reps.cons_iff.mp r
    obtain ⟨v2, w2, rfl, r3, r4⟩ := Reps.cons_iff.mp r2
    cases Reps.nil_iff.mp r4
    obtain ⟨p1, p2⟩ := isOne_ok h2 r3
    exact ⟨v, _, bb, tgD_ok T h1 r1 s, k _ _ _ _ (Ext.refl s hb) (rep_sc rfl) h3, .inl ⟨_, _, rfl, p1, p2⟩⟩
  · exact q.elim
end
end DL

namespace DL
open PySem PySem.Spec PyProof.Rows L2 EX
open L2H (RoomH roomH_of)

/-- a clause: the class, the name's slot, the suite -/
abbrev ClD := Value × Option Nat × TDS
def setDO (i : Option Nat) (s : Sl) (δ : DSt) : DSt := match i with
  | some i => δ.set i s
  | none => δ
def endsDO (i : Option Nat) (Dd : DEnds) : DEnds := { nx := fun δ => Dd.nx (setDO i .non δ), rt := Dd.rt, bk := fun δ => Dd.bk (setDO i .non δ), ct := fun δ => Dd.ct (setDO i .non δ), xc := fun _ _ _ => False }
def dMany (K : PySem.W.Frag) (Dd : DEnds) : List ClD → Str → List (Str × D) → DSt → Prop
  | [], c, fs, δ => Dd.xc c fs δ
  | (v, i, td) :: r, c, fs, δ => ∃ b, PySem.W.exmOne K (.ref (He.ga K c)) v = some b ∧ (if b = true then td (endsDO i Dd) (setDO i (.val (.exc c fs)) δ) else dMany K Dd r c fs δ)
inductive HdsD (p : Pr) (X : Cx) : List ExceptHandler → List ClD → Prop
  | nil : HdsD p X [] []
  | cons {x : Str} {c : Value} {td : TDS} {b₀ : Stmt} {suite : List Stmt} {np pos' : Pos} {hds : List ExceptHandler} {l : List ClD} (hc : Names X x c)
      (hsu : ∀ (a : Addr) (pn : List (Addr × Obj)), DSs p (X.suite a pn) (fun _ _ _ _ => False) (b₀ :: suite) td) (r : HdsD p X hds l) :
      HdsD p X (.ExceptHandler (some (.Name x np)) none (b₀ :: suite) pos' :: hds) ((c, none, td) :: l)
  | as {x n : Str} {i : Nat} {c : Value} {td : TDS} {b₀ : Stmt} {suite : List Stmt} {np pos' : Pos} {hds : List ExceptHandler} {l : List ClD} (hN : X.N.Nodup) (hi : X.N[i]? = some n) (hln : X.env.kindOf n = some .local) (hc : Names X x c)
      (hsu : ∀ (a : Addr) (pn : List (Addr × Obj)), DSs p (X.suite a pn) (fun _ _ _ _ => False) (b₀ :: suite) td) (r : HdsD p X hds l) :
      HdsD p X (.ExceptHandler (some (.Name x np)) (some n) (b₀ :: suite) pos' :: hds) ((c, some i, td) :: l)
section
variable {p : Pr} {X : Cx} {W : WX} {K : PySem.W.Frag} {G H : Hp} {σ : VSt} {δ : DSt}
theorem DR.setO (r : DR K p G σ H δ) (i : Option Nat) {x : Option V} {s : Sl} (h : match s with | .non => True | .val d => ∃ v, x = some v ∧ Rep K G d v | .own _ => False) : DR K p G (setO i x σ) H (setDO i s δ) := by
  cases i with
  | none => exact r
  | some i => exact r.set h
theorem EndsOk.sub {Gb : Hp} {D : Ends} {Dd : DEnds} (i : Option Nat) (h : EndsOk K p Gb W D Dd) : EndsOk K p Gb (fun _ _ _ _ => False) (endsO i D) (endsDO i Dd) :=
  ⟨fun G σ H δ s r q => h.nx G _ H _ s (r.setO i (s := .non) True.intro) q, fun G σ H δ v d s r rv q => h.rt G _ H _ v d s r rv q, fun G σ H δ s r q => h.bk G _ H _ s (r.setO i (s := .non) True.intro) q, fun G σ H δ s r q => h.ct G _ H _ s (r.setO i (s := .non) True.intro) q, fun _ _ _ _ _ _ _ _ _ _ _ _ q => q⟩
/-- the clauses, as they stand below -/
theorem hds_ok : ∀ {hds : List ExceptHandler} {l : List ClD}, HdsD p X hds l → ∃ l' : List ClT, HdsT X hds l' ∧
    ∀ (Gb : Hp) (D0 : Ends) (Dd : DEnds), EndsOk X.K p Gb W D0 Dd → ∀ (G : Hp) (σ : VSt) (H : Hp) (δ : DSt) (c : Str) (fs : List (Str × D)) (d : Addr) (vs : List (Str × V)), Same Gb G → DR X.K p G σ H δ → G d = some (.xd vs) → RepsF X.K G fs vs → dMany X.K Dd l c fs δ → wManyT X.K W D0 l' (.ref (He.ga X.K c)) (some d) σ H := by
  intro hds l h
  have step : ∀ {i : Option Nat} {c : Value} {td : TDS} {ts : Addr → List (Addr × Obj) → TS} {l : List ClD} {l' : List ClT}, (∀ a pn, RefS X.K p (fun _ _ _ _ => False) (ts a pn) td) →
      (∀ (Gb : Hp) (D0 : Ends) (Dd : DEnds), EndsOk X.K p Gb W D0 Dd → ∀ (G : Hp) (σ : VSt) (H : Hp) (δ : DSt) (c : Str) (fs : List (Str × D)) (d : Addr) (vs : List (Str × V)), Same Gb G → DR X.K p G σ H δ → G d = some (.xd vs) → RepsF X.K G fs vs → dMany X.K Dd l c fs δ → wManyT X.K W D0 l' (.ref (He.ga X.K c)) (some d) σ H) →
      ∀ (Gb : Hp) (D0 : Ends) (Dd : DEnds), EndsOk X.K p Gb W D0 Dd → ∀ (G : Hp) (σ : VSt) (H : Hp) (δ : DSt) (cn : Str) (fs : List (Str × D)) (d : Addr) (vs : List (Str × V)), Same Gb G → DR X.K p G σ H δ → G d = some (.xd vs) → RepsF X.K G fs vs → dMany X.K Dd ((c, i, td) :: l) cn fs δ → wManyT X.K W D0 ((c, i, ts) :: l') (.ref (He.ga X.K cn)) (some d) σ H := by
    intro i c td ts l l' hr ih Gb D0 Dd hD G σ H δ cn fs d vs s r hd rf q
    obtain ⟨b, e, q⟩ := q
    refine ⟨b, e, fun hb a oe pn na c1 c2 c3 => ?_, fun hb => ?_⟩
    · rw [if_pos hb] at q
      have y := Ext.laid (K := X.K) r.sub r.bag (o := excHO a oe) na
      have nad : d ≠ a := fun z => by
        have := r.sub _ _ hd
        rw [z, na] at this; cases this
      have R := r.ext y
      refine hr a pn Gb _ _ _ _ _ _ (s.trans y.gg) (R.setO i (x := some (.ref a)) (s := .val (.exc cn fs)) ⟨_, rfl, ?_⟩) q (hD.sub i)
      unfold Rep
      exact ⟨a, oe, d, vs, rfl, upd_same, c1, c2, c3, by rw [upd_ne nad]; exact hd, RepsF.mono y.gg rf⟩
    · rw [if_neg (by rw [hb]; exact Bool.false_ne_true)] at q
      exact ih Gb D0 Dd hD G σ H δ cn fs d vs s r hd rf q
  induction h with
  | nil => exact ⟨[], .nil, fun Gb D0 Dd hD G σ H δ c fs d vs s r hd rf q => hD.xc G σ H δ c fs d vs s r hd rf q⟩
  | cons hc hsu r ih =>
    obtain ⟨l', h1, h2⟩ := ih
    have ch : ∀ a pn, ∃ t : TS, PSs (X.suite a pn) _ t ∧ RefS X.K p (fun _ _ _ _ => False) t _ := fun a pn => (hsu a pn).ex
    exact ⟨_, .cons hc (fun a pn => (Classical.choose_spec (ch a pn)).1) h1, step (fun a pn => (Classical.choose_spec (ch a pn)).2) h2⟩
  | as hN hi hln hc hsu r ih =>
    obtain ⟨l', h1, h2⟩ := ih
    have ch : ∀ a pn, ∃ t : TS, PSs (X.suite a pn) _ t ∧ RefS X.K p (fun _ _ _ _ => False) t _ := fun a pn => (hsu a pn).ex
    exact ⟨_, .as hN hi hln hc (fun a pn => (Classical.choose_spec (ch a pn)).1) h1, step (fun a pn => (Classical.choose_spec (ch a pn)).2) h2⟩
/-- try: body / clauses -/
def yTry (K : PySem.W.Frag) (tb : TDS) (l : List ClD) : TDS := fun Dd δ => tb { Dd with xc := fun c fs δ' => dMany K Dd l c fs δ' } δ
theorem ds_try {body : List Stmt} {h₀ : ExceptHandler} {hds : List ExceptHandler} {l : List ClD} {pos : Pos} {tb : TDS} (hs : X.stack = X.env :: X.outer) (hf : X.env.frame = some X.env.locals) (tk : Takes X W)
    (hb : ∀ (W' : WX) (pn : List (Addr × Obj)) (xe : Value → Shared → Prop), Takes (X.tr pn xe) W' → PassesOwn (model X.prog X.w) X.A X.env xe → DSs p (X.tr pn xe) W' body tb)
    (hh : HdsD p X (h₀ :: hds) l) : DS p X W (.Try body (h₀ :: hds) [] [] pos) (yTry X.K tb l) := by
  obtain ⟨l', h1, h2⟩ := hds_ok (W := W) hh
  have ch : ∀ (W' : WX) (pn : List (Addr × Obj)) (xe : Value → Shared → Prop), ∃ t : TS, Takes (X.tr pn xe) W' → PassesOwn (model X.prog X.w) X.A X.env xe → PSs (X.tr pn xe) body t ∧ RefS X.K p W' t tb := fun W' pn xe => by
    by_cases c : Takes (X.tr pn xe) W' ∧ PassesOwn (model X.prog X.w) X.A X.env xe
    · obtain ⟨t, t1, t2⟩ := hb W' pn xe c.1 c.2
      exact ⟨t, fun _ _ => ⟨t1, t2⟩⟩
    · exact ⟨tNever, fun a b => absurd ⟨a, b⟩ c⟩
  refine ⟨_, ps_tryT (tb := fun W' pn xe => Classical.choose (ch W' pn xe)) hs hf tk (fun W' pn xe a b => (Classical.choose_spec (ch W' pn xe) a b).1) h1, fun Gb G σ H δ D Dd s r q h pn xe a b => ?_⟩
  refine (Classical.choose_spec (ch _ pn xe) a b).2 Gb G σ H δ D _ s r q ⟨h.nx, h.rt, h.bk, h.ct, fun G σ H δ c fs d vs s r hd rf q => h2 Gb D Dd h G σ H δ c fs d vs s r hd rf q⟩
end

section
variable {P : Program} {w : World} {K : PySem.W.Frag} {mg : Str → Option Value} {base : Heap}
theorem fnDN {x qual : Str} {st : Stmt} {f : Addr} {fd : FuncData} {N ps : List Str} {k : Nat} (c : DC) (F : Fun K x qual st f fd) (S : FnScope N ps (defScope st)) (len : ∀ β ds Q E, c β ds Q E → ds.length = ps.length)
    (hbody : ∀ (cdv : Value) (A : Around) (outer : List Env) (s : Shared) (p : Pr) (E : XK), RoomH k (A.deeper (envOfC qual (defScope st) s.heap.objs.size f cdv)) →
      ∃ td, DSs p (cxN (L2.CX P w) P w K mg base N qual (defScope st) f cdv A outer s p.H0 E) (fun cls d _ H => E cls d H) (defBody st) td ∧
        ∀ ds Qd Ed, c p.b.a ds Qd Ed → td { nx := fun _ => Qd .non, rt := Qd, xc := fun cn fs _ => Ed cn fs } (startD N.length ds)) :
    FnN P w K mg base (L2.CX P w) (k + 1) f fd ps (spD K c) := by
  refine okN F S (fun vs H Q E h => ?_) (fun cdv A outer s H vs Q E hr h => ?_)
  · obtain ⟨b, G, ds, Qd, Ed, _, _, r, q, _⟩ := h
    rw [← r.length]
    exact len _ _ _ _ q
  · obtain ⟨b, G, ds, Qd, Ed, s1, hb, r, q, k1, k2⟩ := h
    obtain ⟨td, ⟨t, h1, h2⟩, h3⟩ := hbody cdv A outer s ⟨b, H, G⟩ E hr
    refine ⟨t, h1, ?_⟩
    refine h2 G G (L2.start N vs) H (startD N.length ds) _ _ (Same.refl _) (start_DR s1 hb r) (h3 ds Qd Ed q) ⟨fun G' σ' H' δ' _ r' q' => ?_, fun G' σ' H' δ' v d _ r' rv q' => ?_, fun _ _ _ _ _ _ z => z, fun _ _ _ _ _ _ z => z, fun G' σ' H' δ' cn fs d us _ r' hd rf q' => ?_⟩
    · exact k1 G' H' _ _ r'.seen (rep_sc rfl) q'
    · exact k1 G' H' v d r'.seen rv q'
    · exact k2 G' H' cn fs d us r'.seen hd rf q'
end
section
variable {p : Pr} {X : Cx} {W : WX} {e : Expr} {es : List Expr} {ts : TDA} {pos : Pos}
theorem d_callN {c : DC} {k : Nat} {f : Addr} {fd : FuncData} {ps : List Str} {x : Str} {q : Pos} (F : FnN X.prog X.w X.K X.mg X.base (L2.CX X.prog X.w) k f fd ps (spD X.K c)) (hr : RoomH k X.A) (tk : Takes X W) (hm : X.mg x = some (.ref f)) (hk : PySem.W.keepIn X.K (.ref f) = true) (hb : Binds X.K fd ps [])
    (ha : DA p X W (e :: es) ts) (hg : Gl X x := by rfl) (hdb : (x == ("__debug__" : Str)) = false := by decide) (he : starEach (e :: es) X.env = (false, eval e X.env) :: starEach es X.env := by rfl) (hpl : (backTo pos (starEach es X.env)).any (·.1) = false := by rfl) :
    DE p X W (.Call (.Name x q) (e :: es) [] pos) (xFn p.b.a c ts) := by
  obtain ⟨a, a1, a2⟩ := ha
  refine ⟨_, pe_callN F hr hg hm hk hb (fun σ => passAt tk σ) a1 hdb he hpl, fun G σ H δ Q Qd Ed r q k x => ?_⟩
  refine a2 G σ H δ _ _ Ed r q (fun G1 H1 vs ds e1 r1 q1 => ?_) x
  exact ⟨p.b, G1, ds, Qd, Ed, e1.sub, e1.bag, r1, q1, fun G2 H2 v d e2 r2 q2 => k G2 H2 v d (e1.trans r.at e2) r2 q2, fun G2 H2 cn fs d us e2 hd rf q2 => x G2 H2 cn fs d us (e1.trans r.at e2) hd rf q2⟩
end
end DL

namespace DL
open PySem PySem.Spec PyProof.Rows L2 EX
open L2H (RoomH roomH_of)

structure OkD (P : Program) (w : World) (K : PySem.W.Frag) (mg : Str → Option Value) (base : Heap) (k : Nat) (x : Str) (ps : List Str) (c : DC) : Prop where
  ex : ∃ fd : FuncData, mg x = some (.ref (He.ga K x)) ∧ PySem.W.keepIn K (.ref (He.ga K x)) = true ∧ Binds K fd ps [] ∧ FnOk P w K mg base (L2.CX P w) k (He.ga K x) fd ps (spD K c)
structure OkN (P : Program) (w : World) (K : PySem.W.Frag) (mg : Str → Option Value) (base : Heap) (k : Nat) (x : Str) (ps : List Str) (c : DC) : Prop where
  ex : ∃ fd : FuncData, mg x = some (.ref (He.ga K x)) ∧ PySem.W.keepIn K (.ref (He.ga K x)) = true ∧ Binds K fd ps [] ∧ FnN P w K mg base (L2.CX P w) k (He.ga K x) fd ps (spD K c)
section
variable {P : Program} {w : World} {K : PySem.W.Frag} {mg : Str → Option Value} {base : Heap} {j k : Nat} {x : Str} {ps : List Str} {c c' : DC}
theorem OkD.mono (O : OkD P w K mg base j x ps c) (h : j ≤ k) : OkD P w K mg base k x ps c := by
  obtain ⟨fd, h1, h2, h3, h4⟩ := O
  exact ⟨fd, h1, h2, h3, h4.mono h⟩
theorem OkN.mono (O : OkN P w K mg base j x ps c) (h : j ≤ k) : OkN P w K mg base k x ps c := by
  obtain ⟨fd, h1, h2, h3, h4⟩ := O
  exact ⟨fd, h1, h2, h3, h4.mono h⟩
theorem OkN.ok (O : OkN P w K mg base k x ps c) : OkD P w K mg base k x ps c := by
  obtain ⟨fd, h1, h2, h3, h4⟩ := O
  exact ⟨fd, h1, h2, h3, h4.ok⟩
theorem OkD.imp (O : OkD P w K mg base k x ps c) (h : ∀ β ds Q E, c' β ds Q E → c β ds Q E) : OkD P w K mg base k x ps c' := by
  obtain ⟨fd, h1, h2, h3, h4⟩ := O
  exact ⟨fd, h1, h2, h3, fnD_imp h4 h⟩
end
section
variable {p : Pr} {X : Cx} {W : WX} {e : Expr} {es : List Expr} {ts : TDA} {pos : Pos} {k : Nat} {x : Str} {ps : List Str} {c : DC} {q : Pos}
theorem d_callO (O : OkD X.prog X.w X.K X.mg X.base k x ps c) (hr : Room k X.A) (tk : Takes X W) (ha : DA p X W (e :: es) ts)
    (hg : Gl X x := by rfl) (hdb : (x == ("__debug__" : Str)) = false := by decide) (he : starEach (e :: es) X.env = (false, eval e X.env) :: starEach es X.env := by rfl) (hpl : (backTo pos (starEach es X.env)).any (·.1) = false := by rfl) :
    DE p X W (.Call (.Name x q) (e :: es) [] pos) (xFn p.b.a c ts) := by
  obtain ⟨fd, h1, h2, h3, h4⟩ := O
  exact d_call h4 hr tk h1 h2 h3 ha hg hdb he hpl
theorem d_callON (O : OkN X.prog X.w X.K X.mg X.base k x ps c) (hr : RoomH k X.A) (tk : Takes X W) (ha : DA p X W (e :: es) ts)
    (hg : Gl X x := by rfl) (hdb : (x == ("__debug__" : Str)) = false := by decide) (he : starEach (e :: es) X.env = (false, eval e X.env) :: starEach es X.env := by rfl) (hpl : (backTo pos (starEach es X.env)).any (·.1) = false := by rfl) :
    DE p X W (.Call (.Name x q) (e :: es) [] pos) (xFn p.b.a c ts) := by
  obtain ⟨fd, h1, h2, h3, h4⟩ := O
  exact d_callN h4 hr tk h1 h2 h3 ha hg hdb he hpl
end
/-- a def's body, judged -/
def BodyD (P : Program) (w : World) (K : PySem.W.Frag) (mg : Str → Option Value) (base : Heap) (k : Nat) (qual : Str) (st : Stmt) (f : Addr) (N : List Str) (td : Addr → TDS) : Prop :=
  ∀ (cdv : Value) (A : Around) (outer : List Env) (s : Shared) (p : Pr) (E : XK), Room k (A.deeper (envOfC qual (defScope st) s.heap.objs.size f cdv)) →
    DSs p (cxOf (L2.CX P w) P w K mg base N qual (defScope st) f cdv A outer s p.H0 E) (fun cls d _ H => E cls d H) (defBody st) (td p.b.a)
def BodyN (P : Program) (w : World) (K : PySem.W.Frag) (mg : Str → Option Value) (base : Heap) (k : Nat) (qual : Str) (st : Stmt) (f : Addr) (N : List Str) (td : Addr → TDS) : Prop :=
  ∀ (cdv : Value) (A : Around) (outer : List Env) (s : Shared) (p : Pr) (E : XK), RoomH k (A.deeper (envOfC qual (defScope st) s.heap.objs.size f cdv)) →
    DSs p (cxN (L2.CX P w) P w K mg base N qual (defScope st) f cdv A outer s p.H0 E) (fun cls d _ H => E cls d H) (defBody st) (td p.b.a)
/-- the contract is kept by the reading -/
def Keeps (td : Addr → TDS) (N : List Str) (c : DC) : Prop := ∀ β ds Qd Ed, c β ds Qd Ed → td β { nx := fun _ => Qd .non, rt := Qd, xc := fun cn fs _ => Ed cn fs } (startD N.length ds)
section
variable {P : Program} {w : World} {K : PySem.W.Frag} {mg : Str → Option Value} {base : Heap} {k : Nat} {x qual : Str} {st : Stmt} {fd : FuncData} {N ps : List Str} {c : DC} {td : Addr → TDS}
theorem okD_of (g : mg x = some (.ref (He.ga K x))) (F : Fun K x qual st (He.ga K x) fd) (b : Binds K fd ps []) (S : FnScope N ps (defScope st)) (B : BodyD P w K mg base k qual st (He.ga K x) N td) (len : ∀ β ds Q E, c β ds Q E → ds.length = ps.length) (h : Keeps td N c) : OkD P w K mg base (k + 1) x ps c :=
  ⟨fd, g, F.kp, b, fnD c F S len fun cdv A outer s p E hr => ⟨_, B cdv A outer s p E hr, fun ds Qd Ed q => h p.b.a ds Qd Ed q⟩⟩
theorem okN_of (g : mg x = some (.ref (He.ga K x))) (F : Fun K x qual st (He.ga K x) fd) (b : Binds K fd ps []) (S : FnScope N ps (defScope st)) (B : BodyN P w K mg base k qual st (He.ga K x) N td) (len : ∀ β ds Q E, c β ds Q E → ds.length = ps.length) (h : Keeps td N c) : OkN P w K mg base (k + 1) x ps c :=
  ⟨fd, g, F.kp, b, fnDN c F S len fun cdv A outer s p E hr => ⟨_, B cdv A outer s p E hr, fun ds Qd Ed q => h p.b.a ds Qd Ed q⟩⟩
end

/-- the ways an __init__'s arguments may be given: how many by place, the keywords, the order -/
def shapes : List Str → List (Nat × List Str × List Nat)
  | [] => [(0, [], [])]
  | [a] => [(1, [], [0]), (0, [a], [0])]
  | [a, b] => [(2, [], [0, 1]), (0, [a, b], [0, 1]), (0, [b, a], [1, 0]), (1, [b], [0, 1])]
  | _ => []
structure MkC (P : Program) (w : World) (K : PySem.W.Frag) (mg : Str → Option Value) (base : Heap) (cn code : Str) (ns : List Str) : Prop where
  g : mg cn = some (.ref (He.ga K cn))
  ex : ∃ (fI : Addr) (fd : FuncData), OxC K (He.ga K cn) ∧ PySem.W.findIn K (.ref (He.ga K cn)) "__init__" = some (some (.ref fI)) ∧ PySem.W.typeIn K (.ref fI) = some (.type "function") ∧
    FnOk P w K mg base (L2.CX P w) 1 fI fd ("self" :: ns) (spXI (He.ga K cn) code ns) ∧ ∀ (j m : Nat) (ks : List Str) (pm : List Nat), (shapes ns)[j]? = some (m, ks, pm) → BX fd ns m ks pm
section
variable {p : Pr} {X : Cx} {W : WX} {es : List Expr} {kws : List Keyword} {ks : List Str} {ts : TDA} {pos q : Pos} {cn code : Str} {ns : List Str} {pm : List Nat}
theorem d_mkC (j : Nat) {n : Nat} (M : MkC X.prog X.w X.K X.mg X.base cn code ns) (hr : Room 2 X.A) (ha : DMk p X W pos es kws ks ts) (hj : (shapes ns)[j]? = some (es.length, ks, pm) := by rfl) (hn : es.length + ks.length = n := by rfl)
    (hle : es.length ≤ sizeLine := by decide) (hg : Gl X cn := by rfl) (hdb : (cn == ("__debug__" : Str)) = false := by decide) : DE p X W (.Call (.Name cn q) es kws pos) (xMkx cn code ns pm n ts) := by
  obtain ⟨g, fI, fd, h1, h2, h3, h4, h5⟩ := M
  subst hn
  exact d_mkx ⟨h1, h2, h3, h4⟩ (h5 j _ _ _ hj) hr g ha hle hg hdb
theorem ds_raiseC (S : List Nat) (j : Nat) {n : Nat} {rpos : Pos} (M : MkC X.prog X.w X.K X.mg X.base cn code ns) (hc : X.calm = true) (tk : Takes X W) (hr : Room 2 X.A) (ha : DMk p X W pos es kws ks ts) (hj : (shapes ns)[j]? = some (es.length, ks, pm) := by rfl) (hn : es.length + ks.length = n := by rfl)
    (hle : es.length ≤ sizeLine := by decide) (hg : Gl X cn := by rfl) (hdb : (cn == ("__debug__" : Str)) = false := by decide) : DS p X W (.Raise (some (.Call (.Name cn q) es kws pos)) none rpos) (yRaise S cn code ns pm n ts) := by
  obtain ⟨g, fI, fd, h1, h2, h3, h4, h5⟩ := M
  subst hn
  exact ds_raise S hc tk ⟨h1, h2, h3, h4⟩ (h5 j _ _ _ hj) hr g ha hle hg hdb
end
section
variable {p : Pr} {X : Cx} {W : WX} {e : Expr} {es : List Expr} {kws : List Keyword} {ks : List Str} {ts tk : TDA} {pos : Pos} {n m : Nat}
theorem mk_pos (ha : DA p X W (e :: es) ts) (hn : (e :: es).length = n := by rfl) (he : starEach (e :: es) X.env = (false, eval e X.env) :: starEach es X.env := by rfl) (hpl : (backTo pos (starEach es X.env)).any (·.1) = false := by rfl) : DMk p X W pos (e :: es) [] [] (xLen n ts) := by
  subst hn
  exact dmk_pos ha he hpl
theorem mk_kw (hk : DK p X W kws tk) (hn : ks.length = n := by rfl) (hall : (backToKw pos (keywordEach kws X.env)).all (·.1.isSome) = true := by rfl) (hks : (backToKw pos (keywordEach kws X.env)).filterMap (·.1) = ks := by rfl)
    (hpl : ((backTo pos (starEach [] X.env)).any (·.1) || (backToKw pos (keywordEach kws X.env)).any (·.1.isNone)) = false := by rfl) : DMk p X W pos [] kws ks (xLen n tk) := by
  subst hn
  exact dmk_kw hk hall hks hpl
theorem mk_both (ha : DA p X W (e :: es) ts) (hk : DK p X W kws tk) (hn : (e :: es).length = n := by rfl) (hm : ks.length = m := by rfl) (hall : (backToKw pos (keywordEach kws X.env)).all (·.1.isSome) = true := by rfl) (hks : (backToKw pos (keywordEach kws X.env)).filterMap (·.1) = ks := by rfl)
    (he : starEach (e :: es) X.env = (false, eval e X.env) :: starEach es X.env := by rfl)
    (hpl : ((backTo pos (starEach (e :: es) X.env)).any (·.1) || (backToKw pos (keywordEach kws X.env)).any (·.1.isNone)) = false := by rfl) : DMk p X W pos (e :: es) kws ks (xApp n m ts tk) := by
  subst hn hm
  exact dmk_both ha hk hall hks he hpl
theorem dt_isN {j pos'} {ta : TDE} (h : DE p X W e ta) : DT p X W (.Compare e [.Is] [.Constant .none j pos'] pos) (xTest (xIsN false ta)) := by
  obtain ⟨t, h1, h2⟩ := h
  exact ⟨_, pt_cmp (pc_isN h1) rfl, refTest (refIsN false h2)⟩
theorem dt_notN {j pos'} {ta : TDE} (h : DE p X W e ta) : DT p X W (.Compare e [.IsNot] [.Constant .none j pos'] pos) (xTest (xIsN true ta)) := by
  obtain ⟨t, h1, h2⟩ := h
  exact ⟨_, pt_cmp (pc_notN h1) rfl, refTest (refIsN true h2)⟩
theorem un64 {k : Nat} {A : Around} (r : RoomH k A) : A.units + 64 < cLine := by have := r.un; omega
end
section
variable {P : Program} {w : World} {K : PySem.W.Frag} {mg : Str → Option Value} {base : Heap} {qual : Str} {st : Stmt} {fI : Addr} {fd : FuncData} {cn code f1 f2 : Str} {j : Nat} {p1 p2 p3 p4 p5 p6 p7 p8 q5 q6 q7 q8 : Pos} {ns : List Str}
/-- how the arguments bind, by the def's text -/
def BxT (qual : Str) (st : Stmt) (ns : List Str) (m : Nat) (ks : List Str) (pm : List Nat) : Prop := ∀ (kV doc pmv : Value) (an : Option Addr) (cdv ct u : Value) (us ws : List Value), us.length = m → ws.length = ks.length →
  bindArgs (PySem.W.fnOf "__init__" qual (defArgs st) (defBody st) (defScope st) .none kV doc pmv an cdv ct) ⟨u :: us, ks.zip ws⟩ = pure ((((("self" : Str) :: ns)).zip (u :: pickP pm (us ++ ws))))
theorem bx_of (F : Fun K "__init__" qual st fI fd) {m : Nat} {ks : List Str} {pm : List Nat} (h : BxT qual st ns m ks pm) : BX fd ns m ks pm := by
  obtain ⟨oc, od, kV, doc, pmv, an, cdv, ct, osl, rfl, lk, hcd⟩ := F.ex
  exact ⟨fun s u us ws h1 h2 => BindsTo.of_eq (h kV doc pmv an cdv ct u us ws h1 h2)⟩
variable (g : mg cn = some (.ref (He.ga K cn))) (T : OxC K (He.ga K cn)) (hI : PySem.W.findIn K (.ref (He.ga K cn)) "__init__" = some (some (.ref fI))) (hT : PySem.W.typeIn K (.ref fI) = some (.type "function")) (F : Fun K "__init__" qual st fI fd)
  (hc : PySem.W.findIn K (.ref (He.ga K cn)) "code" = some none)
include g T hI hT F hc
theorem mkc0 (S : FnScope ["self"] ["self"] (defScope st)) (hb : defBody st = body0 code j p1 p2 p3 p4) (hs : (defScope st).names.lookup ("self" : Str) = some .local) (b0 : BxT qual st [] 0 [] []) : MkC P w K mg base cn code [] := by
  refine ⟨g, fI, fd, T, hI, hT, init0 T F S hc hb hs, fun i m ks pm h => ?_⟩
  match i, h with
  | 0, h => cases h; exact bx_of F b0
theorem mkc1 (S : FnScope ["self", f1] ["self", f1] (defScope st)) (hc1 : PySem.W.findIn K (.ref (He.ga K cn)) f1 = some none) (hb : defBody st = body1 code f1 j p1 p2 p3 p4 p5 p6 p7 p8) (hs : (defScope st).names.lookup ("self" : Str) = some .local)
    (hs1 : (defScope st).names.lookup f1 = some .local) (d1 : (f1 == ("__debug__" : Str)) = false) (d1' : (f1 == ("__classdict__" : Str)) = false) (b0 : BxT qual st [f1] 1 [] [0]) (b1 : BxT qual st [f1] 0 [f1] [0]) : MkC P w K mg base cn code [f1] := by
  refine ⟨g, fI, fd, T, hI, hT, init1 T F S hc hc1 hb hs hs1 d1 d1', fun i m ks pm h => ?_⟩
  match i, h with
  | 0, h => cases h; exact bx_of F b0
  | 1, h => cases h; exact bx_of F b1
theorem mkc2 (S : FnScope ["self", f1, f2] ["self", f1, f2] (defScope st)) (hc1 : PySem.W.findIn K (.ref (He.ga K cn)) f1 = some none) (hc2 : PySem.W.findIn K (.ref (He.ga K cn)) f2 = some none) (hb : defBody st = body2 code f1 f2 j p1 p2 p3 p4 p5 p6 p7 p8 q5 q6 q7 q8) (hs : (defScope st).names.lookup ("self" : Str) = some .local)
    (hs1 : (defScope st).names.lookup f1 = some .local) (hs2 : (defScope st).names.lookup f2 = some .local) (d1 : (f1 == ("__debug__" : Str)) = false) (d1' : (f1 == ("__classdict__" : Str)) = false) (d2 : (f2 == ("__debug__" : Str)) = false) (d2' : (f2 == ("__classdict__" : Str)) = false)
    (b0 : BxT qual st [f1, f2] 2 [] [0, 1]) (b1 : BxT qual st [f1, f2] 0 [f1, f2] [0, 1]) (b2 : BxT qual st [f1, f2] 0 [f2, f1] [1, 0]) (b3 : BxT qual st [f1, f2] 1 [f2] [0, 1]) : MkC P w K mg base cn code [f1, f2] := by
  refine ⟨g, fI, fd, T, hI, hT, init2 T F S hc hc1 hc2 hb hs hs1 hs2 d1 d1' d2 d2', fun i m ks pm h => ?_⟩
  match i, h with
  | 0, h => cases h; exact bx_of F b0
  | 1, h => cases h; exact bx_of F b1
  | 2, h => cases h; exact bx_of F b2
  | 3, h => cases h; exact bx_of F b3
end

theorem compD_fm {g : TDG} {tt : TDT} {te : TDE} {δ : DSt} (f : D → Option D) : ∀ (ds : List D) (k : List D → Prop), (∀ d ∈ ds, ∀ (k : Option D → Prop), k (f d) → g d δ fun δ1 => tt δ1 (fun b => if b = true then te δ1 (fun y => k (some y)) (fun _ _ => False) else k none) (fun _ _ => False)) → k (ds.filterMap f) → compD g tt te δ ds k
  | [], k, _, q => q
  | d :: ds, k, h, q => by
    unfold compD
    refine h d List.mem_cons_self (fun o => match o with | some y => compD g tt te δ ds fun ys => k (y :: ys) | none => compD g tt te δ ds k) ?_
    cases e : f d with
    | none =>
      rw [List.filterMap_cons_none e] at q
      exact compD_fm f ds k (fun d hd => h d (List.mem_cons_of_mem _ hd)) q
    | some y =>
      rw [List.filterMap_cons_some e] at q
      exact compD_fm f ds (fun ys => k (y :: ys)) (fun d hd => h d (List.mem_cons_of_mem _ hd)) q
/-- without ifs: each entry some value that R allows -/
theorem compD_rel {g : TDG} {te : TDE} {δ : DSt} (R : D → D → Prop) : ∀ (ds : List D) (k : List D → Prop), (∀ d ∈ ds, ∀ k : D → Prop, (∀ y, R d y → k y) → g d δ fun δ1 => te δ1 k (fun _ _ => False)) → (∀ ys, Paired R ds ys → k ys) → compD g xYes te δ ds k
  | [], k, _, q => q [] .nil
  | d :: ds, k, h, q => by
    unfold compD
    show g d δ fun δ1 => if true = true then te δ1 (fun y => compD g xYes te δ ds fun ys => k (y :: ys)) (fun _ _ => False) else compD g xYes te δ ds k
    simp only [if_true]
    exact h d List.mem_cons_self _ fun y hy => compD_rel R ds (fun ys => k (y :: ys)) (fun d hd => h d (List.mem_cons_of_mem _ hd)) fun ys hys => q (y :: ys) (.cons hy hys)
theorem loopD_inv {g : TDG} {tb : TDS} {Dd : DEnds} (I : DSt → Prop) : ∀ (ds : List D), (∀ d ∈ ds, ∀ δ, I δ → ∀ nx : DSt → Prop, (∀ δ, I δ → nx δ) → g d δ fun δ1 => tb { nx := nx, ct := nx, bk := Dd.nx, rt := Dd.rt, xc := Dd.xc } δ1) → (∀ δ, I δ → Dd.nx δ) → ∀ δ, I δ → loopD g tb Dd ds δ
  | [], _, q, δ, hI => q δ hI
  | d :: ds, h, q, δ, hI => by
    unfold loopD
    exact h d List.mem_cons_self δ hI _ fun δ h1 => loopD_inv I ds (fun d hd => h d (List.mem_cons_of_mem _ hd)) q δ h1
end DL

namespace DL
open PySem PySem.Spec PyProof.Rows L2

abbrev rPl : R2 := rI0 fun i j => .int (i + j)
abbrev rMd : R2 := rI (fun _ j => 0 < j) fun i j => .int (i % j)
abbrev rMu : R2 := rI CMul fun i j => .int (i * j)
abbrev rDv : R2 := rI CDiv fun i j => .int (i / j)
abbrev rPw : R2 := rI CPow fun i j => .int (i ^ j.toNat)
abbrev rIn1 : List V → Hp → VK → Prop := fun xs H Q => (∃ i, xs = [.int i] ∧ Q (.int i) H) ∨ ∃ k, xs = [.bl k] ∧ Q (.int (if k then 1 else 0)) H
section
variable (K : PySem.W.Frag)
abbrev rLn : List V → Hp → VK → Prop := fun xs H Q => ∃ x n, xs = [x] ∧ LenV K x H n ∧ Q (.int n) H
abbrev bI (k : Int) : TE := tOp (rIx K) (tVar 0) (tC (.int k))
abbrev bS (k : Int) (te : TE) : TS := tAsg te (gSub (tVar 0) (tC (.int k)) rSetL)
abbrev tInt (te : TE) : TE := tCB rIn1 (tCons te tNil)
def t_draw : TS :=
  tSeq (bS 4 (tOp rPl (bI K 4) (tC (.int 1))))
  (tSeq (tIfS (tAnd (tTest (tOp rEq (bI K 2) (tC (.int 0)))) (tTest (tOp (rI0 fun i j => .bl (decide (i < j))) (bI K 1) (tCB (rLn K) (tCons (bI K 0) tNil)))))
    (tSeq (tAsg (tOp (rIx K) (bI K 0) (bI K 1)) (gName 2))
      (tSeq (bS 1 (tOp rPl (bI K 1) (tC (.int 1))))
        (tIfS (tTest (tOp (rI0 fun i j => .bl (decide (j ≤ i))) (tVar 2) (tOp rPw (tC (.int 10)) (tC (.int 18)))))
          (bS 2 (tVar 2))
          (bS 3 (tOp rMd (tInt (tOp rPl (tOp rPl (tOp rMu (bI K 3) (tC (.int 69621))) (tOp rMu (tOp rMd (tInt (tVar 2)) (tC (.int 2147483549))) (tC (.int 30103)))) (tC (.int 89)))) (tC (.int 2147483629)))))))
    tNext)
  (tSeq (tIfS (tTest (tOp (rI0 fun i j => .bl (decide (j < i))) (bI K 2) (tC (.int 0))))
    (tSeq (tAsg (tOp rMd (tInt (bI K 2)) (tVar 1)) (gName 3))
      (tSeq (bS 2 (tOp rDv (bI K 2) (tVar 1)))
        (tRet (tVar 3))))
    tNext)
  (tSeq (bS 3 (tOp rMd (tInt (tOp rPl (tOp rPl (tOp rPw (bI K 3) (tC (.int 3))) (tOp rMu (bI K 4) (tC (.int 1299709)))) (tC (.int 60013)))) (tC (.int 2147483629))))
    (tRet (tOp rMd (tInt (tOp rPl (tOp rDv (bI K 3) (tC (.int 97))) (tOp rMu (tOp rMd (tInt (bI K 3)) (tC (.int 7901))) (tC (.int 67))))) (tVar 1))))))
end
section
variable {K : PySem.W.Frag} {b : Bag} {G H : Hp}
def bagH (b : Bag) (H : Hp) (i g s c : Int) : Hp := upd H b.a (.lst [.ref b.L, .int i, .int g, .int s, .int c])
theorem bagH_at {i g s c : Int} : bagH b H i g s c b.a = some (.lst [.ref b.L, .int i, .int g, .int s, .int c]) := upd_same
theorem bagH_upd {i g s c i' g' s' c' : Int} : upd (bagH b H i g s c) b.a (.lst [.ref b.L, .int i', .int g', .int s', .int c']) = bagH b H i' g' s' c' := by unfold bagH; rw [upd_upd]
theorem bag_ext (s0 : Same G H) (hb : BagOk K b G H) {i g s c : Int} (hi : 0 ≤ i) (hg : 0 ≤ g) (hs : 0 ≤ s) (hs' : s < 2147483629) : Ext K b G H G (bagH b H i g s c) := by
  refine ⟨Same.refl _, fun a o h => ?_, fun a o n h => ?_, fun _ _ g => g, hb.1, hb.2.1, i, g, s, c, bagH_at, hi, hg, hs, hs'⟩
  · unfold bagH; rw [upd_ne (hb.ne (by rw [h]; exact fun z => nomatch z))]; exact s0 _ _ h
  · unfold bagH; rw [upd_ne n]; exact h
theorem bg {σ : VSt} {Q : VK} {k : Int} {v : V} {i g s c : Int} (h0 : σ[0]? = some (some (.ref b.a))) (hv : atI [V.ref b.L, .int i, .int g, .int s, .int c] k = some v) (q : Q v (bagH b H i g s c)) : bI K k σ (bagH b H i g s c) Q :=
  ⟨_, h0, .inl ⟨b.a, _, k, v, rfl, rfl, SqL.of bagH_at, hv, q⟩⟩
theorem bs {σ : VSt} {te : TE} {D : Ends} {k : Int} {i g s c : Int} {i' g' s' c' : Int} {v : V} (j : Nat) (h0 : σ[0]? = some (some (.ref b.a))) (he : ∀ Q : VK, Q v (bagH b H i g s c) → te σ (bagH b H i g s c) Q)
    (hk : ixN 5 k = some j) (hl : [V.ref b.L, .int i, .int g, .int s, .int c].set j v = [V.ref b.L, .int i', .int g', .int s', .int c']) (q : D.nx σ (bagH b H i' g' s' c')) : bS k te D σ (bagH b H i g s c) := by
  refine he _ ⟨_, h0, b.a, _, k, j, rfl, rfl, bagH_at, hk, ?_⟩
  rw [hl, bagH_upd]
  exact q
theorem int1 {σ : VSt} {H : Hp} {te : TE} {n : Int} {Q : VK} (he : ∀ Q : VK, Q (.int n) H → te σ H Q) (q : Q (.int n) H) : tInt te σ H Q := he _ (.inl ⟨n, rfl, q⟩)
theorem iteT {c : Bool} {P R : Prop} (h : c = true) (x : P) : if c = true then P else R := by rw [if_pos h]; exact x
theorem iteF {c : Bool} {P R : Prop} (h : c = false) (x : R) : if c = true then P else R := by rw [if_neg (by rw [h]; exact Bool.false_ne_true)]; exact x
abbrev Nd : List Str := ["bag", "size", "item", "digit"]
def cDraw : DC := fun β ds Q _ => ∃ n : Int, ds = [.adr β, .int n] ∧ 0 < n ∧ n < 1073741824 ∧ ∀ r : Int, 0 ≤ r → r < n → Q (.int r)
theorem draw_pure {vs : List V} {Q : VK} {E : XK} (h : spD K cDraw vs H Q E) : t_draw K { nx := fun _ H' => Q .non H', rt := Q } (L2.start Nd vs) H := by
  obtain ⟨b, G, ds, Qd, Ed, s0, hb, r, ⟨n, rfl, hn, hn2, hq⟩, k, _⟩ := h
  obtain ⟨v1, w1, rfl, e1, r⟩ := Reps.cons_iff.mp r
  obtain ⟨v2, w2, rfl, e2, r⟩ := Reps.cons_iff.mp r
  cases Reps.nil_iff.mp r
  rw [show v1 = V.ref b.a from by unfold Rep at e1; exact e1, rep_int.mp e2]
  have hb' := hb
  obtain ⟨hG, hL, i, g, s, c, hH, hi, hg, hs, hs'⟩ := hb'
  have hH0 : H = bagH b H i g s c := by
    funext a
    by_cases e : a = b.a
    · subst e; rw [hH, bagH_at]
    · unfold bagH; rw [upd_ne e]
  have fin : ∀ {i g s c r : Int}, 0 ≤ i → 0 ≤ g → 0 ≤ s → s < 2147483629 → 0 ≤ r → r < n → Q (.int r) (bagH b H i g s c) := fun h1 h2 h3 h4 h5 h6 => k _ _ _ _ (bag_ext s0 hb h1 h2 h3 h4) (rep_sc rfl) (hq _ h5 h6)
  have hLs : ∀ {i g s c : Int}, bagH b H i g s c b.L = some (.lst (b.ns.map V.int)) := by
    intro i g s c
    unfold bagH
    rw [upd_ne (hb.ne (by rw [hL]; exact fun z => nomatch z))]
    exact s0 _ _ hL
  unfold t_draw
  rw [hH0]
  -- the count
  refine bs 4 rfl (v := .int (c + 1)) (fun Q q => bg rfl rfl ⟨_, _, rfl, rfl, q⟩) rfl rfl ?_
  -- the state before 'if bag[2] > 0'
  have tail : ∀ {i g s c : Int} {σ : VSt}, σ[0]? = some (some (.ref b.a)) → σ[1]? = some (some (.int n)) → σ.length = 4 → 0 ≤ i → 0 ≤ g → 0 ≤ s → s < 2147483629 →
      (tSeq (tIfS (tTest (tOp (rI0 fun i j => .bl (decide (j < i))) (bI K 2) (tC (.int 0))))
        (tSeq (tAsg (tOp rMd (tInt (bI K 2)) (tVar 1)) (gName 3)) (tSeq (bS 2 (tOp rDv (bI K 2) (tVar 1))) (tRet (tVar 3)))) tNext)
      (tSeq (bS 3 (tOp rMd (tInt (tOp rPl (tOp rPl (tOp rPw (bI K 3) (tC (.int 3))) (tOp rMu (bI K 4) (tC (.int 1299709)))) (tC (.int 60013)))) (tC (.int 2147483629))))
        (tRet (tOp rMd (tInt (tOp rPl (tOp rDv (bI K 3) (tC (.int 97))) (tOp rMu (tOp rMd (tInt (bI K 3)) (tC (.int 7901))) (tC (.int 67))))) (tVar 1))))) { nx := fun _ H' => Q .non H', rt := Q } σ (bagH b H i g s c) := by
    intro i g s c σ h0 h1 h4 hi hg hs hs'
    refine bg h0 rfl ⟨_, _, rfl, rfl, _, rfl, ?_⟩
    by_cases hp : 0 < g
    · refine iteT (decide_eq_true hp) ?_
      refine bg h0 rfl (.inl ⟨_, rfl, _, h1, _, _, rfl, rfl, hn, ?_⟩)
      have g0 : (σ.set 3 (some (V.int (g % n))))[0]? = some (some (.ref b.a)) := by rw [List.getElem?_set_ne (by decide)]; exact h0
      have g1 : (σ.set 3 (some (V.int (g % n))))[1]? = some (some (.int n)) := by rw [List.getElem?_set_ne (by decide)]; exact h1
      have g3 : (σ.set 3 (some (V.int (g % n))))[3]? = some (some (.int (g % n))) := List.getElem?_set_self (by omega)
      refine bs (k := 2) (te := tOp rDv (bI K 2) (tVar 1)) 2 g0 (v := .int (g / n)) (fun Q q => bg g0 rfl ⟨_, g1, _, _, rfl, rfl, ⟨hn, hn2⟩, q⟩) rfl rfl ?_
      exact ⟨_, g3, fin hi (Int.ediv_nonneg (by omega) (by omega)) hs hs' (Int.emod_nonneg _ (by omega)) (Int.emod_lt_of_pos _ hn)⟩
    · refine iteF (decide_eq_false hp) ?_
      have p3 : s.natAbs < 2 ^ 64 := by omega
      refine bs (k := 3) (te := tOp rMd (tInt (tOp rPl (tOp rPl (tOp rPw (bI K 3) (tC (.int 3))) (tOp rMu (bI K 4) (tC (.int 1299709)))) (tC (.int 60013)))) (tC (.int 2147483629))) 3 h0 (v := .int ((s ^ 3 + c * 1299709 + 60013) % 2147483629)) (fun Q q => ?_) rfl rfl ?_
      · refine bg h0 rfl ⟨_, _, rfl, rfl, ⟨by decide, by decide, p3⟩, ?_⟩
        refine bg h0 rfl ⟨_, _, rfl, rfl, .inr ⟨by decide, by decide⟩, ?_⟩
        exact ⟨_, _, rfl, rfl, _, _, rfl, rfl, .inl ⟨_, rfl, _, _, rfl, rfl, (by decide : (0 : Int) < 2147483629), q⟩⟩
      · have m1 : 0 ≤ (s ^ 3 + c * 1299709 + 60013) % 2147483629 := Int.emod_nonneg _ (by decide)
        have m2 : (s ^ 3 + c * 1299709 + 60013) % 2147483629 < 2147483629 := Int.emod_lt_of_pos _ (by decide)
        refine bg h0 rfl ⟨_, _, rfl, rfl, ⟨by decide, by decide⟩, ?_⟩
        refine bg h0 rfl (.inl ⟨_, rfl, _, _, rfl, rfl, (by decide : (0 : Int) < 7901), ?_⟩)
        refine ⟨_, _, rfl, rfl, .inr ⟨by decide, by decide⟩, _, _, rfl, rfl, .inl ⟨_, rfl, _, h1, _, _, rfl, rfl, hn, ?_⟩⟩
        exact fin hi hg m1 m2 (Int.emod_nonneg _ (by omega)) (Int.emod_lt_of_pos _ hn)
  refine bg rfl rfl ⟨by rfl, _, rfl, ?_⟩
  by_cases hg0 : g = 0
  · refine iteT (by rw [hg0]; exact decide_eq_true rfl) ?_
    refine bg rfl rfl (bg rfl rfl ⟨_, _, rfl, .inl ⟨b.ns.map V.int, SqL.of hLs, rfl⟩, _, _, rfl, rfl, _, rfl, ?_⟩)
    by_cases hl : i < ((b.ns.map V.int).length : Nat)
    · refine iteT (decide_eq_true hl) ?_
      obtain ⟨j, rfl⟩ := Int.eq_ofNat_of_zero_le hi
      have hj : j < b.ns.length := by simpa using hl
      have hat : atI (b.ns.map V.int) (j : Int) = some (.int b.ns[j]) := atI_nat (by rw [List.getElem?_map, List.getElem?_eq_getElem hj]; rfl)
      refine bg rfl rfl (bg rfl rfl (.inl ⟨b.L, _, _, _, rfl, rfl, SqL.of hLs, hat, ?_⟩))
      refine bs (k := 1) (te := tOp rPl (bI K 1) (tC (.int 1))) 1 rfl (v := .int ((j : Int) + 1)) (fun Q q => bg rfl rfl ⟨_, _, rfl, rfl, q⟩) rfl rfl ?_
      refine ⟨_, rfl, _, _, rfl, rfl, ⟨by decide, by decide, by decide⟩, _, _, rfl, rfl, _, rfl, ?_⟩
      by_cases hbig : (10 : Int) ^ (18 : Int).toNat ≤ b.ns[j]
      · refine iteT (decide_eq_true hbig) ?_
        refine bs (k := 2) (te := tVar 2) 2 rfl (v := .int b.ns[j]) (fun Q q => ⟨_, rfl, q⟩) rfl rfl ?_
        exact tail rfl rfl rfl (by omega) (Int.le_trans (by decide) hbig) hs hs'
      · refine iteF (decide_eq_false hbig) ?_
        refine bs (k := 3) (te := tOp rMd (tInt (tOp rPl (tOp rPl (tOp rMu (bI K 3) (tC (.int 69621))) (tOp rMu (tOp rMd (tInt (tVar 2)) (tC (.int 2147483549))) (tC (.int 30103)))) (tC (.int 89)))) (tC (.int 2147483629))) 3 rfl (v := .int ((s * 69621 + b.ns[j] % 2147483549 * 30103 + 89) % 2147483629)) (fun Q q => ?_) rfl rfl ?_
        · refine bg rfl rfl ⟨_, _, rfl, rfl, .inr ⟨by decide, by decide⟩, ?_⟩
          refine ⟨_, rfl, .inl ⟨_, rfl, _, _, rfl, rfl, (by decide : (0 : Int) < 2147483549), _, _, rfl, rfl, .inr ⟨by decide, by decide⟩, _, _, rfl, rfl, _, _, rfl, rfl, .inl ⟨_, rfl, _, _, rfl, rfl, (by decide : (0 : Int) < 2147483629), q⟩⟩⟩
        · exact tail rfl rfl rfl (by omega) hg (Int.emod_nonneg _ (by decide)) (Int.emod_lt_of_pos _ (by decide))
    · refine iteF (decide_eq_false hl) ?_
      exact tail rfl rfl rfl hi hg hs hs'
  · have e : decide (V.int g = V.int 0) = false := by
      rw [decide_eq_false_iff_not]
      intro z; injection z with z; exact hg0 z
    refine iteF e (iteF rfl ?_)
    exact tail rfl rfl rfl hi hg hs hs'
end

section
variable (K : PySem.W.Frag)
abbrev sl63 : TE := tSl (rSlL K) (tVar 0) tNoPart (tPart (tC (.int 63)))
abbrev rLs : List V → Hp → VK → Prop := fun xs H Q => ∃ p ys, xs = [.ref p] ∧ (SqL K H p ys ∨ SqT K H p ys) ∧ ∀ l, H l = none → Q (.ref l) (upd H l (.lst ys))
def t_bag : TS :=
  tSeq (tAsg (tC (.int 12049)) (gName 1))
  (tSeq (tFor (iList K (sl63 K)) (gName 2) (tAsg (tOp rMd (tInt (tOp rPl (tOp rPl (tOp rMu (tVar 1) (tC (.int 48271))) (tOp rMd (tInt (tVar 2)) (tC (.int 2147483587)))) (tC (.int 307)))) (tC (.int 2147483629))) (gName 1)))
    (tRet (tLst (tCons (tCB (rLs K) (tCons (sl63 K) tNil)) (tCons (tC (.int 0)) (tCons (tC (.int 0)) (tCons (tVar 1) (tCons (tC (.int 0)) tNil))))))))
end
abbrev Nb : List Str := ["script", "seed", "item"]
/-- the script's part that the bag holds -/
def cut63 (ns : List Int) : List Int := cutD ns none (some 63)
theorem cut63_map (ns : List Int) : cutV (ns.map V.int) none (some 63) = (cut63 ns).map V.int := by
  unfold cutV cut63 cutD
  rw [List.map_take, List.map_drop, List.length_map]
def spBag (K : PySem.W.Frag) : Sp := fun vs H Q _ => ∃ (a : Addr) (ns : List Int), vs = [.ref a] ∧ SqL K H a (ns.map V.int) ∧
  ∀ (β L : Addr) (s : Int) (H' : Hp), H β = none → H L = none → β ≠ L → H' β = some (.lst [.ref L, .int 0, .int 0, .int s, .int 0]) → H' L = some (.lst ((cut63 ns).map V.int)) → (∀ x o, H x = some o → H' x = some o) → 0 ≤ s → s < 2147483629 → Q (.ref β) H'
section
variable {K : PySem.W.Frag} {H : Hp}
theorem sql_upd {a q : Addr} {xs : List V} {o : HO} (h : SqL K H a xs) (n : H q = none) : SqL K (upd H q o) a xs := by
  rcases h with (h | ⟨u, h⟩) | h
  · exact .inl (.inl (by rw [upd_ne (ne_of_none h n)]; exact h))
  · exact .inl (.inr ⟨u, by rw [upd_ne (ne_of_none h n)]; exact h⟩)
  · exact .inr h
theorem bag_pure {vs : List V} {Q : VK} {E : XK} (h : spBag K vs H Q E) : t_bag K { nx := fun _ H' => Q .non H', rt := Q } (L2.start Nb vs) H := by
  obtain ⟨a, ns, rfl, hS, k⟩ := h
  refine ⟨_, rfl, ⟨_, rfl, a, _, rfl, hS, fun q hq => ⟨q, rfl, ⟨_, SqL.of upd_same⟩, ?_⟩⟩⟩
  rw [cut63_map]
  refine ⟨fun i m σ H' => m = (cut63 ns).length - i ∧ i ≤ (cut63 ns).length ∧ H' = upd H q (.lst ((cut63 ns).map V.int)) ∧ ∃ s : Int, 0 ≤ s ∧ s < 2147483629 ∧ σ[0]? = some (some (.ref a)) ∧ σ[1]? = some (some (.int s)) ∧ σ.length = 3,
    ⟨_, rfl, Nat.zero_le _, rfl, 12049, by decide, by decide, rfl, rfl, rfl⟩, ?_⟩
  rintro i m σ _ ⟨rfl, hi, rfl, s, hs1, hs2, h0, h1, h3⟩
  have hL : SqL K (upd H q (.lst ((cut63 ns).map V.int))) q ((cut63 ns).map V.int) := SqL.of upd_same
  by_cases hlt : i < (cut63 ns).length
  · refine .inr ⟨⟨_, V.int (cut63 ns)[i], hL, by rw [List.getElem?_map, List.getElem?_eq_getElem hlt]; rfl⟩, fun σ H' => i + 1 ≤ (cut63 ns).length ∧ H' = upd H q (.lst ((cut63 ns).map V.int)) ∧ ∃ s : Int, 0 ≤ s ∧ s < 2147483629 ∧ σ[0]? = some (some (.ref a)) ∧ σ[1]? = some (some (.int s)) ∧ σ.length = 3,
      fun σ' H' ⟨z1, z2⟩ => ⟨(cut63 ns).length - (i + 1), by omega, rfl, z1, z2⟩, fun x H' y => ?_⟩
    obtain ⟨rfl, hy⟩ := y
    have hx := hy _ hL
    rw [List.getElem?_map, List.getElem?_eq_getElem hlt] at hx
    cases hx
    have g1 : (σ.set 2 (some (V.int (cut63 ns)[i])))[1]? = some (some (.int s)) := by rw [List.getElem?_set_ne (by decide)]; exact h1
    have g2 : (σ.set 2 (some (V.int (cut63 ns)[i])))[2]? = some (some (.int (cut63 ns)[i])) := List.getElem?_set_self (by omega)
    have g0 : (σ.set 2 (some (V.int (cut63 ns)[i])))[0]? = some (some (.ref a)) := by rw [List.getElem?_set_ne (by decide)]; exact h0
    refine ⟨_, g1, _, _, rfl, rfl, .inr ⟨by decide, by decide⟩, _, g2, .inl ⟨_, rfl, _, _, rfl, rfl, (by decide : (0 : Int) < 2147483587), _, _, rfl, rfl, _, _, rfl, rfl, .inl ⟨_, rfl, _, _, rfl, rfl, (by decide : (0 : Int) < 2147483629), ?_⟩⟩⟩
    refine ⟨hlt, rfl, _, Int.emod_nonneg _ (by decide), Int.emod_lt_of_pos _ (by decide), ?_, List.getElem?_set_self (by rw [List.length_set]; omega), by rw [List.length_set, List.length_set]; exact h3⟩
    rw [List.getElem?_set_ne (by decide)]; exact g0
  · refine .inl ⟨⟨_, hL, by rw [List.length_map]; omega⟩, ?_⟩
    refine ⟨_, h0, _, rfl, a, _, rfl, sql_upd hS hq, fun q2 hq2 => ⟨q2, _, rfl, .inl (SqL.of upd_same), fun l hl => ?_⟩⟩
    rw [cut63_map]
    refine ⟨_, h1, by show 5 ≤ sizeLine; rw [sizeLine_eq]; decide, fun β hβ => ?_⟩
    have n1 : ∀ {x : Addr}, upd H q (.lst ((cut63 ns).map V.int)) x = none → H x = none := fun {x} z => by
      by_cases e : x = q
      · rw [e, upd_same] at z; cases z
      · rw [upd_ne e] at z; exact z
    have n2 : ∀ {H : Hp} {o : HO} {q x : Addr}, upd H q o x = none → H x = none ∧ x ≠ q := fun {H o q x} z => by
      by_cases e : x = q
      · rw [e, upd_same] at z; cases z
      · rw [upd_ne e] at z; exact ⟨z, e⟩
    obtain ⟨l1, l2⟩ := n2 hl
    obtain ⟨b1, b2⟩ := n2 hβ
    obtain ⟨b3, b4⟩ := n2 b1
    refine k β l s _ (n1 b3) (n1 l1) b2 upd_same (by rw [upd_ne (Ne.symm b2), upd_same]) (fun x o hx => ?_) hs1 hs2
    have x1 : x ≠ q := ne_of_none hx hq
    have hx1 : upd H q (.lst ((cut63 ns).map V.int)) x = some o := by rw [upd_ne x1]; exact hx
    rw [upd_ne (ne_of_none hx (n1 b3)), upd_ne (ne_of_none hx (n1 l1)), upd_ne (ne_of_none hx1 hq2)]
    exact hx1
end
end DL


namespace K00
open PySem PySem.Spec PyProof.Rows L2 EX DL
open L2H (RoomH roomH_of)
def top (i : Nat) : Stmt := PySem.Challenge.pw_fewbreak_k00_errors_by_themselves.main.body.getD i (.Pass ⟨0, 0, 0, 0⟩)
def inClass (st : Stmt) (j : Nat) : Stmt := match st with | .ClassDef (body := b) .. => b.getD j (.Pass ⟨0, 0, 0, 0⟩) | _ => .Pass ⟨0, 0, 0, 0⟩
def oxt : OxT := [("BadText", ["code", "line", "why"]), ("BadName", ["code", "name"]), ("BadLetters", ["code", "at"]), ("BadRun", ["code", "at"]), ("BadColumn", ["code", "column"]), ("BadNumber", ["code", "value"]), ("BadTable", ["code", "at"]), ("BadDeed", ["code"]), ("UnlikeParts", ["code", "one", "other"]), ("UnlikeTapes", ["code", "one", "other"]), ("TooMany", ["code", "what", "found"]), ("HeldTwice", ["code", "item"]), ("BreaksBeside", ["code", "lot"]), ("NotSo", ["code", "lot"]), ("NotEnough", ["code", "lot"]), ("CantAnswer", ["code", "at", "run"]), ("EndedRun", ["code", "at"]), ("NoDraft", ["code"]), ("InDraft", ["code"]), ("UnknownPart", ["code", "name"]), ("UnknownName", ["code", "name"]), ("UnknownRun", ["code", "at"]), ("NotHeld", ["code", "run"]), ("NothingLeft", ["code"])]
theorem bv_IndexError : bootBuiltins "IndexError" = some (.type "IndexError") := by decide +kernel
theorem bv_KeyError : bootBuiltins "KeyError" = some (.type "KeyError") := by decide +kernel
theorem bv_LookupError : bootBuiltins "LookupError" = some (.type "LookupError") := by decide +kernel
theorem bv_ValueError : bootBuiltins "ValueError" = some (.type "ValueError") := by decide +kernel
theorem bv_all : bootBuiltins "all" = some (.builtin "all") := by decide +kernel
theorem bv_bool : bootBuiltins "bool" = some (.type "bool") := by decide +kernel
theorem bv_int : bootBuiltins "int" = some (.type "int") := by decide +kernel
theorem bv_isinstance : bootBuiltins "isinstance" = some (.builtin "isinstance") := by decide +kernel
theorem bv_len : bootBuiltins "len" = some (.builtin "len") := by decide +kernel
theorem bv_list : bootBuiltins "list" = some (.type "list") := by decide +kernel
theorem bv_str : bootBuiltins "str" = some (.type "str") := by decide +kernel
theorem bv_tuple : bootBuiltins "tuple" = some (.type "tuple") := by decide +kernel
def two : List Str := ["BadText", "UnlikeParts", "UnlikeTapes", "TooMany", "CantAnswer"]
def one : List Str := ["BadName", "BadLetters", "BadRun", "BadColumn", "BadNumber", "BadTable", "HeldTwice", "BreaksBeside", "NotSo", "NotEnough", "EndedRun", "UnknownPart", "UnknownName", "UnknownRun", "NotHeld"]
def zero : List Str := ["BadDeed", "NoDraft", "InDraft", "NothingLeft"]
def picks : List Str := two ++ one ++ zero
def own : List Str := picks ++ (["RuleError", "Missing"] : List Str)
def anc (c : Str) : List Str := if c = "NothingLeft" then [c, "LookupError", "IndexError"] else if c ∈ (["UnknownPart", "UnknownName", "UnknownRun", "NotHeld"] : List Str) then [c, "Missing", "LookupError"] else [c, "RuleError", "ValueError"]
def isSub (c n : Str) : Bool := (anc c).contains n
def bis : List (Str × String) := [("ValueError", "ValueError"), ("LookupError", "LookupError"), ("IndexError", "IndexError"), ("KeyError", "KeyError")]
def kdB (K : PySem.W.Frag) : Bool := picks.all fun c => own.all (fun n => decide (PySem.W.kitOne K (.ref (He.ga K c)) (.ref (He.ga K n)) = some (isSub c n))) && bis.all (fun n => decide (PySem.W.kitOne K (.ref (He.ga K c)) (.type n.2) = some (isSub c n.1)))
def emB (K : PySem.W.Frag) : Bool := picks.all fun c => (["RuleError", "Missing", "NothingLeft"] : List Str).all (fun n => decide (PySem.W.exmOne K (.ref (He.ga K c)) (.ref (He.ga K n)) = some (isSub c n)))
structure En (K : PySem.W.Frag) (mg : Str → Option Value) : Prop where
  f_IndexError : mg "IndexError" = none
  f_KeyError : mg "KeyError" = none
  f_LookupError : mg "LookupError" = none
  f_ValueError : mg "ValueError" = none
  f_all : mg "all" = none
  f_bool : mg "bool" = none
  f_int : mg "int" = none
  f_isinstance : mg "isinstance" = none
  f_len : mg "len" = none
  f_list : mg "list" = none
  f_range : mg "range" = none
  f_str : mg "str" = none
  f_tuple : mg "tuple" = none
  f_zip : mg "zip" = none
  g_RuleError : mg "RuleError" = some (.ref (He.ga K "RuleError"))
  g_Missing : mg "Missing" = some (.ref (He.ga K "Missing"))
  g_BadText : mg "BadText" = some (.ref (He.ga K "BadText"))
  g_BadName : mg "BadName" = some (.ref (He.ga K "BadName"))
  g_BadLetters : mg "BadLetters" = some (.ref (He.ga K "BadLetters"))
  g_BadRun : mg "BadRun" = some (.ref (He.ga K "BadRun"))
  g_BadColumn : mg "BadColumn" = some (.ref (He.ga K "BadColumn"))
  g_BadNumber : mg "BadNumber" = some (.ref (He.ga K "BadNumber"))
  g_BadTable : mg "BadTable" = some (.ref (He.ga K "BadTable"))
  g_BadDeed : mg "BadDeed" = some (.ref (He.ga K "BadDeed"))
  g_UnlikeParts : mg "UnlikeParts" = some (.ref (He.ga K "UnlikeParts"))
  g_UnlikeTapes : mg "UnlikeTapes" = some (.ref (He.ga K "UnlikeTapes"))
  g_TooMany : mg "TooMany" = some (.ref (He.ga K "TooMany"))
  g_HeldTwice : mg "HeldTwice" = some (.ref (He.ga K "HeldTwice"))
  g_BreaksBeside : mg "BreaksBeside" = some (.ref (He.ga K "BreaksBeside"))
  g_NotSo : mg "NotSo" = some (.ref (He.ga K "NotSo"))
  g_NotEnough : mg "NotEnough" = some (.ref (He.ga K "NotEnough"))
  g_CantAnswer : mg "CantAnswer" = some (.ref (He.ga K "CantAnswer"))
  g_EndedRun : mg "EndedRun" = some (.ref (He.ga K "EndedRun"))
  g_NoDraft : mg "NoDraft" = some (.ref (He.ga K "NoDraft"))
  g_InDraft : mg "InDraft" = some (.ref (He.ga K "InDraft"))
  g_UnknownPart : mg "UnknownPart" = some (.ref (He.ga K "UnknownPart"))
  g_UnknownName : mg "UnknownName" = some (.ref (He.ga K "UnknownName"))
  g_UnknownRun : mg "UnknownRun" = some (.ref (He.ga K "UnknownRun"))
  g_NotHeld : mg "NotHeld" = some (.ref (He.ga K "NotHeld"))
  g_NothingLeft : mg "NothingLeft" = some (.ref (He.ga K "NothingLeft"))
  g__law_bag : mg "_law_bag" = some (.ref (He.ga K "_law_bag"))
  d__law_bag : ∃ fd, Fun K "_law_bag" "_law_bag" (top 28) (He.ga K "_law_bag") fd
  g__law_draw : mg "_law_draw" = some (.ref (He.ga K "_law_draw"))
  d__law_draw : ∃ fd, Fun K "_law_draw" "_law_draw" (top 29) (He.ga K "_law_draw") fd
  g__law_of : mg "_law_of" = some (.ref (He.ga K "_law_of"))
  d__law_of : ∃ fd, Fun K "_law_of" "_law_of" (top 30) (He.ga K "_law_of") fd
  g__law_like : mg "_law_like" = some (.ref (He.ga K "_law_like"))
  d__law_like : ∃ fd, Fun K "_law_like" "_law_like" (top 31) (He.ga K "_law_like") fd
  g__law_two : mg "_law_two" = some (.ref (He.ga K "_law_two"))
  d__law_two : ∃ fd, Fun K "_law_two" "_law_two" (top 32) (He.ga K "_law_two") fd
  g__law_one : mg "_law_one" = some (.ref (He.ga K "_law_one"))
  d__law_one : ∃ fd, Fun K "_law_one" "_law_one" (top 33) (He.ga K "_law_one") fd
  g__law_made : mg "_law_made" = some (.ref (He.ga K "_law_made"))
  d__law_made : ∃ fd, Fun K "_law_made" "_law_made" (top 34) (He.ga K "_law_made") fd
  g__law_values : mg "_law_values" = some (.ref (He.ga K "_law_values"))
  d__law_values : ∃ fd, Fun K "_law_values" "_law_values" (top 35) (He.ga K "_law_values") fd
  g__law_kinds : mg "_law_kinds" = some (.ref (He.ga K "_law_kinds"))
  d__law_kinds : ∃ fd, Fun K "_law_kinds" "_law_kinds" (top 36) (He.ga K "_law_kinds") fd
  g__law_due_kinds : mg "_law_due_kinds" = some (.ref (He.ga K "_law_due_kinds"))
  d__law_due_kinds : ∃ fd, Fun K "_law_due_kinds" "_law_due_kinds" (top 37) (He.ga K "_law_due_kinds") fd
  g__law_raise_one : mg "_law_raise_one" = some (.ref (He.ga K "_law_raise_one"))
  d__law_raise_one : ∃ fd, Fun K "_law_raise_one" "_law_raise_one" (top 38) (He.ga K "_law_raise_one") fd
  g__law_raise : mg "_law_raise" = some (.ref (He.ga K "_law_raise"))
  d__law_raise : ∃ fd, Fun K "_law_raise" "_law_raise" (top 39) (He.ga K "_law_raise") fd
  g__law_caught : mg "_law_caught" = some (.ref (He.ga K "_law_caught"))
  d__law_caught : ∃ fd, Fun K "_law_caught" "_law_caught" (top 40) (He.ga K "_law_caught") fd
  g__law_value : mg "_law_value" = some (.ref (He.ga K "_law_value"))
  d__law_value : ∃ fd, Fun K "_law_value" "_law_value" (top 41) (He.ga K "_law_value") fd
  g__law_copied : mg "_law_copied" = some (.ref (He.ga K "_law_copied"))
  d__law_copied : ∃ fd, Fun K "_law_copied" "_law_copied" (top 42) (He.ga K "_law_copied") fd
  g__law_so : mg "_law_so" = some (.ref (He.ga K "_law_so"))
  d__law_so : ∃ fd, Fun K "_law_so" "_law_so" (top 43) (He.ga K "_law_so") fd
  g_law : mg "law" = some (.ref (He.ga K "law"))
  d_law : ∃ fd, Fun K "law" "law" (top 44) (He.ga K "law") fd
  i_BadText : ∃ fI fd, PySem.W.findIn K (.ref (He.ga K "BadText")) "__init__" = some (some (.ref fI)) ∧ PySem.W.typeIn K (.ref fI) = some (.type "function") ∧ Fun K "__init__" "BadText.__init__" (inClass (top 3) 0) fI fd
  i_BadName : ∃ fI fd, PySem.W.findIn K (.ref (He.ga K "BadName")) "__init__" = some (some (.ref fI)) ∧ PySem.W.typeIn K (.ref fI) = some (.type "function") ∧ Fun K "__init__" "BadName.__init__" (inClass (top 4) 0) fI fd
  i_BadLetters : ∃ fI fd, PySem.W.findIn K (.ref (He.ga K "BadLetters")) "__init__" = some (some (.ref fI)) ∧ PySem.W.typeIn K (.ref fI) = some (.type "function") ∧ Fun K "__init__" "BadLetters.__init__" (inClass (top 5) 0) fI fd
  i_BadRun : ∃ fI fd, PySem.W.findIn K (.ref (He.ga K "BadRun")) "__init__" = some (some (.ref fI)) ∧ PySem.W.typeIn K (.ref fI) = some (.type "function") ∧ Fun K "__init__" "BadRun.__init__" (inClass (top 6) 0) fI fd
  i_BadColumn : ∃ fI fd, PySem.W.findIn K (.ref (He.ga K "BadColumn")) "__init__" = some (some (.ref fI)) ∧ PySem.W.typeIn K (.ref fI) = some (.type "function") ∧ Fun K "__init__" "BadColumn.__init__" (inClass (top 7) 0) fI fd
  i_BadNumber : ∃ fI fd, PySem.W.findIn K (.ref (He.ga K "BadNumber")) "__init__" = some (some (.ref fI)) ∧ PySem.W.typeIn K (.ref fI) = some (.type "function") ∧ Fun K "__init__" "BadNumber.__init__" (inClass (top 8) 0) fI fd
  i_BadTable : ∃ fI fd, PySem.W.findIn K (.ref (He.ga K "BadTable")) "__init__" = some (some (.ref fI)) ∧ PySem.W.typeIn K (.ref fI) = some (.type "function") ∧ Fun K "__init__" "BadTable.__init__" (inClass (top 9) 0) fI fd
  i_BadDeed : ∃ fI fd, PySem.W.findIn K (.ref (He.ga K "BadDeed")) "__init__" = some (some (.ref fI)) ∧ PySem.W.typeIn K (.ref fI) = some (.type "function") ∧ Fun K "__init__" "BadDeed.__init__" (inClass (top 10) 0) fI fd
  i_UnlikeParts : ∃ fI fd, PySem.W.findIn K (.ref (He.ga K "UnlikeParts")) "__init__" = some (some (.ref fI)) ∧ PySem.W.typeIn K (.ref fI) = some (.type "function") ∧ Fun K "__init__" "UnlikeParts.__init__" (inClass (top 11) 0) fI fd
  i_UnlikeTapes : ∃ fI fd, PySem.W.findIn K (.ref (He.ga K "UnlikeTapes")) "__init__" = some (some (.ref fI)) ∧ PySem.W.typeIn K (.ref fI) = some (.type "function") ∧ Fun K "__init__" "UnlikeTapes.__init__" (inClass (top 12) 0) fI fd
  i_TooMany : ∃ fI fd, PySem.W.findIn K (.ref (He.ga K "TooMany")) "__init__" = some (some (.ref fI)) ∧ PySem.W.typeIn K (.ref fI) = some (.type "function") ∧ Fun K "__init__" "TooMany.__init__" (inClass (top 13) 0) fI fd
  i_HeldTwice : ∃ fI fd, PySem.W.findIn K (.ref (He.ga K "HeldTwice")) "__init__" = some (some (.ref fI)) ∧ PySem.W.typeIn K (.ref fI) = some (.type "function") ∧ Fun K "__init__" "HeldTwice.__init__" (inClass (top 14) 0) fI fd
  i_BreaksBeside : ∃ fI fd, PySem.W.findIn K (.ref (He.ga K "BreaksBeside")) "__init__" = some (some (.ref fI)) ∧ PySem.W.typeIn K (.ref fI) = some (.type "function") ∧ Fun K "__init__" "BreaksBeside.__init__" (inClass (top 15) 0) fI fd
  i_NotSo : ∃ fI fd, PySem.W.findIn K (.ref (He.ga K "NotSo")) "__init__" = some (some (.ref fI)) ∧ PySem.W.typeIn K (.ref fI) = some (.type "function") ∧ Fun K "__init__" "NotSo.__init__" (inClass (top 16) 0) fI fd
  i_NotEnough : ∃ fI fd, PySem.W.findIn K (.ref (He.ga K "NotEnough")) "__init__" = some (some (.ref fI)) ∧ PySem.W.typeIn K (.ref fI) = some (.type "function") ∧ Fun K "__init__" "NotEnough.__init__" (inClass (top 17) 0) fI fd
  i_CantAnswer : ∃ fI fd, PySem.W.findIn K (.ref (He.ga K "CantAnswer")) "__init__" = some (some (.ref fI)) ∧ PySem.W.typeIn K (.ref fI) = some (.type "function") ∧ Fun K "__init__" "CantAnswer.__init__" (inClass (top 18) 0) fI fd
  i_EndedRun : ∃ fI fd, PySem.W.findIn K (.ref (He.ga K "EndedRun")) "__init__" = some (some (.ref fI)) ∧ PySem.W.typeIn K (.ref fI) = some (.type "function") ∧ Fun K "__init__" "EndedRun.__init__" (inClass (top 19) 0) fI fd
  i_NoDraft : ∃ fI fd, PySem.W.findIn K (.ref (He.ga K "NoDraft")) "__init__" = some (some (.ref fI)) ∧ PySem.W.typeIn K (.ref fI) = some (.type "function") ∧ Fun K "__init__" "NoDraft.__init__" (inClass (top 20) 0) fI fd
  i_InDraft : ∃ fI fd, PySem.W.findIn K (.ref (He.ga K "InDraft")) "__init__" = some (some (.ref fI)) ∧ PySem.W.typeIn K (.ref fI) = some (.type "function") ∧ Fun K "__init__" "InDraft.__init__" (inClass (top 21) 0) fI fd
  i_UnknownPart : ∃ fI fd, PySem.W.findIn K (.ref (He.ga K "UnknownPart")) "__init__" = some (some (.ref fI)) ∧ PySem.W.typeIn K (.ref fI) = some (.type "function") ∧ Fun K "__init__" "UnknownPart.__init__" (inClass (top 22) 0) fI fd
  i_UnknownName : ∃ fI fd, PySem.W.findIn K (.ref (He.ga K "UnknownName")) "__init__" = some (some (.ref fI)) ∧ PySem.W.typeIn K (.ref fI) = some (.type "function") ∧ Fun K "__init__" "UnknownName.__init__" (inClass (top 23) 0) fI fd
  i_UnknownRun : ∃ fI fd, PySem.W.findIn K (.ref (He.ga K "UnknownRun")) "__init__" = some (some (.ref fI)) ∧ PySem.W.typeIn K (.ref fI) = some (.type "function") ∧ Fun K "__init__" "UnknownRun.__init__" (inClass (top 24) 0) fI fd
  i_NotHeld : ∃ fI fd, PySem.W.findIn K (.ref (He.ga K "NotHeld")) "__init__" = some (some (.ref fI)) ∧ PySem.W.typeIn K (.ref fI) = some (.type "function") ∧ Fun K "__init__" "NotHeld.__init__" (inClass (top 25) 0) fI fd
  i_NothingLeft : ∃ fI fd, PySem.W.findIn K (.ref (He.ga K "NothingLeft")) "__init__" = some (some (.ref fI)) ∧ PySem.W.typeIn K (.ref fI) = some (.type "function") ∧ Fun K "__init__" "NothingLeft.__init__" (inClass (top 26) 0) fI fd
  ox : OxF K oxt
  kd : kdB K = true
  em : emB K = true
theorem sci_BadText : FnScope ["self", "line", "why"] ["self", "line", "why"] (defScope (inClass (top 3) 0)) := ⟨rfl, rfl, rfl, by decide +kernel, rfl, by decide +kernel, by decide +kernel⟩
theorem mkc_BadText {P : Program} {w : World} {K : PySem.W.Frag} {mg : Str → Option Value} {base : Heap} (e : En K mg) : MkC P w K mg base "BadText" "BadText" ["line", "why"] := by
  obtain ⟨fI, fd, h1, h2, F⟩ := e.i_BadText
  exact mkc2 e.g_BadText (e.ox.f (c := "BadText") (f := "code") (by decide)).1 h1 h2 F (e.ox.f (c := "BadText") (f := "code") (by decide)).2 sci_BadText ((e.ox.f (c := "BadText") (f := "line") (by decide)).2) ((e.ox.f (c := "BadText") (f := "why") (by decide)).2) rfl rfl rfl rfl (by decide) (by decide) (by decide) (by decide) (fun _ _ _ _ _ _ _ us ws h1 h2 => match us, ws, h1, h2 with | [_, _], [], _, _ => rfl) (fun _ _ _ _ _ _ _ us ws h1 h2 => match us, ws, h1, h2 with | [], [_, _], _, _ => rfl) (fun _ _ _ _ _ _ _ us ws h1 h2 => match us, ws, h1, h2 with | [], [_, _], _, _ => rfl) (fun _ _ _ _ _ _ _ us ws h1 h2 => match us, ws, h1, h2 with | [_], [_], _, _ => rfl)
theorem sci_BadName : FnScope ["self", "name"] ["self", "name"] (defScope (inClass (top 4) 0)) := ⟨rfl, rfl, rfl, by decide +kernel, rfl, by decide +kernel, by decide +kernel⟩
theorem mkc_BadName {P : Program} {w : World} {K : PySem.W.Frag} {mg : Str → Option Value} {base : Heap} (e : En K mg) : MkC P w K mg base "BadName" "BadName" ["name"] := by
  obtain ⟨fI, fd, h1, h2, F⟩ := e.i_BadName
  exact mkc1 e.g_BadName (e.ox.f (c := "BadName") (f := "code") (by decide)).1 h1 h2 F (e.ox.f (c := "BadName") (f := "code") (by decide)).2 sci_BadName ((e.ox.f (c := "BadName") (f := "name") (by decide)).2) rfl rfl rfl (by decide) (by decide) (fun _ _ _ _ _ _ _ us ws h1 h2 => match us, ws, h1, h2 with | [_], [], _, _ => rfl) (fun _ _ _ _ _ _ _ us ws h1 h2 => match us, ws, h1, h2 with | [], [_], _, _ => rfl)
theorem sci_BadLetters : FnScope ["self", "at"] ["self", "at"] (defScope (inClass (top 5) 0)) := ⟨rfl, rfl, rfl, by decide +kernel, rfl, by decide +kernel, by decide +kernel⟩
theorem mkc_BadLetters {P : Program} {w : World} {K : PySem.W.Frag} {mg : Str → Option Value} {base : Heap} (e : En K mg) : MkC P w K mg base "BadLetters" "BadLetters" ["at"] := by
  obtain ⟨fI, fd, h1, h2, F⟩ := e.i_BadLetters
  exact mkc1 e.g_BadLetters (e.ox.f (c := "BadLetters") (f := "code") (by decide)).1 h1 h2 F (e.ox.f (c := "BadLetters") (f := "code") (by decide)).2 sci_BadLetters ((e.ox.f (c := "BadLetters") (f := "at") (by decide)).2) rfl rfl rfl (by decide) (by decide) (fun _ _ _ _ _ _ _ us ws h1 h2 => match us, ws, h1, h2 with | [_], [], _, _ => rfl) (fun _ _ _ _ _ _ _ us ws h1 h2 => match us, ws, h1, h2 with | [], [_], _, _ => rfl)
theorem sci_BadRun : FnScope ["self", "at"] ["self", "at"] (defScope (inClass (top 6) 0)) := ⟨rfl, rfl, rfl, by decide +kernel, rfl, by decide +kernel, by decide +kernel⟩
theorem mkc_BadRun {P : Program} {w : World} {K : PySem.W.Frag} {mg : Str → Option Value} {base : Heap} (e : En K mg) : MkC P w K mg base "BadRun" "BadRun" ["at"] := by
  obtain ⟨fI, fd, h1, h2, F⟩ := e.i_BadRun
  exact mkc1 e.g_BadRun (e.ox.f (c := "BadRun") (f := "code") (by decide)).1 h1 h2 F (e.ox.f (c := "BadRun") (f := "code") (by decide)).2 sci_BadRun ((e.ox.f (c := "BadRun") (f := "at") (by decide)).2) rfl rfl rfl (by decide) (by decide) (fun _ _ _ _ _ _ _ us ws h1 h2 => match us, ws, h1, h2 with | [_], [], _, _ => rfl) (fun _ _ _ _ _ _ _ us ws h1 h2 => match us, ws, h1, h2 with | [], [_], _, _ => rfl)
theorem sci_BadColumn : FnScope ["self", "column"] ["self", "column"] (defScope (inClass (top 7) 0)) := ⟨rfl, rfl, rfl, by decide +kernel, rfl, by decide +kernel, by decide +kernel⟩
theorem mkc_BadColumn {P : Program} {w : World} {K : PySem.W.Frag} {mg : Str → Option Value} {base : Heap} (e : En K mg) : MkC P w K mg base "BadColumn" "BadColumn" ["column"] := by
  obtain ⟨fI, fd, h1, h2, F⟩ := e.i_BadColumn
  exact mkc1 e.g_BadColumn (e.ox.f (c := "BadColumn") (f := "code") (by decide)).1 h1 h2 F (e.ox.f (c := "BadColumn") (f := "code") (by decide)).2 sci_BadColumn ((e.ox.f (c := "BadColumn") (f := "column") (by decide)).2) rfl rfl rfl (by decide) (by decide) (fun _ _ _ _ _ _ _ us ws h1 h2 => match us, ws, h1, h2 with | [_], [], _, _ => rfl) (fun _ _ _ _ _ _ _ us ws h1 h2 => match us, ws, h1, h2 with | [], [_], _, _ => rfl)
theorem sci_BadNumber : FnScope ["self", "value"] ["self", "value"] (defScope (inClass (top 8) 0)) := ⟨rfl, rfl, rfl, by decide +kernel, rfl, by decide +kernel, by decide +kernel⟩
theorem mkc_BadNumber {P : Program} {w : World} {K : PySem.W.Frag} {mg : Str → Option Value} {base : Heap} (e : En K mg) : MkC P w K mg base "BadNumber" "BadNumber" ["value"] := by
  obtain ⟨fI, fd, h1, h2, F⟩ := e.i_BadNumber
  exact mkc1 e.g_BadNumber (e.ox.f (c := "BadNumber") (f := "code") (by decide)).1 h1 h2 F (e.ox.f (c := "BadNumber") (f := "code") (by decide)).2 sci_BadNumber ((e.ox.f (c := "BadNumber") (f := "value") (by decide)).2) rfl rfl rfl (by decide) (by decide) (fun _ _ _ _ _ _ _ us ws h1 h2 => match us, ws, h1, h2 with | [_], [], _, _ => rfl) (fun _ _ _ _ _ _ _ us ws h1 h2 => match us, ws, h1, h2 with | [], [_], _, _ => rfl)
theorem sci_BadTable : FnScope ["self", "at"] ["self", "at"] (defScope (inClass (top 9) 0)) := ⟨rfl, rfl, rfl, by decide +kernel, rfl, by decide +kernel, by decide +kernel⟩
theorem mkc_BadTable {P : Program} {w : World} {K : PySem.W.Frag} {mg : Str → Option Value} {base : Heap} (e : En K mg) : MkC P w K mg base "BadTable" "BadTable" ["at"] := by
  obtain ⟨fI, fd, h1, h2, F⟩ := e.i_BadTable
  exact mkc1 e.g_BadTable (e.ox.f (c := "BadTable") (f := "code") (by decide)).1 h1 h2 F (e.ox.f (c := "BadTable") (f := "code") (by decide)).2 sci_BadTable ((e.ox.f (c := "BadTable") (f := "at") (by decide)).2) rfl rfl rfl (by decide) (by decide) (fun _ _ _ _ _ _ _ us ws h1 h2 => match us, ws, h1, h2 with | [_], [], _, _ => rfl) (fun _ _ _ _ _ _ _ us ws h1 h2 => match us, ws, h1, h2 with | [], [_], _, _ => rfl)
theorem sci_BadDeed : FnScope ["self"] ["self"] (defScope (inClass (top 10) 0)) := ⟨rfl, rfl, rfl, by decide +kernel, rfl, by decide +kernel, by decide +kernel⟩
theorem mkc_BadDeed {P : Program} {w : World} {K : PySem.W.Frag} {mg : Str → Option Value} {base : Heap} (e : En K mg) : MkC P w K mg base "BadDeed" "BadDeed" [] := by
  obtain ⟨fI, fd, h1, h2, F⟩ := e.i_BadDeed
  exact mkc0 e.g_BadDeed (e.ox.f (c := "BadDeed") (f := "code") (by decide)).1 h1 h2 F (e.ox.f (c := "BadDeed") (f := "code") (by decide)).2 sci_BadDeed  rfl rfl   (fun _ _ _ _ _ _ _ us ws h1 h2 => match us, ws, h1, h2 with | [], [], _, _ => rfl)
theorem sci_UnlikeParts : FnScope ["self", "one", "other"] ["self", "one", "other"] (defScope (inClass (top 11) 0)) := ⟨rfl, rfl, rfl, by decide +kernel, rfl, by decide +kernel, by decide +kernel⟩
theorem mkc_UnlikeParts {P : Program} {w : World} {K : PySem.W.Frag} {mg : Str → Option Value} {base : Heap} (e : En K mg) : MkC P w K mg base "UnlikeParts" "UnlikeParts" ["one", "other"] := by
  obtain ⟨fI, fd, h1, h2, F⟩ := e.i_UnlikeParts
  exact mkc2 e.g_UnlikeParts (e.ox.f (c := "UnlikeParts") (f := "code") (by decide)).1 h1 h2 F (e.ox.f (c := "UnlikeParts") (f := "code") (by decide)).2 sci_UnlikeParts ((e.ox.f (c := "UnlikeParts") (f := "one") (by decide)).2) ((e.ox.f (c := "UnlikeParts") (f := "other") (by decide)).2) rfl rfl rfl rfl (by decide) (by decide) (by decide) (by decide) (fun _ _ _ _ _ _ _ us ws h1 h2 => match us, ws, h1, h2 with | [_, _], [], _, _ => rfl) (fun _ _ _ _ _ _ _ us ws h1 h2 => match us, ws, h1, h2 with | [], [_, _], _, _ => rfl) (fun _ _ _ _ _ _ _ us ws h1 h2 => match us, ws, h1, h2 with | [], [_, _], _, _ => rfl) (fun _ _ _ _ _ _ _ us ws h1 h2 => match us, ws, h1, h2 with | [_], [_], _, _ => rfl)
theorem sci_UnlikeTapes : FnScope ["self", "one", "other"] ["self", "one", "other"] (defScope (inClass (top 12) 0)) := ⟨rfl, rfl, rfl, by decide +kernel, rfl, by decide +kernel, by decide +kernel⟩
theorem mkc_UnlikeTapes {P : Program} {w : World} {K : PySem.W.Frag} {mg : Str → Option Value} {base : Heap} (e : En K mg) : MkC P w K mg base "UnlikeTapes" "UnlikeTapes" ["one", "other"] := by
  obtain ⟨fI, fd, h1, h2, F⟩ := e.i_UnlikeTapes
  exact mkc2 e.g_UnlikeTapes (e.ox.f (c := "UnlikeTapes") (f := "code") (by decide)).1 h1 h2 F (e.ox.f (c := "UnlikeTapes") (f := "code") (by decide)).2 sci_UnlikeTapes ((e.ox.f (c := "UnlikeTapes") (f := "one") (by decide)).2) ((e.ox.f (c := "UnlikeTapes") (f := "other") (by decide)).2) rfl rfl rfl rfl (by decide) (by decide) (by decide) (by decide) (fun _ _ _ _ _ _ _ us ws h1 h2 => match us, ws, h1, h2 with | [_, _], [], _, _ => rfl) (fun _ _ _ _ _ _ _ us ws h1 h2 => match us, ws, h1, h2 with | [], [_, _], _, _ => rfl) (fun _ _ _ _ _ _ _ us ws h1 h2 => match us, ws, h1, h2 with | [], [_, _], _, _ => rfl) (fun _ _ _ _ _ _ _ us ws h1 h2 => match us, ws, h1, h2 with | [_], [_], _, _ => rfl)
theorem sci_TooMany : FnScope ["self", "what", "found"] ["self", "what", "found"] (defScope (inClass (top 13) 0)) := ⟨rfl, rfl, rfl, by decide +kernel, rfl, by decide +kernel, by decide +kernel⟩
theorem mkc_TooMany {P : Program} {w : World} {K : PySem.W.Frag} {mg : Str → Option Value} {base : Heap} (e : En K mg) : MkC P w K mg base "TooMany" "TooMany" ["what", "found"] := by
  obtain ⟨fI, fd, h1, h2, F⟩ := e.i_TooMany
  exact mkc2 e.g_TooMany (e.ox.f (c := "TooMany") (f := "code") (by decide)).1 h1 h2 F (e.ox.f (c := "TooMany") (f := "code") (by decide)).2 sci_TooMany ((e.ox.f (c := "TooMany") (f := "what") (by decide)).2) ((e.ox.f (c := "TooMany") (f := "found") (by decide)).2) rfl rfl rfl rfl (by decide) (by decide) (by decide) (by decide) (fun _ _ _ _ _ _ _ us ws h1 h2 => match us, ws, h1, h2 with | [_, _], [], _, _ => rfl) (fun _ _ _ _ _ _ _ us ws h1 h2 => match us, ws, h1, h2 with | [], [_, _], _, _ => rfl) (fun _ _ _ _ _ _ _ us ws h1 h2 => match us, ws, h1, h2 with | [], [_, _], _, _ => rfl) (fun _ _ _ _ _ _ _ us ws h1 h2 => match us, ws, h1, h2 with | [_], [_], _, _ => rfl)
theorem sci_HeldTwice : FnScope ["self", "item"] ["self", "item"] (defScope (inClass (top 14) 0)) := ⟨rfl, rfl, rfl, by decide +kernel, rfl, by decide +kernel, by decide +kernel⟩
theorem mkc_HeldTwice {P : Program} {w : World} {K : PySem.W.Frag} {mg : Str → Option Value} {base : Heap} (e : En K mg) : MkC P w K mg base "HeldTwice" "HeldTwice" ["item"] := by
  obtain ⟨fI, fd, h1, h2, F⟩ := e.i_HeldTwice
  exact mkc1 e.g_HeldTwice (e.ox.f (c := "HeldTwice") (f := "code") (by decide)).1 h1 h2 F (e.ox.f (c := "HeldTwice") (f := "code") (by decide)).2 sci_HeldTwice ((e.ox.f (c := "HeldTwice") (f := "item") (by decide)).2) rfl rfl rfl (by decide) (by decide) (fun _ _ _ _ _ _ _ us ws h1 h2 => match us, ws, h1, h2 with | [_], [], _, _ => rfl) (fun _ _ _ _ _ _ _ us ws h1 h2 => match us, ws, h1, h2 with | [], [_], _, _ => rfl)
theorem sci_BreaksBeside : FnScope ["self", "lot"] ["self", "lot"] (defScope (inClass (top 15) 0)) := ⟨rfl, rfl, rfl, by decide +kernel, rfl, by decide +kernel, by decide +kernel⟩
theorem mkc_BreaksBeside {P : Program} {w : World} {K : PySem.W.Frag} {mg : Str → Option Value} {base : Heap} (e : En K mg) : MkC P w K mg base "BreaksBeside" "BreaksBeside" ["lot"] := by
  obtain ⟨fI, fd, h1, h2, F⟩ := e.i_BreaksBeside
  exact mkc1 e.g_BreaksBeside (e.ox.f (c := "BreaksBeside") (f := "code") (by decide)).1 h1 h2 F (e.ox.f (c := "BreaksBeside") (f := "code") (by decide)).2 sci_BreaksBeside ((e.ox.f (c := "BreaksBeside") (f := "lot") (by decide)).2) rfl rfl rfl (by decide) (by decide) (fun _ _ _ _ _ _ _ us ws h1 h2 => match us, ws, h1, h2 with | [_], [], _, _ => rfl) (fun _ _ _ _ _ _ _ us ws h1 h2 => match us, ws, h1, h2 with | [], [_], _, _ => rfl)
theorem sci_NotSo : FnScope ["self", "lot"] ["self", "lot"] (defScope (inClass (top 16) 0)) := ⟨rfl, rfl, rfl, by decide +kernel, rfl, by decide +kernel, by decide +kernel⟩
theorem mkc_NotSo {P : Program} {w : World} {K : PySem.W.Frag} {mg : Str → Option Value} {base : Heap} (e : En K mg) : MkC P w K mg base "NotSo" "NotSo" ["lot"] := by
  obtain ⟨fI, fd, h1, h2, F⟩ := e.i_NotSo
  exact mkc1 e.g_NotSo (e.ox.f (c := "NotSo") (f := "code") (by decide)).1 h1 h2 F (e.ox.f (c := "NotSo") (f := "code") (by decide)).2 sci_NotSo ((e.ox.f (c := "NotSo") (f := "lot") (by decide)).2) rfl rfl rfl (by decide) (by decide) (fun _ _ _ _ _ _ _ us ws h1 h2 => match us, ws, h1, h2 with | [_], [], _, _ => rfl) (fun _ _ _ _ _ _ _ us ws h1 h2 => match us, ws, h1, h2 with | [], [_], _, _ => rfl)
theorem sci_NotEnough : FnScope ["self", "lot"] ["self", "lot"] (defScope (inClass (top 17) 0)) := ⟨rfl, rfl, rfl, by decide +kernel, rfl, by decide +kernel, by decide +kernel⟩
theorem mkc_NotEnough {P : Program} {w : World} {K : PySem.W.Frag} {mg : Str → Option Value} {base : Heap} (e : En K mg) : MkC P w K mg base "NotEnough" "NotEnough" ["lot"] := by
  obtain ⟨fI, fd, h1, h2, F⟩ := e.i_NotEnough
  exact mkc1 e.g_NotEnough (e.ox.f (c := "NotEnough") (f := "code") (by decide)).1 h1 h2 F (e.ox.f (c := "NotEnough") (f := "code") (by decide)).2 sci_NotEnough ((e.ox.f (c := "NotEnough") (f := "lot") (by decide)).2) rfl rfl rfl (by decide) (by decide) (fun _ _ _ _ _ _ _ us ws h1 h2 => match us, ws, h1, h2 with | [_], [], _, _ => rfl) (fun _ _ _ _ _ _ _ us ws h1 h2 => match us, ws, h1, h2 with | [], [_], _, _ => rfl)
theorem sci_CantAnswer : FnScope ["self", "at", "run"] ["self", "at", "run"] (defScope (inClass (top 18) 0)) := ⟨rfl, rfl, rfl, by decide +kernel, rfl, by decide +kernel, by decide +kernel⟩
theorem mkc_CantAnswer {P : Program} {w : World} {K : PySem.W.Frag} {mg : Str → Option Value} {base : Heap} (e : En K mg) : MkC P w K mg base "CantAnswer" "CantAnswer" ["at", "run"] := by
  obtain ⟨fI, fd, h1, h2, F⟩ := e.i_CantAnswer
  exact mkc2 e.g_CantAnswer (e.ox.f (c := "CantAnswer") (f := "code") (by decide)).1 h1 h2 F (e.ox.f (c := "CantAnswer") (f := "code") (by decide)).2 sci_CantAnswer ((e.ox.f (c := "CantAnswer") (f := "at") (by decide)).2) ((e.ox.f (c := "CantAnswer") (f := "run") (by decide)).2) rfl rfl rfl rfl (by decide) (by decide) (by decide) (by decide) (fun _ _ _ _ _ _ _ us ws h1 h2 => match us, ws, h1, h2 with | [_, _], [], _, _ => rfl) (fun _ _ _ _ _ _ _ us ws h1 h2 => match us, ws, h1, h2 with | [], [_, _], _, _ => rfl) (fun _ _ _ _ _ _ _ us ws h1 h2 => match us, ws, h1, h2 with | [], [_, _], _, _ => rfl) (fun _ _ _ _ _ _ _ us ws h1 h2 => match us, ws, h1, h2 with | [_], [_], _, _ => rfl)
theorem sci_EndedRun : FnScope ["self", "at"] ["self", "at"] (defScope (inClass (top 19) 0)) := ⟨rfl, rfl, rfl, by decide +kernel, rfl, by decide +kernel, by decide +kernel⟩
theorem mkc_EndedRun {P : Program} {w : World} {K : PySem.W.Frag} {mg : Str → Option Value} {base : Heap} (e : En K mg) : MkC P w K mg base "EndedRun" "EndedRun" ["at"] := by
  obtain ⟨fI, fd, h1, h2, F⟩ := e.i_EndedRun
  exact mkc1 e.g_EndedRun (e.ox.f (c := "EndedRun") (f := "code") (by decide)).1 h1 h2 F (e.ox.f (c := "EndedRun") (f := "code") (by decide)).2 sci_EndedRun ((e.ox.f (c := "EndedRun") (f := "at") (by decide)).2) rfl rfl rfl (by decide) (by decide) (fun _ _ _ _ _ _ _ us ws h1 h2 => match us, ws, h1, h2 with | [_], [], _, _ => rfl) (fun _ _ _ _ _ _ _ us ws h1 h2 => match us, ws, h1, h2 with | [], [_], _, _ => rfl)
theorem sci_NoDraft : FnScope ["self"] ["self"] (defScope (inClass (top 20) 0)) := ⟨rfl, rfl, rfl, by decide +kernel, rfl, by decide +kernel, by decide +kernel⟩
theorem mkc_NoDraft {P : Program} {w : World} {K : PySem.W.Frag} {mg : Str → Option Value} {base : Heap} (e : En K mg) : MkC P w K mg base "NoDraft" "NoDraft" [] := by
  obtain ⟨fI, fd, h1, h2, F⟩ := e.i_NoDraft
  exact mkc0 e.g_NoDraft (e.ox.f (c := "NoDraft") (f := "code") (by decide)).1 h1 h2 F (e.ox.f (c := "NoDraft") (f := "code") (by decide)).2 sci_NoDraft  rfl rfl   (fun _ _ _ _ _ _ _ us ws h1 h2 => match us, ws, h1, h2 with | [], [], _, _ => rfl)
theorem sci_InDraft : FnScope ["self"] ["self"] (defScope (inClass (top 21) 0)) := ⟨rfl, rfl, rfl, by decide +kernel, rfl, by decide +kernel, by decide +kernel⟩
theorem mkc_InDraft {P : Program} {w : World} {K : PySem.W.Frag} {mg : Str → Option Value} {base : Heap} (e : En K mg) : MkC P w K mg base "InDraft" "InDraft" [] := by
  obtain ⟨fI, fd, h1, h2, F⟩ := e.i_InDraft
  exact mkc0 e.g_InDraft (e.ox.f (c := "InDraft") (f := "code") (by decide)).1 h1 h2 F (e.ox.f (c := "InDraft") (f := "code") (by decide)).2 sci_InDraft  rfl rfl   (fun _ _ _ _ _ _ _ us ws h1 h2 => match us, ws, h1, h2 with | [], [], _, _ => rfl)
theorem sci_UnknownPart : FnScope ["self", "name"] ["self", "name"] (defScope (inClass (top 22) 0)) := ⟨rfl, rfl, rfl, by decide +kernel, rfl, by decide +kernel, by decide +kernel⟩
theorem mkc_UnknownPart {P : Program} {w : World} {K : PySem.W.Frag} {mg : Str → Option Value} {base : Heap} (e : En K mg) : MkC P w K mg base "UnknownPart" "UnknownPart" ["name"] := by
  obtain ⟨fI, fd, h1, h2, F⟩ := e.i_UnknownPart
  exact mkc1 e.g_UnknownPart (e.ox.f (c := "UnknownPart") (f := "code") (by decide)).1 h1 h2 F (e.ox.f (c := "UnknownPart") (f := "code") (by decide)).2 sci_UnknownPart ((e.ox.f (c := "UnknownPart") (f := "name") (by decide)).2) rfl rfl rfl (by decide) (by decide) (fun _ _ _ _ _ _ _ us ws h1 h2 => match us, ws, h1, h2 with | [_], [], _, _ => rfl) (fun _ _ _ _ _ _ _ us ws h1 h2 => match us, ws, h1, h2 with | [], [_], _, _ => rfl)
theorem sci_UnknownName : FnScope ["self", "name"] ["self", "name"] (defScope (inClass (top 23) 0)) := ⟨rfl, rfl, rfl, by decide +kernel, rfl, by decide +kernel, by decide +kernel⟩
theorem mkc_UnknownName {P : Program} {w : World} {K : PySem.W.Frag} {mg : Str → Option Value} {base : Heap} (e : En K mg) : MkC P w K mg base "UnknownName" "UnknownName" ["name"] := by
  obtain ⟨fI, fd, h1, h2, F⟩ := e.i_UnknownName
  exact mkc1 e.g_UnknownName (e.ox.f (c := "UnknownName") (f := "code") (by decide)).1 h1 h2 F (e.ox.f (c := "UnknownName") (f := "code") (by decide)).2 sci_UnknownName ((e.ox.f (c := "UnknownName") (f := "name") (by decide)).2) rfl rfl rfl (by decide) (by decide) (fun _ _ _ _ _ _ _ us ws h1 h2 => match us, ws, h1, h2 with | [_], [], _, _ => rfl) (fun _ _ _ _ _ _ _ us ws h1 h2 => match us, ws, h1, h2 with | [], [_], _, _ => rfl)
theorem sci_UnknownRun : FnScope ["self", "at"] ["self", "at"] (defScope (inClass (top 24) 0)) := ⟨rfl, rfl, rfl, by decide +kernel, rfl, by decide +kernel, by decide +kernel⟩
theorem mkc_UnknownRun {P : Program} {w : World} {K : PySem.W.Frag} {mg : Str → Option Value} {base : Heap} (e : En K mg) : MkC P w K mg base "UnknownRun" "UnknownRun" ["at"] := by
  obtain ⟨fI, fd, h1, h2, F⟩ := e.i_UnknownRun
  exact mkc1 e.g_UnknownRun (e.ox.f (c := "UnknownRun") (f := "code") (by decide)).1 h1 h2 F (e.ox.f (c := "UnknownRun") (f := "code") (by decide)).2 sci_UnknownRun ((e.ox.f (c := "UnknownRun") (f := "at") (by decide)).2) rfl rfl rfl (by decide) (by decide) (fun _ _ _ _ _ _ _ us ws h1 h2 => match us, ws, h1, h2 with | [_], [], _, _ => rfl) (fun _ _ _ _ _ _ _ us ws h1 h2 => match us, ws, h1, h2 with | [], [_], _, _ => rfl)
theorem sci_NotHeld : FnScope ["self", "run"] ["self", "run"] (defScope (inClass (top 25) 0)) := ⟨rfl, rfl, rfl, by decide +kernel, rfl, by decide +kernel, by decide +kernel⟩
theorem mkc_NotHeld {P : Program} {w : World} {K : PySem.W.Frag} {mg : Str → Option Value} {base : Heap} (e : En K mg) : MkC P w K mg base "NotHeld" "NotHeld" ["run"] := by
  obtain ⟨fI, fd, h1, h2, F⟩ := e.i_NotHeld
  exact mkc1 e.g_NotHeld (e.ox.f (c := "NotHeld") (f := "code") (by decide)).1 h1 h2 F (e.ox.f (c := "NotHeld") (f := "code") (by decide)).2 sci_NotHeld ((e.ox.f (c := "NotHeld") (f := "run") (by decide)).2) rfl rfl rfl (by decide) (by decide) (fun _ _ _ _ _ _ _ us ws h1 h2 => match us, ws, h1, h2 with | [_], [], _, _ => rfl) (fun _ _ _ _ _ _ _ us ws h1 h2 => match us, ws, h1, h2 with | [], [_], _, _ => rfl)
theorem sci_NothingLeft : FnScope ["self"] ["self"] (defScope (inClass (top 26) 0)) := ⟨rfl, rfl, rfl, by decide +kernel, rfl, by decide +kernel, by decide +kernel⟩
theorem mkc_NothingLeft {P : Program} {w : World} {K : PySem.W.Frag} {mg : Str → Option Value} {base : Heap} (e : En K mg) : MkC P w K mg base "NothingLeft" "NothingLeft" [] := by
  obtain ⟨fI, fd, h1, h2, F⟩ := e.i_NothingLeft
  exact mkc0 e.g_NothingLeft (e.ox.f (c := "NothingLeft") (f := "code") (by decide)).1 h1 h2 F (e.ox.f (c := "NothingLeft") (f := "code") (by decide)).2 sci_NothingLeft  rfl rfl   (fun _ _ _ _ _ _ _ us ws h1 h2 => match us, ws, h1, h2 with | [], [], _, _ => rfl)
theorem sc__law_of : FnScope ["bag", "things"] ["bag", "things"] (defScope (top 30)) := ⟨rfl, rfl, rfl, by decide +kernel, rfl, by decide +kernel, by decide +kernel⟩
def td__law_of (K : PySem.W.Frag) (c__law_draw : DC) (β : Addr) : TDS :=
    (yRet [] (xOp dIx (xVar 1) (xFn β c__law_draw (xCons (xVar 0) (xCons (xCall dLen (xCons (xVar 1) xNil)) xNil)))))
theorem w__law_of {P : Program} {w : World} {K : PySem.W.Frag} {mg : Str → Option Value} {base : Heap} {k : Nat} (e : En K mg) {c__law_draw : DC} (O__law_draw : OkD P w K mg base k "_law_draw" ["bag", "size"] c__law_draw) : BodyD P w K mg base k "_law_of" (top 30) (He.ga K "_law_of") ["bag", "things"] (td__law_of K c__law_draw) := by
  intro cdv A outer s p E hr
  have hu := hr.units
  have hrN := L2H.roomH_of hr
  exact (dss_one (ds_ret [] (d_ix (fun _ _ => rfl) (d_var 1) (d_callO O__law_draw hr (takes_of rfl rfl rfl rfl) (da_cons (d_var 0) (da_cons (d_callB call_len r_len rfl e.f_len bv_len (da_cons (d_var 1) da_nil)) da_nil))))))
theorem ok__law_of {P : Program} {w : World} {K : PySem.W.Frag} {mg : Str → Option Value} {base : Heap} {k : Nat} (e : En K mg) {c__law_draw : DC} (O__law_draw : OkD P w K mg base k "_law_draw" ["bag", "size"] c__law_draw) {c : DC} (len : ∀ β ds Q E, c β ds Q E → ds.length = 2) (h : Keeps (td__law_of K c__law_draw) ["bag", "things"] c) : OkD P w K mg base (k + 1) "_law_of" ["bag", "things"] c := by
  obtain ⟨fd, F⟩ := e.d__law_of
  exact okD_of e.g__law_of F (F.binds fun _ _ _ _ _ _ us hl => match us, hl with | [_, _], _ => rfl) sc__law_of (w__law_of e O__law_draw) len h
theorem sc__law_like : FnScope ["told", "due", "a", "b"] ["told", "due"] (defScope (top 31)) := ⟨rfl, rfl, rfl, by decide +kernel, rfl, by decide +kernel, by decide +kernel⟩
def td__law_like (K : PySem.W.Frag) (c__law_like : DC) (β : Addr) : TDS :=
    (ySeq (yIf [] (xTest (xCall (dIsi K oxt) (xCons (xVar 1) (xCons (xTup (xCons (xC (.ty "list")) (xCons (xC (.ty "tuple")) xNil))) xNil))))
    (ySeq (yIf [] (xOr (xTest (xOp (dEq true) (xCall (dIsi K oxt) (xCons (xVar 0) (xCons (xC (.ty "list")) xNil))) (xCall (dIsi K oxt) (xCons (xVar 1) (xCons (xC (.ty "list")) xNil))))) (xTest (xOp (dEq true) (xCall (dIsi K oxt) (xCons (xVar 0) (xCons (xC (.ty "tuple")) xNil))) (xCall (dIsi K oxt) (xCons (xVar 1) (xCons (xC (.ty "tuple")) xNil))))))
    (yRet [] (xC (.bl false)))
    yNext)
    (yRet [] (xAndV (xOp (dEq false) (xCall dLen (xCons (xVar 0) xNil)) (xCall dLen (xCons (xVar 1) xNil))) (xCall (dAll fun ks => ks.all id) (xCons (xLcE [2, 3] (xiZip (xCons (xVar 0) (xCons (xVar 1) xNil))) (zTup 2 (zCons (zName 2) (zCons (zName 3) zNil))) xYes (xFn β c__law_like (xCons (xVar 2) (xCons (xVar 3) xNil)))) xNil)))))
    yNext)
    (ySeq (yIf [] (xOr (xTest (xIsN false (xVar 1))) (xTest (xIsN false (xVar 0))))
    (yRet [] (xAndV (xIsN false (xVar 1)) (xIsN false (xVar 0))))
    yNext)
    (ySeq (yIf [] (xOr (xTest (xCall (dIsi K oxt) (xCons (xVar 0) (xCons (xTup (xCons (xC (.ty "list")) (xCons (xC (.ty "tuple")) xNil))) xNil)))) (xTest (xOp (dEq true) (xCall (dIsi K oxt) (xCons (xVar 0) (xCons (xC (.ty "bool")) xNil))) (xCall (dIsi K oxt) (xCons (xVar 1) (xCons (xC (.ty "bool")) xNil))))))
    (yRet [] (xC (.bl false)))
    yNext)
    (ySeq (yIf [] (xOr (xTest (xOp (dEq true) (xCall (dIsi K oxt) (xCons (xVar 0) (xCons (xC (.ty "str")) xNil))) (xCall (dIsi K oxt) (xCons (xVar 1) (xCons (xC (.ty "str")) xNil))))) (xTest (xOp (dEq true) (xCall (dIsi K oxt) (xCons (xVar 0) (xCons (xC (.ty "int")) xNil))) (xCall (dIsi K oxt) (xCons (xVar 1) (xCons (xC (.ty "int")) xNil))))))
    (yRet [] (xC (.bl false)))
    yNext)
    (yRet [] (xOp (dEq false) (xVar 0) (xVar 1)))))))
theorem w__law_like {P : Program} {w : World} {K : PySem.W.Frag} {mg : Str → Option Value} {base : Heap} {k : Nat} (e : En K mg) {c__law_like : DC} (O__law_like : OkD P w K mg base k "_law_like" ["told", "due"] c__law_like) : BodyD P w K mg base k "_law_like" (top 31) (He.ga K "_law_like") ["told", "due", "a", "b"] (td__law_like K c__law_like) := by
  intro cdv A outer s p E hr
  have hu := hr.units
  have hrN := L2H.roomH_of hr
  exact (dss_cons (ds_if [] (dt_val (he := fun _ => rfl) (d_callB call_isiZ (r_isi e.ox) rfl e.f_isinstance bv_isinstance (da_cons (d_var 1) (da_cons (d_tup (da_cons (d_bltn (d := .ty "list") rfl rfl e.f_list bv_list rfl) (da_cons (d_bltn (d := .ty "tuple") rfl rfl e.f_tuple bv_tuple rfl) da_nil))) da_nil))))
    (dss_cons (ds_if [] (DW.t (dw_or (dt_ne hu (d_callB call_isiZ (r_isi e.ox) rfl e.f_isinstance bv_isinstance (da_cons (d_var 0) (da_cons (d_bltn (d := .ty "list") rfl rfl e.f_list bv_list rfl) da_nil))) (d_callB call_isiZ (r_isi e.ox) rfl e.f_isinstance bv_isinstance (da_cons (d_var 1) (da_cons (d_bltn (d := .ty "list") rfl rfl e.f_list bv_list rfl) da_nil)))) (dw_or1 (dt_ne hu (d_callB call_isiZ (r_isi e.ox) rfl e.f_isinstance bv_isinstance (da_cons (d_var 0) (da_cons (d_bltn (d := .ty "tuple") rfl rfl e.f_tuple bv_tuple rfl) da_nil))) (d_callB call_isiZ (r_isi e.ox) rfl e.f_isinstance bv_isinstance (da_cons (d_var 1) (da_cons (d_bltn (d := .ty "tuple") rfl rfl e.f_tuple bv_tuple rfl) da_nil)))))))
    (dss_one (ds_ret [] d_bl))
    dss_nil)
    (dss_one (ds_ret [] (d_and (d_eq hu (d_callB call_len r_len rfl e.f_len bv_len (da_cons (d_var 0) da_nil)) (d_callB call_len r_len rfl e.f_len bv_len (da_cons (d_var 1) da_nil))) (d_one (d_callB (cr_all rfl) r_all rfl e.f_all bv_all (da_cons (d_lc [("a", 2), ("b", 3)] (by decide) rfl sc__law_like.nd (blkOk_by rfl) (di_zip rfl e.f_zip (da_cons (d_var 0) (da_cons (d_var 1) da_nil))) (fun s H C cl fp => (dg_tup rfl (dgs_cons (dg_name 2 sc__law_like.nd) (dgs_cons (dg_name 3 sc__law_like.nd) dgs_nil)))) (fun s H C cl fp => dts_nil) (fun s H C cl fp => (d_callO O__law_like hr takes0 (da_cons (d_var 2) (da_cons (d_var 3) da_nil))))) da_nil)))))))
    dss_nil)
    (dss_cons (ds_if [] (DW.t (dw_or (dt_isN (d_var 1)) (dw_or1 (dt_isN (d_var 0)))))
    (dss_one (ds_ret [] (d_and (d_isN (d_var 1)) (d_one (d_isN (d_var 0))))))
    dss_nil)
    (dss_cons (ds_if [] (DW.t (dw_or (dt_val (he := fun _ => rfl) (d_callB call_isiZ (r_isi e.ox) rfl e.f_isinstance bv_isinstance (da_cons (d_var 0) (da_cons (d_tup (da_cons (d_bltn (d := .ty "list") rfl rfl e.f_list bv_list rfl) (da_cons (d_bltn (d := .ty "tuple") rfl rfl e.f_tuple bv_tuple rfl) da_nil))) da_nil)))) (dw_or1 (dt_ne hu (d_callB call_isiZ (r_isi e.ox) rfl e.f_isinstance bv_isinstance (da_cons (d_var 0) (da_cons (d_bltn (d := .ty "bool") rfl rfl e.f_bool bv_bool rfl) da_nil))) (d_callB call_isiZ (r_isi e.ox) rfl e.f_isinstance bv_isinstance (da_cons (d_var 1) (da_cons (d_bltn (d := .ty "bool") rfl rfl e.f_bool bv_bool rfl) da_nil)))))))
    (dss_one (ds_ret [] d_bl))
    dss_nil)
    (dss_cons (ds_if [] (DW.t (dw_or (dt_ne hu (d_callB call_isiZ (r_isi e.ox) rfl e.f_isinstance bv_isinstance (da_cons (d_var 0) (da_cons (d_bltn (d := .ty "str") rfl rfl e.f_str bv_str rfl) da_nil))) (d_callB call_isiZ (r_isi e.ox) rfl e.f_isinstance bv_isinstance (da_cons (d_var 1) (da_cons (d_bltn (d := .ty "str") rfl rfl e.f_str bv_str rfl) da_nil)))) (dw_or1 (dt_ne hu (d_callB call_isiZ (r_isi e.ox) rfl e.f_isinstance bv_isinstance (da_cons (d_var 0) (da_cons (d_bltn (d := .ty "int") rfl rfl e.f_int bv_int rfl) da_nil))) (d_callB call_isiZ (r_isi e.ox) rfl e.f_isinstance bv_isinstance (da_cons (d_var 1) (da_cons (d_bltn (d := .ty "int") rfl rfl e.f_int bv_int rfl) da_nil)))))))
    (dss_one (ds_ret [] d_bl))
    dss_nil)
    (dss_one (ds_ret [] (d_eq hu (d_var 0) (d_var 1))))))))
theorem ok__law_like {P : Program} {w : World} {K : PySem.W.Frag} {mg : Str → Option Value} {base : Heap} {k : Nat} (e : En K mg) {c__law_like : DC} (O__law_like : OkD P w K mg base k "_law_like" ["told", "due"] c__law_like) {c : DC} (len : ∀ β ds Q E, c β ds Q E → ds.length = 2) (h : Keeps (td__law_like K c__law_like) ["told", "due", "a", "b"] c) : OkD P w K mg base (k + 1) "_law_like" ["told", "due"] c := by
  obtain ⟨fd, F⟩ := e.d__law_like
  exact okD_of e.g__law_like F (F.binds fun _ _ _ _ _ _ us hl => match us, hl with | [_, _], _ => rfl) sc__law_like (w__law_like e O__law_like) len h
theorem sc__law_two : FnScope ["pick", "a", "b", "way"] ["pick", "a", "b", "way"] (defScope (top 32)) := ⟨rfl, rfl, rfl, by decide +kernel, rfl, by decide +kernel, by decide +kernel⟩
def td__law_two (K : PySem.W.Frag)  (β : Addr) : TDS :=
    (ySeq (yIf [] (xAnd (xTest (xOp (dEq false) (xVar 0) (xC (.str "BadText")))) (xTest (xOp dLt (xVar 3) (xC (.int 2)))))
    (yRet [] (xIf (xTest (xOp (dEq false) (xVar 3) (xC (.int 0)))) (xMkx "BadText" "BadText" ["line", "why"] [0, 1] 2 (xLen 2 (xCons (xVar 1) (xCons (xVar 2) xNil)))) (xMkx "BadText" "BadText" ["line", "why"] [0, 1] 2 (xLen 2 (xCons (xVar 1) (xCons (xVar 2) xNil))))))
    yNext)
    (ySeq (yIf [] (xTest (xOp (dEq false) (xVar 0) (xC (.str "BadText"))))
    (yRet [] (xIf (xTest (xOp (dEq false) (xVar 3) (xC (.int 2)))) (xMkx "BadText" "BadText" ["line", "why"] [1, 0] 2 (xLen 2 (xCons (xVar 2) (xCons (xVar 1) xNil)))) (xMkx "BadText" "BadText" ["line", "why"] [0, 1] 2 (xApp 1 1 (xCons (xVar 1) xNil) (xCons (xVar 2) xNil)))))
    yNext)
    (ySeq (yIf [] (xAnd (xTest (xOp (dEq false) (xVar 0) (xC (.str "UnlikeParts")))) (xTest (xOp dLt (xVar 3) (xC (.int 2)))))
    (yRet [] (xIf (xTest (xOp (dEq false) (xVar 3) (xC (.int 0)))) (xMkx "UnlikeParts" "UnlikeParts" ["one", "other"] [0, 1] 2 (xLen 2 (xCons (xVar 1) (xCons (xVar 2) xNil)))) (xMkx "UnlikeParts" "UnlikeParts" ["one", "other"] [0, 1] 2 (xLen 2 (xCons (xVar 1) (xCons (xVar 2) xNil))))))
    yNext)
    (ySeq (yIf [] (xTest (xOp (dEq false) (xVar 0) (xC (.str "UnlikeParts"))))
    (yRet [] (xIf (xTest (xOp (dEq false) (xVar 3) (xC (.int 2)))) (xMkx "UnlikeParts" "UnlikeParts" ["one", "other"] [1, 0] 2 (xLen 2 (xCons (xVar 2) (xCons (xVar 1) xNil)))) (xMkx "UnlikeParts" "UnlikeParts" ["one", "other"] [0, 1] 2 (xApp 1 1 (xCons (xVar 1) xNil) (xCons (xVar 2) xNil)))))
    yNext)
    (ySeq (yIf [] (xAnd (xTest (xOp (dEq false) (xVar 0) (xC (.str "UnlikeTapes")))) (xTest (xOp dLt (xVar 3) (xC (.int 2)))))
    (yRet [] (xIf (xTest (xOp (dEq false) (xVar 3) (xC (.int 0)))) (xMkx "UnlikeTapes" "UnlikeTapes" ["one", "other"] [0, 1] 2 (xLen 2 (xCons (xVar 1) (xCons (xVar 2) xNil)))) (xMkx "UnlikeTapes" "UnlikeTapes" ["one", "other"] [0, 1] 2 (xLen 2 (xCons (xVar 1) (xCons (xVar 2) xNil))))))
    yNext)
    (ySeq (yIf [] (xTest (xOp (dEq false) (xVar 0) (xC (.str "UnlikeTapes"))))
    (yRet [] (xIf (xTest (xOp (dEq false) (xVar 3) (xC (.int 2)))) (xMkx "UnlikeTapes" "UnlikeTapes" ["one", "other"] [1, 0] 2 (xLen 2 (xCons (xVar 2) (xCons (xVar 1) xNil)))) (xMkx "UnlikeTapes" "UnlikeTapes" ["one", "other"] [0, 1] 2 (xApp 1 1 (xCons (xVar 1) xNil) (xCons (xVar 2) xNil)))))
    yNext)
    (ySeq (yIf [] (xAnd (xTest (xOp (dEq false) (xVar 0) (xC (.str "TooMany")))) (xTest (xOp dLt (xVar 3) (xC (.int 2)))))
    (yRet [] (xIf (xTest (xOp (dEq false) (xVar 3) (xC (.int 0)))) (xMkx "TooMany" "TooMany" ["what", "found"] [0, 1] 2 (xLen 2 (xCons (xVar 1) (xCons (xVar 2) xNil)))) (xMkx "TooMany" "TooMany" ["what", "found"] [0, 1] 2 (xLen 2 (xCons (xVar 1) (xCons (xVar 2) xNil))))))
    yNext)
    (ySeq (yIf [] (xTest (xOp (dEq false) (xVar 0) (xC (.str "TooMany"))))
    (yRet [] (xIf (xTest (xOp (dEq false) (xVar 3) (xC (.int 2)))) (xMkx "TooMany" "TooMany" ["what", "found"] [1, 0] 2 (xLen 2 (xCons (xVar 2) (xCons (xVar 1) xNil)))) (xMkx "TooMany" "TooMany" ["what", "found"] [0, 1] 2 (xApp 1 1 (xCons (xVar 1) xNil) (xCons (xVar 2) xNil)))))
    yNext)
    (ySeq (yIf [] (xAnd (xTest (xOp (dEq false) (xVar 0) (xC (.str "CantAnswer")))) (xTest (xOp dLt (xVar 3) (xC (.int 2)))))
    (yRet [] (xIf (xTest (xOp (dEq false) (xVar 3) (xC (.int 0)))) (xMkx "CantAnswer" "CantAnswer" ["at", "run"] [0, 1] 2 (xLen 2 (xCons (xVar 1) (xCons (xVar 2) xNil)))) (xMkx "CantAnswer" "CantAnswer" ["at", "run"] [0, 1] 2 (xLen 2 (xCons (xVar 1) (xCons (xVar 2) xNil))))))
    yNext)
    (ySeq (yIf [] (xTest (xOp (dEq false) (xVar 0) (xC (.str "CantAnswer"))))
    (yRet [] (xIf (xTest (xOp (dEq false) (xVar 3) (xC (.int 2)))) (xMkx "CantAnswer" "CantAnswer" ["at", "run"] [1, 0] 2 (xLen 2 (xCons (xVar 2) (xCons (xVar 1) xNil)))) (xMkx "CantAnswer" "CantAnswer" ["at", "run"] [0, 1] 2 (xApp 1 1 (xCons (xVar 1) xNil) (xCons (xVar 2) xNil)))))
    yNext)
    (yRet [] (xC .non))))))))))))
theorem w__law_two {P : Program} {w : World} {K : PySem.W.Frag} {mg : Str → Option Value} {base : Heap} {k : Nat} (e : En K mg) (M_BadText : MkC P w K mg base "BadText" "BadText" ["line", "why"]) (M_UnlikeParts : MkC P w K mg base "UnlikeParts" "UnlikeParts" ["one", "other"]) (M_UnlikeTapes : MkC P w K mg base "UnlikeTapes" "UnlikeTapes" ["one", "other"]) (M_TooMany : MkC P w K mg base "TooMany" "TooMany" ["what", "found"]) (M_CantAnswer : MkC P w K mg base "CantAnswer" "CantAnswer" ["at", "run"]) (hk : 2 ≤ k) : BodyD P w K mg base k "_law_two" (top 32) (He.ga K "_law_two") ["pick", "a", "b", "way"] (td__law_two K ) := by
  intro cdv A outer s p E hr
  have hu := hr.units
  have hrN := L2H.roomH_of hr
  exact (dss_cons (ds_if [] (DW.t (dw_and (dt_eq hu (d_var 0) d_str) (dw_and1 (dt_lt (d_var 3) d_int))))
    (dss_one (ds_ret [] (d_if (dt_eq hu (d_var 3) d_int) (d_mkC 0 M_BadText (hr.mono hk) (mk_pos (da_cons (d_var 1) (da_cons (d_var 2) da_nil)))) (d_mkC 1 M_BadText (hr.mono hk) (mk_kw (ks := ["line", "why"]) (dk_cons (d_var 1) (dk_cons (d_var 2) dk_nil)))))))
    dss_nil)
    (dss_cons (ds_if [] (dt_eq hu (d_var 0) d_str)
    (dss_one (ds_ret [] (d_if (dt_eq hu (d_var 3) d_int) (d_mkC 2 M_BadText (hr.mono hk) (mk_kw (ks := ["why", "line"]) (dk_cons (d_var 2) (dk_cons (d_var 1) dk_nil)))) (d_mkC 3 M_BadText (hr.mono hk) (mk_both (ks := ["why"]) (da_cons (d_var 1) da_nil) (dk_cons (d_var 2) dk_nil))))))
    dss_nil)
    (dss_cons (ds_if [] (DW.t (dw_and (dt_eq hu (d_var 0) d_str) (dw_and1 (dt_lt (d_var 3) d_int))))
    (dss_one (ds_ret [] (d_if (dt_eq hu (d_var 3) d_int) (d_mkC 0 M_UnlikeParts (hr.mono hk) (mk_pos (da_cons (d_var 1) (da_cons (d_var 2) da_nil)))) (d_mkC 1 M_UnlikeParts (hr.mono hk) (mk_kw (ks := ["one", "other"]) (dk_cons (d_var 1) (dk_cons (d_var 2) dk_nil)))))))
    dss_nil)
    (dss_cons (ds_if [] (dt_eq hu (d_var 0) d_str)
    (dss_one (ds_ret [] (d_if (dt_eq hu (d_var 3) d_int) (d_mkC 2 M_UnlikeParts (hr.mono hk) (mk_kw (ks := ["other", "one"]) (dk_cons (d_var 2) (dk_cons (d_var 1) dk_nil)))) (d_mkC 3 M_UnlikeParts (hr.mono hk) (mk_both (ks := ["other"]) (da_cons (d_var 1) da_nil) (dk_cons (d_var 2) dk_nil))))))
    dss_nil)
    (dss_cons (ds_if [] (DW.t (dw_and (dt_eq hu (d_var 0) d_str) (dw_and1 (dt_lt (d_var 3) d_int))))
    (dss_one (ds_ret [] (d_if (dt_eq hu (d_var 3) d_int) (d_mkC 0 M_UnlikeTapes (hr.mono hk) (mk_pos (da_cons (d_var 1) (da_cons (d_var 2) da_nil)))) (d_mkC 1 M_UnlikeTapes (hr.mono hk) (mk_kw (ks := ["one", "other"]) (dk_cons (d_var 1) (dk_cons (d_var 2) dk_nil)))))))
    dss_nil)
    (dss_cons (ds_if [] (dt_eq hu (d_var 0) d_str)
    (dss_one (ds_ret [] (d_if (dt_eq hu (d_var 3) d_int) (d_mkC 2 M_UnlikeTapes (hr.mono hk) (mk_kw (ks := ["other", "one"]) (dk_cons (d_var 2) (dk_cons (d_var 1) dk_nil)))) (d_mkC 3 M_UnlikeTapes (hr.mono hk) (mk_both (ks := ["other"]) (da_cons (d_var 1) da_nil) (dk_cons (d_var 2) dk_nil))))))
    dss_nil)
    (dss_cons (ds_if [] (DW.t (dw_and (dt_eq hu (d_var 0) d_str) (dw_and1 (dt_lt (d_var 3) d_int))))
    (dss_one (ds_ret [] (d_if (dt_eq hu (d_var 3) d_int) (d_mkC 0 M_TooMany (hr.mono hk) (mk_pos (da_cons (d_var 1) (da_cons (d_var 2) da_nil)))) (d_mkC 1 M_TooMany (hr.mono hk) (mk_kw (ks := ["what", "found"]) (dk_cons (d_var 1) (dk_cons (d_var 2) dk_nil)))))))
    dss_nil)
    (dss_cons (ds_if [] (dt_eq hu (d_var 0) d_str)
    (dss_one (ds_ret [] (d_if (dt_eq hu (d_var 3) d_int) (d_mkC 2 M_TooMany (hr.mono hk) (mk_kw (ks := ["found", "what"]) (dk_cons (d_var 2) (dk_cons (d_var 1) dk_nil)))) (d_mkC 3 M_TooMany (hr.mono hk) (mk_both (ks := ["found"]) (da_cons (d_var 1) da_nil) (dk_cons (d_var 2) dk_nil))))))
    dss_nil)
    (dss_cons (ds_if [] (DW.t (dw_and (dt_eq hu (d_var 0) d_str) (dw_and1 (dt_lt (d_var 3) d_int))))
    (dss_one (ds_ret [] (d_if (dt_eq hu (d_var 3) d_int) (d_mkC 0 M_CantAnswer (hr.mono hk) (mk_pos (da_cons (d_var 1) (da_cons (d_var 2) da_nil)))) (d_mkC 1 M_CantAnswer (hr.mono hk) (mk_kw (ks := ["at", "run"]) (dk_cons (d_var 1) (dk_cons (d_var 2) dk_nil)))))))
    dss_nil)
    (dss_cons (ds_if [] (dt_eq hu (d_var 0) d_str)
    (dss_one (ds_ret [] (d_if (dt_eq hu (d_var 3) d_int) (d_mkC 2 M_CantAnswer (hr.mono hk) (mk_kw (ks := ["run", "at"]) (dk_cons (d_var 2) (dk_cons (d_var 1) dk_nil)))) (d_mkC 3 M_CantAnswer (hr.mono hk) (mk_both (ks := ["run"]) (da_cons (d_var 1) da_nil) (dk_cons (d_var 2) dk_nil))))))
    dss_nil)
    (dss_one (ds_ret [] d_non))))))))))))
theorem ok__law_two {P : Program} {w : World} {K : PySem.W.Frag} {mg : Str → Option Value} {base : Heap} {k : Nat} (e : En K mg) (M_BadText : MkC P w K mg base "BadText" "BadText" ["line", "why"]) (M_UnlikeParts : MkC P w K mg base "UnlikeParts" "UnlikeParts" ["one", "other"]) (M_UnlikeTapes : MkC P w K mg base "UnlikeTapes" "UnlikeTapes" ["one", "other"]) (M_TooMany : MkC P w K mg base "TooMany" "TooMany" ["what", "found"]) (M_CantAnswer : MkC P w K mg base "CantAnswer" "CantAnswer" ["at", "run"]) (hk : 2 ≤ k) {c : DC} (len : ∀ β ds Q E, c β ds Q E → ds.length = 4) (h : Keeps (td__law_two K ) ["pick", "a", "b", "way"] c) : OkD P w K mg base (k + 1) "_law_two" ["pick", "a", "b", "way"] c := by
  obtain ⟨fd, F⟩ := e.d__law_two
  exact okD_of e.g__law_two F (F.binds fun _ _ _ _ _ _ us hl => match us, hl with | [_, _, _, _], _ => rfl) sc__law_two (w__law_two e M_BadText M_UnlikeParts M_UnlikeTapes M_TooMany M_CantAnswer hk) len h
theorem sc__law_one : FnScope ["pick", "a", "way"] ["pick", "a", "way"] (defScope (top 33)) := ⟨rfl, rfl, rfl, by decide +kernel, rfl, by decide +kernel, by decide +kernel⟩
def td__law_one (K : PySem.W.Frag)  (β : Addr) : TDS :=
    (ySeq (yIf [] (xTest (xOp (dEq false) (xVar 0) (xC (.str "BadName"))))
    (yRet [] (xIf (xTest (xOp dLt (xVar 2) (xC (.int 2)))) (xMkx "BadName" "BadName" ["name"] [0] 1 (xLen 1 (xCons (xVar 1) xNil))) (xMkx "BadName" "BadName" ["name"] [0] 1 (xLen 1 (xCons (xVar 1) xNil)))))
    yNext)
    (ySeq (yIf [] (xTest (xOp (dEq false) (xVar 0) (xC (.str "BadLetters"))))
    (yRet [] (xIf (xTest (xOp dLt (xVar 2) (xC (.int 2)))) (xMkx "BadLetters" "BadLetters" ["at"] [0] 1 (xLen 1 (xCons (xVar 1) xNil))) (xMkx "BadLetters" "BadLetters" ["at"] [0] 1 (xLen 1 (xCons (xVar 1) xNil)))))
    yNext)
    (ySeq (yIf [] (xTest (xOp (dEq false) (xVar 0) (xC (.str "BadRun"))))
    (yRet [] (xIf (xTest (xOp dLt (xVar 2) (xC (.int 2)))) (xMkx "BadRun" "BadRun" ["at"] [0] 1 (xLen 1 (xCons (xVar 1) xNil))) (xMkx "BadRun" "BadRun" ["at"] [0] 1 (xLen 1 (xCons (xVar 1) xNil)))))
    yNext)
    (ySeq (yIf [] (xTest (xOp (dEq false) (xVar 0) (xC (.str "BadColumn"))))
    (yRet [] (xIf (xTest (xOp dLt (xVar 2) (xC (.int 2)))) (xMkx "BadColumn" "BadColumn" ["column"] [0] 1 (xLen 1 (xCons (xVar 1) xNil))) (xMkx "BadColumn" "BadColumn" ["column"] [0] 1 (xLen 1 (xCons (xVar 1) xNil)))))
    yNext)
    (ySeq (yIf [] (xTest (xOp (dEq false) (xVar 0) (xC (.str "BadNumber"))))
    (yRet [] (xIf (xTest (xOp dLt (xVar 2) (xC (.int 2)))) (xMkx "BadNumber" "BadNumber" ["value"] [0] 1 (xLen 1 (xCons (xVar 1) xNil))) (xMkx "BadNumber" "BadNumber" ["value"] [0] 1 (xLen 1 (xCons (xVar 1) xNil)))))
    yNext)
    (ySeq (yIf [] (xTest (xOp (dEq false) (xVar 0) (xC (.str "BadTable"))))
    (yRet [] (xIf (xTest (xOp dLt (xVar 2) (xC (.int 2)))) (xMkx "BadTable" "BadTable" ["at"] [0] 1 (xLen 1 (xCons (xVar 1) xNil))) (xMkx "BadTable" "BadTable" ["at"] [0] 1 (xLen 1 (xCons (xVar 1) xNil)))))
    yNext)
    (ySeq (yIf [] (xTest (xOp (dEq false) (xVar 0) (xC (.str "HeldTwice"))))
    (yRet [] (xIf (xTest (xOp dLt (xVar 2) (xC (.int 2)))) (xMkx "HeldTwice" "HeldTwice" ["item"] [0] 1 (xLen 1 (xCons (xVar 1) xNil))) (xMkx "HeldTwice" "HeldTwice" ["item"] [0] 1 (xLen 1 (xCons (xVar 1) xNil)))))
    yNext)
    (ySeq (yIf [] (xTest (xOp (dEq false) (xVar 0) (xC (.str "BreaksBeside"))))
    (yRet [] (xIf (xTest (xOp dLt (xVar 2) (xC (.int 2)))) (xMkx "BreaksBeside" "BreaksBeside" ["lot"] [0] 1 (xLen 1 (xCons (xVar 1) xNil))) (xMkx "BreaksBeside" "BreaksBeside" ["lot"] [0] 1 (xLen 1 (xCons (xVar 1) xNil)))))
    yNext)
    (ySeq (yIf [] (xTest (xOp (dEq false) (xVar 0) (xC (.str "NotSo"))))
    (yRet [] (xIf (xTest (xOp dLt (xVar 2) (xC (.int 2)))) (xMkx "NotSo" "NotSo" ["lot"] [0] 1 (xLen 1 (xCons (xVar 1) xNil))) (xMkx "NotSo" "NotSo" ["lot"] [0] 1 (xLen 1 (xCons (xVar 1) xNil)))))
    yNext)
    (ySeq (yIf [] (xTest (xOp (dEq false) (xVar 0) (xC (.str "NotEnough"))))
    (yRet [] (xIf (xTest (xOp dLt (xVar 2) (xC (.int 2)))) (xMkx "NotEnough" "NotEnough" ["lot"] [0] 1 (xLen 1 (xCons (xVar 1) xNil))) (xMkx "NotEnough" "NotEnough" ["lot"] [0] 1 (xLen 1 (xCons (xVar 1) xNil)))))
    yNext)
    (ySeq (yIf [] (xTest (xOp (dEq false) (xVar 0) (xC (.str "EndedRun"))))
    (yRet [] (xIf (xTest (xOp dLt (xVar 2) (xC (.int 2)))) (xMkx "EndedRun" "EndedRun" ["at"] [0] 1 (xLen 1 (xCons (xVar 1) xNil))) (xMkx "EndedRun" "EndedRun" ["at"] [0] 1 (xLen 1 (xCons (xVar 1) xNil)))))
    yNext)
    (ySeq (yIf [] (xTest (xOp (dEq false) (xVar 0) (xC (.str "UnknownPart"))))
    (yRet [] (xIf (xTest (xOp dLt (xVar 2) (xC (.int 2)))) (xMkx "UnknownPart" "UnknownPart" ["name"] [0] 1 (xLen 1 (xCons (xVar 1) xNil))) (xMkx "UnknownPart" "UnknownPart" ["name"] [0] 1 (xLen 1 (xCons (xVar 1) xNil)))))
    yNext)
    (ySeq (yIf [] (xTest (xOp (dEq false) (xVar 0) (xC (.str "UnknownName"))))
    (yRet [] (xIf (xTest (xOp dLt (xVar 2) (xC (.int 2)))) (xMkx "UnknownName" "UnknownName" ["name"] [0] 1 (xLen 1 (xCons (xVar 1) xNil))) (xMkx "UnknownName" "UnknownName" ["name"] [0] 1 (xLen 1 (xCons (xVar 1) xNil)))))
    yNext)
    (ySeq (yIf [] (xTest (xOp (dEq false) (xVar 0) (xC (.str "UnknownRun"))))
    (yRet [] (xIf (xTest (xOp dLt (xVar 2) (xC (.int 2)))) (xMkx "UnknownRun" "UnknownRun" ["at"] [0] 1 (xLen 1 (xCons (xVar 1) xNil))) (xMkx "UnknownRun" "UnknownRun" ["at"] [0] 1 (xLen 1 (xCons (xVar 1) xNil)))))
    yNext)
    (ySeq (yIf [] (xTest (xOp (dEq false) (xVar 0) (xC (.str "NotHeld"))))
    (yRet [] (xIf (xTest (xOp dLt (xVar 2) (xC (.int 2)))) (xMkx "NotHeld" "NotHeld" ["run"] [0] 1 (xLen 1 (xCons (xVar 1) xNil))) (xMkx "NotHeld" "NotHeld" ["run"] [0] 1 (xLen 1 (xCons (xVar 1) xNil)))))
    yNext)
    (yRet [] (xC .non)))))))))))))))))
theorem w__law_one {P : Program} {w : World} {K : PySem.W.Frag} {mg : Str → Option Value} {base : Heap} {k : Nat} (e : En K mg) (M_BadName : MkC P w K mg base "BadName" "BadName" ["name"]) (M_BadLetters : MkC P w K mg base "BadLetters" "BadLetters" ["at"]) (M_BadRun : MkC P w K mg base "BadRun" "BadRun" ["at"]) (M_BadColumn : MkC P w K mg base "BadColumn" "BadColumn" ["column"]) (M_BadNumber : MkC P w K mg base "BadNumber" "BadNumber" ["value"]) (M_BadTable : MkC P w K mg base "BadTable" "BadTable" ["at"]) (M_HeldTwice : MkC P w K mg base "HeldTwice" "HeldTwice" ["item"]) (M_BreaksBeside : MkC P w K mg base "BreaksBeside" "BreaksBeside" ["lot"]) (M_NotSo : MkC P w K mg base "NotSo" "NotSo" ["lot"]) (M_NotEnough : MkC P w K mg base "NotEnough" "NotEnough" ["lot"]) (M_EndedRun : MkC P w K mg base "EndedRun" "EndedRun" ["at"]) (M_UnknownPart : MkC P w K mg base "UnknownPart" "UnknownPart" ["name"]) (M_UnknownName : MkC P w K mg base "UnknownName" "UnknownName" ["name"]) (M_UnknownRun : MkC P w K mg base "UnknownRun" "UnknownRun" ["at"]) (M_NotHeld : MkC P w K mg base "NotHeld" "NotHeld" ["run"]) (hk : 2 ≤ k) : BodyD P w K mg base k "_law_one" (top 33) (He.ga K "_law_one") ["pick", "a", "way"] (td__law_one K ) := by
  intro cdv A outer s p E hr
  have hu := hr.units
  have hrN := L2H.roomH_of hr
  exact (dss_cons (ds_if [] (dt_eq hu (d_var 0) d_str)
    (dss_one (ds_ret [] (d_if (dt_lt (d_var 2) d_int) (d_mkC 0 M_BadName (hr.mono hk) (mk_pos (da_cons (d_var 1) da_nil))) (d_mkC 1 M_BadName (hr.mono hk) (mk_kw (ks := ["name"]) (dk_cons (d_var 1) dk_nil))))))
    dss_nil)
    (dss_cons (ds_if [] (dt_eq hu (d_var 0) d_str)
    (dss_one (ds_ret [] (d_if (dt_lt (d_var 2) d_int) (d_mkC 0 M_BadLetters (hr.mono hk) (mk_pos (da_cons (d_var 1) da_nil))) (d_mkC 1 M_BadLetters (hr.mono hk) (mk_kw (ks := ["at"]) (dk_cons (d_var 1) dk_nil))))))
    dss_nil)
    (dss_cons (ds_if [] (dt_eq hu (d_var 0) d_str)
    (dss_one (ds_ret [] (d_if (dt_lt (d_var 2) d_int) (d_mkC 0 M_BadRun (hr.mono hk) (mk_pos (da_cons (d_var 1) da_nil))) (d_mkC 1 M_BadRun (hr.mono hk) (mk_kw (ks := ["at"]) (dk_cons (d_var 1) dk_nil))))))
    dss_nil)
    (dss_cons (ds_if [] (dt_eq hu (d_var 0) d_str)
    (dss_one (ds_ret [] (d_if (dt_lt (d_var 2) d_int) (d_mkC 0 M_BadColumn (hr.mono hk) (mk_pos (da_cons (d_var 1) da_nil))) (d_mkC 1 M_BadColumn (hr.mono hk) (mk_kw (ks := ["column"]) (dk_cons (d_var 1) dk_nil))))))
    dss_nil)
    (dss_cons (ds_if [] (dt_eq hu (d_var 0) d_str)
    (dss_one (ds_ret [] (d_if (dt_lt (d_var 2) d_int) (d_mkC 0 M_BadNumber (hr.mono hk) (mk_pos (da_cons (d_var 1) da_nil))) (d_mkC 1 M_BadNumber (hr.mono hk) (mk_kw (ks := ["value"]) (dk_cons (d_var 1) dk_nil))))))
    dss_nil)
    (dss_cons (ds_if [] (dt_eq hu (d_var 0) d_str)
    (dss_one (ds_ret [] (d_if (dt_lt (d_var 2) d_int) (d_mkC 0 M_BadTable (hr.mono hk) (mk_pos (da_cons (d_var 1) da_nil))) (d_mkC 1 M_BadTable (hr.mono hk) (mk_kw (ks := ["at"]) (dk_cons (d_var 1) dk_nil))))))
    dss_nil)
    (dss_cons (ds_if [] (dt_eq hu (d_var 0) d_str)
    (dss_one (ds_ret [] (d_if (dt_lt (d_var 2) d_int) (d_mkC 0 M_HeldTwice (hr.mono hk) (mk_pos (da_cons (d_var 1) da_nil))) (d_mkC 1 M_HeldTwice (hr.mono hk) (mk_kw (ks := ["item"]) (dk_cons (d_var 1) dk_nil))))))
    dss_nil)
    (dss_cons (ds_if [] (dt_eq hu (d_var 0) d_str)
    (dss_one (ds_ret [] (d_if (dt_lt (d_var 2) d_int) (d_mkC 0 M_BreaksBeside (hr.mono hk) (mk_pos (da_cons (d_var 1) da_nil))) (d_mkC 1 M_BreaksBeside (hr.mono hk) (mk_kw (ks := ["lot"]) (dk_cons (d_var 1) dk_nil))))))
    dss_nil)
    (dss_cons (ds_if [] (dt_eq hu (d_var 0) d_str)
    (dss_one (ds_ret [] (d_if (dt_lt (d_var 2) d_int) (d_mkC 0 M_NotSo (hr.mono hk) (mk_pos (da_cons (d_var 1) da_nil))) (d_mkC 1 M_NotSo (hr.mono hk) (mk_kw (ks := ["lot"]) (dk_cons (d_var 1) dk_nil))))))
    dss_nil)
    (dss_cons (ds_if [] (dt_eq hu (d_var 0) d_str)
    (dss_one (ds_ret [] (d_if (dt_lt (d_var 2) d_int) (d_mkC 0 M_NotEnough (hr.mono hk) (mk_pos (da_cons (d_var 1) da_nil))) (d_mkC 1 M_NotEnough (hr.mono hk) (mk_kw (ks := ["lot"]) (dk_cons (d_var 1) dk_nil))))))
    dss_nil)
    (dss_cons (ds_if [] (dt_eq hu (d_var 0) d_str)
    (dss_one (ds_ret [] (d_if (dt_lt (d_var 2) d_int) (d_mkC 0 M_EndedRun (hr.mono hk) (mk_pos (da_cons (d_var 1) da_nil))) (d_mkC 1 M_EndedRun (hr.mono hk) (mk_kw (ks := ["at"]) (dk_cons (d_var 1) dk_nil))))))
    dss_nil)
    (dss_cons (ds_if [] (dt_eq hu (d_var 0) d_str)
    (dss_one (ds_ret [] (d_if (dt_lt (d_var 2) d_int) (d_mkC 0 M_UnknownPart (hr.mono hk) (mk_pos (da_cons (d_var 1) da_nil))) (d_mkC 1 M_UnknownPart (hr.mono hk) (mk_kw (ks := ["name"]) (dk_cons (d_var 1) dk_nil))))))
    dss_nil)
    (dss_cons (ds_if [] (dt_eq hu (d_var 0) d_str)
    (dss_one (ds_ret [] (d_if (dt_lt (d_var 2) d_int) (d_mkC 0 M_UnknownName (hr.mono hk) (mk_pos (da_cons (d_var 1) da_nil))) (d_mkC 1 M_UnknownName (hr.mono hk) (mk_kw (ks := ["name"]) (dk_cons (d_var 1) dk_nil))))))
    dss_nil)
    (dss_cons (ds_if [] (dt_eq hu (d_var 0) d_str)
    (dss_one (ds_ret [] (d_if (dt_lt (d_var 2) d_int) (d_mkC 0 M_UnknownRun (hr.mono hk) (mk_pos (da_cons (d_var 1) da_nil))) (d_mkC 1 M_UnknownRun (hr.mono hk) (mk_kw (ks := ["at"]) (dk_cons (d_var 1) dk_nil))))))
    dss_nil)
    (dss_cons (ds_if [] (dt_eq hu (d_var 0) d_str)
    (dss_one (ds_ret [] (d_if (dt_lt (d_var 2) d_int) (d_mkC 0 M_NotHeld (hr.mono hk) (mk_pos (da_cons (d_var 1) da_nil))) (d_mkC 1 M_NotHeld (hr.mono hk) (mk_kw (ks := ["run"]) (dk_cons (d_var 1) dk_nil))))))
    dss_nil)
    (dss_one (ds_ret [] d_non)))))))))))))))))
theorem ok__law_one {P : Program} {w : World} {K : PySem.W.Frag} {mg : Str → Option Value} {base : Heap} {k : Nat} (e : En K mg) (M_BadName : MkC P w K mg base "BadName" "BadName" ["name"]) (M_BadLetters : MkC P w K mg base "BadLetters" "BadLetters" ["at"]) (M_BadRun : MkC P w K mg base "BadRun" "BadRun" ["at"]) (M_BadColumn : MkC P w K mg base "BadColumn" "BadColumn" ["column"]) (M_BadNumber : MkC P w K mg base "BadNumber" "BadNumber" ["value"]) (M_BadTable : MkC P w K mg base "BadTable" "BadTable" ["at"]) (M_HeldTwice : MkC P w K mg base "HeldTwice" "HeldTwice" ["item"]) (M_BreaksBeside : MkC P w K mg base "BreaksBeside" "BreaksBeside" ["lot"]) (M_NotSo : MkC P w K mg base "NotSo" "NotSo" ["lot"]) (M_NotEnough : MkC P w K mg base "NotEnough" "NotEnough" ["lot"]) (M_EndedRun : MkC P w K mg base "EndedRun" "EndedRun" ["at"]) (M_UnknownPart : MkC P w K mg base "UnknownPart" "UnknownPart" ["name"]) (M_UnknownName : MkC P w K mg base "UnknownName" "UnknownName" ["name"]) (M_UnknownRun : MkC P w K mg base "UnknownRun" "UnknownRun" ["at"]) (M_NotHeld : MkC P w K mg base "NotHeld" "NotHeld" ["run"]) (hk : 2 ≤ k) {c : DC} (len : ∀ β ds Q E, c β ds Q E → ds.length = 3) (h : Keeps (td__law_one K ) ["pick", "a", "way"] c) : OkD P w K mg base (k + 1) "_law_one" ["pick", "a", "way"] c := by
  obtain ⟨fd, F⟩ := e.d__law_one
  exact okD_of e.g__law_one F (F.binds fun _ _ _ _ _ _ us hl => match us, hl with | [_, _, _], _ => rfl) sc__law_one (w__law_one e M_BadName M_BadLetters M_BadRun M_BadColumn M_BadNumber M_BadTable M_HeldTwice M_BreaksBeside M_NotSo M_NotEnough M_EndedRun M_UnknownPart M_UnknownName M_UnknownRun M_NotHeld hk) len h
theorem sc__law_made : FnScope ["pick", "a", "b", "way"] ["pick", "a", "b", "way"] (defScope (top 34)) := ⟨rfl, rfl, rfl, by decide +kernel, rfl, by decide +kernel, by decide +kernel⟩
def td__law_made (K : PySem.W.Frag) (c__law_two : DC) (c__law_one : DC) (β : Addr) : TDS :=
    (ySeq (yIf [] (xTest (xOp (dIn false) (xVar 0) (xTup (xCons (xC (.str "BadText")) (xCons (xC (.str "UnlikeParts")) (xCons (xC (.str "UnlikeTapes")) (xCons (xC (.str "TooMany")) (xCons (xC (.str "CantAnswer")) xNil))))))))
    (yRet [] (xFn β c__law_two (xCons (xVar 0) (xCons (xVar 1) (xCons (xVar 2) (xCons (xVar 3) xNil))))))
    yNext)
    (ySeq (yIf [] (xTest (xOp (dEq false) (xVar 0) (xC (.str "BadDeed"))))
    (yRet [] (xMkx "BadDeed" "BadDeed" [] [] 0 xNil))
    yNext)
    (ySeq (yIf [] (xTest (xOp (dEq false) (xVar 0) (xC (.str "NoDraft"))))
    (yRet [] (xMkx "NoDraft" "NoDraft" [] [] 0 xNil))
    yNext)
    (ySeq (yIf [] (xTest (xOp (dEq false) (xVar 0) (xC (.str "InDraft"))))
    (yRet [] (xMkx "InDraft" "InDraft" [] [] 0 xNil))
    yNext)
    (ySeq (yIf [] (xTest (xOp (dEq false) (xVar 0) (xC (.str "NothingLeft"))))
    (yRet [] (xMkx "NothingLeft" "NothingLeft" [] [] 0 xNil))
    yNext)
    (yRet [] (xFn β c__law_one (xCons (xVar 0) (xCons (xVar 1) (xCons (xVar 3) xNil))))))))))
theorem w__law_made {P : Program} {w : World} {K : PySem.W.Frag} {mg : Str → Option Value} {base : Heap} {k : Nat} (e : En K mg) {c__law_two : DC} (O__law_two : OkD P w K mg base k "_law_two" ["pick", "a", "b", "way"] c__law_two) {c__law_one : DC} (O__law_one : OkD P w K mg base k "_law_one" ["pick", "a", "way"] c__law_one) (M_BadDeed : MkC P w K mg base "BadDeed" "BadDeed" []) (M_NoDraft : MkC P w K mg base "NoDraft" "NoDraft" []) (M_InDraft : MkC P w K mg base "InDraft" "InDraft" []) (M_NothingLeft : MkC P w K mg base "NothingLeft" "NothingLeft" []) (hk : 2 ≤ k) : BodyD P w K mg base k "_law_made" (top 34) (He.ga K "_law_made") ["pick", "a", "b", "way"] (td__law_made K c__law_two c__law_one) := by
  intro cdv A outer s p E hr
  have hu := hr.units
  have hrN := L2H.roomH_of hr
  exact (dss_cons (ds_if [] (dt_cmp op_in_seq (r_in false) rfl (d_var 0) (d_tup (da_cons d_str (da_cons d_str (da_cons d_str (da_cons d_str (da_cons d_str da_nil)))))))
    (dss_one (ds_ret [] (d_callO O__law_two hr (takes_of rfl rfl rfl rfl) (da_cons (d_var 0) (da_cons (d_var 1) (da_cons (d_var 2) (da_cons (d_var 3) da_nil)))))))
    dss_nil)
    (dss_cons (ds_if [] (dt_eq hu (d_var 0) d_str)
    (dss_one (ds_ret [] (d_mkC 0 M_BadDeed (hr.mono hk) dmk_nil)))
    dss_nil)
    (dss_cons (ds_if [] (dt_eq hu (d_var 0) d_str)
    (dss_one (ds_ret [] (d_mkC 0 M_NoDraft (hr.mono hk) dmk_nil)))
    dss_nil)
    (dss_cons (ds_if [] (dt_eq hu (d_var 0) d_str)
    (dss_one (ds_ret [] (d_mkC 0 M_InDraft (hr.mono hk) dmk_nil)))
    dss_nil)
    (dss_cons (ds_if [] (dt_eq hu (d_var 0) d_str)
    (dss_one (ds_ret [] (d_mkC 0 M_NothingLeft (hr.mono hk) dmk_nil)))
    dss_nil)
    (dss_one (ds_ret [] (d_callO O__law_one hr (takes_of rfl rfl rfl rfl) (da_cons (d_var 0) (da_cons (d_var 1) (da_cons (d_var 3) da_nil)))))))))))
theorem ok__law_made {P : Program} {w : World} {K : PySem.W.Frag} {mg : Str → Option Value} {base : Heap} {k : Nat} (e : En K mg) {c__law_two : DC} (O__law_two : OkD P w K mg base k "_law_two" ["pick", "a", "b", "way"] c__law_two) {c__law_one : DC} (O__law_one : OkD P w K mg base k "_law_one" ["pick", "a", "way"] c__law_one) (M_BadDeed : MkC P w K mg base "BadDeed" "BadDeed" []) (M_NoDraft : MkC P w K mg base "NoDraft" "NoDraft" []) (M_InDraft : MkC P w K mg base "InDraft" "InDraft" []) (M_NothingLeft : MkC P w K mg base "NothingLeft" "NothingLeft" []) (hk : 2 ≤ k) {c : DC} (len : ∀ β ds Q E, c β ds Q E → ds.length = 4) (h : Keeps (td__law_made K c__law_two c__law_one) ["pick", "a", "b", "way"] c) : OkD P w K mg base (k + 1) "_law_made" ["pick", "a", "b", "way"] c := by
  obtain ⟨fd, F⟩ := e.d__law_made
  exact okD_of e.g__law_made F (F.binds fun _ _ _ _ _ _ us hl => match us, hl with | [_, _, _, _], _ => rfl) sc__law_made (w__law_made e O__law_two O__law_one M_BadDeed M_NoDraft M_InDraft M_NothingLeft hk) len h
theorem sc__law_values : FnScope ["pick", "error", "code"] ["pick", "error"] (defScope (top 35)) := ⟨rfl, rfl, rfl, by decide +kernel, rfl, by decide +kernel, by decide +kernel⟩
def td__law_values (K : PySem.W.Frag)  (β : Addr) : TDS :=
    (ySeq (ySet [] 2 (xLst (xCons (xXat oxt "code" (xVar 1)) xNil)))
    (ySeq (yIf [] (xTest (xOp (dEq false) (xVar 0) (xC (.str "BadText"))))
    (yRet [] (xOp dAdd (xVar 2) (xLst (xCons (xXat oxt "line" (xVar 1)) (xCons (xXat oxt "why" (xVar 1)) xNil)))))
    yNext)
    (ySeq (yIf [] (xTest (xOp (dEq false) (xVar 0) (xC (.str "UnlikeParts"))))
    (yRet [] (xOp dAdd (xVar 2) (xLst (xCons (xXat oxt "one" (xVar 1)) (xCons (xXat oxt "other" (xVar 1)) xNil)))))
    yNext)
    (ySeq (yIf [] (xTest (xOp (dEq false) (xVar 0) (xC (.str "UnlikeTapes"))))
    (yRet [] (xOp dAdd (xVar 2) (xLst (xCons (xXat oxt "one" (xVar 1)) (xCons (xXat oxt "other" (xVar 1)) xNil)))))
    yNext)
    (ySeq (yIf [] (xTest (xOp (dEq false) (xVar 0) (xC (.str "TooMany"))))
    (yRet [] (xOp dAdd (xVar 2) (xLst (xCons (xXat oxt "what" (xVar 1)) (xCons (xXat oxt "found" (xVar 1)) xNil)))))
    yNext)
    (ySeq (yIf [] (xTest (xOp (dEq false) (xVar 0) (xC (.str "CantAnswer"))))
    (yRet [] (xOp dAdd (xVar 2) (xLst (xCons (xXat oxt "at" (xVar 1)) (xCons (xXat oxt "run" (xVar 1)) xNil)))))
    yNext)
    (ySeq (yIf [] (xTest (xOp (dEq false) (xVar 0) (xC (.str "BadName"))))
    (yRet [] (xOp dAdd (xVar 2) (xLst (xCons (xXat oxt "name" (xVar 1)) xNil))))
    yNext)
    (ySeq (yIf [] (xTest (xOp (dEq false) (xVar 0) (xC (.str "BadLetters"))))
    (yRet [] (xOp dAdd (xVar 2) (xLst (xCons (xXat oxt "at" (xVar 1)) xNil))))
    yNext)
    (ySeq (yIf [] (xTest (xOp (dEq false) (xVar 0) (xC (.str "BadRun"))))
    (yRet [] (xOp dAdd (xVar 2) (xLst (xCons (xXat oxt "at" (xVar 1)) xNil))))
    yNext)
    (ySeq (yIf [] (xTest (xOp (dEq false) (xVar 0) (xC (.str "BadColumn"))))
    (yRet [] (xOp dAdd (xVar 2) (xLst (xCons (xXat oxt "column" (xVar 1)) xNil))))
    yNext)
    (ySeq (yIf [] (xTest (xOp (dEq false) (xVar 0) (xC (.str "BadNumber"))))
    (yRet [] (xOp dAdd (xVar 2) (xLst (xCons (xXat oxt "value" (xVar 1)) xNil))))
    yNext)
    (ySeq (yIf [] (xTest (xOp (dEq false) (xVar 0) (xC (.str "BadTable"))))
    (yRet [] (xOp dAdd (xVar 2) (xLst (xCons (xXat oxt "at" (xVar 1)) xNil))))
    yNext)
    (ySeq (yIf [] (xTest (xOp (dEq false) (xVar 0) (xC (.str "HeldTwice"))))
    (yRet [] (xOp dAdd (xVar 2) (xLst (xCons (xXat oxt "item" (xVar 1)) xNil))))
    yNext)
    (ySeq (yIf [] (xTest (xOp (dEq false) (xVar 0) (xC (.str "BreaksBeside"))))
    (yRet [] (xOp dAdd (xVar 2) (xLst (xCons (xXat oxt "lot" (xVar 1)) xNil))))
    yNext)
    (ySeq (yIf [] (xTest (xOp (dEq false) (xVar 0) (xC (.str "NotSo"))))
    (yRet [] (xOp dAdd (xVar 2) (xLst (xCons (xXat oxt "lot" (xVar 1)) xNil))))
    yNext)
    (ySeq (yIf [] (xTest (xOp (dEq false) (xVar 0) (xC (.str "NotEnough"))))
    (yRet [] (xOp dAdd (xVar 2) (xLst (xCons (xXat oxt "lot" (xVar 1)) xNil))))
    yNext)
    (ySeq (yIf [] (xTest (xOp (dEq false) (xVar 0) (xC (.str "EndedRun"))))
    (yRet [] (xOp dAdd (xVar 2) (xLst (xCons (xXat oxt "at" (xVar 1)) xNil))))
    yNext)
    (ySeq (yIf [] (xTest (xOp (dEq false) (xVar 0) (xC (.str "UnknownPart"))))
    (yRet [] (xOp dAdd (xVar 2) (xLst (xCons (xXat oxt "name" (xVar 1)) xNil))))
    yNext)
    (ySeq (yIf [] (xTest (xOp (dEq false) (xVar 0) (xC (.str "UnknownName"))))
    (yRet [] (xOp dAdd (xVar 2) (xLst (xCons (xXat oxt "name" (xVar 1)) xNil))))
    yNext)
    (ySeq (yIf [] (xTest (xOp (dEq false) (xVar 0) (xC (.str "UnknownRun"))))
    (yRet [] (xOp dAdd (xVar 2) (xLst (xCons (xXat oxt "at" (xVar 1)) xNil))))
    yNext)
    (ySeq (yIf [] (xTest (xOp (dEq false) (xVar 0) (xC (.str "NotHeld"))))
    (yRet [] (xOp dAdd (xVar 2) (xLst (xCons (xXat oxt "run" (xVar 1)) xNil))))
    yNext)
    (yRet [] (xVar 2)))))))))))))))))))))))
theorem w__law_values {P : Program} {w : World} {K : PySem.W.Frag} {mg : Str → Option Value} {base : Heap} {k : Nat} (e : En K mg) : BodyN P w K mg base k "_law_values" (top 35) (He.ga K "_law_values") ["pick", "error", "code"] (td__law_values K ) := by
  intro cdv A outer s p E hr
  have hu := un64 hr
  exact (dss_cons (ds_set [] 2 sc__law_values.nd (d_lst (da_cons (d_xat (t := oxt) e.ox (d_var 1)) da_nil)))
    (dss_cons (ds_if [] (dt_eq hu (d_var 0) d_str)
    (dss_one (ds_ret [] (d_add (d_var 2) (d_lst (da_cons (d_xat (t := oxt) e.ox (d_var 1)) (da_cons (d_xat (t := oxt) e.ox (d_var 1)) da_nil))))))
    dss_nil)
    (dss_cons (ds_if [] (dt_eq hu (d_var 0) d_str)
    (dss_one (ds_ret [] (d_add (d_var 2) (d_lst (da_cons (d_xat (t := oxt) e.ox (d_var 1)) (da_cons (d_xat (t := oxt) e.ox (d_var 1)) da_nil))))))
    dss_nil)
    (dss_cons (ds_if [] (dt_eq hu (d_var 0) d_str)
    (dss_one (ds_ret [] (d_add (d_var 2) (d_lst (da_cons (d_xat (t := oxt) e.ox (d_var 1)) (da_cons (d_xat (t := oxt) e.ox (d_var 1)) da_nil))))))
    dss_nil)
    (dss_cons (ds_if [] (dt_eq hu (d_var 0) d_str)
    (dss_one (ds_ret [] (d_add (d_var 2) (d_lst (da_cons (d_xat (t := oxt) e.ox (d_var 1)) (da_cons (d_xat (t := oxt) e.ox (d_var 1)) da_nil))))))
    dss_nil)
    (dss_cons (ds_if [] (dt_eq hu (d_var 0) d_str)
    (dss_one (ds_ret [] (d_add (d_var 2) (d_lst (da_cons (d_xat (t := oxt) e.ox (d_var 1)) (da_cons (d_xat (t := oxt) e.ox (d_var 1)) da_nil))))))
    dss_nil)
    (dss_cons (ds_if [] (dt_eq hu (d_var 0) d_str)
    (dss_one (ds_ret [] (d_add (d_var 2) (d_lst (da_cons (d_xat (t := oxt) e.ox (d_var 1)) da_nil)))))
    dss_nil)
    (dss_cons (ds_if [] (dt_eq hu (d_var 0) d_str)
    (dss_one (ds_ret [] (d_add (d_var 2) (d_lst (da_cons (d_xat (t := oxt) e.ox (d_var 1)) da_nil)))))
    dss_nil)
    (dss_cons (ds_if [] (dt_eq hu (d_var 0) d_str)
    (dss_one (ds_ret [] (d_add (d_var 2) (d_lst (da_cons (d_xat (t := oxt) e.ox (d_var 1)) da_nil)))))
    dss_nil)
    (dss_cons (ds_if [] (dt_eq hu (d_var 0) d_str)
    (dss_one (ds_ret [] (d_add (d_var 2) (d_lst (da_cons (d_xat (t := oxt) e.ox (d_var 1)) da_nil)))))
    dss_nil)
    (dss_cons (ds_if [] (dt_eq hu (d_var 0) d_str)
    (dss_one (ds_ret [] (d_add (d_var 2) (d_lst (da_cons (d_xat (t := oxt) e.ox (d_var 1)) da_nil)))))
    dss_nil)
    (dss_cons (ds_if [] (dt_eq hu (d_var 0) d_str)
    (dss_one (ds_ret [] (d_add (d_var 2) (d_lst (da_cons (d_xat (t := oxt) e.ox (d_var 1)) da_nil)))))
    dss_nil)
    (dss_cons (ds_if [] (dt_eq hu (d_var 0) d_str)
    (dss_one (ds_ret [] (d_add (d_var 2) (d_lst (da_cons (d_xat (t := oxt) e.ox (d_var 1)) da_nil)))))
    dss_nil)
    (dss_cons (ds_if [] (dt_eq hu (d_var 0) d_str)
    (dss_one (ds_ret [] (d_add (d_var 2) (d_lst (da_cons (d_xat (t := oxt) e.ox (d_var 1)) da_nil)))))
    dss_nil)
    (dss_cons (ds_if [] (dt_eq hu (d_var 0) d_str)
    (dss_one (ds_ret [] (d_add (d_var 2) (d_lst (da_cons (d_xat (t := oxt) e.ox (d_var 1)) da_nil)))))
    dss_nil)
    (dss_cons (ds_if [] (dt_eq hu (d_var 0) d_str)
    (dss_one (ds_ret [] (d_add (d_var 2) (d_lst (da_cons (d_xat (t := oxt) e.ox (d_var 1)) da_nil)))))
    dss_nil)
    (dss_cons (ds_if [] (dt_eq hu (d_var 0) d_str)
    (dss_one (ds_ret [] (d_add (d_var 2) (d_lst (da_cons (d_xat (t := oxt) e.ox (d_var 1)) da_nil)))))
    dss_nil)
    (dss_cons (ds_if [] (dt_eq hu (d_var 0) d_str)
    (dss_one (ds_ret [] (d_add (d_var 2) (d_lst (da_cons (d_xat (t := oxt) e.ox (d_var 1)) da_nil)))))
    dss_nil)
    (dss_cons (ds_if [] (dt_eq hu (d_var 0) d_str)
    (dss_one (ds_ret [] (d_add (d_var 2) (d_lst (da_cons (d_xat (t := oxt) e.ox (d_var 1)) da_nil)))))
    dss_nil)
    (dss_cons (ds_if [] (dt_eq hu (d_var 0) d_str)
    (dss_one (ds_ret [] (d_add (d_var 2) (d_lst (da_cons (d_xat (t := oxt) e.ox (d_var 1)) da_nil)))))
    dss_nil)
    (dss_cons (ds_if [] (dt_eq hu (d_var 0) d_str)
    (dss_one (ds_ret [] (d_add (d_var 2) (d_lst (da_cons (d_xat (t := oxt) e.ox (d_var 1)) da_nil)))))
    dss_nil)
    (dss_one (ds_ret [] (d_var 2))))))))))))))))))))))))
theorem ok__law_values {P : Program} {w : World} {K : PySem.W.Frag} {mg : Str → Option Value} {base : Heap} {k : Nat} (e : En K mg) {c : DC} (len : ∀ β ds Q E, c β ds Q E → ds.length = 2) (h : Keeps (td__law_values K ) ["pick", "error", "code"] c) : OkN P w K mg base (k + 1) "_law_values" ["pick", "error"] c := by
  obtain ⟨fd, F⟩ := e.d__law_values
  exact okN_of e.g__law_values F (F.binds fun _ _ _ _ _ _ us hl => match us, hl with | [_, _], _ => rfl) sc__law_values (w__law_values e) len h
theorem sc__law_kinds : FnScope ["error", "some", "pair"] ["error"] (defScope (top 36)) := ⟨rfl, rfl, rfl, by decide +kernel, rfl, by decide +kernel, by decide +kernel⟩
def td__law_kinds (K : PySem.W.Frag)  (β : Addr) : TDS :=
    (ySeq (ySetLstO [] 1 xNil)
    (ySeq (yOM [] 1 oAppend (xCons (xTup (xCons (xC (.str "BadText")) (xCons (xCall (dIsi K oxt) (xCons (xVar 0) (xCons (xC (.adr (He.ga K "BadText"))) xNil))) xNil))) xNil))
    (ySeq (yOM [] 1 oAppend (xCons (xTup (xCons (xC (.str "UnlikeParts")) (xCons (xCall (dIsi K oxt) (xCons (xVar 0) (xCons (xC (.adr (He.ga K "UnlikeParts"))) xNil))) xNil))) xNil))
    (ySeq (yOM [] 1 oAppend (xCons (xTup (xCons (xC (.str "UnlikeTapes")) (xCons (xCall (dIsi K oxt) (xCons (xVar 0) (xCons (xC (.adr (He.ga K "UnlikeTapes"))) xNil))) xNil))) xNil))
    (ySeq (yOM [] 1 oAppend (xCons (xTup (xCons (xC (.str "TooMany")) (xCons (xCall (dIsi K oxt) (xCons (xVar 0) (xCons (xC (.adr (He.ga K "TooMany"))) xNil))) xNil))) xNil))
    (ySeq (yOM [] 1 oAppend (xCons (xTup (xCons (xC (.str "CantAnswer")) (xCons (xCall (dIsi K oxt) (xCons (xVar 0) (xCons (xC (.adr (He.ga K "CantAnswer"))) xNil))) xNil))) xNil))
    (ySeq (yOM [] 1 oAppend (xCons (xTup (xCons (xC (.str "BadName")) (xCons (xCall (dIsi K oxt) (xCons (xVar 0) (xCons (xC (.adr (He.ga K "BadName"))) xNil))) xNil))) xNil))
    (ySeq (yOM [] 1 oAppend (xCons (xTup (xCons (xC (.str "BadLetters")) (xCons (xCall (dIsi K oxt) (xCons (xVar 0) (xCons (xC (.adr (He.ga K "BadLetters"))) xNil))) xNil))) xNil))
    (ySeq (yOM [] 1 oAppend (xCons (xTup (xCons (xC (.str "BadRun")) (xCons (xCall (dIsi K oxt) (xCons (xVar 0) (xCons (xC (.adr (He.ga K "BadRun"))) xNil))) xNil))) xNil))
    (ySeq (yOM [] 1 oAppend (xCons (xTup (xCons (xC (.str "BadColumn")) (xCons (xCall (dIsi K oxt) (xCons (xVar 0) (xCons (xC (.adr (He.ga K "BadColumn"))) xNil))) xNil))) xNil))
    (ySeq (yOM [] 1 oAppend (xCons (xTup (xCons (xC (.str "BadNumber")) (xCons (xCall (dIsi K oxt) (xCons (xVar 0) (xCons (xC (.adr (He.ga K "BadNumber"))) xNil))) xNil))) xNil))
    (ySeq (yOM [] 1 oAppend (xCons (xTup (xCons (xC (.str "BadTable")) (xCons (xCall (dIsi K oxt) (xCons (xVar 0) (xCons (xC (.adr (He.ga K "BadTable"))) xNil))) xNil))) xNil))
    (ySeq (yOM [] 1 oAppend (xCons (xTup (xCons (xC (.str "HeldTwice")) (xCons (xCall (dIsi K oxt) (xCons (xVar 0) (xCons (xC (.adr (He.ga K "HeldTwice"))) xNil))) xNil))) xNil))
    (ySeq (yOM [] 1 oAppend (xCons (xTup (xCons (xC (.str "BreaksBeside")) (xCons (xCall (dIsi K oxt) (xCons (xVar 0) (xCons (xC (.adr (He.ga K "BreaksBeside"))) xNil))) xNil))) xNil))
    (ySeq (yOM [] 1 oAppend (xCons (xTup (xCons (xC (.str "NotSo")) (xCons (xCall (dIsi K oxt) (xCons (xVar 0) (xCons (xC (.adr (He.ga K "NotSo"))) xNil))) xNil))) xNil))
    (ySeq (yOM [] 1 oAppend (xCons (xTup (xCons (xC (.str "NotEnough")) (xCons (xCall (dIsi K oxt) (xCons (xVar 0) (xCons (xC (.adr (He.ga K "NotEnough"))) xNil))) xNil))) xNil))
    (ySeq (yOM [] 1 oAppend (xCons (xTup (xCons (xC (.str "EndedRun")) (xCons (xCall (dIsi K oxt) (xCons (xVar 0) (xCons (xC (.adr (He.ga K "EndedRun"))) xNil))) xNil))) xNil))
    (ySeq (yOM [] 1 oAppend (xCons (xTup (xCons (xC (.str "UnknownPart")) (xCons (xCall (dIsi K oxt) (xCons (xVar 0) (xCons (xC (.adr (He.ga K "UnknownPart"))) xNil))) xNil))) xNil))
    (ySeq (yOM [] 1 oAppend (xCons (xTup (xCons (xC (.str "UnknownName")) (xCons (xCall (dIsi K oxt) (xCons (xVar 0) (xCons (xC (.adr (He.ga K "UnknownName"))) xNil))) xNil))) xNil))
    (ySeq (yOM [] 1 oAppend (xCons (xTup (xCons (xC (.str "UnknownRun")) (xCons (xCall (dIsi K oxt) (xCons (xVar 0) (xCons (xC (.adr (He.ga K "UnknownRun"))) xNil))) xNil))) xNil))
    (ySeq (yOM [] 1 oAppend (xCons (xTup (xCons (xC (.str "NotHeld")) (xCons (xCall (dIsi K oxt) (xCons (xVar 0) (xCons (xC (.adr (He.ga K "NotHeld"))) xNil))) xNil))) xNil))
    (ySeq (yOM [] 1 oAppend (xCons (xTup (xCons (xC (.str "BadDeed")) (xCons (xCall (dIsi K oxt) (xCons (xVar 0) (xCons (xC (.adr (He.ga K "BadDeed"))) xNil))) xNil))) xNil))
    (ySeq (yOM [] 1 oAppend (xCons (xTup (xCons (xC (.str "NoDraft")) (xCons (xCall (dIsi K oxt) (xCons (xVar 0) (xCons (xC (.adr (He.ga K "NoDraft"))) xNil))) xNil))) xNil))
    (ySeq (yOM [] 1 oAppend (xCons (xTup (xCons (xC (.str "InDraft")) (xCons (xCall (dIsi K oxt) (xCons (xVar 0) (xCons (xC (.adr (He.ga K "InDraft"))) xNil))) xNil))) xNil))
    (ySeq (yOM [] 1 oAppend (xCons (xTup (xCons (xC (.str "NothingLeft")) (xCons (xCall (dIsi K oxt) (xCons (xVar 0) (xCons (xC (.adr (He.ga K "NothingLeft"))) xNil))) xNil))) xNil))
    (ySeq (yOM [] 1 oAppend (xCons (xTup (xCons (xC (.str "RuleError")) (xCons (xCall (dIsi K oxt) (xCons (xVar 0) (xCons (xC (.adr (He.ga K "RuleError"))) xNil))) xNil))) xNil))
    (ySeq (yOM [] 1 oAppend (xCons (xTup (xCons (xC (.str "Missing")) (xCons (xCall (dIsi K oxt) (xCons (xVar 0) (xCons (xC (.adr (He.ga K "Missing"))) xNil))) xNil))) xNil))
    (ySeq (yOM [] 1 oAppend (xCons (xTup (xCons (xC (.str "ValueError")) (xCons (xCall (dIsi K oxt) (xCons (xVar 0) (xCons (xC (.ty "ValueError")) xNil))) xNil))) xNil))
    (ySeq (yOM [] 1 oAppend (xCons (xTup (xCons (xC (.str "LookupError")) (xCons (xCall (dIsi K oxt) (xCons (xVar 0) (xCons (xC (.ty "LookupError")) xNil))) xNil))) xNil))
    (ySeq (yOM [] 1 oAppend (xCons (xTup (xCons (xC (.str "IndexError")) (xCons (xCall (dIsi K oxt) (xCons (xVar 0) (xCons (xC (.ty "IndexError")) xNil))) xNil))) xNil))
    (ySeq (yOM [] 1 oAppend (xCons (xTup (xCons (xC (.str "KeyError")) (xCons (xCall (dIsi K oxt) (xCons (xVar 0) (xCons (xC (.ty "KeyError")) xNil))) xNil))) xNil))
    (yRet [1] (xLcE [2] (xiSeq (xVar 1)) (zName 2) (xTest (xOp dIx (xVar 2) (xC (.int 1)))) (xOp dIx (xVar 2) (xC (.int 0))))))))))))))))))))))))))))))))))))
theorem w__law_kinds {P : Program} {w : World} {K : PySem.W.Frag} {mg : Str → Option Value} {base : Heap} {k : Nat} (e : En K mg) : BodyD P w K mg base k "_law_kinds" (top 36) (He.ga K "_law_kinds") ["error", "some", "pair"] (td__law_kinds K ) := by
  intro cdv A outer s p E hr
  have hu := hr.units
  have hrN := L2H.roomH_of hr
  exact (dss_cons (ds_setLstO [] 1 sc__law_kinds.nd da_nil)
    (dss_cons (ds_append [] 1 (da_cons (d_tup (da_cons d_str (da_cons (d_callB call_isiZ (r_isi e.ox) rfl e.f_isinstance bv_isinstance (da_cons (d_var 0) (da_cons (d_glob (d := .adr (He.ga K "BadText")) rfl rfl e.g_BadText rfl) da_nil))) da_nil))) da_nil))
    (dss_cons (ds_append [] 1 (da_cons (d_tup (da_cons d_str (da_cons (d_callB call_isiZ (r_isi e.ox) rfl e.f_isinstance bv_isinstance (da_cons (d_var 0) (da_cons (d_glob (d := .adr (He.ga K "UnlikeParts")) rfl rfl e.g_UnlikeParts rfl) da_nil))) da_nil))) da_nil))
    (dss_cons (ds_append [] 1 (da_cons (d_tup (da_cons d_str (da_cons (d_callB call_isiZ (r_isi e.ox) rfl e.f_isinstance bv_isinstance (da_cons (d_var 0) (da_cons (d_glob (d := .adr (He.ga K "UnlikeTapes")) rfl rfl e.g_UnlikeTapes rfl) da_nil))) da_nil))) da_nil))
    (dss_cons (ds_append [] 1 (da_cons (d_tup (da_cons d_str (da_cons (d_callB call_isiZ (r_isi e.ox) rfl e.f_isinstance bv_isinstance (da_cons (d_var 0) (da_cons (d_glob (d := .adr (He.ga K "TooMany")) rfl rfl e.g_TooMany rfl) da_nil))) da_nil))) da_nil))
    (dss_cons (ds_append [] 1 (da_cons (d_tup (da_cons d_str (da_cons (d_callB call_isiZ (r_isi e.ox) rfl e.f_isinstance bv_isinstance (da_cons (d_var 0) (da_cons (d_glob (d := .adr (He.ga K "CantAnswer")) rfl rfl e.g_CantAnswer rfl) da_nil))) da_nil))) da_nil))
    (dss_cons (ds_append [] 1 (da_cons (d_tup (da_cons d_str (da_cons (d_callB call_isiZ (r_isi e.ox) rfl e.f_isinstance bv_isinstance (da_cons (d_var 0) (da_cons (d_glob (d := .adr (He.ga K "BadName")) rfl rfl e.g_BadName rfl) da_nil))) da_nil))) da_nil))
    (dss_cons (ds_append [] 1 (da_cons (d_tup (da_cons d_str (da_cons (d_callB call_isiZ (r_isi e.ox) rfl e.f_isinstance bv_isinstance (da_cons (d_var 0) (da_cons (d_glob (d := .adr (He.ga K "BadLetters")) rfl rfl e.g_BadLetters rfl) da_nil))) da_nil))) da_nil))
    (dss_cons (ds_append [] 1 (da_cons (d_tup (da_cons d_str (da_cons (d_callB call_isiZ (r_isi e.ox) rfl e.f_isinstance bv_isinstance (da_cons (d_var 0) (da_cons (d_glob (d := .adr (He.ga K "BadRun")) rfl rfl e.g_BadRun rfl) da_nil))) da_nil))) da_nil))
    (dss_cons (ds_append [] 1 (da_cons (d_tup (da_cons d_str (da_cons (d_callB call_isiZ (r_isi e.ox) rfl e.f_isinstance bv_isinstance (da_cons (d_var 0) (da_cons (d_glob (d := .adr (He.ga K "BadColumn")) rfl rfl e.g_BadColumn rfl) da_nil))) da_nil))) da_nil))
    (dss_cons (ds_append [] 1 (da_cons (d_tup (da_cons d_str (da_cons (d_callB call_isiZ (r_isi e.ox) rfl e.f_isinstance bv_isinstance (da_cons (d_var 0) (da_cons (d_glob (d := .adr (He.ga K "BadNumber")) rfl rfl e.g_BadNumber rfl) da_nil))) da_nil))) da_nil))
    (dss_cons (ds_append [] 1 (da_cons (d_tup (da_cons d_str (da_cons (d_callB call_isiZ (r_isi e.ox) rfl e.f_isinstance bv_isinstance (da_cons (d_var 0) (da_cons (d_glob (d := .adr (He.ga K "BadTable")) rfl rfl e.g_BadTable rfl) da_nil))) da_nil))) da_nil))
    (dss_cons (ds_append [] 1 (da_cons (d_tup (da_cons d_str (da_cons (d_callB call_isiZ (r_isi e.ox) rfl e.f_isinstance bv_isinstance (da_cons (d_var 0) (da_cons (d_glob (d := .adr (He.ga K "HeldTwice")) rfl rfl e.g_HeldTwice rfl) da_nil))) da_nil))) da_nil))
    (dss_cons (ds_append [] 1 (da_cons (d_tup (da_cons d_str (da_cons (d_callB call_isiZ (r_isi e.ox) rfl e.f_isinstance bv_isinstance (da_cons (d_var 0) (da_cons (d_glob (d := .adr (He.ga K "BreaksBeside")) rfl rfl e.g_BreaksBeside rfl) da_nil))) da_nil))) da_nil))
    (dss_cons (ds_append [] 1 (da_cons (d_tup (da_cons d_str (da_cons (d_callB call_isiZ (r_isi e.ox) rfl e.f_isinstance bv_isinstance (da_cons (d_var 0) (da_cons (d_glob (d := .adr (He.ga K "NotSo")) rfl rfl e.g_NotSo rfl) da_nil))) da_nil))) da_nil))
    (dss_cons (ds_append [] 1 (da_cons (d_tup (da_cons d_str (da_cons (d_callB call_isiZ (r_isi e.ox) rfl e.f_isinstance bv_isinstance (da_cons (d_var 0) (da_cons (d_glob (d := .adr (He.ga K "NotEnough")) rfl rfl e.g_NotEnough rfl) da_nil))) da_nil))) da_nil))
    (dss_cons (ds_append [] 1 (da_cons (d_tup (da_cons d_str (da_cons (d_callB call_isiZ (r_isi e.ox) rfl e.f_isinstance bv_isinstance (da_cons (d_var 0) (da_cons (d_glob (d := .adr (He.ga K "EndedRun")) rfl rfl e.g_EndedRun rfl) da_nil))) da_nil))) da_nil))
    (dss_cons (ds_append [] 1 (da_cons (d_tup (da_cons d_str (da_cons (d_callB call_isiZ (r_isi e.ox) rfl e.f_isinstance bv_isinstance (da_cons (d_var 0) (da_cons (d_glob (d := .adr (He.ga K "UnknownPart")) rfl rfl e.g_UnknownPart rfl) da_nil))) da_nil))) da_nil))
    (dss_cons (ds_append [] 1 (da_cons (d_tup (da_cons d_str (da_cons (d_callB call_isiZ (r_isi e.ox) rfl e.f_isinstance bv_isinstance (da_cons (d_var 0) (da_cons (d_glob (d := .adr (He.ga K "UnknownName")) rfl rfl e.g_UnknownName rfl) da_nil))) da_nil))) da_nil))
    (dss_cons (ds_append [] 1 (da_cons (d_tup (da_cons d_str (da_cons (d_callB call_isiZ (r_isi e.ox) rfl e.f_isinstance bv_isinstance (da_cons (d_var 0) (da_cons (d_glob (d := .adr (He.ga K "UnknownRun")) rfl rfl e.g_UnknownRun rfl) da_nil))) da_nil))) da_nil))
    (dss_cons (ds_append [] 1 (da_cons (d_tup (da_cons d_str (da_cons (d_callB call_isiZ (r_isi e.ox) rfl e.f_isinstance bv_isinstance (da_cons (d_var 0) (da_cons (d_glob (d := .adr (He.ga K "NotHeld")) rfl rfl e.g_NotHeld rfl) da_nil))) da_nil))) da_nil))
    (dss_cons (ds_append [] 1 (da_cons (d_tup (da_cons d_str (da_cons (d_callB call_isiZ (r_isi e.ox) rfl e.f_isinstance bv_isinstance (da_cons (d_var 0) (da_cons (d_glob (d := .adr (He.ga K "BadDeed")) rfl rfl e.g_BadDeed rfl) da_nil))) da_nil))) da_nil))
    (dss_cons (ds_append [] 1 (da_cons (d_tup (da_cons d_str (da_cons (d_callB call_isiZ (r_isi e.ox) rfl e.f_isinstance bv_isinstance (da_cons (d_var 0) (da_cons (d_glob (d := .adr (He.ga K "NoDraft")) rfl rfl e.g_NoDraft rfl) da_nil))) da_nil))) da_nil))
    (dss_cons (ds_append [] 1 (da_cons (d_tup (da_cons d_str (da_cons (d_callB call_isiZ (r_isi e.ox) rfl e.f_isinstance bv_isinstance (da_cons (d_var 0) (da_cons (d_glob (d := .adr (He.ga K "InDraft")) rfl rfl e.g_InDraft rfl) da_nil))) da_nil))) da_nil))
    (dss_cons (ds_append [] 1 (da_cons (d_tup (da_cons d_str (da_cons (d_callB call_isiZ (r_isi e.ox) rfl e.f_isinstance bv_isinstance (da_cons (d_var 0) (da_cons (d_glob (d := .adr (He.ga K "NothingLeft")) rfl rfl e.g_NothingLeft rfl) da_nil))) da_nil))) da_nil))
    (dss_cons (ds_append [] 1 (da_cons (d_tup (da_cons d_str (da_cons (d_callB call_isiZ (r_isi e.ox) rfl e.f_isinstance bv_isinstance (da_cons (d_var 0) (da_cons (d_glob (d := .adr (He.ga K "RuleError")) rfl rfl e.g_RuleError rfl) da_nil))) da_nil))) da_nil))
    (dss_cons (ds_append [] 1 (da_cons (d_tup (da_cons d_str (da_cons (d_callB call_isiZ (r_isi e.ox) rfl e.f_isinstance bv_isinstance (da_cons (d_var 0) (da_cons (d_glob (d := .adr (He.ga K "Missing")) rfl rfl e.g_Missing rfl) da_nil))) da_nil))) da_nil))
    (dss_cons (ds_append [] 1 (da_cons (d_tup (da_cons d_str (da_cons (d_callB call_isiZ (r_isi e.ox) rfl e.f_isinstance bv_isinstance (da_cons (d_var 0) (da_cons (d_bltn (d := .ty "ValueError") rfl rfl e.f_ValueError bv_ValueError rfl) da_nil))) da_nil))) da_nil))
    (dss_cons (ds_append [] 1 (da_cons (d_tup (da_cons d_str (da_cons (d_callB call_isiZ (r_isi e.ox) rfl e.f_isinstance bv_isinstance (da_cons (d_var 0) (da_cons (d_bltn (d := .ty "LookupError") rfl rfl e.f_LookupError bv_LookupError rfl) da_nil))) da_nil))) da_nil))
    (dss_cons (ds_append [] 1 (da_cons (d_tup (da_cons d_str (da_cons (d_callB call_isiZ (r_isi e.ox) rfl e.f_isinstance bv_isinstance (da_cons (d_var 0) (da_cons (d_bltn (d := .ty "IndexError") rfl rfl e.f_IndexError bv_IndexError rfl) da_nil))) da_nil))) da_nil))
    (dss_cons (ds_append [] 1 (da_cons (d_tup (da_cons d_str (da_cons (d_callB call_isiZ (r_isi e.ox) rfl e.f_isinstance bv_isinstance (da_cons (d_var 0) (da_cons (d_bltn (d := .ty "KeyError") rfl rfl e.f_KeyError bv_KeyError rfl) da_nil))) da_nil))) da_nil))
    (dss_one (ds_ret [1] (d_lc [("pair", 2)] (by decide) rfl sc__law_kinds.nd (blkOk_by rfl) (di_list (d_var 1)) (fun s H C cl fp => (dg_name 2 sc__law_kinds.nd)) (fun s H C cl fp => (dts_one (dt_val (he := fun _ => rfl) (d_ix (fun _ _ => rfl) (d_var 2) d_int)))) (fun s H C cl fp => (d_ix (fun _ _ => rfl) (d_var 2) d_int))))))))))))))))))))))))))))))))))))
theorem ok__law_kinds {P : Program} {w : World} {K : PySem.W.Frag} {mg : Str → Option Value} {base : Heap} {k : Nat} (e : En K mg) {c : DC} (len : ∀ β ds Q E, c β ds Q E → ds.length = 1) (h : Keeps (td__law_kinds K ) ["error", "some", "pair"] c) : OkD P w K mg base (k + 1) "_law_kinds" ["error"] c := by
  obtain ⟨fd, F⟩ := e.d__law_kinds
  exact okD_of e.g__law_kinds F (F.binds fun _ _ _ _ _ _ us hl => match us, hl with | [_], _ => rfl) sc__law_kinds (w__law_kinds e) len h
theorem sc__law_due_kinds : FnScope ["pick"] ["pick"] (defScope (top 37)) := ⟨rfl, rfl, rfl, by decide +kernel, rfl, by decide +kernel, by decide +kernel⟩
def td__law_due_kinds (K : PySem.W.Frag)  (β : Addr) : TDS :=
    (ySeq (yIf [] (xTest (xOp (dEq false) (xVar 0) (xC (.str "NothingLeft"))))
    (yRet [] (xLst (xCons (xVar 0) (xCons (xC (.str "LookupError")) (xCons (xC (.str "IndexError")) xNil)))))
    yNext)
    (ySeq (yIf [] (xTest (xOp (dIn false) (xVar 0) (xTup (xCons (xC (.str "UnknownPart")) (xCons (xC (.str "UnknownName")) (xCons (xC (.str "UnknownRun")) (xCons (xC (.str "NotHeld")) xNil)))))))
    (yRet [] (xLst (xCons (xVar 0) (xCons (xC (.str "Missing")) (xCons (xC (.str "LookupError")) xNil)))))
    yNext)
    (yRet [] (xLst (xCons (xVar 0) (xCons (xC (.str "RuleError")) (xCons (xC (.str "ValueError")) xNil)))))))
theorem w__law_due_kinds {P : Program} {w : World} {K : PySem.W.Frag} {mg : Str → Option Value} {base : Heap} {k : Nat} (e : En K mg) : BodyD P w K mg base k "_law_due_kinds" (top 37) (He.ga K "_law_due_kinds") ["pick"] (td__law_due_kinds K ) := by
  intro cdv A outer s p E hr
  have hu := hr.units
  have hrN := L2H.roomH_of hr
  exact (dss_cons (ds_if [] (dt_eq hu (d_var 0) d_str)
    (dss_one (ds_ret [] (d_lst (da_cons (d_var 0) (da_cons d_str (da_cons d_str da_nil))))))
    dss_nil)
    (dss_cons (ds_if [] (dt_cmp op_in_seq (r_in false) rfl (d_var 0) (d_tup (da_cons d_str (da_cons d_str (da_cons d_str (da_cons d_str da_nil))))))
    (dss_one (ds_ret [] (d_lst (da_cons (d_var 0) (da_cons d_str (da_cons d_str da_nil))))))
    dss_nil)
    (dss_one (ds_ret [] (d_lst (da_cons (d_var 0) (da_cons d_str (da_cons d_str da_nil))))))))
theorem ok__law_due_kinds {P : Program} {w : World} {K : PySem.W.Frag} {mg : Str → Option Value} {base : Heap} {k : Nat} (e : En K mg) {c : DC} (len : ∀ β ds Q E, c β ds Q E → ds.length = 1) (h : Keeps (td__law_due_kinds K ) ["pick"] c) : OkD P w K mg base (k + 1) "_law_due_kinds" ["pick"] c := by
  obtain ⟨fd, F⟩ := e.d__law_due_kinds
  exact okD_of e.g__law_due_kinds F (F.binds fun _ _ _ _ _ _ us hl => match us, hl with | [_], _ => rfl) sc__law_due_kinds (w__law_due_kinds e) len h
theorem sc__law_raise_one : FnScope ["pick", "a"] ["pick", "a"] (defScope (top 38)) := ⟨rfl, rfl, rfl, by decide +kernel, rfl, by decide +kernel, by decide +kernel⟩
def td__law_raise_one (K : PySem.W.Frag)  (β : Addr) : TDS :=
    (ySeq (yIf [] (xTest (xOp (dEq false) (xVar 0) (xC (.str "BadName"))))
    (yRaise [] "BadName" "BadName" ["name"] [0] 1 (xLen 1 (xCons (xVar 1) xNil)))
    yNext)
    (ySeq (yIf [] (xTest (xOp (dEq false) (xVar 0) (xC (.str "BadLetters"))))
    (yRaise [] "BadLetters" "BadLetters" ["at"] [0] 1 (xLen 1 (xCons (xVar 1) xNil)))
    yNext)
    (ySeq (yIf [] (xTest (xOp (dEq false) (xVar 0) (xC (.str "BadRun"))))
    (yRaise [] "BadRun" "BadRun" ["at"] [0] 1 (xLen 1 (xCons (xVar 1) xNil)))
    yNext)
    (ySeq (yIf [] (xTest (xOp (dEq false) (xVar 0) (xC (.str "BadColumn"))))
    (yRaise [] "BadColumn" "BadColumn" ["column"] [0] 1 (xLen 1 (xCons (xVar 1) xNil)))
    yNext)
    (ySeq (yIf [] (xTest (xOp (dEq false) (xVar 0) (xC (.str "BadNumber"))))
    (yRaise [] "BadNumber" "BadNumber" ["value"] [0] 1 (xLen 1 (xCons (xVar 1) xNil)))
    yNext)
    (ySeq (yIf [] (xTest (xOp (dEq false) (xVar 0) (xC (.str "BadTable"))))
    (yRaise [] "BadTable" "BadTable" ["at"] [0] 1 (xLen 1 (xCons (xVar 1) xNil)))
    yNext)
    (ySeq (yIf [] (xTest (xOp (dEq false) (xVar 0) (xC (.str "HeldTwice"))))
    (yRaise [] "HeldTwice" "HeldTwice" ["item"] [0] 1 (xLen 1 (xCons (xVar 1) xNil)))
    yNext)
    (ySeq (yIf [] (xTest (xOp (dEq false) (xVar 0) (xC (.str "BreaksBeside"))))
    (yRaise [] "BreaksBeside" "BreaksBeside" ["lot"] [0] 1 (xLen 1 (xCons (xVar 1) xNil)))
    yNext)
    (ySeq (yIf [] (xTest (xOp (dEq false) (xVar 0) (xC (.str "NotSo"))))
    (yRaise [] "NotSo" "NotSo" ["lot"] [0] 1 (xLen 1 (xCons (xVar 1) xNil)))
    yNext)
    (ySeq (yIf [] (xTest (xOp (dEq false) (xVar 0) (xC (.str "NotEnough"))))
    (yRaise [] "NotEnough" "NotEnough" ["lot"] [0] 1 (xLen 1 (xCons (xVar 1) xNil)))
    yNext)
    (ySeq (yIf [] (xTest (xOp (dEq false) (xVar 0) (xC (.str "EndedRun"))))
    (yRaise [] "EndedRun" "EndedRun" ["at"] [0] 1 (xLen 1 (xCons (xVar 1) xNil)))
    yNext)
    (ySeq (yIf [] (xTest (xOp (dEq false) (xVar 0) (xC (.str "UnknownPart"))))
    (yRaise [] "UnknownPart" "UnknownPart" ["name"] [0] 1 (xLen 1 (xCons (xVar 1) xNil)))
    yNext)
    (ySeq (yIf [] (xTest (xOp (dEq false) (xVar 0) (xC (.str "UnknownName"))))
    (yRaise [] "UnknownName" "UnknownName" ["name"] [0] 1 (xLen 1 (xCons (xVar 1) xNil)))
    yNext)
    (ySeq (yIf [] (xTest (xOp (dEq false) (xVar 0) (xC (.str "UnknownRun"))))
    (yRaise [] "UnknownRun" "UnknownRun" ["at"] [0] 1 (xLen 1 (xCons (xVar 1) xNil)))
    yNext)
    (ySeq (yIf [] (xTest (xOp (dEq false) (xVar 0) (xC (.str "NotHeld"))))
    (yRaise [] "NotHeld" "NotHeld" ["run"] [0] 1 (xLen 1 (xCons (xVar 1) xNil)))
    yNext)
    (yRet [] (xC .non)))))))))))))))))
theorem w__law_raise_one {P : Program} {w : World} {K : PySem.W.Frag} {mg : Str → Option Value} {base : Heap} {k : Nat} (e : En K mg) (M_BadName : MkC P w K mg base "BadName" "BadName" ["name"]) (M_BadLetters : MkC P w K mg base "BadLetters" "BadLetters" ["at"]) (M_BadRun : MkC P w K mg base "BadRun" "BadRun" ["at"]) (M_BadColumn : MkC P w K mg base "BadColumn" "BadColumn" ["column"]) (M_BadNumber : MkC P w K mg base "BadNumber" "BadNumber" ["value"]) (M_BadTable : MkC P w K mg base "BadTable" "BadTable" ["at"]) (M_HeldTwice : MkC P w K mg base "HeldTwice" "HeldTwice" ["item"]) (M_BreaksBeside : MkC P w K mg base "BreaksBeside" "BreaksBeside" ["lot"]) (M_NotSo : MkC P w K mg base "NotSo" "NotSo" ["lot"]) (M_NotEnough : MkC P w K mg base "NotEnough" "NotEnough" ["lot"]) (M_EndedRun : MkC P w K mg base "EndedRun" "EndedRun" ["at"]) (M_UnknownPart : MkC P w K mg base "UnknownPart" "UnknownPart" ["name"]) (M_UnknownName : MkC P w K mg base "UnknownName" "UnknownName" ["name"]) (M_UnknownRun : MkC P w K mg base "UnknownRun" "UnknownRun" ["at"]) (M_NotHeld : MkC P w K mg base "NotHeld" "NotHeld" ["run"]) (hk : 2 ≤ k) : BodyD P w K mg base k "_law_raise_one" (top 38) (He.ga K "_law_raise_one") ["pick", "a"] (td__law_raise_one K ) := by
  intro cdv A outer s p E hr
  have hu := hr.units
  have hrN := L2H.roomH_of hr
  exact (dss_cons (ds_if [] (dt_eq hu (d_var 0) d_str)
    (dss_one (ds_raiseC [] 0 M_BadName rfl (takes_of rfl rfl rfl rfl) (hr.mono hk) (mk_pos (da_cons (d_var 1) da_nil))))
    dss_nil)
    (dss_cons (ds_if [] (dt_eq hu (d_var 0) d_str)
    (dss_one (ds_raiseC [] 0 M_BadLetters rfl (takes_of rfl rfl rfl rfl) (hr.mono hk) (mk_pos (da_cons (d_var 1) da_nil))))
    dss_nil)
    (dss_cons (ds_if [] (dt_eq hu (d_var 0) d_str)
    (dss_one (ds_raiseC [] 0 M_BadRun rfl (takes_of rfl rfl rfl rfl) (hr.mono hk) (mk_pos (da_cons (d_var 1) da_nil))))
    dss_nil)
    (dss_cons (ds_if [] (dt_eq hu (d_var 0) d_str)
    (dss_one (ds_raiseC [] 0 M_BadColumn rfl (takes_of rfl rfl rfl rfl) (hr.mono hk) (mk_pos (da_cons (d_var 1) da_nil))))
    dss_nil)
    (dss_cons (ds_if [] (dt_eq hu (d_var 0) d_str)
    (dss_one (ds_raiseC [] 0 M_BadNumber rfl (takes_of rfl rfl rfl rfl) (hr.mono hk) (mk_pos (da_cons (d_var 1) da_nil))))
    dss_nil)
    (dss_cons (ds_if [] (dt_eq hu (d_var 0) d_str)
    (dss_one (ds_raiseC [] 0 M_BadTable rfl (takes_of rfl rfl rfl rfl) (hr.mono hk) (mk_pos (da_cons (d_var 1) da_nil))))
    dss_nil)
    (dss_cons (ds_if [] (dt_eq hu (d_var 0) d_str)
    (dss_one (ds_raiseC [] 0 M_HeldTwice rfl (takes_of rfl rfl rfl rfl) (hr.mono hk) (mk_pos (da_cons (d_var 1) da_nil))))
    dss_nil)
    (dss_cons (ds_if [] (dt_eq hu (d_var 0) d_str)
    (dss_one (ds_raiseC [] 0 M_BreaksBeside rfl (takes_of rfl rfl rfl rfl) (hr.mono hk) (mk_pos (da_cons (d_var 1) da_nil))))
    dss_nil)
    (dss_cons (ds_if [] (dt_eq hu (d_var 0) d_str)
    (dss_one (ds_raiseC [] 0 M_NotSo rfl (takes_of rfl rfl rfl rfl) (hr.mono hk) (mk_pos (da_cons (d_var 1) da_nil))))
    dss_nil)
    (dss_cons (ds_if [] (dt_eq hu (d_var 0) d_str)
    (dss_one (ds_raiseC [] 0 M_NotEnough rfl (takes_of rfl rfl rfl rfl) (hr.mono hk) (mk_pos (da_cons (d_var 1) da_nil))))
    dss_nil)
    (dss_cons (ds_if [] (dt_eq hu (d_var 0) d_str)
    (dss_one (ds_raiseC [] 0 M_EndedRun rfl (takes_of rfl rfl rfl rfl) (hr.mono hk) (mk_pos (da_cons (d_var 1) da_nil))))
    dss_nil)
    (dss_cons (ds_if [] (dt_eq hu (d_var 0) d_str)
    (dss_one (ds_raiseC [] 0 M_UnknownPart rfl (takes_of rfl rfl rfl rfl) (hr.mono hk) (mk_pos (da_cons (d_var 1) da_nil))))
    dss_nil)
    (dss_cons (ds_if [] (dt_eq hu (d_var 0) d_str)
    (dss_one (ds_raiseC [] 0 M_UnknownName rfl (takes_of rfl rfl rfl rfl) (hr.mono hk) (mk_pos (da_cons (d_var 1) da_nil))))
    dss_nil)
    (dss_cons (ds_if [] (dt_eq hu (d_var 0) d_str)
    (dss_one (ds_raiseC [] 0 M_UnknownRun rfl (takes_of rfl rfl rfl rfl) (hr.mono hk) (mk_pos (da_cons (d_var 1) da_nil))))
    dss_nil)
    (dss_cons (ds_if [] (dt_eq hu (d_var 0) d_str)
    (dss_one (ds_raiseC [] 0 M_NotHeld rfl (takes_of rfl rfl rfl rfl) (hr.mono hk) (mk_pos (da_cons (d_var 1) da_nil))))
    dss_nil)
    (dss_one (ds_ret [] d_non)))))))))))))))))
theorem ok__law_raise_one {P : Program} {w : World} {K : PySem.W.Frag} {mg : Str → Option Value} {base : Heap} {k : Nat} (e : En K mg) (M_BadName : MkC P w K mg base "BadName" "BadName" ["name"]) (M_BadLetters : MkC P w K mg base "BadLetters" "BadLetters" ["at"]) (M_BadRun : MkC P w K mg base "BadRun" "BadRun" ["at"]) (M_BadColumn : MkC P w K mg base "BadColumn" "BadColumn" ["column"]) (M_BadNumber : MkC P w K mg base "BadNumber" "BadNumber" ["value"]) (M_BadTable : MkC P w K mg base "BadTable" "BadTable" ["at"]) (M_HeldTwice : MkC P w K mg base "HeldTwice" "HeldTwice" ["item"]) (M_BreaksBeside : MkC P w K mg base "BreaksBeside" "BreaksBeside" ["lot"]) (M_NotSo : MkC P w K mg base "NotSo" "NotSo" ["lot"]) (M_NotEnough : MkC P w K mg base "NotEnough" "NotEnough" ["lot"]) (M_EndedRun : MkC P w K mg base "EndedRun" "EndedRun" ["at"]) (M_UnknownPart : MkC P w K mg base "UnknownPart" "UnknownPart" ["name"]) (M_UnknownName : MkC P w K mg base "UnknownName" "UnknownName" ["name"]) (M_UnknownRun : MkC P w K mg base "UnknownRun" "UnknownRun" ["at"]) (M_NotHeld : MkC P w K mg base "NotHeld" "NotHeld" ["run"]) (hk : 2 ≤ k) {c : DC} (len : ∀ β ds Q E, c β ds Q E → ds.length = 2) (h : Keeps (td__law_raise_one K ) ["pick", "a"] c) : OkD P w K mg base (k + 1) "_law_raise_one" ["pick", "a"] c := by
  obtain ⟨fd, F⟩ := e.d__law_raise_one
  exact okD_of e.g__law_raise_one F (F.binds fun _ _ _ _ _ _ us hl => match us, hl with | [_, _], _ => rfl) sc__law_raise_one (w__law_raise_one e M_BadName M_BadLetters M_BadRun M_BadColumn M_BadNumber M_BadTable M_HeldTwice M_BreaksBeside M_NotSo M_NotEnough M_EndedRun M_UnknownPart M_UnknownName M_UnknownRun M_NotHeld hk) len h
theorem sc__law_raise : FnScope ["pick", "a", "b"] ["pick", "a", "b"] (defScope (top 39)) := ⟨rfl, rfl, rfl, by decide +kernel, rfl, by decide +kernel, by decide +kernel⟩
def td__law_raise (K : PySem.W.Frag) (c__law_raise_one : DC) (β : Addr) : TDS :=
    (ySeq (yIf [] (xTest (xOp (dEq false) (xVar 0) (xC (.str "BadText"))))
    (yRaise [] "BadText" "BadText" ["line", "why"] [0, 1] 2 (xLen 2 (xCons (xVar 1) (xCons (xVar 2) xNil))))
    yNext)
    (ySeq (yIf [] (xTest (xOp (dEq false) (xVar 0) (xC (.str "UnlikeParts"))))
    (yRaise [] "UnlikeParts" "UnlikeParts" ["one", "other"] [0, 1] 2 (xLen 2 (xCons (xVar 1) (xCons (xVar 2) xNil))))
    yNext)
    (ySeq (yIf [] (xTest (xOp (dEq false) (xVar 0) (xC (.str "UnlikeTapes"))))
    (yRaise [] "UnlikeTapes" "UnlikeTapes" ["one", "other"] [0, 1] 2 (xLen 2 (xCons (xVar 1) (xCons (xVar 2) xNil))))
    yNext)
    (ySeq (yIf [] (xTest (xOp (dEq false) (xVar 0) (xC (.str "TooMany"))))
    (yRaise [] "TooMany" "TooMany" ["what", "found"] [0, 1] 2 (xLen 2 (xCons (xVar 1) (xCons (xVar 2) xNil))))
    yNext)
    (ySeq (yIf [] (xTest (xOp (dEq false) (xVar 0) (xC (.str "CantAnswer"))))
    (yRaise [] "CantAnswer" "CantAnswer" ["at", "run"] [0, 1] 2 (xLen 2 (xCons (xVar 1) (xCons (xVar 2) xNil))))
    yNext)
    (ySeq (yIf [] (xTest (xOp (dEq false) (xVar 0) (xC (.str "BadDeed"))))
    (yRaise [] "BadDeed" "BadDeed" [] [] 0 xNil)
    yNext)
    (ySeq (yIf [] (xTest (xOp (dEq false) (xVar 0) (xC (.str "NoDraft"))))
    (yRaise [] "NoDraft" "NoDraft" [] [] 0 xNil)
    yNext)
    (ySeq (yIf [] (xTest (xOp (dEq false) (xVar 0) (xC (.str "InDraft"))))
    (yRaise [] "InDraft" "InDraft" [] [] 0 xNil)
    yNext)
    (ySeq (yIf [] (xTest (xOp (dEq false) (xVar 0) (xC (.str "NothingLeft"))))
    (yRaise [] "NothingLeft" "NothingLeft" [] [] 0 xNil)
    yNext)
    (yExpr [] (xFn β c__law_raise_one (xCons (xVar 0) (xCons (xVar 1) xNil)))))))))))))
theorem w__law_raise {P : Program} {w : World} {K : PySem.W.Frag} {mg : Str → Option Value} {base : Heap} {k : Nat} (e : En K mg) {c__law_raise_one : DC} (O__law_raise_one : OkD P w K mg base k "_law_raise_one" ["pick", "a"] c__law_raise_one) (M_BadText : MkC P w K mg base "BadText" "BadText" ["line", "why"]) (M_UnlikeParts : MkC P w K mg base "UnlikeParts" "UnlikeParts" ["one", "other"]) (M_UnlikeTapes : MkC P w K mg base "UnlikeTapes" "UnlikeTapes" ["one", "other"]) (M_TooMany : MkC P w K mg base "TooMany" "TooMany" ["what", "found"]) (M_CantAnswer : MkC P w K mg base "CantAnswer" "CantAnswer" ["at", "run"]) (M_BadDeed : MkC P w K mg base "BadDeed" "BadDeed" []) (M_NoDraft : MkC P w K mg base "NoDraft" "NoDraft" []) (M_InDraft : MkC P w K mg base "InDraft" "InDraft" []) (M_NothingLeft : MkC P w K mg base "NothingLeft" "NothingLeft" []) (hk : 2 ≤ k) : BodyD P w K mg base k "_law_raise" (top 39) (He.ga K "_law_raise") ["pick", "a", "b"] (td__law_raise K c__law_raise_one) := by
  intro cdv A outer s p E hr
  have hu := hr.units
  have hrN := L2H.roomH_of hr
  exact (dss_cons (ds_if [] (dt_eq hu (d_var 0) d_str)
    (dss_one (ds_raiseC [] 0 M_BadText rfl (takes_of rfl rfl rfl rfl) (hr.mono hk) (mk_pos (da_cons (d_var 1) (da_cons (d_var 2) da_nil)))))
    dss_nil)
    (dss_cons (ds_if [] (dt_eq hu (d_var 0) d_str)
    (dss_one (ds_raiseC [] 0 M_UnlikeParts rfl (takes_of rfl rfl rfl rfl) (hr.mono hk) (mk_pos (da_cons (d_var 1) (da_cons (d_var 2) da_nil)))))
    dss_nil)
    (dss_cons (ds_if [] (dt_eq hu (d_var 0) d_str)
    (dss_one (ds_raiseC [] 0 M_UnlikeTapes rfl (takes_of rfl rfl rfl rfl) (hr.mono hk) (mk_pos (da_cons (d_var 1) (da_cons (d_var 2) da_nil)))))
    dss_nil)
    (dss_cons (ds_if [] (dt_eq hu (d_var 0) d_str)
    (dss_one (ds_raiseC [] 0 M_TooMany rfl (takes_of rfl rfl rfl rfl) (hr.mono hk) (mk_pos (da_cons (d_var 1) (da_cons (d_var 2) da_nil)))))
    dss_nil)
    (dss_cons (ds_if [] (dt_eq hu (d_var 0) d_str)
    (dss_one (ds_raiseC [] 0 M_CantAnswer rfl (takes_of rfl rfl rfl rfl) (hr.mono hk) (mk_pos (da_cons (d_var 1) (da_cons (d_var 2) da_nil)))))
    dss_nil)
    (dss_cons (ds_if [] (dt_eq hu (d_var 0) d_str)
    (dss_one (ds_raiseC [] 0 M_BadDeed rfl (takes_of rfl rfl rfl rfl) (hr.mono hk) dmk_nil))
    dss_nil)
    (dss_cons (ds_if [] (dt_eq hu (d_var 0) d_str)
    (dss_one (ds_raiseC [] 0 M_NoDraft rfl (takes_of rfl rfl rfl rfl) (hr.mono hk) dmk_nil))
    dss_nil)
    (dss_cons (ds_if [] (dt_eq hu (d_var 0) d_str)
    (dss_one (ds_raiseC [] 0 M_InDraft rfl (takes_of rfl rfl rfl rfl) (hr.mono hk) dmk_nil))
    dss_nil)
    (dss_cons (ds_if [] (dt_eq hu (d_var 0) d_str)
    (dss_one (ds_raiseC [] 0 M_NothingLeft rfl (takes_of rfl rfl rfl rfl) (hr.mono hk) dmk_nil))
    dss_nil)
    (dss_one (ds_expr [] (d_callO O__law_raise_one hr (takes_of rfl rfl rfl rfl) (da_cons (d_var 0) (da_cons (d_var 1) da_nil))))))))))))))
theorem ok__law_raise {P : Program} {w : World} {K : PySem.W.Frag} {mg : Str → Option Value} {base : Heap} {k : Nat} (e : En K mg) {c__law_raise_one : DC} (O__law_raise_one : OkD P w K mg base k "_law_raise_one" ["pick", "a"] c__law_raise_one) (M_BadText : MkC P w K mg base "BadText" "BadText" ["line", "why"]) (M_UnlikeParts : MkC P w K mg base "UnlikeParts" "UnlikeParts" ["one", "other"]) (M_UnlikeTapes : MkC P w K mg base "UnlikeTapes" "UnlikeTapes" ["one", "other"]) (M_TooMany : MkC P w K mg base "TooMany" "TooMany" ["what", "found"]) (M_CantAnswer : MkC P w K mg base "CantAnswer" "CantAnswer" ["at", "run"]) (M_BadDeed : MkC P w K mg base "BadDeed" "BadDeed" []) (M_NoDraft : MkC P w K mg base "NoDraft" "NoDraft" []) (M_InDraft : MkC P w K mg base "InDraft" "InDraft" []) (M_NothingLeft : MkC P w K mg base "NothingLeft" "NothingLeft" []) (hk : 2 ≤ k) {c : DC} (len : ∀ β ds Q E, c β ds Q E → ds.length = 3) (h : Keeps (td__law_raise K c__law_raise_one) ["pick", "a", "b"] c) : OkD P w K mg base (k + 1) "_law_raise" ["pick", "a", "b"] c := by
  obtain ⟨fd, F⟩ := e.d__law_raise
  exact okD_of e.g__law_raise F (F.binds fun _ _ _ _ _ _ us hl => match us, hl with | [_, _, _], _ => rfl) sc__law_raise (w__law_raise e O__law_raise_one M_BadText M_UnlikeParts M_UnlikeTapes M_TooMany M_CantAnswer M_BadDeed M_NoDraft M_InDraft M_NothingLeft hk) len h
theorem sc__law_caught : FnScope ["pick", "a", "b", "error"] ["pick", "a", "b"] (defScope (top 40)) := ⟨rfl, rfl, rfl, by decide +kernel, rfl, by decide +kernel, by decide +kernel⟩
def td__law_caught (K : PySem.W.Frag) (c__law_raise : DC) (c__law_values : DC) (β : Addr) : TDS :=
    (ySeq (yTry K (yExpr [] (xFn β c__law_raise (xCons (xVar 0) (xCons (xVar 1) (xCons (xVar 2) xNil)))))
    (((.ref (He.ga K "RuleError")), some 3, (yRet [] (xOp dAdd (xLst (xCons (xC (.str "RuleError")) xNil)) (xFn β c__law_values (xCons (xVar 0) (xCons (xVar 3) xNil)))))) :: (((.ref (He.ga K "Missing")), some 3, (yRet [] (xOp dAdd (xLst (xCons (xC (.str "Missing")) xNil)) (xFn β c__law_values (xCons (xVar 0) (xCons (xVar 3) xNil)))))) :: (((.ref (He.ga K "NothingLeft")), some 3, (yRet [] (xOp dAdd (xLst (xCons (xC (.str "NothingLeft")) xNil)) (xFn β c__law_values (xCons (xVar 0) (xCons (xVar 3) xNil)))))) :: []))))
    (yRet [] (xLst (xCons (xC (.str "none")) xNil))))
theorem w__law_caught {P : Program} {w : World} {K : PySem.W.Frag} {mg : Str → Option Value} {base : Heap} {k : Nat} (e : En K mg) {c__law_raise : DC} (O__law_raise : OkD P w K mg base k "_law_raise" ["pick", "a", "b"] c__law_raise) {c__law_values : DC} (O__law_values : OkN P w K mg base k "_law_values" ["pick", "error"] c__law_values) : BodyD P w K mg base k "_law_caught" (top 40) (He.ga K "_law_caught") ["pick", "a", "b", "error"] (td__law_caught K c__law_raise c__law_values) := by
  intro cdv A outer s p E hr
  have hu := hr.units
  have hrN := L2H.roomH_of hr
  exact (dss_cons (ds_try rfl rfl (takes_of rfl rfl rfl rfl) (fun W' pn xe tk' po' => (dss_one (ds_expr [] (d_callO O__law_raise hr tk' (da_cons (d_var 0) (da_cons (d_var 1) (da_cons (d_var 2) da_nil)))))))
    (HdsD.as sc__law_caught.nd (i := 3) rfl rfl ⟨rfl, rfl, .inl e.g_RuleError⟩ (fun a pn => (dss_one (ds_ret [] (d_add (d_lst (da_cons d_str da_nil)) (d_callON O__law_values ⟨hrN.dp, hrN.un⟩ takes0 (da_cons (d_var 0) (da_cons (d_var 3) da_nil))))))) (HdsD.as sc__law_caught.nd (i := 3) rfl rfl ⟨rfl, rfl, .inl e.g_Missing⟩ (fun a pn => (dss_one (ds_ret [] (d_add (d_lst (da_cons d_str da_nil)) (d_callON O__law_values ⟨hrN.dp, hrN.un⟩ takes0 (da_cons (d_var 0) (da_cons (d_var 3) da_nil))))))) (HdsD.as sc__law_caught.nd (i := 3) rfl rfl ⟨rfl, rfl, .inl e.g_NothingLeft⟩ (fun a pn => (dss_one (ds_ret [] (d_add (d_lst (da_cons d_str da_nil)) (d_callON O__law_values ⟨hrN.dp, hrN.un⟩ takes0 (da_cons (d_var 0) (da_cons (d_var 3) da_nil))))))) HdsD.nil))))
    (dss_one (ds_ret [] (d_lst (da_cons d_str da_nil)))))
theorem ok__law_caught {P : Program} {w : World} {K : PySem.W.Frag} {mg : Str → Option Value} {base : Heap} {k : Nat} (e : En K mg) {c__law_raise : DC} (O__law_raise : OkD P w K mg base k "_law_raise" ["pick", "a", "b"] c__law_raise) {c__law_values : DC} (O__law_values : OkN P w K mg base k "_law_values" ["pick", "error"] c__law_values) {c : DC} (len : ∀ β ds Q E, c β ds Q E → ds.length = 3) (h : Keeps (td__law_caught K c__law_raise c__law_values) ["pick", "a", "b", "error"] c) : OkD P w K mg base (k + 1) "_law_caught" ["pick", "a", "b"] c := by
  obtain ⟨fd, F⟩ := e.d__law_caught
  exact okD_of e.g__law_caught F (F.binds fun _ _ _ _ _ _ us hl => match us, hl with | [_, _, _], _ => rfl) sc__law_caught (w__law_caught e O__law_raise O__law_values) len h
theorem sc__law_value : FnScope ["bag", "deep", "pick", "size", "parts", "k"] ["bag", "deep"] (defScope (top 41)) := ⟨rfl, rfl, rfl, by decide +kernel, rfl, by decide +kernel, by decide +kernel⟩
def td__law_value (K : PySem.W.Frag) (c__law_draw : DC) (c__law_of : DC) (c__law_value : DC) (β : Addr) : TDS :=
    (ySeq (ySet [] 2 (xFn β c__law_draw (xCons (xVar 0) (xCons (xIf (xTest (xOp dGt (xVar 1) (xC (.int 0)))) (xC (.int 10)) (xC (.int 8))) xNil))))
    (ySeq (yIf [] (xTest (xOp (dEq false) (xVar 2) (xC (.int 0))))
    (yRet [] (xFn β c__law_of (xCons (xVar 0) (xCons (xLst (xCons (xC .non) (xCons (xC (.bl true)) (xCons (xC (.bl false)) xNil)))) xNil))))
    yNext)
    (ySeq (yIf [] (xTest (xOp dLt (xVar 2) (xC (.int 4))))
    (yRet [] (xFn β c__law_of (xCons (xVar 0) (xCons (xLst (xCons (xC (.int 0)) (xCons (xC (.int 1)) (xCons (xOp dSub (xC (.int 0)) (xC (.int 1))) (xCons (xFn β c__law_draw (xCons (xVar 0) (xCons (xC (.int 1000000000)) xNil))) (xCons (xOp dSub (xC (.int 0)) (xFn β c__law_draw (xCons (xVar 0) (xCons (xC (.int 1000000000)) xNil)))) xNil)))))) xNil))))
    yNext)
    (ySeq (yIf [] (xTest (xOp dLt (xVar 2) (xC (.int 8))))
    (ySeq (ySet [] 3 (xFn β c__law_draw (xCons (xVar 0) (xCons (xC (.int 5)) xNil))))
    (yRet [] (xMeth "str" dJoin (xC (.str "")) (xCons (xLcE [5] (xiRng1 (xCons (xVar 3) xNil)) (zName 5) xYes (xFn β c__law_of (xCons (xVar 0) (xCons (xC (.str "ab01.-#:=? xyzAZ~\n")) xNil)))) xNil))))
    yNext)
    (ySeq (ySetLc [] 4 [5] (xiRng1 (xCons (xFn β c__law_draw (xCons (xVar 0) (xCons (xC (.int 4)) xNil))) xNil)) (zName 5) xYes (xFn β c__law_value (xCons (xVar 0) (xCons (xOp dSub (xVar 1) (xC (.int 1))) xNil))))
    (yRet [] (xIf (xTest (xOp (dEq false) (xVar 2) (xC (.int 8)))) (xVar 4) (xCall dTuple (xCons (xVar 4) xNil)))))))))
theorem w__law_value {P : Program} {w : World} {K : PySem.W.Frag} {mg : Str → Option Value} {base : Heap} {k : Nat} (e : En K mg) {c__law_draw : DC} (O__law_draw : OkD P w K mg base k "_law_draw" ["bag", "size"] c__law_draw) {c__law_of : DC} (O__law_of : OkD P w K mg base k "_law_of" ["bag", "things"] c__law_of) {c__law_value : DC} (O__law_value : OkD P w K mg base k "_law_value" ["bag", "deep"] c__law_value) : BodyD P w K mg base k "_law_value" (top 41) (He.ga K "_law_value") ["bag", "deep", "pick", "size", "parts", "k"] (td__law_value K c__law_draw c__law_of c__law_value) := by
  intro cdv A outer s p E hr
  have hu := hr.units
  have hrN := L2H.roomH_of hr
  exact (dss_cons (ds_set [] 2 sc__law_value.nd (d_callO O__law_draw hr (takes_of rfl rfl rfl rfl) (da_cons (d_var 0) (da_cons (d_if (dt_gt (d_var 1) d_int) d_int d_int) da_nil))))
    (dss_cons (ds_if [] (dt_eq hu (d_var 2) d_int)
    (dss_one (ds_ret [] (d_callO O__law_of hr (takes_of rfl rfl rfl rfl) (da_cons (d_var 0) (da_cons (d_lst (da_cons d_non (da_cons d_bl (da_cons d_bl da_nil)))) da_nil)))))
    dss_nil)
    (dss_cons (ds_if [] (dt_lt (d_var 2) d_int)
    (dss_one (ds_ret [] (d_callO O__law_of hr (takes_of rfl rfl rfl rfl) (da_cons (d_var 0) (da_cons (d_lst (da_cons d_int (da_cons d_int (da_cons (d_sub d_int d_int) (da_cons (d_callO O__law_draw hr (takes_of rfl rfl rfl rfl) (da_cons (d_var 0) (da_cons d_int da_nil))) (da_cons (d_sub d_int (d_callO O__law_draw hr (takes_of rfl rfl rfl rfl) (da_cons (d_var 0) (da_cons d_int da_nil)))) da_nil)))))) da_nil)))))
    dss_nil)
    (dss_cons (ds_if [] (dt_lt (d_var 2) d_int)
    (dss_cons (ds_set [] 3 sc__law_value.nd (d_callO O__law_draw hr (takes_of rfl rfl rfl rfl) (da_cons (d_var 0) (da_cons d_int da_nil))))
    (dss_one (ds_ret [] (d_bm PySem.F.plainAttrs_str PySem.F.slot_str_join PySem.F.type_str_join mt_join r_join d_str (da_cons (d_lc [("k", 5)] (by decide) rfl sc__law_value.nd (blkOk_by rfl) (di_range1 rfl e.f_range (da_cons (d_var 3) da_nil)) (fun s H C cl fp => (dg_name 5 sc__law_value.nd)) (fun s H C cl fp => dts_nil) (fun s H C cl fp => (d_callO O__law_of hr takes0 (da_cons (d_var 0) (da_cons d_str da_nil))))) da_nil)))))
    dss_nil)
    (dss_cons (ds_setLc [] 4 [("k", 5)] (by decide) rfl sc__law_value.nd (blkOk_by rfl) (di_range1 rfl e.f_range (da_cons (d_callO O__law_draw hr (takes_of rfl rfl rfl rfl) (da_cons (d_var 0) (da_cons d_int da_nil))) da_nil)) (fun s H C cl fp => (dg_name 5 sc__law_value.nd)) (fun s H C cl fp => dts_nil) (fun s H C cl fp => (d_callO O__law_value hr takes0 (da_cons (d_var 0) (da_cons (d_sub (d_var 1) d_int) da_nil)))) (sw_true rfl rfl rfl (by decide +kernel)))
    (dss_one (ds_ret [] (d_if (dt_eq hu (d_var 2) d_int) (d_var 4) (d_callTy call_tuple_of r_tuple rfl e.f_tuple bv_tuple (da_cons (d_var 4) da_nil))))))))))
theorem ok__law_value {P : Program} {w : World} {K : PySem.W.Frag} {mg : Str → Option Value} {base : Heap} {k : Nat} (e : En K mg) {c__law_draw : DC} (O__law_draw : OkD P w K mg base k "_law_draw" ["bag", "size"] c__law_draw) {c__law_of : DC} (O__law_of : OkD P w K mg base k "_law_of" ["bag", "things"] c__law_of) {c__law_value : DC} (O__law_value : OkD P w K mg base k "_law_value" ["bag", "deep"] c__law_value) {c : DC} (len : ∀ β ds Q E, c β ds Q E → ds.length = 2) (h : Keeps (td__law_value K c__law_draw c__law_of c__law_value) ["bag", "deep", "pick", "size", "parts", "k"] c) : OkD P w K mg base (k + 1) "_law_value" ["bag", "deep"] c := by
  obtain ⟨fd, F⟩ := e.d__law_value
  exact okD_of e.g__law_value F (F.binds fun _ _ _ _ _ _ us hl => match us, hl with | [_, _], _ => rfl) sc__law_value (w__law_value e O__law_draw O__law_of O__law_value) len h
theorem sc__law_copied : FnScope ["value", "part"] ["value"] (defScope (top 42)) := ⟨rfl, rfl, rfl, by decide +kernel, rfl, by decide +kernel, by decide +kernel⟩
def td__law_copied (K : PySem.W.Frag) (c__law_copied : DC) (β : Addr) : TDS :=
    (ySeq (yIf [] (xTest (xCall (dIsi K oxt) (xCons (xVar 0) (xCons (xC (.ty "list")) xNil))))
    (yRet [] (xLcE [1] (xiSeq (xVar 0)) (zName 1) xYes (xFn β c__law_copied (xCons (xVar 1) xNil))))
    yNext)
    (ySeq (yIf [] (xTest (xCall (dIsi K oxt) (xCons (xVar 0) (xCons (xC (.ty "tuple")) xNil))))
    (yRet [] (xCall dTuple (xCons (xLcE [1] (xiTup (xVar 0)) (zName 1) xYes (xFn β c__law_copied (xCons (xVar 1) xNil))) xNil)))
    yNext)
    (yRet [] (xVar 0))))
theorem w__law_copied {P : Program} {w : World} {K : PySem.W.Frag} {mg : Str → Option Value} {base : Heap} {k : Nat} (e : En K mg) {c__law_copied : DC} (O__law_copied : OkD P w K mg base k "_law_copied" ["value"] c__law_copied) : BodyD P w K mg base k "_law_copied" (top 42) (He.ga K "_law_copied") ["value", "part"] (td__law_copied K c__law_copied) := by
  intro cdv A outer s p E hr
  have hu := hr.units
  have hrN := L2H.roomH_of hr
  exact (dss_cons (ds_if [] (dt_val (he := fun _ => rfl) (d_callB call_isiZ (r_isi e.ox) rfl e.f_isinstance bv_isinstance (da_cons (d_var 0) (da_cons (d_bltn (d := .ty "list") rfl rfl e.f_list bv_list rfl) da_nil))))
    (dss_one (ds_ret [] (d_lc [("part", 1)] (by decide) rfl sc__law_copied.nd (blkOk_by rfl) (di_list (d_var 0)) (fun s H C cl fp => (dg_name 1 sc__law_copied.nd)) (fun s H C cl fp => dts_nil) (fun s H C cl fp => (d_callO O__law_copied hr takes0 (da_cons (d_var 1) da_nil))))))
    dss_nil)
    (dss_cons (ds_if [] (dt_val (he := fun _ => rfl) (d_callB call_isiZ (r_isi e.ox) rfl e.f_isinstance bv_isinstance (da_cons (d_var 0) (da_cons (d_bltn (d := .ty "tuple") rfl rfl e.f_tuple bv_tuple rfl) da_nil))))
    (dss_one (ds_ret [] (d_callTy call_tuple_of r_tuple rfl e.f_tuple bv_tuple (da_cons (d_lc [("part", 1)] (by decide) rfl sc__law_copied.nd (blkOk_by rfl) (di_tup (d_var 0)) (fun s H C cl fp => (dg_name 1 sc__law_copied.nd)) (fun s H C cl fp => dts_nil) (fun s H C cl fp => (d_callO O__law_copied hr takes0 (da_cons (d_var 1) da_nil)))) da_nil))))
    dss_nil)
    (dss_one (ds_ret [] (d_var 0)))))
theorem ok__law_copied {P : Program} {w : World} {K : PySem.W.Frag} {mg : Str → Option Value} {base : Heap} {k : Nat} (e : En K mg) {c__law_copied : DC} (O__law_copied : OkD P w K mg base k "_law_copied" ["value"] c__law_copied) {c : DC} (len : ∀ β ds Q E, c β ds Q E → ds.length = 1) (h : Keeps (td__law_copied K c__law_copied) ["value", "part"] c) : OkD P w K mg base (k + 1) "_law_copied" ["value"] c := by
  obtain ⟨fd, F⟩ := e.d__law_copied
  exact okD_of e.g__law_copied F (F.binds fun _ _ _ _ _ _ us hl => match us, hl with | [_], _ => rfl) sc__law_copied (w__law_copied e O__law_copied) len h
theorem sc__law_so : FnScope ["bag", "pick", "pairs", "width", "errors", "k", "due", "base", "told", "pair"] ["bag", "pick", "pairs"] (defScope (top 43)) := ⟨rfl, rfl, rfl, by decide +kernel, rfl, by decide +kernel, by decide +kernel⟩
def td__law_so (K : PySem.W.Frag) (c__law_made : DC) (c__law_draw : DC) (c__law_copied : DC) (c__law_like : DC) (c__law_values : DC) (c__law_kinds : DC) (c__law_due_kinds : DC) (c__law_caught : DC) (β : Addr) : TDS :=
    (ySeq (ySet [] 3 (xC (.int 0)))
    (ySeq (yIf [] (xTest (xOp (dIn false) (xVar 1) (xTup (xCons (xC (.str "BadText")) (xCons (xC (.str "UnlikeParts")) (xCons (xC (.str "UnlikeTapes")) (xCons (xC (.str "TooMany")) (xCons (xC (.str "CantAnswer")) xNil))))))))
    (ySet [] 3 (xC (.int 2)))
    (yIf [] (xTest (xOp (dIn true) (xVar 1) (xTup (xCons (xC (.str "BadDeed")) (xCons (xC (.str "NoDraft")) (xCons (xC (.str "InDraft")) (xCons (xC (.str "NothingLeft")) xNil)))))))
    (ySet [] 3 (xC (.int 1)))
    yNext))
    (ySeq (ySetLc [] 4 [9] (xiSeq (xVar 2)) (zName 9) xYes (xFn β c__law_made (xCons (xVar 1) (xCons (xOp dIx (xVar 9) (xC (.int 0))) (xCons (xOp dIx (xVar 9) (xC (.int 1))) (xCons (xFn β c__law_draw (xCons (xVar 0) (xCons (xC (.int 4)) xNil))) xNil))))))
    (ySeq (yFor [] (xiTup (xTup (xCons (xC (.int 1)) (xCons (xC (.int 0)) xNil)))) (zName 5)
    (ySeq (ySet [] 6 (xOp dAdd (xLst (xCons (xVar 1) xNil)) (xSl (xCall dList (xCons (xFn β c__law_copied (xCons (xOp dIx (xVar 2) (xVar 5)) xNil)) xNil)) xNoPart (xPart (xVar 3)))))
    (ySeq (yIf [] (xNot (xTest (xFn β c__law_like (xCons (xFn β c__law_values (xCons (xVar 1) (xCons (xOp dIx (xVar 4) (xVar 5)) xNil))) (xCons (xVar 6) xNil)))))
    (yRet [] (xC (.bl false)))
    yNext)
    (ySeq (yIf [] (xTest (xOp (dEq true) (xFn β c__law_kinds (xCons (xOp dIx (xVar 4) (xVar 5)) xNil)) (xFn β c__law_due_kinds (xCons (xVar 1) xNil))))
    (yRet [] (xC (.bl false)))
    yNext)
    (ySeq (ySet [] 7 (xOp dIx (xFn β c__law_due_kinds (xCons (xVar 1) xNil)) (xC (.int 1))))
    (ySeq (ySet [] 8 (xFn β c__law_caught (xCons (xVar 1) (xCons (xOp dIx (xOp dIx (xVar 2) (xVar 5)) (xC (.int 0))) (xCons (xOp dIx (xOp dIx (xVar 2) (xVar 5)) (xC (.int 1))) xNil)))))
    (yIf [] (xNot (xTest (xFn β c__law_like (xCons (xVar 8) (xCons (xOp dAdd (xLst (xCons (xIf (xTest (xOp (dEq true) (xVar 7) (xC (.str "LookupError")))) (xVar 7) (xVar 1)) xNil)) (xVar 6)) xNil)))))
    (yRet [] (xC (.bl false)))
    yNext)))))))
    (yRet [] (xFn β c__law_like (xCons (xFn β c__law_values (xCons (xVar 1) (xCons (xOp dIx (xVar 4) (xC (.int 0))) xNil))) (xCons (xOp dAdd (xLst (xCons (xVar 1) xNil)) (xSl (xCall dList (xCons (xOp dIx (xVar 2) (xC (.int 0))) xNil)) xNoPart (xPart (xVar 3)))) xNil))))))))
theorem w__law_so {P : Program} {w : World} {K : PySem.W.Frag} {mg : Str → Option Value} {base : Heap} {k : Nat} (e : En K mg) {c__law_made : DC} (O__law_made : OkD P w K mg base k "_law_made" ["pick", "a", "b", "way"] c__law_made) {c__law_draw : DC} (O__law_draw : OkD P w K mg base k "_law_draw" ["bag", "size"] c__law_draw) {c__law_copied : DC} (O__law_copied : OkD P w K mg base k "_law_copied" ["value"] c__law_copied) {c__law_like : DC} (O__law_like : OkD P w K mg base k "_law_like" ["told", "due"] c__law_like) {c__law_values : DC} (O__law_values : OkN P w K mg base k "_law_values" ["pick", "error"] c__law_values) {c__law_kinds : DC} (O__law_kinds : OkD P w K mg base k "_law_kinds" ["error"] c__law_kinds) {c__law_due_kinds : DC} (O__law_due_kinds : OkD P w K mg base k "_law_due_kinds" ["pick"] c__law_due_kinds) {c__law_caught : DC} (O__law_caught : OkD P w K mg base k "_law_caught" ["pick", "a", "b"] c__law_caught) : BodyD P w K mg base k "_law_so" (top 43) (He.ga K "_law_so") ["bag", "pick", "pairs", "width", "errors", "k", "due", "base", "told", "pair"] (td__law_so K c__law_made c__law_draw c__law_copied c__law_like c__law_values c__law_kinds c__law_due_kinds c__law_caught) := by
  intro cdv A outer s p E hr
  have hu := hr.units
  have hrN := L2H.roomH_of hr
  exact (dss_cons (ds_set [] 3 sc__law_so.nd d_int)
    (dss_cons (ds_if [] (dt_cmp op_in_seq (r_in false) rfl (d_var 1) (d_tup (da_cons d_str (da_cons d_str (da_cons d_str (da_cons d_str (da_cons d_str da_nil)))))))
    (dss_one (ds_set [] 3 sc__law_so.nd d_int))
    (dss_one (ds_if [] (dt_cmp op_notIn_seq (r_in true) rfl (d_var 1) (d_tup (da_cons d_str (da_cons d_str (da_cons d_str (da_cons d_str da_nil))))))
    (dss_one (ds_set [] 3 sc__law_so.nd d_int))
    dss_nil)))
    (dss_cons (ds_setLc [] 4 [("pair", 9)] (by decide) rfl sc__law_so.nd (blkOk_by rfl) (di_list (d_var 2)) (fun s H C cl fp => (dg_name 9 sc__law_so.nd)) (fun s H C cl fp => dts_nil) (fun s H C cl fp => (d_callO O__law_made hr takes0 (da_cons (d_var 1) (da_cons (d_ix (fun _ _ => rfl) (d_var 9) d_int) (da_cons (d_ix (fun _ _ => rfl) (d_var 9) d_int) (da_cons (d_callO O__law_draw hr takes0 (da_cons (d_var 0) (da_cons d_int da_nil))) da_nil)))))) (sw_true rfl rfl rfl (by decide +kernel)))
    (dss_cons (ds_for [] (passes_of rfl) rfl (di_tup (d_tup (da_cons d_int (da_cons d_int da_nil)))) (dg_name 5 sc__law_so.nd)
    (dss_cons (ds_set [] 6 sc__law_so.nd (d_add (d_lst (da_cons (d_var 1) da_nil)) (d_slice (d_callTy call_list_of r_list rfl e.f_list bv_list (da_cons (d_callO O__law_copied hr (takes_of rfl rfl rfl rfl) (da_cons (d_ix (fun _ _ => rfl) (d_var 2) (d_var 5)) da_nil)) da_nil)) do_none (do_some (d_var 3)))))
    (dss_cons (ds_if [] (dt_not (dt_val (he := fun _ => rfl) (d_callO O__law_like hr (takes_of rfl rfl rfl rfl) (da_cons (d_callON O__law_values (L2H.roomH_of hr) (takes_of rfl rfl rfl rfl) (da_cons (d_var 1) (da_cons (d_ix (fun _ _ => rfl) (d_var 4) (d_var 5)) da_nil))) (da_cons (d_var 6) da_nil)))))
    (dss_one (ds_ret [] d_bl))
    dss_nil)
    (dss_cons (ds_if [] (dt_ne hu (d_callO O__law_kinds hr (takes_of rfl rfl rfl rfl) (da_cons (d_ix (fun _ _ => rfl) (d_var 4) (d_var 5)) da_nil)) (d_callO O__law_due_kinds hr (takes_of rfl rfl rfl rfl) (da_cons (d_var 1) da_nil)))
    (dss_one (ds_ret [] d_bl))
    dss_nil)
    (dss_cons (ds_set [] 7 sc__law_so.nd (d_ix (fun _ _ => rfl) (d_callO O__law_due_kinds hr (takes_of rfl rfl rfl rfl) (da_cons (d_var 1) da_nil)) d_int))
    (dss_cons (ds_set [] 8 sc__law_so.nd (d_callO O__law_caught hr (takes_of rfl rfl rfl rfl) (da_cons (d_var 1) (da_cons (d_ix (fun _ _ => rfl) (d_ix (fun _ _ => rfl) (d_var 2) (d_var 5)) d_int) (da_cons (d_ix (fun _ _ => rfl) (d_ix (fun _ _ => rfl) (d_var 2) (d_var 5)) d_int) da_nil)))))
    (dss_one (ds_if [] (dt_not (dt_val (he := fun _ => rfl) (d_callO O__law_like hr (takes_of rfl rfl rfl rfl) (da_cons (d_var 8) (da_cons (d_add (d_lst (da_cons (d_if (dt_ne hu (d_var 7) d_str) (d_var 7) (d_var 1)) da_nil)) (d_var 6)) da_nil)))))
    (dss_one (ds_ret [] d_bl))
    dss_nil))))))))
    (dss_one (ds_ret [] (d_callO O__law_like hr (takes_of rfl rfl rfl rfl) (da_cons (d_callON O__law_values (L2H.roomH_of hr) (takes_of rfl rfl rfl rfl) (da_cons (d_var 1) (da_cons (d_ix (fun _ _ => rfl) (d_var 4) d_int) da_nil))) (da_cons (d_add (d_lst (da_cons (d_var 1) da_nil)) (d_slice (d_callTy call_list_of r_list rfl e.f_list bv_list (da_cons (d_ix (fun _ _ => rfl) (d_var 2) d_int) da_nil)) do_none (do_some (d_var 3)))) da_nil)))))))))
theorem ok__law_so {P : Program} {w : World} {K : PySem.W.Frag} {mg : Str → Option Value} {base : Heap} {k : Nat} (e : En K mg) {c__law_made : DC} (O__law_made : OkD P w K mg base k "_law_made" ["pick", "a", "b", "way"] c__law_made) {c__law_draw : DC} (O__law_draw : OkD P w K mg base k "_law_draw" ["bag", "size"] c__law_draw) {c__law_copied : DC} (O__law_copied : OkD P w K mg base k "_law_copied" ["value"] c__law_copied) {c__law_like : DC} (O__law_like : OkD P w K mg base k "_law_like" ["told", "due"] c__law_like) {c__law_values : DC} (O__law_values : OkN P w K mg base k "_law_values" ["pick", "error"] c__law_values) {c__law_kinds : DC} (O__law_kinds : OkD P w K mg base k "_law_kinds" ["error"] c__law_kinds) {c__law_due_kinds : DC} (O__law_due_kinds : OkD P w K mg base k "_law_due_kinds" ["pick"] c__law_due_kinds) {c__law_caught : DC} (O__law_caught : OkD P w K mg base k "_law_caught" ["pick", "a", "b"] c__law_caught) {c : DC} (len : ∀ β ds Q E, c β ds Q E → ds.length = 3) (h : Keeps (td__law_so K c__law_made c__law_draw c__law_copied c__law_like c__law_values c__law_kinds c__law_due_kinds c__law_caught) ["bag", "pick", "pairs", "width", "errors", "k", "due", "base", "told", "pair"] c) : OkD P w K mg base (k + 1) "_law_so" ["bag", "pick", "pairs"] c := by
  obtain ⟨fd, F⟩ := e.d__law_so
  exact okD_of e.g__law_so F (F.binds fun _ _ _ _ _ _ us hl => match us, hl with | [_, _, _], _ => rfl) sc__law_so (w__law_so e O__law_made O__law_draw O__law_copied O__law_like O__law_values O__law_kinds O__law_due_kinds O__law_caught) len h
theorem sc_law : FnScope ["script", "bag", "lap", "pick", "pairs", "k"] ["script"] (defScope (top 44)) := ⟨rfl, rfl, rfl, by decide +kernel, rfl, by decide +kernel, by decide +kernel⟩
abbrev N_law : List Str := ["script", "bag", "lap", "pick", "pairs", "k"]
abbrev s_law : Stmt := top 44
def td_law (K : PySem.W.Frag) (c__law_value : DC) (c__law_so : DC) (β : Addr) : TDS :=
    (ySeq (yFor [] (xiRng1 (xCons (xC (.int 2)) xNil)) (zName 2)
    (ySeq (yFor [] (xiTup (xTup (xCons (xC (.str "BadText")) (xCons (xC (.str "UnlikeParts")) (xCons (xC (.str "UnlikeTapes")) (xCons (xC (.str "TooMany")) (xCons (xC (.str "CantAnswer")) (xCons (xC (.str "BadName")) (xCons (xC (.str "BadLetters")) (xCons (xC (.str "BadRun")) (xCons (xC (.str "BadColumn")) (xCons (xC (.str "BadNumber")) (xCons (xC (.str "BadTable")) (xCons (xC (.str "HeldTwice")) xNil)))))))))))))) (zName 3)
    (ySeq (ySetLc [] 4 [5] (xiRng1 (xCons (xC (.int 2)) xNil)) (zName 5) xYes (xTup (xCons (xFn β c__law_value (xCons (xVar 1) (xCons (xC (.int 2)) xNil))) (xCons (xFn β c__law_value (xCons (xVar 1) (xCons (xC (.int 2)) xNil))) xNil))))
    (yIf [] (xNot (xTest (xFn β c__law_so (xCons (xVar 1) (xCons (xVar 3) (xCons (xVar 4) xNil))))))
    (yRet [] (xC (.bl false)))
    yNext)))
    (yFor [] (xiTup (xTup (xCons (xC (.str "BreaksBeside")) (xCons (xC (.str "NotSo")) (xCons (xC (.str "NotEnough")) (xCons (xC (.str "EndedRun")) (xCons (xC (.str "UnknownPart")) (xCons (xC (.str "UnknownName")) (xCons (xC (.str "UnknownRun")) (xCons (xC (.str "NotHeld")) (xCons (xC (.str "BadDeed")) (xCons (xC (.str "NoDraft")) (xCons (xC (.str "InDraft")) (xCons (xC (.str "NothingLeft")) xNil)))))))))))))) (zName 3)
    (ySeq (ySetLc [] 4 [5] (xiRng1 (xCons (xC (.int 2)) xNil)) (zName 5) xYes (xTup (xCons (xFn β c__law_value (xCons (xVar 1) (xCons (xC (.int 2)) xNil))) (xCons (xFn β c__law_value (xCons (xVar 1) (xCons (xC (.int 2)) xNil))) xNil))))
    (yIf [] (xNot (xTest (xFn β c__law_so (xCons (xVar 1) (xCons (xVar 3) (xCons (xVar 4) xNil))))))
    (yRet [] (xC (.bl false)))
    yNext)))))
    (yRet [] (xC (.bl true))))
theorem w_law {P : Program} {w : World} {K : PySem.W.Frag} {mg : Str → Option Value} {base : Heap} {k : Nat} (e : En K mg) {c__law_value : DC} (O__law_value : OkD P w K mg base k "_law_value" ["bag", "deep"] c__law_value) {c__law_so : DC} (O__law_so : OkD P w K mg base k "_law_so" ["bag", "pick", "pairs"] c__law_so) (cdv : Value) (A : Around) (outer : List Env) (s : Shared) (H : Hp) (p : Pr) (E : XK) (hr : Room k (A.deeper (envOfC "law" (defScope s_law) s.heap.objs.size (He.ga K "law") cdv))) :
    DSs p (cxOf (L2.CX P w) P w K mg base N_law "law" (defScope s_law) (He.ga K "law") cdv A outer s H E) (fun cls d _ H => E cls d H) (defBody s_law).tail (td_law K c__law_value c__law_so p.b.a) := by
  have hu := hr.units
  exact (dss_cons (ds_for [] (passes_of rfl) rfl (di_range1 rfl e.f_range (da_cons d_int da_nil)) (dg_name 2 sc_law.nd)
    (dss_cons (ds_for [] (passes_of rfl) rfl (di_tup (d_tup (da_cons d_str (da_cons d_str (da_cons d_str (da_cons d_str (da_cons d_str (da_cons d_str (da_cons d_str (da_cons d_str (da_cons d_str (da_cons d_str (da_cons d_str (da_cons d_str da_nil)))))))))))))) (dg_name 3 sc_law.nd)
    (dss_cons (ds_setLc [] 4 [("k", 5)] (by decide) rfl sc_law.nd (blkOk_by rfl) (di_range1 rfl e.f_range (da_cons d_int da_nil)) (fun s H C cl fp => (dg_name 5 sc_law.nd)) (fun s H C cl fp => dts_nil) (fun s H C cl fp => (d_tup (da_cons (d_callO O__law_value hr takes0 (da_cons (d_var 1) (da_cons d_int da_nil))) (da_cons (d_callO O__law_value hr takes0 (da_cons (d_var 1) (da_cons d_int da_nil))) da_nil)))) (sw_true rfl rfl rfl (by decide +kernel)))
    (dss_one (ds_if [] (dt_not (dt_val (he := fun _ => rfl) (d_callO O__law_so hr (takes_of rfl rfl rfl rfl) (da_cons (d_var 1) (da_cons (d_var 3) (da_cons (d_var 4) da_nil))))))
    (dss_one (ds_ret [] d_bl))
    dss_nil))))
    (dss_one (ds_for [] (passes_of rfl) rfl (di_tup (d_tup (da_cons d_str (da_cons d_str (da_cons d_str (da_cons d_str (da_cons d_str (da_cons d_str (da_cons d_str (da_cons d_str (da_cons d_str (da_cons d_str (da_cons d_str (da_cons d_str da_nil)))))))))))))) (dg_name 3 sc_law.nd)
    (dss_cons (ds_setLc [] 4 [("k", 5)] (by decide) rfl sc_law.nd (blkOk_by rfl) (di_range1 rfl e.f_range (da_cons d_int da_nil)) (fun s H C cl fp => (dg_name 5 sc_law.nd)) (fun s H C cl fp => dts_nil) (fun s H C cl fp => (d_tup (da_cons (d_callO O__law_value hr takes0 (da_cons (d_var 1) (da_cons d_int da_nil))) (da_cons (d_callO O__law_value hr takes0 (da_cons (d_var 1) (da_cons d_int da_nil))) da_nil)))) (sw_true rfl rfl rfl (by decide +kernel)))
    (dss_one (ds_if [] (dt_not (dt_val (he := fun _ => rfl) (d_callO O__law_so hr (takes_of rfl rfl rfl rfl) (da_cons (d_var 1) (da_cons (d_var 3) (da_cons (d_var 4) da_nil))))))
    (dss_one (ds_ret [] d_bl))
    dss_nil)))))))
    (dss_one (ds_ret [] d_bl)))
section
variable {P : Program} {w : World} {K : PySem.W.Frag} {mg : Str → Option Value} {base : Heap}
theorem sc__law_bag : FnScope Nb ["script"] (defScope (top 28)) := ⟨rfl, rfl, rfl, by decide +kernel, rfl, by decide +kernel, by decide +kernel⟩
theorem sc__law_draw : FnScope Nd ["bag", "size"] (defScope (top 29)) := ⟨rfl, rfl, rfl, by decide +kernel, rfl, by decide +kernel, by decide +kernel⟩
theorem ok__law_draw (e : En K mg) : OkD P w K mg base 1 "_law_draw" ["bag", "size"] cDraw := by
  obtain ⟨fd, F⟩ := e.d__law_draw
  refine ⟨fd, e.g__law_draw, F.kp, F.binds fun _ _ _ _ _ _ us hl => match us, hl with | [_, _], _ => rfl, ?_⟩
  refine F.okX sc__law_draw (fun vs H Q E h => ?_) (fun cdv A outer s H vs Q E hr h => ⟨t_draw K, ?_, draw_pure h⟩)
  · obtain ⟨b, G, ds, Qd, Ed, _, _, r, ⟨n, rfl, _⟩, _⟩ := h
    rw [← r.length]; rfl
  · exact pss_cons (ps_asg (pe_op op_add (pe_ix ix_seq (pe_var (i := 0) rfl (.inl rfl)) pe_int (fun _ _ => rfl)) pe_int) (pg_sub (pe_var (i := 0) rfl (.inl rfl)) pe_int set_list))
      (pss_cons (ps_if (PW.pt (pw_and (pt_cmpR op_eq (pe_ix ix_seq (pe_var (i := 0) rfl (.inl rfl)) pe_int (fun _ _ => rfl)) pe_int (nomark _)) (pw_and1 (pt_cmpR op_lt (pe_ix ix_seq (pe_var (i := 0) rfl (.inl rfl)) pe_int (fun _ _ => rfl)) (pe_callB (r := rLn K) call_len rfl e.f_len bv_len (pa_cons (pe_ix ix_seq (pe_var (i := 0) rfl (.inl rfl)) pe_int (fun _ _ => rfl)) pa_nil)) (nomark _)))))
        (pss_cons (ps_set (i := 2) sc__law_draw.nd rfl (.inl rfl) (pe_ix ix_seq (pe_ix ix_seq (pe_var (i := 0) rfl (.inl rfl)) pe_int (fun _ _ => rfl)) (pe_ix ix_seq (pe_var (i := 0) rfl (.inl rfl)) pe_int (fun _ _ => rfl)) (fun _ _ => rfl)))
          (pss_cons (ps_asg (pe_op op_add (pe_ix ix_seq (pe_var (i := 0) rfl (.inl rfl)) pe_int (fun _ _ => rfl)) pe_int) (pg_sub (pe_var (i := 0) rfl (.inl rfl)) pe_int set_list))
            (pss_one (ps_if (pt_cmpR op_ge (pe_var (i := 2) rfl (.inl rfl)) (pe_op op_pow pe_int pe_int) (nomark _))
              (pss_one (ps_asg (pe_var (i := 2) rfl (.inl rfl)) (pg_sub (pe_var (i := 0) rfl (.inl rfl)) pe_int set_list)))
              (pss_one (ps_asg (pe_op op_mod (pe_callTy call_int1 rfl e.f_int bv_int (pa_cons (pe_op op_add (pe_op op_add (pe_op op_mul (pe_ix ix_seq (pe_var (i := 0) rfl (.inl rfl)) pe_int (fun _ _ => rfl)) pe_int) (pe_op op_mul (pe_op op_mod (pe_callTy call_int1 rfl e.f_int bv_int (pa_cons (pe_var (i := 2) rfl (.inl rfl)) pa_nil)) pe_int) pe_int)) pe_int) pa_nil)) pe_int) (pg_sub (pe_var (i := 0) rfl (.inl rfl)) pe_int set_list)))))))
        pss_nil)
      (pss_cons (ps_if (pt_cmpR op_gt (pe_ix ix_seq (pe_var (i := 0) rfl (.inl rfl)) pe_int (fun _ _ => rfl)) pe_int (nomark _))
        (pss_cons (ps_set (i := 3) sc__law_draw.nd rfl (.inl rfl) (pe_op op_mod (pe_callTy call_int1 rfl e.f_int bv_int (pa_cons (pe_ix ix_seq (pe_var (i := 0) rfl (.inl rfl)) pe_int (fun _ _ => rfl)) pa_nil)) (pe_var (i := 1) rfl (.inl rfl))))
          (pss_cons (ps_asg (pe_op op_fdiv (pe_ix ix_seq (pe_var (i := 0) rfl (.inl rfl)) pe_int (fun _ _ => rfl)) (pe_var (i := 1) rfl (.inl rfl))) (pg_sub (pe_var (i := 0) rfl (.inl rfl)) pe_int set_list))
            (pss_one (ps_ret (pe_var (i := 3) rfl (.inl rfl))))))
        pss_nil)
      (pss_cons (ps_asg (pe_op op_mod (pe_callTy call_int1 rfl e.f_int bv_int (pa_cons (pe_op op_add (pe_op op_add (pe_op op_pow (pe_ix ix_seq (pe_var (i := 0) rfl (.inl rfl)) pe_int (fun _ _ => rfl)) pe_int) (pe_op op_mul (pe_ix ix_seq (pe_var (i := 0) rfl (.inl rfl)) pe_int (fun _ _ => rfl)) pe_int)) pe_int) pa_nil)) pe_int) (pg_sub (pe_var (i := 0) rfl (.inl rfl)) pe_int set_list))
        (pss_one (ps_ret (pe_op op_mod (pe_callTy call_int1 rfl e.f_int bv_int (pa_cons (pe_op op_add (pe_op op_fdiv (pe_ix ix_seq (pe_var (i := 0) rfl (.inl rfl)) pe_int (fun _ _ => rfl)) pe_int) (pe_op op_mul (pe_op op_mod (pe_callTy call_int1 rfl e.f_int bv_int (pa_cons (pe_ix ix_seq (pe_var (i := 0) rfl (.inl rfl)) pe_int (fun _ _ => rfl)) pa_nil)) pe_int) pe_int)) pa_nil)) (pe_var (i := 1) rfl (.inl rfl))))))))
theorem ok__law_bag (e : En K mg) : ∃ fd, mg "_law_bag" = some (.ref (He.ga K "_law_bag")) ∧ PySem.W.keepIn K (.ref (He.ga K "_law_bag")) = true ∧ Binds K fd ["script"] [] ∧ FnOk P w K mg base (L2.CX P w) 1 (He.ga K "_law_bag") fd ["script"] (spBag K) := by
  obtain ⟨fd, F⟩ := e.d__law_bag
  refine ⟨fd, e.g__law_bag, F.kp, F.binds fun _ _ _ _ _ _ us hl => match us, hl with | [_], _ => rfl, ?_⟩
  refine F.okX sc__law_bag (fun vs H Q E h => ?_) (fun cdv A outer s H vs Q E hr h => ⟨t_bag K, ?_, bag_pure h⟩)
  · obtain ⟨a, ns, rfl, _⟩ := h
    rfl
  · exact pss_cons (ps_set (i := 1) sc__law_bag.nd rfl (.inl rfl) pe_int)
      (pss_cons (ps_for (passes_of rfl) rfl (pi_list (pe_slice sl_list (pe_var (i := 0) rfl (.inl rfl)) po_none (po_some pe_int))) (pg_name (i := 2) sc__law_bag.nd rfl (.inl rfl))
        (pss_one (ps_set (i := 1) sc__law_bag.nd rfl (.inl rfl) (pe_op op_mod (pe_callTy call_int1 rfl e.f_int bv_int (pa_cons (pe_op op_add (pe_op op_add (pe_op op_mul (pe_var (i := 1) rfl (.inl rfl)) pe_int) (pe_op op_mod (pe_callTy call_int1 rfl e.f_int bv_int (pa_cons (pe_var (i := 2) rfl (.inl rfl)) pa_nil)) pe_int)) pe_int) pa_nil)) pe_int))))
      (pss_one (ps_ret (pe_lst (pa_cons (pe_callTy call_list_of rfl e.f_list bv_list (pa_cons (pe_slice sl_list (pe_var (i := 0) rfl (.inl rfl)) po_none (po_some pe_int)) pa_nil)) (pa_cons pe_int (pa_cons pe_int (pa_cons (pe_var (i := 1) rfl (.inl rfl)) (pa_cons pe_int pa_nil)))))))))
/-- the law's own promise -/
def spLaw (K : PySem.W.Frag) : Sp := fun vs H Q _ => ∃ (a : Addr) (ns : List Int), vs = [.ref a] ∧ SqL K H a (ns.map V.int) ∧ ∀ H', Q (.bl true) H'
theorem pss_any {X : Cx} {ι : Type} {sts : List Stmt} {t : ι → TS} (h : ∀ i, PSs X sts (t i)) : PSs X sts (fun D σ H => ∃ i, t i D σ H) := ⟨fun pins s σ H D I q => by
  obtain ⟨i, q⟩ := q
  exact (h i).run pins s σ H D I q⟩
/-- the law, from the reading of what stands behind its first statement -/
theorem law_ok (e : En K mg) {k : Nat} (hk : 1 ≤ k) {td : Addr → TDS} (B : ∀ (cdv : Value) (A : Around) (outer : List Env) (s : Shared) (H : Hp) (p : Pr) (E : XK), Room k (A.deeper (envOfC "law" (defScope s_law) s.heap.objs.size (He.ga K "law") cdv)) →
      DSs p (cxOf (L2.CX P w) P w K mg base N_law "law" (defScope s_law) (He.ga K "law") cdv A outer s H E) (fun cls d _ H => E cls d H) (defBody s_law).tail (td p.b.a))
    (h : ∀ (a β : Addr) (Qd : QD) (Dd : DEnds), Dd.rt = Qd → Qd (.bl true) → td β Dd (.val (.adr a) :: .val (.adr β) :: List.replicate (N_law.length - 2) .non)) :
    ∃ fd, Fun K "law" "law" s_law (He.ga K "law") fd ∧ FnOk P w K mg base (L2.CX P w) (k + 1) (He.ga K "law") fd ["script"] (spLaw K) := by
  obtain ⟨fd, F⟩ := e.d_law
  obtain ⟨fdB, gB, kB, bB, FB⟩ := ok__law_bag (P := P) (w := w) (base := base) e
  refine ⟨fd, F, F.okX sc_law (fun vs H Q E q => ?_) (fun cdv A outer s H vs Q E hr q => ?_)⟩
  · obtain ⟨a, ns, rfl, _⟩ := q
    rfl
  · have ch := fun p => (B cdv A outer s H p E hr).ex
    refine ⟨_, pss_cons (ps_set (i := 1) sc_law.nd rfl (by first | exact .inl rfl | exact .inr rfl) (pe_callS FB (hr.mono hk) rfl gB kB bB (fun σ => passAt (takes_of rfl rfl rfl rfl) σ) (pa_cons (pe_var (i := 0) rfl (.inl rfl)) pa_nil))) (pss_any fun p => (Classical.choose_spec (ch p)).1), ?_⟩
    obtain ⟨a, ns, rfl, hS, hQ⟩ := q
    refine ⟨_, rfl, a, ns, rfl, hS, fun β L sd H' nβ nL ne hb hl keep h0 h1 => ?_⟩
    refine ⟨⟨⟨β, L, cut63 ns⟩, H', fun x => if x = L then some (.lst ((cut63 ns).map V.int)) else none⟩, ?_⟩
    have hG : ∀ x, (fun x => if x = L then some (HO.lst ((cut63 ns).map V.int)) else none) x ≠ none → x = L := fun x z => by
      by_cases c : x = L
      · exact c
      · exact absurd (if_neg c) z
    have sm : Same (fun x => if x = L then some (HO.lst ((cut63 ns).map V.int)) else none) H' := fun x o z => by
      have c := hG x (by rw [z]; exact fun y => nomatch y)
      subst c
      rw [← z]; exact hl.trans (if_pos rfl).symm
    have bg : BagOk K ⟨β, L, cut63 ns⟩ (fun x => if x = L then some (HO.lst ((cut63 ns).map V.int)) else none) H' := ⟨if_neg ne, if_pos rfl, 0, 0, sd, 0, hb, by decide, by decide, h0, h1⟩
    refine (Classical.choose_spec (ch _)).2 (fun x => if x = L then some (HO.lst ((cut63 ns).map V.int)) else none) (fun x => if x = L then some (HO.lst ((cut63 ns).map V.int)) else none) _ H' (.val (.adr a) :: .val (.adr β) :: List.replicate (N_law.length - 2) .non) _ { nx := fun _ => False, rt := fun d => d = .bl true } (Same.refl _) ?_ (h a β _ _ rfl rfl) ⟨fun _ _ _ _ _ _ z => z.elim, fun G2 σ2 H2 δ2 v d _ _ rv z => ?_, fun _ _ _ _ _ _ z => z, fun _ _ _ _ _ _ z => z, fun _ _ _ _ _ _ _ _ _ _ _ _ z => False.elim z⟩
    · refine ⟨Same.refl _, sm, fun _ _ _ z => z, fun _ _ z => z, bg, bg.at, rfl, fun i sl z => ?_, fun i j o o' x _ z => ?_⟩
      · match i, z with
        | 0, z => cases z; exact ⟨_, rfl, rep_sc rfl⟩
        | 1, z => cases z; exact ⟨_, rfl, rep_sc rfl⟩
        | i + 2, z =>
          have z : (List.replicate (N_law.length - 2) Sl.non)[i]? = some sl := z
          rw [List.getElem?_replicate] at z
          split at z <;> cases z
          exact True.intro
      · exfalso
        match i, z with
        | 0, z => cases z
        | 1, z => cases z
        | i + 2, z =>
          have z : (List.replicate (N_law.length - 2) Sl.non)[i]? = some (.own o) := z
          rw [List.getElem?_replicate] at z
          split at z <;> cases z
    · subst z
      rw [rep_bl.mp rv]; exact hQ _
/-- .. in the form of the walk -/
theorem law_ok0 {k : Nat} {f : Addr} {fd : FuncData} (F : FnOk P w K mg base (L2.CX P w) k f fd ["script"] (spLaw K)) : FnOk P w K mg base L2.CX0 k f fd ["script"] (spLaw K) :=
  ⟨F.len, fun A outer s H args us vs Q E hr e0 hb hv hs => codeAny_mono (F.run A outer s H args us vs Q E0 hr e0 hb hv hs) fun r s' z => by
    cases r with
    | error er =>
      obtain ⟨_, _, _, _, _, _, _, _, _, _, _, _, z⟩ := z
      exact z.elim
    | ok fl => cases fl <;> exact z⟩
end
end K00

namespace K00
open PySem PySem.Spec PyProof.Rows L2 EX DL
def cNo : DC := fun _ _ _ _ => False
def cOf : DC := fun β ds Q _ => ∃ th, ds = [.adr β, th] ∧ ((∃ xs, th = .lst xs ∧ 0 < xs.length ∧ xs.length < 1073741824 ∧ ∀ d ∈ xs, Q d) ∨ ∃ z : Str, th = .str z ∧ 0 < z.length ∧ z.length ≤ sizeLine ∧ ∀ c, Q (.str ⟨#[c]⟩))
inductive Vd : Nat → D → Prop where
  | non (n : Nat) : Vd n .non
  | bl (n : Nat) (b : Bool) : Vd n (.bl b)
  | int (n : Nat) (i : Int) : Vd n (.int i)
  | str (n : Nat) (s : Str) : Vd n (.str s)
  | lst (n : Nat) (ds : List D) (h : ∀ d ∈ ds, Vd n d) (hl : ds.length ≤ 8) : Vd (n + 1) (.lst ds)
  | tup (n : Nat) (ds : List D) (h : ∀ d ∈ ds, Vd n d) (hl : ds.length ≤ 8) : Vd (n + 1) (.tup ds)
def cV (n : Nat) : DC := fun β ds Q _ => ds = [.adr β, .int n] ∧ ∀ d, Vd n d → Q d
def cCopy (n : Nat) : DC := fun _ ds Q _ => ∃ d, ds = [d] ∧ Vd n d ∧ Q d
def cLike (n : Nat) : DC := fun _ ds Q _ => ∃ d, ds = [d, d] ∧ Vd n d ∧ Q (.bl true)
theorem atI_some {α : Type} {xs : List α} {r : Int} (h0 : 0 ≤ r) (h1 : r < xs.length) : ∃ d ∈ xs, atI xs r = some d := by
  obtain ⟨j, rfl⟩ := Int.eq_ofNat_of_zero_le h0
  have hj : j < xs.length := by omega
  exact ⟨xs[j], List.getElem_mem hj, atI_nat (List.getElem?_eq_getElem hj)⟩
theorem rangeD_len (lo : Int) (n : Nat) : (rangeD lo n).length = n := by unfold rangeD; simp
theorem strs_one {ds ys : List D} (h : Paired (fun (_ : D) y => ∃ c, y = D.str ⟨#[c]⟩) ds ys) : ∃ ks, strsD ys = some ks ∧ ks.length = ds.length ∧ (ks.map (·.length)).sum = ds.length := by
  induction h with
  | nil => exact ⟨[], rfl, rfl, rfl⟩
  | cons h t ih =>
    obtain ⟨c, rfl⟩ := h
    obtain ⟨ks, e1, e2, e3⟩ := ih
    refine ⟨_ :: ks, by unfold strsD; rw [e1]; rfl, by rw [List.length_cons, List.length_cons, e2], ?_⟩
    rw [List.map_cons, List.sum_cons, e3, List.length_cons]
    show 1 + _ = _
    omega
section
variable {K : PySem.W.Frag}
theorem k_of : Keeps (td__law_of K cDraw) ["bag", "things"] cOf := by
  intro β ds Qd Ed h
  obtain ⟨th, rfl, h⟩ := h
  rcases h with ⟨xs, rfl, h1, h2, h3⟩ | ⟨z, rfl, h1, h2, h3⟩
  · refine ⟨_, rfl, _, rfl, _, rfl, ?_⟩
    refine ⟨_, rfl, by omega, by omega, fun r h4 h5 => ?_⟩
    obtain ⟨d, hd, e⟩ := atI_some h4 h5
    exact ⟨d, e, h3 d hd⟩
  · refine ⟨_, rfl, _, rfl, _, rfl, h2, ?_⟩
    rw [sizeLine_eq] at h2
    refine ⟨_, rfl, by omega, by omega, fun r h4 h5 => ⟨by rw [sizeLine_eq]; exact h2, ?_⟩⟩
    obtain ⟨d, hd, e⟩ := atI_some (xs := z.cps.toList) h4 (by rw [Array.length_toList]; exact h5)
    exact ⟨d, e, h3 d⟩
theorem k_value {cR : DC} (n : Nat) (hR : ∀ m, n = m + 1 → ∀ β Q E, (∀ d, Vd m d → Q d) → cR β [.adr β, .int m] Q E) : Keeps (td__law_value K cDraw cOf cR) ["bag", "deep", "pick", "size", "parts", "k"] (cV n) := by
  intro β ds Qd Ed h
  obtain ⟨rfl, hq⟩ := h
  have main : ∀ r : Int, 0 ≤ r → r < 10 → (n = 0 → r < 8) → (ySeq (yIf [] (xTest (xOp (dEq false) (xVar 2) (xC (.int 0))))
    (yRet [] (xFn β cOf (xCons (xVar 0) (xCons (xLst (xCons (xC .non) (xCons (xC (.bl true)) (xCons (xC (.bl false)) xNil)))) xNil))))
    yNext)
    (ySeq (yIf [] (xTest (xOp dLt (xVar 2) (xC (.int 4))))
    (yRet [] (xFn β cOf (xCons (xVar 0) (xCons (xLst (xCons (xC (.int 0)) (xCons (xC (.int 1)) (xCons (xOp dSub (xC (.int 0)) (xC (.int 1))) (xCons (xFn β cDraw (xCons (xVar 0) (xCons (xC (.int 1000000000)) xNil))) (xCons (xOp dSub (xC (.int 0)) (xFn β cDraw (xCons (xVar 0) (xCons (xC (.int 1000000000)) xNil)))) xNil)))))) xNil))))
    yNext)
    (ySeq (yIf [] (xTest (xOp dLt (xVar 2) (xC (.int 8))))
    (ySeq (ySet [] 3 (xFn β cDraw (xCons (xVar 0) (xCons (xC (.int 5)) xNil))))
    (yRet [] (xMeth "str" dJoin (xC (.str "")) (xCons (xLcE [5] (xiRng1 (xCons (xVar 3) xNil)) (zName 5) xYes (xFn β cOf (xCons (xVar 0) (xCons (xC (.str "ab01.-#:=? xyzAZ~\n")) xNil)))) xNil))))
    yNext)
    (ySeq (ySetLc [] 4 [5] (xiRng1 (xCons (xFn β cDraw (xCons (xVar 0) (xCons (xC (.int 4)) xNil))) xNil)) (zName 5) xYes (xFn β cR (xCons (xVar 0) (xCons (xOp dSub (xVar 1) (xC (.int 1))) xNil))))
    (yRet [] (xIf (xTest (xOp (dEq false) (xVar 2) (xC (.int 8)))) (xVar 4) (xCall dTuple (xCons (xVar 4) xNil)))))))) { nx := fun _ => Qd .non, rt := Qd, xc := fun cn fs _ => Ed cn fs } [.val (.adr β), .val (.int n), .val (.int r), .non, .non, .non] := by
    intro r h0 h10 h8
    refine ⟨_, rfl, _, rfl, ?_⟩
    by_cases e0 : r = 0
    · refine iteT (decide_eq_true e0) ?_
      refine ⟨_, rfl, by rw [sizeLine_eq]; decide, ?_⟩
      refine ⟨_, rfl, .inl ⟨_, rfl, by decide, by decide, fun d hd => ?_⟩⟩
      simp only [List.mem_cons, List.not_mem_nil, or_false] at hd
      rcases hd with rfl | rfl | rfl
      · exact hq _ (.non _)
      · exact hq _ (.bl _ _)
      · exact hq _ (.bl _ _)
    refine iteF (decide_eq_false e0) ?_
    refine ⟨_, rfl, _, rfl, ?_⟩
    by_cases e4 : r < 4
    · refine iteT (decide_eq_true e4) ?_
      refine ⟨_, rfl, _, rfl, ?_⟩
      refine ⟨_, rfl, by decide, by decide, fun r1 _ _ => ?_⟩
      refine ⟨_, rfl, ?_⟩
      refine ⟨_, rfl, by decide, by decide, fun r2 _ _ => ?_⟩
      refine ⟨by rw [sizeLine_eq]; show 5 ≤ 16777216; decide, ?_⟩
      refine ⟨_, rfl, .inl ⟨_, rfl, (by show 0 < 5; decide), (by show 5 < 1073741824; decide), fun d hd => ?_⟩⟩
      simp only [List.mem_cons, List.not_mem_nil, or_false] at hd
      rcases hd with rfl | rfl | rfl | rfl | rfl <;> exact hq _ (.int _ _)
    refine iteF (decide_eq_false e4) ?_
    refine ⟨_, rfl, _, rfl, ?_⟩
    by_cases e8 : r < 8
    · refine iteT (decide_eq_true e8) ?_
      refine ⟨_, rfl, ?_⟩
      refine ⟨_, rfl, by decide, by decide, fun m h0 h5 => ?_⟩
      have ml : (rangeD 0 m.toNat).length ≤ 4 := by rw [rangeD_len]; omega
      refine ⟨rfl, _, rfl, by omega, by omega, by rw [sizeLine_eq]; omega, ?_⟩
      refine compD_rel (fun _ y => ∃ c, y = .str ⟨#[c]⟩) _ _ (fun d _ k hk => ⟨_, rfl, _, rfl, .inr ⟨_, rfl, by decide, by rw [sizeLine_eq]; decide, fun c => hk _ ⟨c, rfl⟩⟩⟩) (fun ys hys => ?_)
      obtain ⟨ks, e1, e2, e3⟩ := strs_one hys
      refine ⟨ks, e1, ?_, hq _ (.str _ _)⟩
      rw [e3]
      show _ + ks.length * 0 ≤ _
      omega
    refine iteF (decide_eq_false e8) ?_
    obtain ⟨m', rfl⟩ : ∃ m', n = m' + 1 := ⟨n - 1, by
      have : n ≠ 0 := fun z => e8 (h8 z)
      omega⟩
    refine ⟨_, rfl, _, rfl, by decide, by decide, fun m h0 h5 => ?_⟩
    have ml : (rangeD 0 m.toNat).length ≤ 4 := by rw [rangeD_len]; omega
    refine ⟨by omega, by omega, by rw [sizeLine_eq]; omega, ?_⟩
    refine compD_rel (fun _ y => Vd m' y) _ _ (fun d _ k hk => ⟨_, rfl, _, rfl, ?_⟩) (fun ys hys => ?_)
    · have e : (((m' + 1 : Nat) : Int) - 1) = (m' : Int) := by omega
      show cR β [.adr β, .int (((m' + 1 : Nat) : Int) - 1)] _ _
      rw [e]
      exact hR m' rfl _ _ _ hk
    · have hl : ys.length ≤ 8 := by rw [← Paired.length hys]; omega
      have hall : ∀ d ∈ ys, Vd m' d := fun d hd => by
        obtain ⟨_, h⟩ := Paired.right hys d hd
        exact h
      refine ⟨_, rfl, _, rfl, ?_⟩
      by_cases e9 : r = 8
      · refine iteT (decide_eq_true e9) ?_
        exact ⟨_, rfl, hq _ (.lst _ _ hall hl)⟩
      · refine iteF (decide_eq_false e9) ?_
        exact ⟨_, rfl, hq _ (.tup _ _ hall hl)⟩
  refine ⟨_, rfl, _, rfl, _, rfl, ?_⟩
  by_cases hn : (0 : Int) < n
  · refine iteT (decide_eq_true hn) ?_
    exact ⟨_, rfl, by decide, by decide, fun r h0 h1 => main r h0 h1 (fun z => by omega)⟩
  · refine iteF (decide_eq_false hn) ?_
    exact ⟨_, rfl, by decide, by decide, fun r h0 h1 => main r h0 (by omega) (fun z => h1)⟩
end
end K00

namespace K00
open PySem PySem.Spec PyProof.Rows L2 EX DL
section
variable {K : PySem.W.Frag} {δ : DSt} {Dd : DEnds} {i j : Nat} {p s : Str} {n m : Int} {t rest : TDS} {Q : Bool → Prop} {E : XD} {d : D} {ty g : String} {b : Bool}
theorem s_no (hi : δ[i]? = some (.val (.str p))) (h : decide (p = s) = false) (q : rest Dd δ) : ySeq (yIf [] (xTest (xOp (dEq false) (xVar i) (xC (.str s)))) t yNext) rest Dd δ := ⟨_, hi, _, rfl, iteF h q⟩
theorem s_yes (hi : δ[i]? = some (.val (.str p))) (h : decide (p = s) = true) (q : t { Dd with nx := rest Dd } δ) : ySeq (yIf [] (xTest (xOp (dEq false) (xVar i) (xC (.str s)))) t yNext) rest Dd δ := ⟨_, hi, _, rfl, iteT h q⟩
theorem a_no (hi : δ[i]? = some (.val (.str p))) (hj : δ[j]? = some (.val (.int n))) (h : (decide (p = s) && decide (n < m)) = false) (q : rest Dd δ) : ySeq (yIf [] (xAnd (xTest (xOp (dEq false) (xVar i) (xC (.str s)))) (xTest (xOp dLt (xVar j) (xC (.int m))))) t yNext) rest Dd δ := by
  refine ⟨_, hi, _, rfl, ?_⟩
  by_cases e : p = s
  · have h2 : decide (n < m) = false := by
      rw [decide_eq_true e, Bool.true_and] at h
      exact h
    exact iteT (decide_eq_true e) ⟨_, hj, _, rfl, iteF h2 q⟩
  · exact iteF (decide_eq_false e) (iteF rfl q)
theorem a_yes (hi : δ[i]? = some (.val (.str p))) (hj : δ[j]? = some (.val (.int n))) (h : decide (p = s) = true) (h2 : decide (n < m) = true) (q : t { Dd with nx := rest Dd } δ) : ySeq (yIf [] (xAnd (xTest (xOp (dEq false) (xVar i) (xC (.str s)))) (xTest (xOp dLt (xVar j) (xC (.int m))))) t yNext) rest Dd δ :=
  ⟨_, hi, _, rfl, iteT h ⟨_, hj, _, rfl, iteT h2 q⟩⟩
theorem t_isi (h : δ[i]? = some (.val d)) (ht : tgD oxt d = some (.b g)) (hb : isB g ty = some b) (q : Q b) : xTest (xCall (dIsi K oxt) (xCons (xVar i) (xCons (xC (.ty ty)) xNil))) δ Q E := ⟨_, h, _, _, ht, hb, _, rfl, q⟩
theorem t_isi2 (h : δ[i]? = some (.val d)) (ht : tgD oxt d = some (.b g)) (hb : isAny K (.b g) [.ty "list", .ty "tuple"] = some b) (q : Q b) : xTest (xCall (dIsi K oxt) (xCons (xVar i) (xCons (xTup (xCons (xC (.ty "list")) (xCons (xC (.ty "tuple")) xNil))) xNil))) δ Q E :=
  ⟨_, h, by rw [sizeLine_eq]; show 2 ≤ 16777216; decide, _, _, ht, hb, _, rfl, q⟩
theorem t_isiNe (h : δ[i]? = some (.val d)) (h' : δ[j]? = some (.val d)) (ht : tgD oxt d = some (.b g)) (hb : isB g ty = some b) (q : Q false) : xTest (xOp (dEq true) (xCall (dIsi K oxt) (xCons (xVar i) (xCons (xC (.ty ty)) xNil))) (xCall (dIsi K oxt) (xCons (xVar j) (xCons (xC (.ty ty)) xNil)))) δ Q E := by
  refine ⟨_, h, _, _, ht, hb, _, h', _, _, ht, hb, _, rfl, ?_⟩
  show Q (!decide (b = b))
  rw [decide_eq_true rfl]
  exact q
end
theorem isAny2 {K : PySem.W.Frag} {g : String} {b1 b2 : Bool} (h1 : isB g "list" = some b1) (h2 : isB g "tuple" = some b2) : isAny K (.b g) [.ty "list", .ty "tuple"] = some (b1 || b2) := by
  unfold isAny isAny isAny isOne
  simp only [h1, h2]
  cases b1 <;> cases b2 <;> rfl
section
variable {K : PySem.W.Frag}
theorem paired_eq {ds ys : List D} (h : Paired (fun d y => y = d) ds ys) : ys = ds := by
  induction h with
  | nil => rfl
  | cons h t ih => rw [h, ih]
theorem compD_mem {g : TDG} {te : TDE} {δ : DSt} {ds : List D} {k : List D → Prop} (h : ∀ d ∈ ds, ∀ k : D → Prop, k d → g d δ fun δ1 => te δ1 k (fun _ _ => False)) (q : k ds) : compD g xYes te δ ds k :=
  compD_rel (fun d y => y = d) ds k (fun d hd k hk => h d hd k (hk d rfl)) (fun ys hys => by rw [paired_eq hys]; exact q)
theorem k_copied {cR : DC} (n : Nat) (hR : ∀ m, n = m + 1 → ∀ β d Q E, Vd m d → Q d → cR β [d] Q E) : Keeps (td__law_copied K cR) ["value", "part"] (cCopy n) := by
  intro β ds Qd Ed h
  obtain ⟨d, rfl, hv, hq⟩ := h
  cases hv with
  | non | bl | int | str =>
    refine t_isi rfl rfl (show isB _ "list" = some false by decide +kernel) (iteF rfl ?_)
    refine t_isi rfl rfl (show isB _ "tuple" = some false by decide +kernel) (iteF rfl ?_)
    exact ⟨_, rfl, hq⟩
  | lst m ds h hl =>
    refine t_isi rfl rfl (show isB _ "list" = some true by decide +kernel) (iteT rfl ?_)
    refine ⟨_, rfl, by rw [sizeLine_eq]; omega, ?_⟩
    exact compD_mem (fun d hd k hk => ⟨_, rfl, hR m rfl _ _ _ _ (h d hd) hk⟩) hq
  | tup m ds h hl =>
    refine t_isi rfl rfl (show isB _ "list" = some false by decide +kernel) (iteF rfl ?_)
    refine t_isi rfl rfl (show isB _ "tuple" = some true by decide +kernel) (iteT rfl ?_)
    refine ⟨_, rfl, by rw [sizeLine_eq]; omega, ?_⟩
    exact compD_mem (fun d hd k hk => ⟨_, rfl, hR m rfl _ _ _ _ (h d hd) hk⟩) hq
theorem bls_true : ∀ {ds ys : List D}, Paired (fun _ y => y = D.bl true) ds ys → ∃ ks, blsD ys = some ks ∧ ks.all id = true := by
  intro ds ys h
  induction h with
  | nil => exact ⟨[], rfl, rfl⟩
  | cons h t ih =>
    obtain ⟨ks, e1, e2⟩ := ih
    subst h
    exact ⟨true :: ks, by unfold blsD; rw [e1]; rfl, by rw [List.all_cons, e2]; rfl⟩
theorem zip_self : ∀ {ds : List D} {z : D}, z ∈ zipD ds ds → ∃ d ∈ ds, z = .tup [d, d]
  | d :: ds, z, h => by
    unfold zipD at h
    rcases List.mem_cons.mp h with e | h
    · exact ⟨d, List.mem_cons_self, e⟩
    · obtain ⟨x, h1, h2⟩ := zip_self h
      exact ⟨x, List.mem_cons_of_mem _ h1, h2⟩
theorem k_like {cR : DC} (n : Nat) (hR : ∀ m, n = m + 1 → ∀ β d Q E, Vd m d → Q (.bl true) → cR β [d, d] Q E) : Keeps (td__law_like K cR) ["told", "due", "a", "b"] (cLike n) := by
  intro β ds Qd Ed h
  obtain ⟨d, rfl, hv, hq⟩ := h
  cases hv with
  | non =>
    refine t_isi2 rfl rfl (isAny2 (b1 := false) (b2 := false) (by decide +kernel) (by decide +kernel)) (iteF rfl ?_)
    refine ⟨_, rfl, _, rfl, iteT rfl (iteT rfl ?_)⟩
    exact ⟨_, rfl, _, rfl, iteT rfl ⟨_, rfl, hq⟩⟩
  | bl m b =>
    refine t_isi2 rfl rfl (isAny2 (b1 := false) (b2 := false) (by decide +kernel) (by decide +kernel)) (iteF rfl ?_)
    refine ⟨_, rfl, _, rfl, iteF rfl ⟨_, rfl, _, rfl, iteF rfl ?_⟩⟩
    refine t_isi2 rfl rfl (isAny2 (b1 := false) (b2 := false) (by decide +kernel) (by decide +kernel)) (iteF rfl ?_)
    refine t_isiNe rfl rfl rfl (show isB _ "bool" = some true by decide +kernel) (iteF rfl ?_)
    refine t_isiNe rfl rfl rfl (show isB _ "str" = some false by decide +kernel) (iteF rfl ?_)
    refine t_isiNe rfl rfl rfl (show isB _ "int" = some true by decide +kernel) (iteF rfl ?_)
    refine ⟨_, rfl, _, rfl, ?_⟩
    show Qd (.bl (decide (b = b)))
    rw [decide_eq_true rfl]; exact hq
  | int m b =>
    refine t_isi2 rfl rfl (isAny2 (b1 := false) (b2 := false) (by decide +kernel) (by decide +kernel)) (iteF rfl ?_)
    refine ⟨_, rfl, _, rfl, iteF rfl ⟨_, rfl, _, rfl, iteF rfl ?_⟩⟩
    refine t_isi2 rfl rfl (isAny2 (b1 := false) (b2 := false) (by decide +kernel) (by decide +kernel)) (iteF rfl ?_)
    refine t_isiNe rfl rfl rfl (show isB _ "bool" = some false by decide +kernel) (iteF rfl ?_)
    refine t_isiNe rfl rfl rfl (show isB _ "str" = some false by decide +kernel) (iteF rfl ?_)
    refine t_isiNe rfl rfl rfl (show isB _ "int" = some true by decide +kernel) (iteF rfl ?_)
    refine ⟨_, rfl, _, rfl, ?_⟩
    show Qd (.bl (decide (b = b)))
    rw [decide_eq_true rfl]; exact hq
  | str m b =>
    refine t_isi2 rfl rfl (isAny2 (b1 := false) (b2 := false) (by decide +kernel) (by decide +kernel)) (iteF rfl ?_)
    refine ⟨_, rfl, _, rfl, iteF rfl ⟨_, rfl, _, rfl, iteF rfl ?_⟩⟩
    refine t_isi2 rfl rfl (isAny2 (b1 := false) (b2 := false) (by decide +kernel) (by decide +kernel)) (iteF rfl ?_)
    refine t_isiNe rfl rfl rfl (show isB _ "bool" = some false by decide +kernel) (iteF rfl ?_)
    refine t_isiNe rfl rfl rfl (show isB _ "str" = some true by decide +kernel) (iteF rfl ?_)
    refine t_isiNe rfl rfl rfl (show isB _ "int" = some false by decide +kernel) (iteF rfl ?_)
    refine ⟨_, rfl, _, rfl, ?_⟩
    show Qd (.bl (decide (b = b)))
    rw [decide_eq_true rfl]; exact hq
  | lst m ds h hl =>
    refine t_isi2 rfl rfl (isAny2 (b1 := true) (b2 := false) (by decide +kernel) (by decide +kernel)) (iteT rfl ?_)
    refine t_isiNe rfl rfl rfl (show isB _ "list" = some true by decide +kernel) (iteF rfl ?_)
    refine t_isiNe rfl rfl rfl (show isB _ "tuple" = some false by decide +kernel) (iteF rfl ?_)
    refine ⟨_, rfl, _, rfl, _, rfl, iteT (decide_eq_true rfl) ⟨_, rfl, _, rfl, ?_⟩⟩
    refine ⟨by rw [zipD_len, sizeLine_eq]; omega, ?_⟩
    refine compD_rel (fun _ y => y = .bl true) _ _ (fun z hz k hk => ?_) (fun ys hys => ?_)
    · obtain ⟨x, hx, rfl⟩ := zip_self hz
      exact ⟨rfl, rfl, _, rfl, _, rfl, hR m rfl _ _ _ _ (h x hx) (hk _ rfl)⟩
    · obtain ⟨ks, e1, e2⟩ := bls_true hys
      refine ⟨ks, e1, ?_⟩
      show Qd (.bl (ks.all id))
      rw [e2]; exact hq
  | tup m ds h hl =>
    refine t_isi2 rfl rfl (isAny2 (b1 := false) (b2 := true) (by decide +kernel) (by decide +kernel)) (iteT rfl ?_)
    refine t_isiNe rfl rfl rfl (show isB _ "list" = some false by decide +kernel) (iteF rfl ?_)
    refine t_isiNe rfl rfl rfl (show isB _ "tuple" = some true by decide +kernel) (iteF rfl ?_)
    refine ⟨_, rfl, _, rfl, _, rfl, iteT (decide_eq_true rfl) ⟨_, rfl, _, rfl, ?_⟩⟩
    refine ⟨by rw [zipD_len, sizeLine_eq]; omega, ?_⟩
    refine compD_rel (fun _ y => y = .bl true) _ _ (fun z hz k hk => ?_) (fun ys hys => ?_)
    · obtain ⟨x, hx, rfl⟩ := zip_self hz
      exact ⟨rfl, rfl, _, rfl, _, rfl, hR m rfl _ _ _ _ (h x hx) (hk _ rfl)⟩
    · obtain ⟨ks, e1, e2⟩ := bls_true hys
      refine ⟨ks, e1, ?_⟩
      show Qd (.bl (ks.all id))
      rw [e2]; exact hq
end
end K00

namespace K00
open PySem PySem.Spec PyProof.Rows L2 EX DL
def nsOf (p : Str) : List Str := ((oxt.lookup p).getD []).drop 1
/-- the exception that pick names -/
def xv (p : Str) (args : List D) : D := .exc p (xfD p (nsOf p) args)
def cTwo : DC := fun _ ds Q _ => ∃ (p : Str) (a b : D) (w : Int), ds = [.str p, a, b, .int w] ∧ p ∈ two ∧ 0 ≤ w ∧ w < 4 ∧ Q (xv p [a, b])
def cOne : DC := fun _ ds Q _ => ∃ (p : Str) (a : D) (w : Int), ds = [.str p, a, .int w] ∧ p ∈ one ∧ 0 ≤ w ∧ w < 4 ∧ Q (xv p [a])
def argsOf (p : Str) (a b : D) : List D := [a, b].take (nsOf p).length
def cMade : DC := fun _ ds Q _ => ∃ (p : Str) (a b : D) (w : Int), ds = [.str p, a, b, .int w] ∧ p ∈ picks ∧ 0 ≤ w ∧ w < 4 ∧ Q (xv p (argsOf p a b))
def cVals : DC := fun _ ds Q _ => ∃ (p : Str) (a b : D), ds = [.str p, xv p (argsOf p a b)] ∧ p ∈ picks ∧ Q (.lst (.str p :: argsOf p a b))
def cDue : DC := fun _ ds Q _ => ∃ p : Str, ds = [.str p] ∧ p ∈ picks ∧ Q (.lst ((anc p).map D.str))
def cR1 : DC := fun _ ds _ E => ∃ (p : Str) (a : D), ds = [.str p, a] ∧ p ∈ one ∧ E p (xfD p (nsOf p) [a])
def cRs : DC := fun _ ds _ E => ∃ (p : Str) (a b : D), ds = [.str p, a, b] ∧ p ∈ picks ∧ E p (xfD p (nsOf p) (argsOf p a b))
def bas (p : Str) : Str := (anc p).getD 1 ""
def tbn (p : Str) : Str := if decide (bas p = "LookupError") = true then p else bas p
def cCt : DC := fun _ ds Q _ => ∃ (p : Str) (a b : D), ds = [.str p, a, b] ∧ p ∈ picks ∧ Q (.lst (.str (tbn p) :: .str p :: argsOf p a b))
def kindNames : List Str := picks.take 20 ++ zero ++ (["RuleError", "Missing", "ValueError", "LookupError", "IndexError", "KeyError"] : List Str)
def cKd : DC := fun _ ds Q _ => ∃ (p : Str) (fs : List (Str × D)), ds = [.exc p fs] ∧ p ∈ picks ∧ Q (.lst ((anc p).map D.str))
section
variable {K : PySem.W.Frag}
theorem k_two : Keeps (td__law_two K) ["pick", "a", "b", "way"] cTwo := by
  intro β ds Qd Ed h
  obtain ⟨p, a, b, w, rfl, hp, h0, h4, hq⟩ := h
  have hw : w = 0 ∨ w = 1 ∨ w = 2 ∨ w = 3 := by omega
  simp only [two, List.mem_cons, List.not_mem_nil, or_false] at hp
  rcases hp with rfl | rfl | rfl | rfl | rfl <;> rcases hw with rfl | rfl | rfl | rfl <;>
    (repeat first
      | refine a_no rfl rfl (by decide +kernel) ?_
      | refine s_no rfl (by decide +kernel) ?_
      | refine a_yes rfl rfl (by decide +kernel) (by decide +kernel) ?_
      | refine s_yes rfl (by decide +kernel) ?_) <;>
    (refine ⟨_, rfl, _, rfl, ?_⟩
     first
      | refine iteT (by decide +kernel) ?_
      | refine iteF (by decide +kernel) ?_
     first
      | exact ⟨_, rfl, _, rfl, rfl, rfl, rfl, hq⟩
      | exact ⟨_, rfl, rfl, _, rfl, rfl, rfl, rfl, hq⟩)
theorem k_one : Keeps (td__law_one K) ["pick", "a", "way"] cOne := by
  intro β ds Qd Ed h
  obtain ⟨p, a, w, rfl, hp, h0, h4, hq⟩ := h
  simp only [one, List.mem_cons, List.not_mem_nil, or_false] at hp
  rcases hp with rfl | rfl | rfl | rfl | rfl | rfl | rfl | rfl | rfl | rfl | rfl | rfl | rfl | rfl | rfl <;>
    (repeat first
      | refine s_no rfl (by decide +kernel) ?_
      | refine s_yes rfl (by decide +kernel) ?_) <;>
    (refine ⟨_, rfl, _, rfl, ?_⟩
     by_cases hw : w < 2
     · refine iteT (decide_eq_true hw) ?_
       exact ⟨_, rfl, rfl, rfl, rfl, hq⟩
     · refine iteF (decide_eq_false hw) ?_
       exact ⟨_, rfl, rfl, rfl, rfl, hq⟩)
theorem k_made : Keeps (td__law_made K cTwo cOne) ["pick", "a", "b", "way"] cMade := by
  intro β ds Qd Ed h
  obtain ⟨p, a, b, w, rfl, hp, h0, h4, hq⟩ := h
  simp only [picks, two, one, zero, List.cons_append, List.nil_append, List.mem_cons, List.not_mem_nil, or_false] at hp
  rcases hp with rfl | rfl | rfl | rfl | rfl | rfl | rfl | rfl | rfl | rfl | rfl | rfl | rfl | rfl | rfl | rfl | rfl | rfl | rfl | rfl | rfl | rfl | rfl | rfl <;>
    (refine ⟨_, rfl, by rw [sizeLine_eq]; show 5 ≤ 16777216; decide, rfl, rfl, _, rfl, ?_⟩
     first
      | (refine iteT (by decide +kernel) ?_
         exact ⟨_, rfl, _, rfl, _, rfl, _, rfl, _, _, _, _, rfl, by decide +kernel, h0, h4, hq⟩)
      | (refine iteF (by decide +kernel) ?_
         repeat first
          | refine s_no rfl (by decide +kernel) ?_
          | refine s_yes rfl (by decide +kernel) ?_
         first
          | exact ⟨rfl, rfl, hq⟩
          | exact ⟨_, rfl, _, rfl, _, rfl, _, _, _, rfl, by decide +kernel, h0, h4, hq⟩))
theorem k_values : Keeps (td__law_values K) ["pick", "error", "code"] cVals := by
  intro β ds Qd Ed h
  obtain ⟨p, a, b, rfl, hp, hq⟩ := h
  simp only [picks, two, one, zero, List.cons_append, List.nil_append, List.mem_cons, List.not_mem_nil, or_false] at hp
  rcases hp with rfl | rfl | rfl | rfl | rfl | rfl | rfl | rfl | rfl | rfl | rfl | rfl | rfl | rfl | rfl | rfl | rfl | rfl | rfl | rfl | rfl | rfl | rfl | rfl <;>
    (refine ⟨_, rfl, _, _, _, rfl, by decide +kernel, rfl, by rw [sizeLine_eq]; show 1 ≤ 16777216; decide, ?_⟩
     repeat first
      | refine s_no rfl (by decide +kernel) ?_
      | refine s_yes rfl (by decide +kernel) ?_
     first
      | exact ⟨_, rfl, hq⟩
      | exact ⟨_, rfl, _, rfl, _, _, _, rfl, by decide +kernel, rfl, by rw [sizeLine_eq]; show 1 ≤ 16777216; decide, by rw [sizeLine_eq]; show 2 ≤ 16777216; decide, hq⟩
      | exact ⟨_, rfl, _, rfl, _, _, _, rfl, by decide +kernel, rfl, _, rfl, _, _, _, rfl, by decide +kernel, rfl, by rw [sizeLine_eq]; show 2 ≤ 16777216; decide, by rw [sizeLine_eq]; show 3 ≤ 16777216; decide, hq⟩)
theorem k_due : Keeps (td__law_due_kinds K) ["pick"] cDue := by
  intro β ds Qd Ed h
  obtain ⟨p, rfl, hp, hq⟩ := h
  simp only [picks, two, one, zero, List.cons_append, List.nil_append, List.mem_cons, List.not_mem_nil, or_false] at hp
  rcases hp with rfl | rfl | rfl | rfl | rfl | rfl | rfl | rfl | rfl | rfl | rfl | rfl | rfl | rfl | rfl | rfl | rfl | rfl | rfl | rfl | rfl | rfl | rfl | rfl <;>
    first
      | (refine s_yes rfl (by decide +kernel) ?_
         exact ⟨_, rfl, by rw [sizeLine_eq]; show 3 ≤ 16777216; decide, hq⟩)
      | (refine s_no rfl (by decide +kernel) ?_
         refine ⟨_, rfl, by rw [sizeLine_eq]; show 4 ≤ 16777216; decide, rfl, rfl, _, rfl, ?_⟩
         first
          | (refine iteT (by decide +kernel) ?_
             exact ⟨_, rfl, by rw [sizeLine_eq]; show 3 ≤ 16777216; decide, hq⟩)
          | (refine iteF (by decide +kernel) ?_
             exact ⟨_, rfl, by rw [sizeLine_eq]; show 3 ≤ 16777216; decide, hq⟩))
theorem k_r1 : Keeps (td__law_raise_one K) ["pick", "a"] cR1 := by
  intro β ds Qd Ed h
  obtain ⟨p, a, rfl, hp, hq⟩ := h
  simp only [one, List.mem_cons, List.not_mem_nil, or_false] at hp
  rcases hp with rfl | rfl | rfl | rfl | rfl | rfl | rfl | rfl | rfl | rfl | rfl | rfl | rfl | rfl | rfl <;>
    (repeat first
      | refine s_no rfl (by decide +kernel) ?_
      | refine s_yes rfl (by decide +kernel) ?_) <;>
    exact ⟨_, rfl, rfl, rfl, rfl, hq⟩
theorem k_rs : Keeps (td__law_raise K cR1) ["pick", "a", "b"] cRs := by
  intro β ds Qd Ed h
  obtain ⟨p, a, b, rfl, hp, hq⟩ := h
  simp only [picks, two, one, zero, List.cons_append, List.nil_append, List.mem_cons, List.not_mem_nil, or_false] at hp
  rcases hp with rfl | rfl | rfl | rfl | rfl | rfl | rfl | rfl | rfl | rfl | rfl | rfl | rfl | rfl | rfl | rfl | rfl | rfl | rfl | rfl | rfl | rfl | rfl | rfl <;>
    (repeat first
      | refine s_no rfl (by decide +kernel) ?_
      | refine s_yes rfl (by decide +kernel) ?_) <;>
    first
      | exact ⟨rfl, rfl, hq⟩
      | exact ⟨_, rfl, _, rfl, rfl, rfl, rfl, hq⟩
      | exact ⟨_, rfl, _, rfl, _, _, rfl, by decide +kernel, hq⟩
theorem em_at (e : emB K = true) {p n : Str} (hp : p ∈ picks) (hn : n ∈ (["RuleError", "Missing", "NothingLeft"] : List Str)) : PySem.W.exmOne K (.ref (He.ga K p)) (.ref (He.ga K n)) = some (isSub p n) :=
  of_decide_eq_true (List.all_eq_true.mp (List.all_eq_true.mp e p hp) n hn)
theorem k_caught (e : emB K = true) : Keeps (td__law_caught K cRs cVals) ["pick", "a", "b", "error"] cCt := by
  intro β ds Qd Ed h
  obtain ⟨p, a, b, rfl, hp, hq⟩ := h
  refine ⟨_, rfl, _, rfl, _, rfl, p, a, b, rfl, hp, ?_⟩
  have suite : ∀ (n : Str) (D : DEnds), D.rt = Qd → n = tbn p → (yRet [] (xOp dAdd (xLst (xCons (xC (.str n)) xNil)) (xFn β cVals (xCons (xVar 0) (xCons (xVar 3) xNil))))) (endsDO (some 3) D) (setDO (some 3) (.val (.exc p (xfD p (nsOf p) (argsOf p a b)))) [.val (.str p), .val a, .val b, .non]) := by
    intro n D hD hn
    refine ⟨by rw [sizeLine_eq]; show 1 ≤ 16777216; decide, _, rfl, _, rfl, p, a, b, rfl, hp, ?_, ?_⟩
    · rw [sizeLine_eq]
      have : (argsOf p a b).length ≤ 2 := by unfold argsOf; rw [List.length_take]; show min _ 2 ≤ 2; omega
      show 1 + ((argsOf p a b).length + 1) ≤ 16777216
      omega
    · show D.rt (.lst (.str n :: .str p :: argsOf p a b))
      rw [hD, hn]; exact hq
  have h1 : ∀ p ∈ picks, isSub p "RuleError" = true → "RuleError" = tbn p := by decide +kernel
  have h2 : ∀ p ∈ picks, isSub p "RuleError" = false → isSub p "Missing" = true → "Missing" = tbn p := by decide +kernel
  have h3 : ∀ p ∈ picks, isSub p "RuleError" = false → isSub p "Missing" = false → isSub p "NothingLeft" = true ∧ "NothingLeft" = tbn p := by decide +kernel
  refine ⟨_, em_at e hp (by decide +kernel), ?_⟩
  by_cases c1 : isSub p "RuleError" = true
  · exact iteT c1 (suite _ _ rfl (h1 p hp c1))
  have c1' := Bool.eq_false_iff.mpr c1
  refine iteF c1' ⟨_, em_at e hp (by decide +kernel), ?_⟩
  by_cases c2 : isSub p "Missing" = true
  · exact iteT c2 (suite _ _ rfl (h2 p hp c1' c2))
  have c2' := Bool.eq_false_iff.mpr c2
  obtain ⟨c3, c4⟩ := h3 p hp c1' c2'
  refine iteF c2' ⟨_, em_at e hp (by decide +kernel), ?_⟩
  exact iteT c3 (suite _ _ rfl c4)
end
end K00

namespace K00
open PySem PySem.Spec PyProof.Rows L2 EX DL
section
variable {K : PySem.W.Frag}
def fK (p n : Str) : D := .tup [.str n, .bl (isSub p n)]
def fF : D → Option D
  | .tup [x, .bl true] => some x
  | _ => none
theorem fm_eq (p : Str) : ∀ l : List Str, (l.map (fK p)).filterMap fF = (l.filter (isSub p)).map D.str
  | [] => rfl
  | n :: l => by
    rw [List.map_cons, List.filter_cons]
    cases h : isSub p n with
    | true =>
      have e : fF (fK p n) = some (.str n) := by unfold fK; rw [h]; rfl
      rw [List.filterMap_cons_some e, fm_eq p l, if_pos rfl, List.map_cons]
    | false =>
      have e : fF (fK p n) = none := by unfold fK; rw [h]; rfl
      rw [List.filterMap_cons_none e, fm_eq p l, if_neg Bool.false_ne_true]
theorem kd_own (e : kdB K = true) {p n : Str} (hp : p ∈ picks) (hn : n ∈ K00.own) : isOne K (.o p) (.adr (He.ga K n)) = some (isSub p n) := by
  have h := List.all_eq_true.mp e p hp
  exact of_decide_eq_true (List.all_eq_true.mp (Bool.and_eq_true_iff.mp h).1 n hn)
theorem kd_b (e : kdB K = true) {p n : Str} {m : String} (hp : p ∈ picks) (hn : (n, m) ∈ bis) : isOne K (.o p) (.ty m) = some (isSub p n) := by
  have h := List.all_eq_true.mp e p hp
  exact of_decide_eq_true (List.all_eq_true.mp (Bool.and_eq_true_iff.mp h).2 (n, m) hn)
theorem e_appA {p n : Str} {fs : List (Str × D)} {done : List Str} {a : Addr} {rest : TDS} {Dd : DEnds} (hC : hasC oxt p = true) (hb : isOne K (.o p) (.adr a) = some (isSub p n)) (hl : done.length < 1000)
    (q : rest Dd [.val (.exc p fs), .own (.lst ((done ++ [n]).map (fK p))), .non]) : ySeq (yOM [] 1 oAppend (xCons (xTup (xCons (xC (.str n)) (xCons (xCall (dIsi K oxt) (xCons (xVar 0) (xCons (xC (.adr a)) xNil))) xNil))) xNil)) rest Dd [.val (.exc p fs), .own (.lst (done.map (fK p))), .non] := by
  have tg : tgD oxt (.exc p fs) = some (.o p) := by show (if hasC oxt p = true then some (Tg.o p) else none) = _; rw [if_pos hC]
  refine ⟨_, rfl, by decide, _, rfl, _, _, tg, hb, by rw [sizeLine_eq]; show 2 ≤ 16777216; decide, by rw [List.length_map, sizeLine_eq]; omega, ?_⟩
  rw [List.map_append] at q
  exact q
theorem e_appT {p n : Str} {m : String} {fs : List (Str × D)} {done : List Str} {rest : TDS} {Dd : DEnds} (hC : hasC oxt p = true) (hb : isOne K (.o p) (.ty m) = some (isSub p n)) (hl : done.length < 1000)
    (q : rest Dd [.val (.exc p fs), .own (.lst ((done ++ [n]).map (fK p))), .non]) : ySeq (yOM [] 1 oAppend (xCons (xTup (xCons (xC (.str n)) (xCons (xCall (dIsi K oxt) (xCons (xVar 0) (xCons (xC (.ty m)) xNil))) xNil))) xNil)) rest Dd [.val (.exc p fs), .own (.lst (done.map (fK p))), .non] := by
  have tg : tgD oxt (.exc p fs) = some (.o p) := by show (if hasC oxt p = true then some (Tg.o p) else none) = _; rw [if_pos hC]
  refine ⟨_, rfl, by decide, _, rfl, _, _, tg, hb, by rw [sizeLine_eq]; show 2 ≤ 16777216; decide, by rw [List.length_map, sizeLine_eq]; omega, ?_⟩
  rw [List.map_append] at q
  exact q
theorem e_fin {p : Str} {fs : List (Str × D)} {done : List Str} {Dd : DEnds} (hl : done.length < 1000) (q : Dd.rt (.lst ((done.filter (isSub p)).map D.str))) :
    (yRet [1] (xLcE [2] (xiSeq (xVar 1)) (zName 2) (xTest (xOp dIx (xVar 2) (xC (.int 1)))) (xOp dIx (xVar 2) (xC (.int 0))))) Dd [.val (.exc p fs), .own (.lst (done.map (fK p))), .non] := by
  refine ⟨_, rfl, by rw [List.length_map, sizeLine_eq]; omega, ?_⟩
  refine compD_fm fF _ _ (fun d hd k hk => ?_) (by rw [fm_eq]; exact q)
  obtain ⟨n, _, rfl⟩ := List.mem_map.mp hd
  refine ⟨_, rfl, _, rfl, _, rfl, ?_⟩
  cases h : isSub p n with
  | true =>
    have e : fF (fK p n) = some (.str n) := by unfold fK; rw [h]; rfl
    rw [e] at hk
    exact iteT rfl ⟨_, rfl, _, rfl, hk⟩
  | false =>
    have e : fF (fK p n) = none := by unfold fK; rw [h]; rfl
    rw [e] at hk
    exact iteF rfl hk
theorem k_kinds (e : kdB K = true) : Keeps (td__law_kinds K) ["error", "some", "pair"] cKd := by
  intro β ds Qd Ed h
  obtain ⟨p, fs, rfl, hp, hq⟩ := h
  have hC : ∀ p ∈ picks, hasC oxt p = true := by decide +kernel
  have hC := hC p hp
  have hK : ∀ p ∈ picks, kindNames.filter (isSub p) = anc p := by decide +kernel
  have hK := hK p hp
  refine ⟨by rw [sizeLine_eq]; show 0 ≤ 16777216; decide, ?_⟩
  show ySeq _ _ _ [.val (.exc p fs), .own (.lst (([] : List Str).map (fK p))), .non]
  repeat first
    | refine e_appA hC (kd_own e hp (by decide +kernel)) (by decide +kernel) ?_
    | refine e_appT hC (kd_b e hp (by decide +kernel)) (by decide +kernel) ?_
  refine e_fin (by decide +kernel) ?_
  rw [← hK] at hq
  exact hq
theorem so_width {β : Addr} {p : Str} {pr : D} {rest : TDS} {Dd : DEnds} (hp : p ∈ picks) (h : ∀ w : Int, w = ((nsOf p).length : Nat) → rest Dd [.val (.adr β), .val (.str p), .val pr, .val (.int w), .non, .non, .non, .non, .non, .non]) :
    (ySeq (ySet [] 3 (xC (.int 0)))
    (ySeq (yIf [] (xTest (xOp (dIn false) (xVar 1) (xTup (xCons (xC (.str "BadText")) (xCons (xC (.str "UnlikeParts")) (xCons (xC (.str "UnlikeTapes")) (xCons (xC (.str "TooMany")) (xCons (xC (.str "CantAnswer")) xNil))))))))
    (ySet [] 3 (xC (.int 2)))
    (yIf [] (xTest (xOp (dIn true) (xVar 1) (xTup (xCons (xC (.str "BadDeed")) (xCons (xC (.str "NoDraft")) (xCons (xC (.str "InDraft")) (xCons (xC (.str "NothingLeft")) xNil)))))))
    (ySet [] 3 (xC (.int 1)))
    yNext)) rest)) Dd [.val (.adr β), .val (.str p), .val pr, .non, .non, .non, .non, .non, .non, .non] := by
  refine ⟨_, rfl, by rw [sizeLine_eq]; show 5 ≤ 16777216; decide, rfl, rfl, _, rfl, ?_⟩
  simp only [picks, two, one, zero, List.cons_append, List.nil_append, List.mem_cons, List.not_mem_nil, or_false] at hp
  rcases hp with rfl | rfl | rfl | rfl | rfl | rfl | rfl | rfl | rfl | rfl | rfl | rfl | rfl | rfl | rfl | rfl | rfl | rfl | rfl | rfl | rfl | rfl | rfl | rfl <;>
    first
      | exact iteT (by decide +kernel) (h 2 (by decide +kernel))
      | (refine iteF (by decide +kernel) ⟨_, rfl, by rw [sizeLine_eq]; show 4 ≤ 16777216; decide, rfl, rfl, _, rfl, ?_⟩
         first
          | exact iteT (by decide +kernel) (h 1 (by decide +kernel))
          | exact iteF (by decide +kernel) (h 0 (by decide +kernel)))
theorem dSl_lst {ds r : List D} {lo hi : Option Int} {Q : QD} (h : DL.cutD ds lo hi = r) (q : Q (.lst r)) : dSl (.lst ds) lo hi Q := by subst h; exact q
theorem dNe_self {xs : List D} {Q : QD} {d : PyData} (h1 : (D.lst xs).py = some d) (h2 : SeqAt.shaped d = true) (h3 : PyData.eqv d d = true) (q : Q (.bl false)) : dEq true (.lst xs) (.lst xs) Q :=
  ⟨d, d, h1, h1, h2, h2, by show Q (.bl (!PyData.eqv d d)); rw [h3]; exact q⟩
theorem pys_strs : ∀ l : List Str, D.pys (l.map D.str) = some (l.map PyData.str)
  | [] => rfl
  | x :: l => by
    rw [List.map_cons]
    unfold D.pys
    rw [pys_strs l]
    rfl
theorem py_anc {p : Str} (hp : p ∈ picks) : ∃ d, (D.lst ((anc p).map D.str)).py = some d ∧ SeqAt.shaped d = true ∧ PyData.eqv d d = true := by
  have key : ∀ p ∈ picks, (SeqAt.shaped (.list ((anc p).map PyData.str)) && PyData.eqv (.list ((anc p).map PyData.str)) (.list ((anc p).map PyData.str))) = true := by decide +kernel
  obtain ⟨h1, h2⟩ := Bool.and_eq_true_iff.mp (key p hp)
  exact ⟨.list ((anc p).map PyData.str), by unfold D.py; rw [pys_strs]; rfl, h1, h2⟩
theorem anc_at {p : Str} : atI ((anc p).map D.str) 1 = some (.str (bas p)) := by
  unfold bas anc
  split
  · rfl
  · split <;> rfl
theorem args_len {p : Str} {a b : D} : (argsOf p a b).length ≤ 2 := by unfold argsOf; rw [List.length_take]; show min _ 2 ≤ 2; omega
theorem args_vd {p : Str} {a b : D} (ha : Vd 2 a) (hb : Vd 2 b) : ∀ d ∈ argsOf p a b, Vd 2 d := fun d hd => by
  have := List.mem_of_mem_take hd
  simp only [List.mem_cons, List.not_mem_nil, or_false] at this
  rcases this with rfl | rfl
  · exact ha
  · exact hb
theorem args_cut {p : Str} {a b : D} {w : Int} (hw : w = ((nsOf p).length : Nat))   : DL.cutD [a, b] none (some w) = argsOf p a b := by
  subst hw
  unfold DL.cutD argsOf
  rw [HT.sIx_none, HT.sIx_nat]
  show List.take (min (nsOf p).length 2 - 0) [a, b] = _
  rw [Nat.sub_zero, List.take_eq_take_iff]
  show min _ 2 = min _ 2
  omega
def so_body (K : PySem.W.Frag) (β : Addr) : TDS :=
    (ySeq (ySet [] 6 (xOp dAdd (xLst (xCons (xVar 1) xNil)) (xSl (xCall dList (xCons (xFn β (cCopy 3) (xCons (xOp dIx (xVar 2) (xVar 5)) xNil)) xNil)) xNoPart (xPart (xVar 3)))))
    (ySeq (yIf [] (xNot (xTest (xFn β (cLike 3) (xCons (xFn β cVals (xCons (xVar 1) (xCons (xOp dIx (xVar 4) (xVar 5)) xNil))) (xCons (xVar 6) xNil)))))
    (yRet [] (xC (.bl false)))
    yNext)
    (ySeq (yIf [] (xTest (xOp (dEq true) (xFn β cKd (xCons (xOp dIx (xVar 4) (xVar 5)) xNil)) (xFn β cDue (xCons (xVar 1) xNil))))
    (yRet [] (xC (.bl false)))
    yNext)
    (ySeq (ySet [] 7 (xOp dIx (xFn β cDue (xCons (xVar 1) xNil)) (xC (.int 1))))
    (ySeq (ySet [] 8 (xFn β cCt (xCons (xVar 1) (xCons (xOp dIx (xOp dIx (xVar 2) (xVar 5)) (xC (.int 0))) (xCons (xOp dIx (xOp dIx (xVar 2) (xVar 5)) (xC (.int 1))) xNil)))))
    (yIf [] (xNot (xTest (xFn β (cLike 3) (xCons (xVar 8) (xCons (xOp dAdd (xLst (xCons (xIf (xTest (xOp (dEq true) (xVar 7) (xC (.str "LookupError")))) (xVar 7) (xVar 1)) xNil)) (xVar 6)) xNil)))))
    (yRet [] (xC (.bl false)))
    yNext))))))
theorem so_step {β : Addr} {p : Str} {prs ers : List D} {a b : D} {w kk : Int} {s6 s7 s8 s9 : Sl} {Dd : DEnds} (hp : p ∈ picks) (hw : w = ((nsOf p).length : Nat)) (hx : atI prs kk = some (.tup [a, b])) (hy : atI ers kk = some (xv p (argsOf p a b))) (ha : Vd 2 a) (hb : Vd 2 b)
    (q : ∀ s6 s7 s8, Dd.nx [.val (.adr β), .val (.str p), .val (.lst prs), .val (.int w), .val (.lst ers), .val (.int kk), s6, s7, s8, s9]) :
    so_body K β Dd [.val (.adr β), .val (.str p), .val (.lst prs), .val (.int w), .val (.lst ers), .val (.int kk), s6, s7, s8, s9] := by
  have hl := args_len (p := p) (a := a) (b := b)
  have z1 : (1 : Nat) ≤ sizeLine := by rw [sizeLine_eq]; decide
  have hv : Vd 3 (.lst (.str p :: argsOf p a b)) := .lst _ _ (fun d hd => by
    rcases List.mem_cons.mp hd with rfl | hd
    · exact .str _ _
    · exact args_vd ha hb d hd) (by rw [List.length_cons]; omega)
  have hv2 : ∀ x : Str, Vd 3 (.lst (.str x :: .str p :: argsOf p a b)) := fun x => .lst _ _ (fun d hd => by
    rcases List.mem_cons.mp hd with rfl | hd
    · exact .str _ _
    · rcases List.mem_cons.mp hd with rfl | hd
      · exact .str _ _
      · exact args_vd ha hb d hd) (by rw [List.length_cons, List.length_cons]; omega)
  refine ⟨_, rfl, z1, ?_⟩
  refine ⟨_, rfl, _, rfl, _, hx, _, rfl, .tup _ _ (fun d hd => ?_) (by show 2 ≤ 8; decide), ?_⟩
  · simp only [List.mem_cons, List.not_mem_nil, or_false] at hd
    rcases hd with rfl | rfl
    · exact ha
    · exact hb
  refine ⟨_, rfl, _, rfl, dSl_lst (args_cut hw) ⟨?_, ?_⟩⟩
  · show 1 + (argsOf p a b).length ≤ sizeLine
    rw [sizeLine_eq]; omega
  refine ⟨_, rfl, _, rfl, _, rfl, _, hy, p, a, b, rfl, hp, _, rfl, _, rfl, hv, _, rfl, iteF rfl ?_⟩
  obtain ⟨d, d1, d2, d3⟩ := py_anc hp
  refine ⟨_, rfl, _, rfl, _, hy, p, _, rfl, hp, _, rfl, p, rfl, hp, dNe_self d1 d2 d3 ⟨_, rfl, iteF rfl ?_⟩⟩
  refine ⟨_, rfl, p, rfl, hp, _, anc_at, ?_⟩
  refine ⟨_, rfl, _, rfl, _, rfl, _, hx, _, rfl, _, rfl, _, rfl, _, hx, _, rfl, p, a, b, rfl, hp, ?_⟩
  refine ⟨_, rfl, _, rfl, _, rfl, ?_⟩
  have z2 : ∀ x : Str, [D.str x].length + (D.str p :: argsOf p a b).length ≤ sizeLine := fun x => by
    rw [sizeLine_eq]
    show 1 + ((argsOf p a b).length + 1) ≤ 16777216
    omega
  by_cases hbs : bas p = "LookupError"
  · have ht : tbn p = p := by unfold tbn; rw [if_pos (decide_eq_true hbs)]
    refine iteF (by rw [decide_eq_true hbs]; rfl) ⟨_, rfl, z1, _, rfl, z2 p, .lst (.str p :: .str p :: argsOf p a b), ?_, hv2 p, _, rfl, iteF rfl (q _ _ _)⟩
    show [D.lst (.str (tbn p) :: .str p :: argsOf p a b), D.lst (.str p :: .str p :: argsOf p a b)] = _
    rw [ht]
  · have ht : tbn p = bas p := by unfold tbn; rw [if_neg (by rw [decide_eq_true_eq]; exact hbs)]
    refine iteT (by rw [decide_eq_false hbs]; rfl) ⟨_, rfl, z1, _, rfl, z2 (bas p), .lst (.str (bas p) :: .str p :: argsOf p a b), ?_, hv2 (bas p), _, rfl, iteF rfl (q _ _ _)⟩
    show [D.lst (.str (tbn p) :: .str p :: argsOf p a b), D.lst (.str (bas p) :: .str p :: argsOf p a b)] = _
    rw [ht]
def cSo : DC := fun β ds Q _ => ∃ (p : Str) (a0 b0 a1 b1 : D), ds = [.adr β, .str p, .lst [.tup [a0, b0], .tup [a1, b1]]] ∧ p ∈ picks ∧ Vd 2 a0 ∧ Vd 2 b0 ∧ Vd 2 a1 ∧ Vd 2 b1 ∧ Q (.bl true)
theorem k_so : Keeps (td__law_so K cMade cDraw (cCopy 3) (cLike 3) cVals cKd cDue cCt) ["bag", "pick", "pairs", "width", "errors", "k", "due", "base", "told", "pair"] cSo := by
  intro β ds Qd Ed h
  obtain ⟨p, a0, b0, a1, b1, rfl, hp, v0, w0, v1, w1, hq⟩ := h
  refine so_width hp fun w hw => ?_
  have z1 : (1 : Nat) ≤ sizeLine := by rw [sizeLine_eq]; decide
  have z2 : (2 : Nat) ≤ sizeLine := by rw [sizeLine_eq]; decide
  refine ⟨_, rfl, z2, ⟨_, rfl, _, rfl, _, rfl, _, rfl, _, rfl, _, rfl, _, rfl, by decide, by decide, fun x0 h0 h4 => ?_⟩⟩
  refine ⟨p, a0, b0, x0, rfl, hp, h0, h4, ⟨_, rfl, _, rfl, _, rfl, _, rfl, _, rfl, _, rfl, _, rfl, by decide, by decide, fun x1 h0' h4' => ?_⟩⟩
  refine ⟨p, a1, b1, x1, rfl, hp, h0', h4', ?_⟩
  refine ⟨z2, ?_⟩
  refine so_step (K := K) hp hw rfl rfl v1 w1 fun s6 s7 s8 => ?_
  refine so_step (K := K) hp hw rfl rfl v0 w0 fun s6 s7 s8 => ?_
  have hl := args_len (p := p) (a := a0) (b := b0)
  have hv : Vd 3 (.lst (.str p :: argsOf p a0 b0)) := .lst _ _ (fun d hd => by
    rcases List.mem_cons.mp hd with rfl | hd
    · exact .str _ _
    · exact args_vd v0 w0 d hd) (by rw [List.length_cons]; omega)
  refine ⟨_, rfl, _, rfl, _, rfl, p, a0, b0, rfl, hp, _, rfl, z1, _, rfl, _, rfl, _, rfl, _, rfl, dSl_lst (args_cut hw) ⟨?_, ?_⟩⟩
  · show 1 + (argsOf p a0 b0).length ≤ sizeLine
    rw [sizeLine_eq]; omega
  · exact ⟨_, rfl, hv, hq⟩
end
end K00

namespace K00
open PySem PySem.Spec PyProof.Rows L2 EX DL
section
variable {P : Program} {w : World} {K : PySem.W.Frag} {mg : Str → Option Value} {base : Heap}
theorem cV_len {n : Nat} : ∀ β ds Q E, cV n β ds Q E → ds.length = 2 := fun β ds Q E h => by rw [h.1]; rfl
/-- a def of which nothing is promised -/
theorem okD_no {x qual : Str} {st : Stmt} {fd : FuncData} {ps : List Str} (g : mg x = some (.ref (He.ga K x))) (F : Fun K x qual st (He.ga K x) fd) (b : Binds K fd ps []) (k : Nat) : OkD P w K mg base k x ps cNo :=
  ⟨fd, g, F.kp, b, ⟨fun vs H Q E ⟨_, _, _, _, _, _, _, _, z, _⟩ => z.elim, fun A outer s H args us vs Q E _ _ _ _ ⟨_, _, _, _, _, _, _, _, z, _⟩ => z.elim⟩⟩
theorem ok_of (e : En K mg) : OkD P w K mg base 2 "_law_of" ["bag", "things"] cOf :=
  ok__law_of e (ok__law_draw e) (fun β ds Q E h => by obtain ⟨th, rfl, _⟩ := h; rfl) k_of
theorem ok_value (e : En K mg) : ∀ n : Nat, OkD P w K mg base (n + 3) "_law_value" ["bag", "deep"] (cV n)
  | 0 => by
    obtain ⟨fd, F⟩ := e.d__law_value
    have O0 : OkD P w K mg base 2 "_law_value" ["bag", "deep"] cNo := okD_no e.g__law_value F (F.binds fun _ _ _ _ _ _ us hl => match us, hl with | [_, _], _ => rfl) 2
    exact ok__law_value e ((ok__law_draw e).mono (by decide)) (ok_of e) O0 cV_len (k_value 0 fun m h => by omega)
  | n + 1 => ok__law_value e ((ok__law_draw e).mono (by omega)) ((ok_of e).mono (by omega)) (ok_value e n) cV_len (k_value (n + 1) fun m h β Q E q => by
      have : m = n := by omega
      subst this
      exact ⟨rfl, q⟩)
theorem ok_copied (e : En K mg) : ∀ n : Nat, OkD P w K mg base (n + 1) "_law_copied" ["value"] (cCopy n)
  | 0 => by
    obtain ⟨fd, F⟩ := e.d__law_copied
    have O0 : OkD P w K mg base 0 "_law_copied" ["value"] cNo := okD_no e.g__law_copied F (F.binds fun _ _ _ _ _ _ us hl => match us, hl with | [_], _ => rfl) 0
    exact ok__law_copied e O0 (fun β ds Q E h => by obtain ⟨d, rfl, _⟩ := h; rfl) (k_copied 0 fun m h => by omega)
  | n + 1 => ok__law_copied e (ok_copied e n) (fun β ds Q E h => by obtain ⟨d, rfl, _⟩ := h; rfl) (k_copied (n + 1) fun m h β d Q E v q => by
      have : m = n := by omega
      subst this
      exact ⟨d, rfl, v, q⟩)
theorem ok_like (e : En K mg) : ∀ n : Nat, OkD P w K mg base (n + 1) "_law_like" ["told", "due"] (cLike n)
  | 0 => by
    obtain ⟨fd, F⟩ := e.d__law_like
    have O0 : OkD P w K mg base 0 "_law_like" ["told", "due"] cNo := okD_no e.g__law_like F (F.binds fun _ _ _ _ _ _ us hl => match us, hl with | [_, _], _ => rfl) 0
    exact ok__law_like e O0 (fun β ds Q E h => by obtain ⟨d, rfl, _⟩ := h; rfl) (k_like 0 fun m h => by omega)
  | n + 1 => ok__law_like e (ok_like e n) (fun β ds Q E h => by obtain ⟨d, rfl, _⟩ := h; rfl) (k_like (n + 1) fun m h β d Q E v q => by
      have : m = n := by omega
      subst this
      exact ⟨d, rfl, v, q⟩)
theorem ok_two (e : En K mg) : OkD P w K mg base 3 "_law_two" ["pick", "a", "b", "way"] cTwo :=
  ok__law_two e (mkc_BadText e) (mkc_UnlikeParts e) (mkc_UnlikeTapes e) (mkc_TooMany e) (mkc_CantAnswer e) (by decide) (fun β ds Q E h => by obtain ⟨p, a, b, w, rfl, _⟩ := h; rfl) k_two
theorem ok_one (e : En K mg) : OkD P w K mg base 3 "_law_one" ["pick", "a", "way"] cOne :=
  ok__law_one e (mkc_BadName e) (mkc_BadLetters e) (mkc_BadRun e) (mkc_BadColumn e) (mkc_BadNumber e) (mkc_BadTable e) (mkc_HeldTwice e) (mkc_BreaksBeside e) (mkc_NotSo e) (mkc_NotEnough e) (mkc_EndedRun e) (mkc_UnknownPart e) (mkc_UnknownName e) (mkc_UnknownRun e) (mkc_NotHeld e) (by decide) (fun β ds Q E h => by obtain ⟨p, a, w, rfl, _⟩ := h; rfl) k_one
theorem ok_made (e : En K mg) : OkD P w K mg base 4 "_law_made" ["pick", "a", "b", "way"] cMade :=
  ok__law_made e (ok_two e) (ok_one e) (mkc_BadDeed e) (mkc_NoDraft e) (mkc_InDraft e) (mkc_NothingLeft e) (by decide) (fun β ds Q E h => by obtain ⟨p, a, b, w, rfl, _⟩ := h; rfl) k_made
theorem ok_values (e : En K mg) : OkN P w K mg base 1 "_law_values" ["pick", "error"] cVals :=
  ok__law_values (k := 0) e (fun β ds Q E h => by obtain ⟨p, a, b, rfl, _⟩ := h; rfl) k_values
theorem ok_kinds (e : En K mg) : OkD P w K mg base 1 "_law_kinds" ["error"] cKd :=
  ok__law_kinds (k := 0) e (fun β ds Q E h => by obtain ⟨p, fs, rfl, _⟩ := h; rfl) (k_kinds e.kd)
theorem ok_due (e : En K mg) : OkD P w K mg base 1 "_law_due_kinds" ["pick"] cDue :=
  ok__law_due_kinds (k := 0) e (fun β ds Q E h => by obtain ⟨p, rfl, _⟩ := h; rfl) k_due
theorem ok_r1 (e : En K mg) : OkD P w K mg base 3 "_law_raise_one" ["pick", "a"] cR1 :=
  ok__law_raise_one e (mkc_BadName e) (mkc_BadLetters e) (mkc_BadRun e) (mkc_BadColumn e) (mkc_BadNumber e) (mkc_BadTable e) (mkc_HeldTwice e) (mkc_BreaksBeside e) (mkc_NotSo e) (mkc_NotEnough e) (mkc_EndedRun e) (mkc_UnknownPart e) (mkc_UnknownName e) (mkc_UnknownRun e) (mkc_NotHeld e) (by decide) (fun β ds Q E h => by obtain ⟨p, a, rfl, _⟩ := h; rfl) k_r1
theorem ok_rs (e : En K mg) : OkD P w K mg base 4 "_law_raise" ["pick", "a", "b"] cRs :=
  ok__law_raise e (ok_r1 e) (mkc_BadText e) (mkc_UnlikeParts e) (mkc_UnlikeTapes e) (mkc_TooMany e) (mkc_CantAnswer e) (mkc_BadDeed e) (mkc_NoDraft e) (mkc_InDraft e) (mkc_NothingLeft e) (by decide) (fun β ds Q E h => by obtain ⟨p, a, b, rfl, _⟩ := h; rfl) k_rs
theorem ok_caught (e : En K mg) : OkD P w K mg base 5 "_law_caught" ["pick", "a", "b"] cCt :=
  ok__law_caught e (ok_rs e) ((ok_values e).mono (by decide)) (fun β ds Q E h => by obtain ⟨p, a, b, rfl, _⟩ := h; rfl) (k_caught e.em)
theorem ok_so (e : En K mg) : OkD P w K mg base 6 "_law_so" ["bag", "pick", "pairs"] cSo :=
  ok__law_so e ((ok_made e).mono (by decide)) ((ok__law_draw e).mono (by decide)) ((ok_copied e 3).mono (by decide)) ((ok_like e 3).mono (by decide)) ((ok_values e).mono (by decide)) ((ok_kinds e).mono (by decide)) ((ok_due e).mono (by decide)) (ok_caught e)
    (fun β ds Q E h => by obtain ⟨p, a0, b0, a1, b1, rfl, _⟩ := h; rfl) k_so
def law_inner (β : Addr) : TDS :=
    (ySeq (ySetLc [] 4 [5] (xiRng1 (xCons (xC (.int 2)) xNil)) (zName 5) xYes (xTup (xCons (xFn β (cV 2) (xCons (xVar 1) (xCons (xC (.int 2)) xNil))) (xCons (xFn β (cV 2) (xCons (xVar 1) (xCons (xC (.int 2)) xNil))) xNil))))
    (yIf [] (xNot (xTest (xFn β cSo (xCons (xVar 1) (xCons (xVar 3) (xCons (xVar 4) xNil))))))
    (yRet [] (xC (.bl false)))
    yNext))
def Iv (a β : Addr) (δ : DSt) : Prop := ∃ s2 s3 s4, δ = [.val (.adr a), .val (.adr β), s2, s3, s4, .non]
theorem inner_ok {a β : Addr} {p : Str} {s2 s4 : Sl} {Dd : DEnds} (hp : p ∈ picks) (q : ∀ δ, Iv a β δ → Dd.nx δ) : law_inner β Dd [.val (.adr a), .val (.adr β), s2, .val (.str p), s4, .non] := by
  have z2 : (2 : Nat) ≤ sizeLine := by rw [sizeLine_eq]; decide
  refine ⟨by decide, by decide, z2, ?_⟩
  refine compD_rel (fun _ y => ∃ x z, y = .tup [x, z] ∧ Vd 2 x ∧ Vd 2 z) _ _ (fun d _ k hk => ⟨_, rfl, rfl, fun x hx => ⟨_, rfl, rfl, fun z hz => ⟨z2, hk _ ⟨x, z, rfl, hx, hz⟩⟩⟩⟩) (fun ys hys => ?_)
  have e2 : rangeD 0 (2 : Int).toNat = [.int 0, .int 1] := rfl
  rw [e2] at hys
  cases hys with
  | cons h1 t =>
    cases t with
    | cons h2 t =>
      cases t
      obtain ⟨x0, z0, rfl, v0, w0⟩ := h1
      obtain ⟨x1, z1, rfl, v1, w1⟩ := h2
      refine ⟨_, rfl, _, rfl, _, rfl, p, x0, z0, x1, z1, rfl, hp, v0, w0, v1, w1, _, rfl, iteF rfl (q _ ⟨_, _, _, rfl⟩)⟩
theorem k_law : ∀ (a β : Addr) (Qd : QD) (Dd : DEnds), Dd.rt = Qd → Qd (.bl true) → td_law K (cV 2) cSo β Dd (.val (.adr a) :: .val (.adr β) :: List.replicate (N_law.length - 2) .non) := by
  intro a β Qd Dd hrt hq
  have z12 : (12 : Nat) ≤ sizeLine := by rw [sizeLine_eq]; decide
  refine ⟨by decide, by decide, ?_⟩
  refine loopD_inv (Iv a β) _ (fun d _ δ hI nx hnx => ?_) (fun δ hI => ?_) _ ⟨_, _, _, rfl⟩
  · obtain ⟨s2, s3, s4, rfl⟩ := hI
    refine ⟨z12, ?_⟩
    refine loopD_inv (Iv a β) _ (fun d hd δ hI nx hnx => ?_) (fun δ hI => ?_) _ ⟨_, _, _, rfl⟩
    · obtain ⟨s2, s3, s4, rfl⟩ := hI
      simp only [List.mem_cons, List.not_mem_nil, or_false] at hd
      rcases hd with rfl | rfl | rfl | rfl | rfl | rfl | rfl | rfl | rfl | rfl | rfl | rfl <;> exact inner_ok (by decide +kernel) hnx
    · obtain ⟨s2, s3, s4, rfl⟩ := hI
      refine ⟨z12, ?_⟩
      refine loopD_inv (Iv a β) _ (fun d hd δ hI nx hnx => ?_) (fun δ hI => hnx δ hI) _ ⟨_, _, _, rfl⟩
      obtain ⟨s2, s3, s4, rfl⟩ := hI
      simp only [List.mem_cons, List.not_mem_nil, or_false] at hd
      rcases hd with rfl | rfl | rfl | rfl | rfl | rfl | rfl | rfl | rfl | rfl | rfl | rfl <;> exact inner_ok (by decide +kernel) hnx
  · show Dd.rt (.bl true)
    rw [hrt]; exact hq
theorem ok_law (e : En K mg) : ∃ fd, Fun K "law" "law" s_law (He.ga K "law") fd ∧ FnOk P w K mg base (L2.CX P w) 7 (He.ga K "law") fd ["script"] (spLaw K) :=
  law_ok e (k := 6) (by decide) (fun cdv A outer s H p E hr => w_law e ((ok_value e 2).mono (by decide)) (ok_so e) cdv A outer s H p E hr) k_law
end
end K00

namespace K00
open PySem PySem.Spec PyProof.Rows L2 EX DL
def fa : List He.Fa := ([.free "IndexError", .free "KeyError", .free "LookupError", .free "ValueError", .free "all", .free "bool", .free "int", .free "isinstance", .free "len", .free "list", .free "range", .free "str", .free "tuple", .free "zip", .glo "RuleError", .glo "Missing", .glo "BadText", .glo "BadName", .glo "BadLetters", .glo "BadRun", .glo "BadColumn", .glo "BadNumber", .glo "BadTable", .glo "BadDeed", .glo "UnlikeParts", .glo "UnlikeTapes", .glo "TooMany", .glo "HeldTwice", .glo "BreaksBeside", .glo "NotSo"] : List He.Fa) ++ ([.glo "NotEnough", .glo "CantAnswer", .glo "EndedRun", .glo "NoDraft", .glo "InDraft", .glo "UnknownPart", .glo "UnknownName", .glo "UnknownRun", .glo "NotHeld", .glo "NothingLeft", .glo "_law_bag", .glo "_law_draw", .glo "_law_of", .glo "_law_like", .glo "_law_two", .glo "_law_one", .glo "_law_made", .glo "_law_values", .glo "_law_kinds", .glo "_law_due_kinds", .glo "_law_raise_one", .glo "_law_raise", .glo "_law_caught", .glo "_law_value", .glo "_law_copied", .glo "_law_so", .glo "law"] : List He.Fa)
def fn : List He.DefD := ([⟨("_law_bag", none), "_law_bag", "_law_bag", defArgs (top 28), defBody (top 28), defScope (top 28), [], []⟩, ⟨("_law_draw", none), "_law_draw", "_law_draw", defArgs (top 29), defBody (top 29), defScope (top 29), [], []⟩, ⟨("_law_of", none), "_law_of", "_law_of", defArgs (top 30), defBody (top 30), defScope (top 30), [], []⟩, ⟨("_law_like", none), "_law_like", "_law_like", defArgs (top 31), defBody (top 31), defScope (top 31), [], []⟩, ⟨("_law_two", none), "_law_two", "_law_two", defArgs (top 32), defBody (top 32), defScope (top 32), [], []⟩, ⟨("_law_one", none), "_law_one", "_law_one", defArgs (top 33), defBody (top 33), defScope (top 33), [], []⟩, ⟨("_law_made", none), "_law_made", "_law_made", defArgs (top 34), defBody (top 34), defScope (top 34), [], []⟩, ⟨("_law_values", none), "_law_values", "_law_values", defArgs (top 35), defBody (top 35), defScope (top 35), [], []⟩, ⟨("_law_kinds", none), "_law_kinds", "_law_kinds", defArgs (top 36), defBody (top 36), defScope (top 36), [], []⟩, ⟨("_law_due_kinds", none), "_law_due_kinds", "_law_due_kinds", defArgs (top 37), defBody (top 37), defScope (top 37), [], []⟩, ⟨("_law_raise_one", none), "_law_raise_one", "_law_raise_one", defArgs (top 38), defBody (top 38), defScope (top 38), [], []⟩, ⟨("_law_raise", none), "_law_raise", "_law_raise", defArgs (top 39), defBody (top 39), defScope (top 39), [], []⟩, ⟨("_law_caught", none), "_law_caught", "_law_caught", defArgs (top 40), defBody (top 40), defScope (top 40), [], []⟩, ⟨("_law_value", none), "_law_value", "_law_value", defArgs (top 41), defBody (top 41), defScope (top 41), [], []⟩, ⟨("_law_copied", none), "_law_copied", "_law_copied", defArgs (top 42), defBody (top 42), defScope (top 42), [], []⟩, ⟨("_law_so", none), "_law_so", "_law_so", defArgs (top 43), defBody (top 43), defScope (top 43), [], []⟩, ⟨("law", none), "law", "law", defArgs (top 44), defBody (top 44), defScope (top 44), [], []⟩, ⟨("BadText", some "__init__"), "__init__", "BadText.__init__", defArgs (inClass (top 3) 0), defBody (inClass (top 3) 0), defScope (inClass (top 3) 0), [], []⟩, ⟨("BadName", some "__init__"), "__init__", "BadName.__init__", defArgs (inClass (top 4) 0), defBody (inClass (top 4) 0), defScope (inClass (top 4) 0), [], []⟩, ⟨("BadLetters", some "__init__"), "__init__", "BadLetters.__init__", defArgs (inClass (top 5) 0), defBody (inClass (top 5) 0), defScope (inClass (top 5) 0), [], []⟩, ⟨("BadRun", some "__init__"), "__init__", "BadRun.__init__", defArgs (inClass (top 6) 0), defBody (inClass (top 6) 0), defScope (inClass (top 6) 0), [], []⟩, ⟨("BadColumn", some "__init__"), "__init__", "BadColumn.__init__", defArgs (inClass (top 7) 0), defBody (inClass (top 7) 0), defScope (inClass (top 7) 0), [], []⟩, ⟨("BadNumber", some "__init__"), "__init__", "BadNumber.__init__", defArgs (inClass (top 8) 0), defBody (inClass (top 8) 0), defScope (inClass (top 8) 0), [], []⟩, ⟨("BadTable", some "__init__"), "__init__", "BadTable.__init__", defArgs (inClass (top 9) 0), defBody (inClass (top 9) 0), defScope (inClass (top 9) 0), [], []⟩, ⟨("BadDeed", some "__init__"), "__init__", "BadDeed.__init__", defArgs (inClass (top 10) 0), defBody (inClass (top 10) 0), defScope (inClass (top 10) 0), [], []⟩, ⟨("UnlikeParts", some "__init__"), "__init__", "UnlikeParts.__init__", defArgs (inClass (top 11) 0), defBody (inClass (top 11) 0), defScope (inClass (top 11) 0), [], []⟩, ⟨("UnlikeTapes", some "__init__"), "__init__", "UnlikeTapes.__init__", defArgs (inClass (top 12) 0), defBody (inClass (top 12) 0), defScope (inClass (top 12) 0), [], []⟩, ⟨("TooMany", some "__init__"), "__init__", "TooMany.__init__", defArgs (inClass (top 13) 0), defBody (inClass (top 13) 0), defScope (inClass (top 13) 0), [], []⟩, ⟨("HeldTwice", some "__init__"), "__init__", "HeldTwice.__init__", defArgs (inClass (top 14) 0), defBody (inClass (top 14) 0), defScope (inClass (top 14) 0), [], []⟩, ⟨("BreaksBeside", some "__init__"), "__init__", "BreaksBeside.__init__", defArgs (inClass (top 15) 0), defBody (inClass (top 15) 0), defScope (inClass (top 15) 0), [], []⟩] : List He.DefD) ++ ([⟨("NotSo", some "__init__"), "__init__", "NotSo.__init__", defArgs (inClass (top 16) 0), defBody (inClass (top 16) 0), defScope (inClass (top 16) 0), [], []⟩, ⟨("NotEnough", some "__init__"), "__init__", "NotEnough.__init__", defArgs (inClass (top 17) 0), defBody (inClass (top 17) 0), defScope (inClass (top 17) 0), [], []⟩, ⟨("CantAnswer", some "__init__"), "__init__", "CantAnswer.__init__", defArgs (inClass (top 18) 0), defBody (inClass (top 18) 0), defScope (inClass (top 18) 0), [], []⟩, ⟨("EndedRun", some "__init__"), "__init__", "EndedRun.__init__", defArgs (inClass (top 19) 0), defBody (inClass (top 19) 0), defScope (inClass (top 19) 0), [], []⟩, ⟨("NoDraft", some "__init__"), "__init__", "NoDraft.__init__", defArgs (inClass (top 20) 0), defBody (inClass (top 20) 0), defScope (inClass (top 20) 0), [], []⟩, ⟨("InDraft", some "__init__"), "__init__", "InDraft.__init__", defArgs (inClass (top 21) 0), defBody (inClass (top 21) 0), defScope (inClass (top 21) 0), [], []⟩, ⟨("UnknownPart", some "__init__"), "__init__", "UnknownPart.__init__", defArgs (inClass (top 22) 0), defBody (inClass (top 22) 0), defScope (inClass (top 22) 0), [], []⟩, ⟨("UnknownName", some "__init__"), "__init__", "UnknownName.__init__", defArgs (inClass (top 23) 0), defBody (inClass (top 23) 0), defScope (inClass (top 23) 0), [], []⟩, ⟨("UnknownRun", some "__init__"), "__init__", "UnknownRun.__init__", defArgs (inClass (top 24) 0), defBody (inClass (top 24) 0), defScope (inClass (top 24) 0), [], []⟩, ⟨("NotHeld", some "__init__"), "__init__", "NotHeld.__init__", defArgs (inClass (top 25) 0), defBody (inClass (top 25) 0), defScope (inClass (top 25) 0), [], []⟩, ⟨("NothingLeft", some "__init__"), "__init__", "NothingLeft.__init__", defArgs (inClass (top 26) 0), defBody (inClass (top 26) 0), defScope (inClass (top 26) 0), [], []⟩] : List He.DefD)
def initB (K : PySem.W.Frag) : Bool := oxt.all fun p => He.eqO (PySem.W.findIn K (.ref (He.ga K p.1)) "__init__") (some (some (.ref (He.ma K (He.ga K p.1) "__init__")))) && decide (PySem.W.typeIn K (.ref (He.ma K (He.ga K p.1) "__init__")) = some (.type "function"))
def ex (K : PySem.W.Frag) : Bool := oxtB K oxt && (initB K && (kdB K && (emB K)))
def loose : List Str := (["RuleError", "Missing", "BadText", "BadName", "BadLetters", "BadRun", "BadColumn", "BadNumber", "BadTable", "BadDeed", "UnlikeParts", "UnlikeTapes", "TooMany", "HeldTwice", "BreaksBeside", "NotSo", "NotEnough", "CantAnswer", "EndedRun", "NoDraft", "InDraft", "UnknownPart", "UnknownName", "UnknownRun", "NotHeld", "NothingLeft", "_law_bag", "_law_draw", "_law_of", "_law_like"] : List Str) ++ (["_law_two", "_law_one", "_law_made", "_law_values", "_law_kinds", "_law_due_kinds", "_law_raise_one", "_law_raise", "_law_caught", "_law_value", "_law_copied", "_law_so"] : List Str)
abbrev R : PySem.W.OpenRow := PySem.W.OpenLaw.row PySem.Challenge.rw_fewbreak_k00_errors_by_themselves
abbrev hk : PySem.W.Hook := He.hookX 4 fa fn [] [] ex
def ob (s : PySem.W.SharedT) : He.AlX := He.obsX 4 fa fn [] [] ex (HandSHeadRun.getT s)
theorem ob_eq (s : PySem.W.SharedT) : ob s = hk.obs s.abs := He.obsX_eq (HandSHeadRun.getT_eq s)
theorem run (w : World) : HandSHeadRun.RunEq R (PySem.W.view R.prog [44]) hk ob 60000 loose w := by
  intro os
  kernel_rfl
theorem init_at {K : PySem.W.Frag} (h : initB K = true) {c : Str} {fs : List Str} (hc : (c, fs) ∈ oxt) : PySem.W.findIn K (.ref (He.ga K c)) "__init__" = some (some (.ref (He.ma K (He.ga K c) "__init__"))) ∧ PySem.W.typeIn K (.ref (He.ma K (He.ga K c) "__init__")) = some (.type "function") := by
  obtain ⟨h1, h2⟩ := He.ba (List.all_eq_true.mp h _ hc)
  exact ⟨He.eqO_ok h1, of_decide_eq_true h2⟩
theorem en_of {K : PySem.W.Frag} {w : World} {h : Heap} {mg : Str → Option Value} (X : K.In h) (G : h.Ns mainGlobals mg) (c : He.SaysX fa fn [] [] ex w h K) : En K mg := by
  obtain ⟨h1, h2⟩ := He.ba c.more
  obtain ⟨m0, h2⟩ := He.ba h2
  obtain ⟨m1, h2⟩ := He.ba h2
  have hI := m0
  exact {
    f_IndexError := He.free_ok X G (c.t.d.fact 0 rfl)
    f_KeyError := He.free_ok X G (c.t.d.fact 1 rfl)
    f_LookupError := He.free_ok X G (c.t.d.fact 2 rfl)
    f_ValueError := He.free_ok X G (c.t.d.fact 3 rfl)
    f_all := He.free_ok X G (c.t.d.fact 4 rfl)
    f_bool := He.free_ok X G (c.t.d.fact 5 rfl)
    f_int := He.free_ok X G (c.t.d.fact 6 rfl)
    f_isinstance := He.free_ok X G (c.t.d.fact 7 rfl)
    f_len := He.free_ok X G (c.t.d.fact 8 rfl)
    f_list := He.free_ok X G (c.t.d.fact 9 rfl)
    f_range := He.free_ok X G (c.t.d.fact 10 rfl)
    f_str := He.free_ok X G (c.t.d.fact 11 rfl)
    f_tuple := He.free_ok X G (c.t.d.fact 12 rfl)
    f_zip := He.free_ok X G (c.t.d.fact 13 rfl)
    g_RuleError := He.glo_ok X G (c.t.d.fact 14 rfl)
    g_Missing := He.glo_ok X G (c.t.d.fact 15 rfl)
    g_BadText := He.glo_ok X G (c.t.d.fact 16 rfl)
    g_BadName := He.glo_ok X G (c.t.d.fact 17 rfl)
    g_BadLetters := He.glo_ok X G (c.t.d.fact 18 rfl)
    g_BadRun := He.glo_ok X G (c.t.d.fact 19 rfl)
    g_BadColumn := He.glo_ok X G (c.t.d.fact 20 rfl)
    g_BadNumber := He.glo_ok X G (c.t.d.fact 21 rfl)
    g_BadTable := He.glo_ok X G (c.t.d.fact 22 rfl)
    g_BadDeed := He.glo_ok X G (c.t.d.fact 23 rfl)
    g_UnlikeParts := He.glo_ok X G (c.t.d.fact 24 rfl)
    g_UnlikeTapes := He.glo_ok X G (c.t.d.fact 25 rfl)
    g_TooMany := He.glo_ok X G (c.t.d.fact 26 rfl)
    g_HeldTwice := He.glo_ok X G (c.t.d.fact 27 rfl)
    g_BreaksBeside := He.glo_ok X G (c.t.d.fact 28 rfl)
    g_NotSo := He.glo_ok X G (c.t.d.fact 29 rfl)
    g_NotEnough := He.glo_ok X G (c.t.d.fact 30 rfl)
    g_CantAnswer := He.glo_ok X G (c.t.d.fact 31 rfl)
    g_EndedRun := He.glo_ok X G (c.t.d.fact 32 rfl)
    g_NoDraft := He.glo_ok X G (c.t.d.fact 33 rfl)
    g_InDraft := He.glo_ok X G (c.t.d.fact 34 rfl)
    g_UnknownPart := He.glo_ok X G (c.t.d.fact 35 rfl)
    g_UnknownName := He.glo_ok X G (c.t.d.fact 36 rfl)
    g_UnknownRun := He.glo_ok X G (c.t.d.fact 37 rfl)
    g_NotHeld := He.glo_ok X G (c.t.d.fact 38 rfl)
    g_NothingLeft := He.glo_ok X G (c.t.d.fact 39 rfl)
    g__law_bag := He.glo_ok X G (c.t.d.fact 40 rfl)
    g__law_draw := He.glo_ok X G (c.t.d.fact 41 rfl)
    g__law_of := He.glo_ok X G (c.t.d.fact 42 rfl)
    g__law_like := He.glo_ok X G (c.t.d.fact 43 rfl)
    g__law_two := He.glo_ok X G (c.t.d.fact 44 rfl)
    g__law_one := He.glo_ok X G (c.t.d.fact 45 rfl)
    g__law_made := He.glo_ok X G (c.t.d.fact 46 rfl)
    g__law_values := He.glo_ok X G (c.t.d.fact 47 rfl)
    g__law_kinds := He.glo_ok X G (c.t.d.fact 48 rfl)
    g__law_due_kinds := He.glo_ok X G (c.t.d.fact 49 rfl)
    g__law_raise_one := He.glo_ok X G (c.t.d.fact 50 rfl)
    g__law_raise := He.glo_ok X G (c.t.d.fact 51 rfl)
    g__law_caught := He.glo_ok X G (c.t.d.fact 52 rfl)
    g__law_value := He.glo_ok X G (c.t.d.fact 53 rfl)
    g__law_copied := He.glo_ok X G (c.t.d.fact 54 rfl)
    g__law_so := He.glo_ok X G (c.t.d.fact 55 rfl)
    g_law := He.glo_ok X G (c.t.d.fact 56 rfl)
    d__law_bag := by obtain ⟨fd, F⟩ := c.t.d.def_ 0 rfl; exact ⟨fd, He5.fun_of F⟩
    d__law_draw := by obtain ⟨fd, F⟩ := c.t.d.def_ 1 rfl; exact ⟨fd, He5.fun_of F⟩
    d__law_of := by obtain ⟨fd, F⟩ := c.t.d.def_ 2 rfl; exact ⟨fd, He5.fun_of F⟩
    d__law_like := by obtain ⟨fd, F⟩ := c.t.d.def_ 3 rfl; exact ⟨fd, He5.fun_of F⟩
    d__law_two := by obtain ⟨fd, F⟩ := c.t.d.def_ 4 rfl; exact ⟨fd, He5.fun_of F⟩
    d__law_one := by obtain ⟨fd, F⟩ := c.t.d.def_ 5 rfl; exact ⟨fd, He5.fun_of F⟩
    d__law_made := by obtain ⟨fd, F⟩ := c.t.d.def_ 6 rfl; exact ⟨fd, He5.fun_of F⟩
    d__law_values := by obtain ⟨fd, F⟩ := c.t.d.def_ 7 rfl; exact ⟨fd, He5.fun_of F⟩
    d__law_kinds := by obtain ⟨fd, F⟩ := c.t.d.def_ 8 rfl; exact ⟨fd, He5.fun_of F⟩
    d__law_due_kinds := by obtain ⟨fd, F⟩ := c.t.d.def_ 9 rfl; exact ⟨fd, He5.fun_of F⟩
    d__law_raise_one := by obtain ⟨fd, F⟩ := c.t.d.def_ 10 rfl; exact ⟨fd, He5.fun_of F⟩
    d__law_raise := by obtain ⟨fd, F⟩ := c.t.d.def_ 11 rfl; exact ⟨fd, He5.fun_of F⟩
    d__law_caught := by obtain ⟨fd, F⟩ := c.t.d.def_ 12 rfl; exact ⟨fd, He5.fun_of F⟩
    d__law_value := by obtain ⟨fd, F⟩ := c.t.d.def_ 13 rfl; exact ⟨fd, He5.fun_of F⟩
    d__law_copied := by obtain ⟨fd, F⟩ := c.t.d.def_ 14 rfl; exact ⟨fd, He5.fun_of F⟩
    d__law_so := by obtain ⟨fd, F⟩ := c.t.d.def_ 15 rfl; exact ⟨fd, He5.fun_of F⟩
    d_law := by obtain ⟨fd, F⟩ := c.t.d.def_ 16 rfl; exact ⟨fd, He5.fun_of F⟩
    i_BadText := by obtain ⟨fd, F⟩ := c.t.d.def_ 17 rfl; exact ⟨_, fd, (init_at hI (c := "BadText") (fs := ["code", "line", "why"]) (by decide +kernel)).1, (init_at hI (c := "BadText") (fs := ["code", "line", "why"]) (by decide +kernel)).2, He5.fun_of F⟩
    i_BadName := by obtain ⟨fd, F⟩ := c.t.d.def_ 18 rfl; exact ⟨_, fd, (init_at hI (c := "BadName") (fs := ["code", "name"]) (by decide +kernel)).1, (init_at hI (c := "BadName") (fs := ["code", "name"]) (by decide +kernel)).2, He5.fun_of F⟩
    i_BadLetters := by obtain ⟨fd, F⟩ := c.t.d.def_ 19 rfl; exact ⟨_, fd, (init_at hI (c := "BadLetters") (fs := ["code", "at"]) (by decide +kernel)).1, (init_at hI (c := "BadLetters") (fs := ["code", "at"]) (by decide +kernel)).2, He5.fun_of F⟩
    i_BadRun := by obtain ⟨fd, F⟩ := c.t.d.def_ 20 rfl; exact ⟨_, fd, (init_at hI (c := "BadRun") (fs := ["code", "at"]) (by decide +kernel)).1, (init_at hI (c := "BadRun") (fs := ["code", "at"]) (by decide +kernel)).2, He5.fun_of F⟩
    i_BadColumn := by obtain ⟨fd, F⟩ := c.t.d.def_ 21 rfl; exact ⟨_, fd, (init_at hI (c := "BadColumn") (fs := ["code", "column"]) (by decide +kernel)).1, (init_at hI (c := "BadColumn") (fs := ["code", "column"]) (by decide +kernel)).2, He5.fun_of F⟩
    i_BadNumber := by obtain ⟨fd, F⟩ := c.t.d.def_ 22 rfl; exact ⟨_, fd, (init_at hI (c := "BadNumber") (fs := ["code", "value"]) (by decide +kernel)).1, (init_at hI (c := "BadNumber") (fs := ["code", "value"]) (by decide +kernel)).2, He5.fun_of F⟩
    i_BadTable := by obtain ⟨fd, F⟩ := c.t.d.def_ 23 rfl; exact ⟨_, fd, (init_at hI (c := "BadTable") (fs := ["code", "at"]) (by decide +kernel)).1, (init_at hI (c := "BadTable") (fs := ["code", "at"]) (by decide +kernel)).2, He5.fun_of F⟩
    i_BadDeed := by obtain ⟨fd, F⟩ := c.t.d.def_ 24 rfl; exact ⟨_, fd, (init_at hI (c := "BadDeed") (fs := ["code"]) (by decide +kernel)).1, (init_at hI (c := "BadDeed") (fs := ["code"]) (by decide +kernel)).2, He5.fun_of F⟩
    i_UnlikeParts := by obtain ⟨fd, F⟩ := c.t.d.def_ 25 rfl; exact ⟨_, fd, (init_at hI (c := "UnlikeParts") (fs := ["code", "one", "other"]) (by decide +kernel)).1, (init_at hI (c := "UnlikeParts") (fs := ["code", "one", "other"]) (by decide +kernel)).2, He5.fun_of F⟩
    i_UnlikeTapes := by obtain ⟨fd, F⟩ := c.t.d.def_ 26 rfl; exact ⟨_, fd, (init_at hI (c := "UnlikeTapes") (fs := ["code", "one", "other"]) (by decide +kernel)).1, (init_at hI (c := "UnlikeTapes") (fs := ["code", "one", "other"]) (by decide +kernel)).2, He5.fun_of F⟩
    i_TooMany := by obtain ⟨fd, F⟩ := c.t.d.def_ 27 rfl; exact ⟨_, fd, (init_at hI (c := "TooMany") (fs := ["code", "what", "found"]) (by decide +kernel)).1, (init_at hI (c := "TooMany") (fs := ["code", "what", "found"]) (by decide +kernel)).2, He5.fun_of F⟩
    i_HeldTwice := by obtain ⟨fd, F⟩ := c.t.d.def_ 28 rfl; exact ⟨_, fd, (init_at hI (c := "HeldTwice") (fs := ["code", "item"]) (by decide +kernel)).1, (init_at hI (c := "HeldTwice") (fs := ["code", "item"]) (by decide +kernel)).2, He5.fun_of F⟩
    i_BreaksBeside := by obtain ⟨fd, F⟩ := c.t.d.def_ 29 rfl; exact ⟨_, fd, (init_at hI (c := "BreaksBeside") (fs := ["code", "lot"]) (by decide +kernel)).1, (init_at hI (c := "BreaksBeside") (fs := ["code", "lot"]) (by decide +kernel)).2, He5.fun_of F⟩
    i_NotSo := by obtain ⟨fd, F⟩ := c.t.d.def_ 30 rfl; exact ⟨_, fd, (init_at hI (c := "NotSo") (fs := ["code", "lot"]) (by decide +kernel)).1, (init_at hI (c := "NotSo") (fs := ["code", "lot"]) (by decide +kernel)).2, He5.fun_of F⟩
    i_NotEnough := by obtain ⟨fd, F⟩ := c.t.d.def_ 31 rfl; exact ⟨_, fd, (init_at hI (c := "NotEnough") (fs := ["code", "lot"]) (by decide +kernel)).1, (init_at hI (c := "NotEnough") (fs := ["code", "lot"]) (by decide +kernel)).2, He5.fun_of F⟩
    i_CantAnswer := by obtain ⟨fd, F⟩ := c.t.d.def_ 32 rfl; exact ⟨_, fd, (init_at hI (c := "CantAnswer") (fs := ["code", "at", "run"]) (by decide +kernel)).1, (init_at hI (c := "CantAnswer") (fs := ["code", "at", "run"]) (by decide +kernel)).2, He5.fun_of F⟩
    i_EndedRun := by obtain ⟨fd, F⟩ := c.t.d.def_ 33 rfl; exact ⟨_, fd, (init_at hI (c := "EndedRun") (fs := ["code", "at"]) (by decide +kernel)).1, (init_at hI (c := "EndedRun") (fs := ["code", "at"]) (by decide +kernel)).2, He5.fun_of F⟩
    i_NoDraft := by obtain ⟨fd, F⟩ := c.t.d.def_ 34 rfl; exact ⟨_, fd, (init_at hI (c := "NoDraft") (fs := ["code"]) (by decide +kernel)).1, (init_at hI (c := "NoDraft") (fs := ["code"]) (by decide +kernel)).2, He5.fun_of F⟩
    i_InDraft := by obtain ⟨fd, F⟩ := c.t.d.def_ 35 rfl; exact ⟨_, fd, (init_at hI (c := "InDraft") (fs := ["code"]) (by decide +kernel)).1, (init_at hI (c := "InDraft") (fs := ["code"]) (by decide +kernel)).2, He5.fun_of F⟩
    i_UnknownPart := by obtain ⟨fd, F⟩ := c.t.d.def_ 36 rfl; exact ⟨_, fd, (init_at hI (c := "UnknownPart") (fs := ["code", "name"]) (by decide +kernel)).1, (init_at hI (c := "UnknownPart") (fs := ["code", "name"]) (by decide +kernel)).2, He5.fun_of F⟩
    i_UnknownName := by obtain ⟨fd, F⟩ := c.t.d.def_ 37 rfl; exact ⟨_, fd, (init_at hI (c := "UnknownName") (fs := ["code", "name"]) (by decide +kernel)).1, (init_at hI (c := "UnknownName") (fs := ["code", "name"]) (by decide +kernel)).2, He5.fun_of F⟩
    i_UnknownRun := by obtain ⟨fd, F⟩ := c.t.d.def_ 38 rfl; exact ⟨_, fd, (init_at hI (c := "UnknownRun") (fs := ["code", "at"]) (by decide +kernel)).1, (init_at hI (c := "UnknownRun") (fs := ["code", "at"]) (by decide +kernel)).2, He5.fun_of F⟩
    i_NotHeld := by obtain ⟨fd, F⟩ := c.t.d.def_ 39 rfl; exact ⟨_, fd, (init_at hI (c := "NotHeld") (fs := ["code", "run"]) (by decide +kernel)).1, (init_at hI (c := "NotHeld") (fs := ["code", "run"]) (by decide +kernel)).2, He5.fun_of F⟩
    i_NothingLeft := by obtain ⟨fd, F⟩ := c.t.d.def_ 40 rfl; exact ⟨_, fd, (init_at hI (c := "NothingLeft") (fs := ["code"]) (by decide +kernel)).1, (init_at hI (c := "NothingLeft") (fs := ["code"]) (by decide +kernel)).2, He5.fun_of F⟩
    ox := oxtB_ok h1
    kd := m1
    em := h2 }
end K00

namespace K00
open PySem PySem.Spec PyProof.Rows L2 EX DL
theorem facts {P : Program} {w : World} {K : PySem.W.Frag} {h : Heap} {mg : Str → Option Value} {f : Addr} (X : K.In h) (G : h.Ns mainGlobals mg) (hfa : mg ("law" : Str) = some (.ref f)) (c : He.SaysX fa fn [] [] ex w h K) :
    ∃ fd : FuncData, (∀ (s : Shared) (v : Value), BindsTo s fd ⟨[v], []⟩ [("script", v)]) ∧ ∀ base : Heap, K.In base → base.Ns mainGlobals mg → FnOk P w K mg base L2.CX0 7 f fd ["script"] (spLaw K) := by
  have e := en_of X G c
  have e1 := hfa.symm.trans e.g_law
  cases e1
  obtain ⟨fd, F⟩ := e.d_law
  have b : Binds K fd ["script"] [] := F.binds fun _ _ _ _ _ _ us hl => match us, hl with | [_], _ => rfl
  refine ⟨fd, fun s v => ?_, fun base _ _ => ?_⟩
  · obtain ⟨oc, od, kV, doc, pm, an, cdv, ct, osl, rfl, lk, hcd⟩ := F.ex
    exact BindsTo.of_eq rfl
  · obtain ⟨fd', F', G'⟩ := ok_law (P := P) (w := w) (base := base) e
    obtain ⟨oc, od, kV, doc, pm, an, cdv, ct, osl, rfl, lk, hcd⟩ := F.ex
    obtain ⟨oc', od', kV', doc', pm', an', cdv', ct', osl', rfl, lk', hcd'⟩ := F'.ex
    rw [lk] at lk'
    cases lk'
    exact law_ok0 G'
end K00
open PySem PySem.W PySem.Calls PyProof.Rows
theorem PySem.Challenge.cw_fewbreak_k00_errors_by_themselves_holds : PySem.Challenge.rw_fewbreak_k00_errors_by_themselves.Holds := by
  w_on; o_law
  refine HandSHeadRun.head_any (r := OpenLaw.row PySem.Challenge.rw_fewbreak_k00_errors_by_themselves) (q := view (OpenLaw.row PySem.Challenge.rw_fewbreak_k00_errors_by_themselves).prog [44]) (H := K00.hk) (ob := K00.ob) (M := 60000) (loose := K00.loose) (d := HandSHeadRun.topDef (OpenLaw.row PySem.Challenge.rw_fewbreak_k00_errors_by_themselves).prog 44) (kwd := []) K00.ob_eq
    (by kernel_rfl) (fun s => by kernel_rfl) K00.run (by kernel_rfl) (by kernel_rfl) (by kernel_rfl) (by rfl) (by first | assumption | decide +kernel) (by decide +kernel) ⟨rfl, rfl, rfl, rfl, rfl, by decide +kernel⟩ ?hw ?hc
  case hw => w_witness2
  case hc =>
    refine L2.walk_ofE (l := PySem.Challenge.rw_fewbreak_k00_errors_by_themselves) (n := 63) (k := 7) (x := "script") (CX := L2.CX0) rfl (by decide) (by kernel_rfl) ⟨rfl, by decide, by decide⟩ ?F (fun _ _ _ _ z => z)
    intro w mg fa h Y G hmg0
    obtain ⟨K, KX, c⟩ := Y
    have hmg : mg ("law" : PySem.Str) = some (.ref fa) := by
      have e : (HandSHeadRun.topDef (OpenLaw.row PySem.Challenge.rw_fewbreak_k00_errors_by_themselves).prog 44).name = ("law" : PySem.Str) := by kernel_rfl
      rw [← e]
      exact hmg0
    obtain ⟨fd, hb, hF⟩ := K00.facts (P := (PySem.Challenge.rw_fewbreak_k00_errors_by_themselves).prog) (w := w) KX G hmg c
    exact ⟨K, fd, K00.spLaw K, KX, hb, fun H a ns hl _ hS => ⟨a, ns, rfl, hS, fun _ => rfl⟩, hF⟩

