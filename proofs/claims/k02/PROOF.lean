import PyProof.Rows.All
import Wide.All
import OpenK.AllK
import Wide.FinOn
import HandS.ForMost
import HandS.ForExc
import HandS.HeadHook4
import HandS.HeadNt
import HandS.TupAny
import HandS.IsInst
import HandS.Zip
import HandS.Star
import HandS.ExcOwn
import HandS.DictComp
import HandS.FStr
import HandS.Steps
import KE.GoesEnum
import KE.GoesMore
import HandS.Lambda
import KE.KeyNested
import KE.KDictKeyed
import HandS.ExcInit
import HandS.ExcField
import HandS.ExcIs
import HandS.TryMany
import KE.KExcInit
import HandS.HotCalls
import KE.KExcIs
import HandS.Deep
import HandS.Strs
import HandS.SetKeys
import KE.KDictWalk
import KE.KDictSum
import KE.SortData
import HandS.More
import KE.GoesRaise
import KE.GoesComp
import KE.DataCmp
import PyProof.ListStr
import HandS.Text
import HandS.Codes
import PySem.Challenge.RW_fewbreak_k02_whole_runs_and_lots_read_ba
import HandS.HeadEnd
import HandS.Head0
import HandS.Head1
import HandS.Head2
import HandS.EndTab
set_option Elab.async false
set_option linter.all false
set_option autoImplicit false
set_option maxRecDepth 100000
set_option maxHeartbeats 4000000
namespace DL
open PySem PySem.Spec PyProof.Rows L2

abbrev VSt := List (Option V)
inductive D where
  | non | bl (b : Bool) | int (i : Int) | str (x : Str) | ty (n : String)
  | tup (xs : List D) | lst (xs : List D)
  | dic (kvs : List (Key × D))
  | obj (c : Str) (fs : List (Str × D))
  | exc (c : Str) (fs : List (Str × D))
  | adr (a : Addr)

/-- an exception object that nobody changes -/
def excHO (a : Addr) (oe : Obj) : HO := .frz oe (.ext fun h => h.get? a = some oe)

mutual
def Rep (K : PySem.W.Frag) (G : Hp) : D → V → Prop
  | .non, v => v = .non
  | .bl b, v => v = .bl b
  | .int i, v => v = .int i
  | .str x, v => v = .str x
  | .ty n, v => v = .ty n
  | .tup ds, v => ∃ a vs, v = .ref a ∧ SqT K G a vs ∧ Reps K G ds vs
  | .lst ds, v => ∃ a vs, v = .ref a ∧ G a = some (.lst vs) ∧ Reps K G ds vs
  | .dic kvs, v => ∃ a vs, v = .ref a ∧ G a = some (.dK vs) ∧ RepsK K G kvs vs
  | .obj c fs, v => ∃ a dx vs, v = .ref a ∧ G a = some (.ins (He.ga K c) dx vs) ∧ RepsF K G fs vs
  | .exc c fs, v => ∃ a oe d vs, v = .ref a ∧ G a = some (excHO a oe) ∧ oe.cls = .ref (He.ga K c) ∧ oe.dict = some d ∧ (∃ ws, oe.data = .fields ws) ∧ G d = some (.xd vs) ∧ RepsF K G fs vs
  | .adr a, v => v = .ref a
def Reps (K : PySem.W.Frag) (G : Hp) : List D → List V → Prop
  | [], vs => vs = []
  | d :: ds, vs => ∃ v r, vs = v :: r ∧ Rep K G d v ∧ Reps K G ds r
def RepsK (K : PySem.W.Frag) (G : Hp) : List (Key × D) → List (Key × V) → Prop
  | [], vs => vs = []
  | d :: ds, vs => ∃ v r, vs = (d.1, v) :: r ∧ Rep K G d.2 v ∧ RepsK K G ds r
def RepsF (K : PySem.W.Frag) (G : Hp) : List (Str × D) → List (Str × V) → Prop
  | [], vs => vs = []
  | d :: ds, vs => ∃ v r, vs = (d.1, v) :: r ∧ Rep K G d.2 v ∧ RepsF K G ds r
end

section
variable {K : PySem.W.Frag} {G G' : Hp}
theorem sameT {a : Addr} {xs : List V} (e : Same G G') (h : SqT K G a xs) : SqT K G' a xs := by
  rcases h with (h | ⟨o, h⟩) | h
  · exact .inl (.inl (e _ _ h))
  · exact .inl (.inr ⟨o, e _ _ h⟩)
  · exact .inr h
mutual
theorem Rep.mono (e : Same G G') : ∀ {d : D} {v : V}, Rep K G d v → Rep K G' d v
  | .non, _, h => h
  | .bl _, _, h => h
  | .int _, _, h => h
  | .str _, _, h => h
  | .ty _, _, h => h
  | .tup ds, v, h => by
    unfold Rep at h ⊢
    obtain ⟨a, vs, e1, h1, h2⟩ := h
    exact ⟨a, vs, e1, sameT e h1, Reps.mono e h2⟩
  | .lst ds, v, h => by
    unfold Rep at h ⊢
    obtain ⟨a, vs, e1, h1, h2⟩ := h
    exact ⟨a, vs, e1, e _ _ h1, Reps.mono e h2⟩
  | .dic kvs, v, h => by
    unfold Rep at h ⊢
    obtain ⟨a, vs, e1, h1, h2⟩ := h
    exact ⟨a, vs, e1, e _ _ h1, RepsK.mono e h2⟩
  | .obj c fs, v, h => by
    unfold Rep at h ⊢
    obtain ⟨a, dx, vs, e1, h1, h2⟩ := h
    exact ⟨a, dx, vs, e1, e _ _ h1, RepsF.mono e h2⟩
  | .exc c fs, v, h => by
    unfold Rep at h ⊢
    obtain ⟨a, oe, d, vs, e1, h1, h2, h3, h4, h5, h6⟩ := h
    exact ⟨a, oe, d, vs, e1, e _ _ h1, h2, h3, h4, e _ _ h5, RepsF.mono e h6⟩
  | .adr _, _, h => h
theorem Reps.mono (e : Same G G') : ∀ {ds : List D} {vs : List V}, Reps K G ds vs → Reps K G' ds vs
  | [], _, h => h
  | d :: ds, vs, h => by
    unfold Reps at h ⊢
    obtain ⟨v, r, e1, h1, h2⟩ := h
    exact ⟨v, r, e1, Rep.mono e h1, Reps.mono e h2⟩
theorem RepsK.mono (e : Same G G') : ∀ {ds : List (Key × D)} {vs : List (Key × V)}, RepsK K G ds vs → RepsK K G' ds vs
  | [], _, h => h
  | d :: ds, vs, h => by
    unfold RepsK at h ⊢
    obtain ⟨v, r, e1, h1, h2⟩ := h
    exact ⟨v, r, e1, Rep.mono e h1, RepsK.mono e h2⟩
theorem RepsF.mono (e : Same G G') : ∀ {ds : List (Str × D)} {vs : List (Str × V)}, RepsF K G ds vs → RepsF K G' ds vs
  | [], _, h => h
  | d :: ds, vs, h => by
    unfold RepsF at h ⊢
    obtain ⟨v, r, e1, h1, h2⟩ := h
    exact ⟨v, r, e1, Rep.mono e h1, RepsF.mono e h2⟩
end
theorem Reps.nil : Reps K G [] [] := by unfold Reps; rfl
theorem Reps.cons {d : D} {v : V} {ds : List D} {vs : List V} (h : Rep K G d v) (t : Reps K G ds vs) : Reps K G (d :: ds) (v :: vs) := by
  unfold Reps; exact ⟨v, vs, rfl, h, t⟩
theorem Reps.cons_iff {d : D} {ds : List D} {vs : List V} : Reps K G (d :: ds) vs ↔ ∃ v r, vs = v :: r ∧ Rep K G d v ∧ Reps K G ds r := by
  constructor
  · intro h; unfold Reps at h; exact h
  · intro h; unfold Reps; exact h
theorem Reps.nil_iff {vs : List V} : Reps K G [] vs ↔ vs = [] := by
  constructor
  · intro h; unfold Reps at h; exact h
  · intro h; unfold Reps; exact h
theorem Reps.length : ∀ {ds : List D} {vs : List V}, Reps K G ds vs → ds.length = vs.length
  | [], vs, h => by rw [Reps.nil_iff.mp h]; rfl
  | d :: ds, vs, h => by
    obtain ⟨v, r, rfl, _, h2⟩ := Reps.cons_iff.mp h
    rw [List.length_cons, List.length_cons, Reps.length h2]
theorem Reps.append : ∀ {ds es : List D} {vs ws : List V}, Reps K G ds vs → Reps K G es ws → Reps K G (ds ++ es) (vs ++ ws)
  | [], _, vs, _, h, h' => by rw [Reps.nil_iff.mp h]; exact h'
  | d :: ds, _, vs, _, h, h' => by
    obtain ⟨v, r, rfl, h1, h2⟩ := Reps.cons_iff.mp h
    exact Reps.cons h1 (Reps.append h2 h')
theorem Reps.get : ∀ {ds : List D} {vs : List V} {i : Nat} {d : D}, Reps K G ds vs → ds[i]? = some d → ∃ v, vs[i]? = some v ∧ Rep K G d v
  | [], _, _, _, _, e => by simp at e
  | d :: ds, vs, 0, d', h, e => by
    obtain ⟨v, r, rfl, h1, _⟩ := Reps.cons_iff.mp h
    simp at e; subst e
    exact ⟨v, rfl, h1⟩
  | d :: ds, vs, i + 1, d', h, e => by
    obtain ⟨v, r, rfl, _, h2⟩ := Reps.cons_iff.mp h
    obtain ⟨w, h3, h4⟩ := Reps.get (i := i) h2 (by simpa using e)
    exact ⟨w, by simpa using h3, h4⟩
theorem Reps.getV : ∀ {ds : List D} {vs : List V} {i : Nat} {v : V}, Reps K G ds vs → vs[i]? = some v → ∃ d, ds[i]? = some d ∧ Rep K G d v
  | [], vs, i, v, h, e => by rw [Reps.nil_iff.mp h] at e; simp at e
  | d :: ds, vs, 0, v, h, e => by
    obtain ⟨v', r, rfl, h1, _⟩ := Reps.cons_iff.mp h
    simp at e; subst e
    exact ⟨d, rfl, h1⟩
  | d :: ds, vs, i + 1, v, h, e => by
    obtain ⟨v', r, rfl, _, h2⟩ := Reps.cons_iff.mp h
    obtain ⟨w, h3, h4⟩ := Reps.getV (i := i) h2 (by simpa using e)
    exact ⟨w, by simpa using h3, h4⟩
theorem Reps.take : ∀ {ds : List D} {vs : List V} (n : Nat), Reps K G ds vs → Reps K G (ds.take n) (vs.take n)
  | _, _, 0, _ => by simp [Reps.nil_iff]
  | [], vs, n + 1, h => by rw [Reps.nil_iff.mp h]; simp [Reps.nil_iff]
  | d :: ds, vs, n + 1, h => by
    obtain ⟨v, r, rfl, h1, h2⟩ := Reps.cons_iff.mp h
    exact Reps.cons h1 (Reps.take n h2)
theorem Reps.drop : ∀ {ds : List D} {vs : List V} (n : Nat), Reps K G ds vs → Reps K G (ds.drop n) (vs.drop n)
  | _, _, 0, h => h
  | [], vs, n + 1, h => by rw [Reps.nil_iff.mp h]; simp [Reps.nil_iff]
  | d :: ds, vs, n + 1, h => by
    obtain ⟨v, r, rfl, _, h2⟩ := Reps.cons_iff.mp h
    exact Reps.drop n h2
theorem Reps.set {d : D} {v : V} (hd : Rep K G d v) : ∀ {ds : List D} {vs : List V} (n : Nat), Reps K G ds vs → Reps K G (ds.set n d) (vs.set n v)
  | [], vs, n, h => by rw [Reps.nil_iff.mp h]; simp [Reps.nil_iff]
  | d' :: ds, vs, 0, h => by
    obtain ⟨v', r, rfl, _, h2⟩ := Reps.cons_iff.mp h
    exact Reps.cons hd h2
  | d' :: ds, vs, n + 1, h => by
    obtain ⟨v', r, rfl, h1, h2⟩ := Reps.cons_iff.mp h
    exact Reps.cons h1 (Reps.set hd n h2)
theorem Reps.snoc {ds : List D} {vs : List V} {d : D} {v : V} (h : Reps K G ds vs) (hd : Rep K G d v) : Reps K G (ds ++ [d]) (vs ++ [v]) := h.append (Reps.cons hd Reps.nil)
theorem Reps.reverse : ∀ {ds : List D} {vs : List V}, Reps K G ds vs → Reps K G ds.reverse vs.reverse
  | [], vs, h => by rw [Reps.nil_iff.mp h]; simp [Reps.nil_iff]
  | d :: ds, vs, h => by
    obtain ⟨v, r, rfl, h1, h2⟩ := Reps.cons_iff.mp h
    rw [List.reverse_cons, List.reverse_cons]
    exact (Reps.reverse h2).snoc h1
theorem Reps.eraseIdx : ∀ {ds : List D} {vs : List V} (n : Nat), Reps K G ds vs → Reps K G (ds.eraseIdx n) (vs.eraseIdx n)
  | [], vs, n, h => by rw [Reps.nil_iff.mp h]; simp [Reps.nil_iff]
  | d' :: ds, vs, 0, h => by
    obtain ⟨v', r, rfl, _, h2⟩ := Reps.cons_iff.mp h
    exact h2
  | d' :: ds, vs, n + 1, h => by
    obtain ⟨v', r, rfl, h1, h2⟩ := Reps.cons_iff.mp h
    exact Reps.cons h1 (Reps.eraseIdx n h2)
theorem RepsF.nil : RepsF K G [] [] := by unfold RepsF; rfl
theorem RepsF.cons {f : Str} {d : D} {v : V} {ds : List (Str × D)} {vs : List (Str × V)} (h : Rep K G d v) (t : RepsF K G ds vs) : RepsF K G ((f, d) :: ds) ((f, v) :: vs) := by
  unfold RepsF; exact ⟨v, vs, rfl, h, t⟩
theorem RepsF.cons_iff {d : Str × D} {ds : List (Str × D)} {vs : List (Str × V)} : RepsF K G (d :: ds) vs ↔ ∃ v r, vs = (d.1, v) :: r ∧ Rep K G d.2 v ∧ RepsF K G ds r := by
  constructor
  · intro h; unfold RepsF at h; exact h
  · intro h; unfold RepsF; exact h
theorem RepsF.nil_iff {vs : List (Str × V)} : RepsF K G [] vs ↔ vs = [] := by
  constructor
  · intro h; unfold RepsF at h; exact h
  · intro h; unfold RepsF; exact h
theorem RepsF.length : ∀ {ds : List (Str × D)} {vs : List (Str × V)}, RepsF K G ds vs → ds.length = vs.length
  | [], vs, h => by rw [RepsF.nil_iff.mp h]; rfl
  | d :: ds, vs, h => by
    obtain ⟨v, r, rfl, _, h2⟩ := RepsF.cons_iff.mp h
    rw [List.length_cons, List.length_cons, RepsF.length h2]
theorem RepsF.lookup {f : Str} {d : D} : ∀ {ds : List (Str × D)} {vs : List (Str × V)}, RepsF K G ds vs → ds.lookup f = some d → ∃ v, vs.lookup f = some v ∧ Rep K G d v
  | [], _, _, e => by simp at e
  | (g, x) :: ds, vs, h, e => by
    obtain ⟨v, r, rfl, h1, h2⟩ := RepsF.cons_iff.mp h
    rw [List.lookup_cons] at e ⊢
    by_cases q : (f == g) = true
    · rw [q] at e ⊢
      cases e
      exact ⟨v, rfl, h1⟩
    · rw [Bool.not_eq_true] at q
      rw [q] at e ⊢
      exact RepsF.lookup h2 e
theorem RepsF.lookup_none {f : Str} : ∀ {ds : List (Str × D)} {vs : List (Str × V)}, RepsF K G ds vs → ds.lookup f = none → vs.lookup f = none
  | [], vs, h, e => by rw [RepsF.nil_iff.mp h]; rfl
  | (g, x) :: ds, vs, h, e => by
    obtain ⟨v, r, rfl, h1, h2⟩ := RepsF.cons_iff.mp h
    rw [List.lookup_cons] at e ⊢
    by_cases q : (f == g) = true
    · rw [q] at e; cases e
    · rw [Bool.not_eq_true] at q
      rw [q] at e ⊢
      exact RepsF.lookup_none h2 e
theorem RepsK.nil : RepsK K G [] [] := by unfold RepsK; rfl
theorem RepsK.cons {f : Key} {d : D} {v : V} {ds : List (Key × D)} {vs : List (Key × V)} (h : Rep K G d v) (t : RepsK K G ds vs) : RepsK K G ((f, d) :: ds) ((f, v) :: vs) := by
  unfold RepsK; exact ⟨v, vs, rfl, h, t⟩
theorem RepsK.cons_iff {d : Key × D} {ds : List (Key × D)} {vs : List (Key × V)} : RepsK K G (d :: ds) vs ↔ ∃ v r, vs = (d.1, v) :: r ∧ Rep K G d.2 v ∧ RepsK K G ds r := by
  constructor
  · intro h; unfold RepsK at h; exact h
  · intro h; unfold RepsK; exact h
theorem RepsK.nil_iff {vs : List (Key × V)} : RepsK K G [] vs ↔ vs = [] := by
  constructor
  · intro h; unfold RepsK at h; exact h
  · intro h; unfold RepsK; exact h
end

/-- the bag's list, the list of the script's copy within it, the script -/
structure Bag where
  a : Addr
  L : Addr
  ns : List Int
  T : List (Addr × Str)
/-- no table of code objects -/
def NT (o : HO) : Prop := ∀ ps, o ≠ .tbl ps
theorem nt_lst {vs : List V} : NT (.lst vs) := fun _ z => nomatch z
theorem nt_dK {vs : List (Key × V)} : NT (.dK vs) := fun _ z => nomatch z
theorem nt_ins {C dx : Addr} {vs : List (Str × V)} : NT (.ins C dx vs) := fun _ z => nomatch z
/-- what may be changed without a table's knowing it -/
def Chg (o : HO) : Prop := NT o ∧ ∀ c q, o ≠ LamX.CodeO c q
theorem chg_lst {vs : List V} : Chg (.lst vs) := ⟨nt_lst, fun _ _ z => nomatch z⟩
theorem chg_dK {vs : List (Key × V)} : Chg (.dK vs) := ⟨nt_dK, fun _ _ z => nomatch z⟩
theorem chg_ins {C dx : Addr} {vs : List (Str × V)} : Chg (.ins C dx vs) := ⟨nt_ins, fun _ _ z => nomatch z⟩
theorem tabs_upd {T : List (Addr × Str)} {H : Hp} {a : Addr} {u : HO} (t : LamX.Tabs T H) (h : ∀ o, H a = some o → Chg o) : LamX.Tabs T (upd H a u) := fun p hp => by
  obtain ⟨ps, h1, h2, h3⟩ := t p hp
  refine ⟨ps, by rw [upd_ne (fun e => (h _ (by rw [← e]; exact h1)).1 ps rfl)]; exact h1, h2, fun pos cv hc => ?_⟩
  obtain ⟨c, e1, e2⟩ := h3 pos cv hc
  exact ⟨c, e1, by rw [upd_ne (fun e => (h _ (by rw [← e]; exact e2)).2 _ _ rfl)]; exact e2⟩
/-- nothing that stays is a table -/
def NTG (G : Hp) : Prop := ∀ a o, G a = some o → NT o
/-- what stands at the bag: the script's copy, a place, what is left of a great number, a seed, a count -/
def BagOk (K : PySem.W.Frag) (b : Bag) (G H : Hp) : Prop :=
  G b.a = none ∧ G b.L = some (.lst (b.ns.map V.int)) ∧ (LamX.Tabs b.T H ∧ NTG G) ∧ ∃ (i g s c : Int), H b.a = some (.lst [.ref b.L, .int i, .int g, .int s, .int c]) ∧ 0 ≤ i ∧ 0 ≤ g ∧ 0 ≤ s ∧ s < 2147483629

structure Ext (K : PySem.W.Frag) (b : Bag) (G H G' H' : Hp) : Prop where
  gg : Same G G'
  sub : Same G' H'
  keep : ∀ a o, a ≠ b.a → NT o → H a = some o → H' a = some o
  new : ∀ a o, H a = some o → NT o → G' a ≠ none → G a ≠ none
  bag : BagOk K b G' H'
section
variable {K : PySem.W.Frag} {b : Bag} {G H G1 H1 G2 H2 : Hp}
theorem BagOk.ne (h : BagOk K b G H) {a : Addr} (ha : G a ≠ none) : a ≠ b.a := fun e => ha (by rw [e]; exact h.1)
theorem BagOk.at (h : BagOk K b G H) : H b.a ≠ none := by
  obtain ⟨_, _, _, _, _, _, _, e, _⟩ := h
  rw [e]; exact fun z => nomatch z
theorem BagOk.atN (h : BagOk K b G H) : ∃ o, H b.a = some o ∧ NT o := by
  obtain ⟨_, _, _, _, _, _, _, e, _⟩ := h
  exact ⟨_, e, nt_lst⟩
/-- the part that stays grows -/
theorem BagOk.g (h : BagOk K b G H) (s : Same G G1) (n : G1 b.a = none) (t : NTG G1) : BagOk K b G1 H := ⟨n, s _ _ h.2.1, ⟨h.2.2.1.1, t⟩, h.2.2.2⟩
theorem NTG.upd {a : Addr} {o : HO} (h : NTG G) (t : NT o) : NTG (L2.upd G a o) := fun c u e => by
  by_cases q : c = a
  · rw [q, upd_same] at e; cases e; exact t
  · rw [upd_ne q] at e; exact h c u e
/-- a thing is changed, or new -/
theorem BagOk.upd (h : BagOk K b G H) {a : Addr} {u : HO} (n : a ≠ b.a) (c : ∀ o, H a = some o → Chg o) : BagOk K b G (L2.upd H a u) := by
  obtain ⟨h0, h2, hT, i, g, s', c', h1, h3⟩ := h
  exact ⟨h0, h2, ⟨tabs_upd hT.1 c, hT.2⟩, i, g, s', c', by rw [upd_ne (Ne.symm n)]; exact h1, h3⟩
theorem BagOk.new (h : BagOk K b G H) {a : Addr} {u : HO} (n : H a = none) : BagOk K b G (L2.upd H a u) := h.upd (fun e => h.at (e ▸ n)) (fun o e => by rw [n] at e; cases e)
theorem Ext.refl (s : Same G H) (hb : BagOk K b G H) : Ext K b G H G H := ⟨Same.refl _, s, fun _ _ _ _ h => h, fun _ _ _ _ h => h, hb⟩
theorem Ext.trans (hb : H b.a ≠ none) (x : Ext K b G H G1 H1) (y : Ext K b G1 H1 G2 H2) : Ext K b G H G2 H2 :=
  ⟨x.gg.trans y.gg, y.sub, fun a o n t h => y.keep a o n t (x.keep a o n t h), fun a o h t g => by
    by_cases e : a = b.a
    · exact absurd (by rw [e]; exact y.bag.1) g
    · exact x.new a o h t (y.new a o (x.keep a o e t h) t g), y.bag⟩
/-- a new object, tracked from now on -/
theorem Ext.laid (s : Same G H) (hb : BagOk K b G H) {a : Addr} {o : HO} (n : H a = none) (t : NT o := by intro ps z; cases z) : Ext K b G H (upd G a o) (upd H a o) := by
  have nG : G a = none := s.free n
  have nb : a ≠ b.a := fun e => hb.at (e ▸ n)
  have e : Same G (upd G a o) := fun c u h => by rw [upd_ne (ne_of_none h nG)]; exact h
  refine ⟨e, fun c u h => ?_, fun c u _ _ h => ?_, fun c u h _ g => ?_, ?_⟩
  · by_cases e : c = a
    · rw [e, upd_same] at h ⊢; exact h
    · rw [upd_ne e] at h ⊢; exact s _ _ h
  · rw [upd_ne (ne_of_none h n)]; exact h
  · rw [upd_ne (ne_of_none h n)] at g; exact g
  · exact (hb.new n).g e (by rw [upd_ne (Ne.symm nb)]; exact hb.1) (hb.2.2.1.2.upd t)
end

/-- what a def's entry fixes: the bag, the heap, the part that stays, the machine -/
structure Pr where
  b : Bag
  H0 : Hp
  G0 : Hp
  P : Program
  w : World
/-- a key of a dict with tuple keys, as data -/
def nkD : NestedKey → D
  | .none => .non
  | .num i => .int i
  | .text x => .str x
  | .tup ks => .tup (go ks)
where go : List NestedKey → List D
  | [] => []
  | k :: ks => nkD k :: go ks
/-- a dict with tuple keys -/
def NdO (P : Program) (w : World) (a : Addr) (xs : List (NestedKey × Addr × Value)) : HO :=
  .ext fun h => ∃ o es ep, h.get? a = some o ∧ o.ExactDict ∧ o.data = .dict es ep ∧ es.toList = xs.map (entryOfKey (nestedKind P w)) ∧ (xs.map (·.1)).Nodup
theorem nt_ext {φ : Heap → Prop} : NT (.ext φ) := fun _ z => nomatch z
theorem chg_nd {P : Program} {w : World} {a : Addr} {xs : List (NestedKey × Addr × Value)} : Chg (NdO P w a xs) := ⟨nt_ext, fun c q z => by
  unfold NdO LamX.CodeO at z
  have z' := HO.ext.inj z
  let ob : Obj := { cls := .none, data := .fields #[.none, .str q 0] }
  let h : Heap := { objs := Array.replicate (c + 1) ob }
  have hg : ∀ b o, h.get? b = some o → o = ob := fun b o e => by
    unfold Heap.get? at e
    cases q1 : h.objs[b]? with
    | none => rw [q1] at e; cases e
    | some o1 =>
      have e1 : o1 = ob := by
        have := Array.getElem?_eq_some_iff.mp q1
        obtain ⟨_, h2⟩ := this
        rw [← h2]; exact Array.getElem_replicate ..
      rw [q1, e1] at e
      exact (Option.some.inj e).symm
  have hc : ∃ (oc : Obj) (vs : Array Value) (t : Tok), h.get? c = some oc ∧ oc.data = .fields vs ∧ vs[1]? = some (.str q t) := by
    refine ⟨ob, _, 0, ?_, rfl, rfl⟩
    have q1 : h.objs[c]? = some ob := by
      show (Array.replicate (c + 1) ob)[c]? = some ob
      rw [Array.getElem?_replicate, if_pos (Nat.lt_succ_self c)]
    unfold Heap.get?
    rw [q1]
  rw [← congrFun z' h] at hc
  obtain ⟨o, es, ep, h1, _, h3, _⟩ := hc
  rw [hg a o h1] at h3
  cases h3⟩
/-- an entry: the key a tuple that stays, the value -/
def NdE (K : PySem.W.Frag) (G : Hp) (x : NestedKey × D) (y : NestedKey × Addr × Value) : Prop := x.1 = y.1 ∧ y.1.depth ≤ 8 ∧ Rep K G (nkD y.1) (.ref y.2.1) ∧ ∃ v, Rep K G x.2 v ∧ RelV v y.2.2
/-- a thing that belongs to one name alone and may be changed through it -/
inductive DO where
  | lst (ds : List D)
  | dic (kvs : List (Key × D))
  | ins (c : Str) (fs : List (Str × D))
  | ndic (kvs : List (NestedKey × D))
inductive Sl where
  | non
  | val (d : D)
  | own (o : DO)
  | me (a : Addr) (c : Str) (fs : List (Str × D))
abbrev DSt := List Sl
def DO.s : DO → Sl
  | .lst ds => .val (.lst ds)
  | .dic kvs => .val (.dic kvs)
  | .ins c fs => .val (.obj c fs)
  | .ndic _ => .non
def Sl.mine : Sl → Bool
  | .own _ => true
  | .me .. => true
  | _ => false
def OwnAt (K : PySem.W.Frag) (p : Pr) (G H : Hp) (a : Addr) : DO → Prop
  | .lst ds => ∃ vs, H a = some (.lst vs) ∧ Reps K G ds vs
  | .dic kvs => ∃ vs, H a = some (.dK vs) ∧ RepsK K G kvs vs
  | .ins c fs => ∃ dx vs, H a = some (.ins (He.ga K c) dx vs) ∧ RepsF K G fs vs
  | .ndic kvs => (a == sysModules) = false ∧ ∃ xs, H a = some (NdO p.P p.w a xs) ∧ Paired (NdE K G) kvs xs
/-- nothing is known at a but a table -/
def Fr0 (H : Hp) (a : Addr) : Prop := ∀ o, H a = some o → ¬ NT o
theorem Fr0.of {H : Hp} {a : Addr} (h : H a = none) : Fr0 H a := fun o e => by rw [h] at e; cases e
def SlOk (K : PySem.W.Frag) (p : Pr) (G : Hp) (σ : VSt) (H : Hp) (i : Nat) : Sl → Prop
  | .non => True
  | .val d => ∃ v, σ[i]? = some (some v) ∧ Rep K G d v
  | .own o => ∃ a, σ[i]? = some (some (.ref a)) ∧ G a = none ∧ Fr0 p.H0 a ∧ OwnAt K p G H a o
  | .me a c fs => σ[i]? = some (some (.ref a)) ∧ G a = none ∧ Fr0 p.H0 a ∧ ∃ dx vs, H a = some (.ins (He.ga K c) dx vs) ∧ RepsF K G fs vs
structure DR (K : PySem.W.Frag) (p : Pr) (G : Hp) (σ : VSt) (H : Hp) (δ : DSt) : Prop where
  base : Same p.G0 G
  sub : Same G H
  keep : ∀ a o, a ≠ p.b.a → NT o → p.H0 a = some o → H a = some o
  new : ∀ a o, p.H0 a = some o → NT o → G a ≠ none → p.G0 a ≠ none
  bag : BagOk K p.b G H
  bin : ∃ o, p.H0 p.b.a = some o ∧ NT o
  len : δ.length = σ.length
  slot : ∀ (i : Nat) (s : Sl), δ[i]? = some s → SlOk K p G σ H i s
  dis : ∀ (i j : Nat) (s s' : Sl) (a : Addr), i ≠ j → δ[i]? = some s → δ[j]? = some s' → s.mine = true → s'.mine = true → σ[i]? = some (some (.ref a)) → σ[j]? ≠ some (some (.ref a))
section
variable {K : PySem.W.Frag} {p : Pr} {G H G' H' : Hp} {σ : VSt} {δ : DSt}
theorem NdE.mono {x : NestedKey × D} {y : NestedKey × Addr × Value} (e : Same G G') (h : NdE K G x y) : NdE K G' x y := by
  obtain ⟨h1, h2, h3, v, h4, h5⟩ := h
  exact ⟨h1, h2, h3.mono e, v, h4.mono e, h5⟩
theorem OwnAt.there {a : Addr} {o : DO} (h : OwnAt K p G H a o) : H a ≠ none := by
  cases o with
  | lst ds => obtain ⟨_, e, _⟩ := h; rw [e]; exact fun z => nomatch z
  | dic ds => obtain ⟨_, e, _⟩ := h; rw [e]; exact fun z => nomatch z
  | ins c fs => obtain ⟨_, _, e, _⟩ := h; rw [e]; exact fun z => nomatch z
  | ndic kvs => obtain ⟨_, _, e, _⟩ := h; rw [e]; exact fun z => nomatch z
theorem OwnAt.thereN {a : Addr} {o : DO} (h : OwnAt K p G H a o) : ∃ u, H a = some u ∧ Chg u := by
  cases o with
  | lst ds => obtain ⟨_, e, _⟩ := h; exact ⟨_, e, chg_lst⟩
  | dic ds => obtain ⟨_, e, _⟩ := h; exact ⟨_, e, chg_dK⟩
  | ins c fs => obtain ⟨_, _, e, _⟩ := h; exact ⟨_, e, chg_ins⟩
  | ndic kvs => obtain ⟨_, _, e, _⟩ := h; exact ⟨_, e, chg_nd⟩
theorem SlOk.mineN {i : Nat} {s : Sl} {a : Addr} (h : SlOk K p G σ H i s) (m : s.mine = true) (e : σ[i]? = some (some (.ref a))) : G a = none ∧ Fr0 p.H0 a ∧ ∃ u, H a = some u ∧ Chg u := by
  cases s with
  | non => cases m
  | val d => cases m
  | own o =>
    obtain ⟨b, h1, h2, h3, h4⟩ := h
    rw [e] at h1; cases h1
    exact ⟨h2, h3, h4.thereN⟩
  | me b c fs =>
    obtain ⟨h1, h2, h3, dx, vs, h4, _⟩ := h
    rw [e] at h1; cases h1
    exact ⟨h2, h3, _, h4, chg_ins⟩
theorem SlOk.ad {i : Nat} {s : Sl} (h : SlOk K p G σ H i s) (m : s.mine = true) : ∃ a, σ[i]? = some (some (.ref a)) := by
  cases s with
  | non => cases m
  | val d => cases m
  | own o => obtain ⟨b, h1, _⟩ := h; exact ⟨b, h1⟩
  | me b c fs => obtain ⟨h1, _⟩ := h; exact ⟨b, h1⟩
theorem OwnAt.mono {a : Addr} {o : DO} (h : OwnAt K p G H a o) (e : Same G G') (k : ∀ u, NT u → H a = some u → H' a = some u) : OwnAt K p G' H' a o := by
  cases o with
  | lst ds => obtain ⟨_, q, r⟩ := h; exact ⟨_, k _ nt_lst q, r.mono e⟩
  | dic ds => obtain ⟨_, q, r⟩ := h; exact ⟨_, k _ nt_dK q, r.mono e⟩
  | ins c fs => obtain ⟨_, _, q, r⟩ := h; exact ⟨_, _, k _ nt_ins q, r.mono e⟩
  | ndic kvs => obtain ⟨z, _, q, r⟩ := h; exact ⟨z, _, k _ nt_ext q, Paired.mapP r fun _ _ x => x.mono e⟩
theorem DR.nb (r : DR K p G σ H δ) {a : Addr} (h : Fr0 p.H0 a) : a ≠ p.b.a := fun e => by
  obtain ⟨o, h1, h2⟩ := r.bin
  exact h o (by rw [e]; exact h1) h2
/-- what is said of a slot, in a greater heap -/
theorem SlOk.mono {G' H' : Hp} {i : Nat} {s : Sl} (h : SlOk K p G σ H i s) (e : Same G G') (nw : ∀ a u, H a = some u → Chg u → Fr0 p.H0 a → G a = none → G' a = none) (k : ∀ a u, Fr0 p.H0 a → NT u → H a = some u → (∃ s' : Sl, s' = s ∧ s.mine = true ∧ σ[i]? = some (some (.ref a))) → H' a = some u) : SlOk K p G' σ H' i s := by
  cases s with
  | non => exact h
  | val d => obtain ⟨v, h1, h2⟩ := h; exact ⟨v, h1, h2.mono e⟩
  | own o =>
    obtain ⟨a, h1, h2, h3, h4⟩ := h
    refine ⟨a, h1, ?_, h3, h4.mono e fun u t hu => k a u h3 t hu ⟨_, rfl, rfl, h1⟩⟩
    obtain ⟨w, w1, w2⟩ := h4.thereN
    exact nw a w w1 w2 h3 h2
  | me a c fs =>
    obtain ⟨h1, h2, h3, dx, vs, h4, h5⟩ := h
    exact ⟨h1, nw a _ h4 chg_ins h3 h2, h3, dx, vs, k a _ h3 nt_ins h4 ⟨_, rfl, rfl, h1⟩, h5.mono e⟩
/-- behind an evaluation -/
theorem DR.ext (r : DR K p G σ H δ) (x : Ext K p.b G H G' H') : DR K p G' σ H' δ where
  base := r.base.trans x.gg
  sub := x.sub
  keep := fun a o n t h => x.keep a o n t (r.keep a o n t h)
  new := fun a o h t g => by
    by_cases e : a = p.b.a
    · exact absurd (by rw [e]; exact x.bag.1) g
    · exact r.new a o h t (x.new a o (r.keep a o e t h) t g)
  bag := x.bag
  bin := r.bin
  len := r.len
  slot := fun i s e => (r.slot i s e).mono x.gg (fun a u w1 w2 _ h2 => by
    cases z : G' a with
    | none => rfl
    | some u' => exact absurd h2 (x.new a u w1 w2.1 (by rw [z]; exact fun y => nomatch y))) fun a u h3 t hu _ => x.keep a u (r.nb h3) t hu
  dis := r.dis
theorem DR.refl (r : DR K p G σ H δ) : Ext K p.b G H G H := Ext.refl r.sub r.bag
theorem DR.at (r : DR K p G σ H δ) : H p.b.a ≠ none := r.bag.at
/-- behind an evaluation whose value is of no use for the part that stays -/
theorem DR.back (r : DR K p G σ H δ) {G1 : Hp} (k : ∀ a o, a ≠ p.b.a → NT o → H a = some o → H' a = some o) (sb : Same G1 H') (sg : Same G G1) (hb : BagOk K p.b G1 H') : DR K p G σ H' δ :=
  r.ext ⟨Same.refl _, sg.trans sb, k, fun _ _ _ _ h => h, r.bag.1, r.bag.2.1, ⟨hb.2.2.1.1, r.bag.2.2.1.2⟩, hb.2.2.2⟩
theorem DR.backE (r : DR K p G σ H δ) {G1 G2 : Hp} (g1 : Same G G1) (e : Ext K p.b G1 H G2 H') : DR K p G σ H' δ := r.back e.keep e.sub (g1.trans e.gg) e.bag
/-- what a slot says, of another list of slots with the same item there -/
theorem SlOk.slots {σ' : VSt} {i : Nat} {s : Sl} (h : SlOk K p G σ H i s) (e : σ'[i]? = σ[i]?) : SlOk K p G σ' H i s := by
  cases s with
  | non => exact h
  | val d => obtain ⟨v, h1, h2⟩ := h; exact ⟨v, e.trans h1, h2⟩
  | own o => obtain ⟨a, h1, h2⟩ := h; exact ⟨a, e.trans h1, h2⟩
  | me a c fs => obtain ⟨h1, h2⟩ := h; exact ⟨e.trans h1, h2⟩
/-- a slot gets something -/
theorem DR.put (r : DR K p G σ H δ) {i : Nat} {x : Option V} {s : Sl} (h : (σ.set i x)[i]? = some x → SlOk K p G (σ.set i x) H i s) (hn : s.mine = true → ∀ a, x = some (.ref a) → ∀ (j : Nat) (s' : Sl), j ≠ i → δ[j]? = some s' → s'.mine = true → σ[j]? ≠ some (some (.ref a))) : DR K p G (σ.set i x) H (δ.set i s) where
  base := r.base
  sub := r.sub
  keep := r.keep
  new := r.new
  bag := r.bag
  bin := r.bin
  len := by rw [List.length_set, List.length_set]; exact r.len
  slot := fun j t e => by
    by_cases q : i = j
    · subst q
      have hi : i < δ.length := by
        have := (List.getElem?_eq_some_iff.mp e).1
        rw [List.length_set] at this
        exact this
      rw [List.getElem?_set_self hi] at e
      cases e
      exact h (List.getElem?_set_self (by rw [← r.len]; exact hi))
    · rw [List.getElem?_set_ne q] at e
      exact (r.slot j t e).slots (List.getElem?_set_ne q)
  dis := fun j k o1 o2 c n e1 e2 m1 m2 h1 => by
    by_cases q : i = j
    · subst q
      have hi : i < δ.length := by
        have := (List.getElem?_eq_some_iff.mp e1).1
        rw [List.length_set] at this
        exact this
      rw [List.getElem?_set_self (by rw [← r.len]; exact hi)] at h1
      rw [List.getElem?_set_self hi] at e1
      cases e1
      rw [List.getElem?_set_ne n] at e2 ⊢
      exact hn m1 c (Option.some.inj h1) k o2 (Ne.symm n) e2 m2
    · rw [List.getElem?_set_ne q] at e1 h1
      by_cases q2 : i = k
      · subst q2
        have hi : i < δ.length := by
          have := (List.getElem?_eq_some_iff.mp e2).1
          rw [List.length_set] at this
          exact this
        rw [List.getElem?_set_self hi] at e2
        cases e2
        rw [List.getElem?_set_self (by rw [← r.len]; exact hi)]
        intro z
        exact hn m2 c (Option.some.inj z) j o1 n e1 m1 h1
      · rw [List.getElem?_set_ne q2] at e2 ⊢
        exact r.dis j k o1 o2 c n e1 e2 m1 m2 h1
/-- a slot is forgotten, or gets a value -/
theorem DR.set (r : DR K p G σ H δ) {i : Nat} {x : Option V} {s : Sl} (h : match s with | .non => True | .val d => ∃ v, x = some v ∧ Rep K G d v | _ => False) : DR K p G (σ.set i x) H (δ.set i s) := by
  cases s with
  | non => exact r.put (fun _ => True.intro) fun m => nomatch m
  | val d => exact r.put (fun e => by obtain ⟨v, rfl, h2⟩ := h; exact ⟨v, e, h2⟩) fun m => nomatch m
  | own o => exact h.elim
  | me a c fs => exact h.elim
/-- a thing's slot is forgotten or frozen -/
theorem DR.lay (r : DR K p G σ H δ) {i : Nat} {s s' : Sl} (e : δ[i]? = some s) (h : SlOk K p G σ H i s') (m : s'.mine = false) : DR K p G σ H (δ.set i s') where
  base := r.base
  sub := r.sub
  keep := r.keep
  new := r.new
  bag := r.bag
  bin := r.bin
  len := by rw [List.length_set]; exact r.len
  slot := fun j t q => by
    have hi : i < δ.length := (List.getElem?_eq_some_iff.mp e).1
    by_cases z : i = j
    · subst z
      rw [List.getElem?_set_self hi] at q
      cases q
      exact h
    · rw [List.getElem?_set_ne z] at q
      exact r.slot j t q
  dis := fun j k o1 o2 c n e1 e2 m1 m2 q => by
    have hi : i < δ.length := (List.getElem?_eq_some_iff.mp e).1
    have nj : i ≠ j := fun z => by
      subst z
      rw [List.getElem?_set_self hi] at e1
      cases e1
      rw [m] at m1; cases m1
    have nk : i ≠ k := fun z => by
      subst z
      rw [List.getElem?_set_self hi] at e2
      cases e2
      rw [m] at m2; cases m2
    rw [List.getElem?_set_ne nj] at e1
    rw [List.getElem?_set_ne nk] at e2
    exact r.dis j k o1 o2 c n e1 e2 m1 m2 q
/-- the thing of slot i joins what stays; what may then be said of it -/
theorem DR.join (r : DR K p G σ H δ) {i : Nat} {s s' : Sl} {a : Addr} {u : HO} (e : δ[i]? = some s) (m : s.mine = true) (h1 : σ[i]? = some (some (.ref a))) (hu : H a = some u) (m' : s'.mine = false) (h : Same G (upd G a u) → SlOk K p (upd G a u) σ H i s') : Same G (upd G a u) ∧ DR K p (upd G a u) σ H (δ.set i s') := by
  obtain ⟨h2, h3, w, w1, w2⟩ := (r.slot i s e).mineN m h1
  rw [hu] at w1; cases w1
  have hi : i < δ.length := (List.getElem?_eq_some_iff.mp e).1
  have gg : Same G (upd G a u) := fun c w h => by rw [upd_ne (ne_of_none h h2)]; exact h
  have nb := r.nb h3
  refine ⟨gg, ⟨r.base.trans gg, fun c w h => ?_, r.keep, fun c w h t g => ?_, ?_, r.bin, by rw [List.length_set]; exact r.len, fun j t q => ?_, fun j k o1 o2 c n e1 e2 m1 m2 q => ?_⟩⟩
  · by_cases z : c = a
    · rw [z, upd_same] at h; rw [z, hu]; exact h
    · rw [upd_ne z] at h; exact r.sub _ _ h
  · by_cases z : c = a
    · rw [z] at h; exact absurd t (h3 _ h)
    · rw [upd_ne z] at g; exact r.new c w h t g
  · exact r.bag.g gg (by rw [upd_ne (Ne.symm nb)]; exact r.bag.1) (r.bag.2.2.1.2.upd w2.1)
  · by_cases z : i = j
    · subst z
      rw [List.getElem?_set_self hi] at q
      cases q
      exact h gg
    · rw [List.getElem?_set_ne z] at q
      have w' := r.slot j t q
      cases hm : t.mine with
      | false =>
        cases t with
        | non => exact True.intro
        | val d => obtain ⟨v, w1, w2⟩ := w'; exact ⟨v, w1, w2.mono gg⟩
        | own o => cases hm
        | me b c fs => cases hm
      | true =>
        obtain ⟨b, hb⟩ := w'.ad hm
        have nb' : b ≠ a := fun y => r.dis i j s t a z e q m hm h1 (by rw [← y]; exact hb)
        cases t with
        | non => cases hm
        | val d => cases hm
        | own o =>
          obtain ⟨b', w1, w2, w3, w4⟩ := w'
          rw [w1] at hb; cases hb
          exact ⟨_, w1, by rw [upd_ne nb']; exact w2, w3, w4.mono gg fun _ _ y => y⟩
        | me b' c fs =>
          obtain ⟨w1, w2, w3, dx, vs, w4, w5⟩ := w'
          rw [w1] at hb; cases hb
          exact ⟨w1, by rw [upd_ne nb']; exact w2, w3, dx, vs, w4, w5.mono gg⟩
  · have nj : i ≠ j := fun z => by
      subst z
      rw [List.getElem?_set_self hi] at e1
      cases e1
      rw [m'] at m1; cases m1
    have nk : i ≠ k := fun z => by
      subst z
      rw [List.getElem?_set_self hi] at e2
      cases e2
      rw [m'] at m2; cases m2
    rw [List.getElem?_set_ne nj] at e1
    rw [List.getElem?_set_ne nk] at e2
    exact r.dis j k o1 o2 c n e1 e2 m1 m2 q
/-- an own thing: frozen -/
theorem DR.freeze1 (r : DR K p G σ H δ) {i : Nat} {o : DO} (e : δ[i]? = some (.own o)) : ∃ G1, Same G G1 ∧ DR K p G1 σ H (δ.set i o.s) := by
  obtain ⟨a, h1, h2, h3, h4⟩ := r.slot i _ e
  cases o with
  | lst ds =>
    obtain ⟨vs, q, w⟩ := h4
    exact ⟨_, r.join e rfl h1 q rfl fun gg => ⟨_, h1, by unfold Rep; exact ⟨a, vs, rfl, upd_same, w.mono gg⟩⟩⟩
  | dic ds =>
    obtain ⟨vs, q, w⟩ := h4
    exact ⟨_, r.join e rfl h1 q rfl fun gg => ⟨_, h1, by unfold Rep; exact ⟨a, vs, rfl, upd_same, w.mono gg⟩⟩⟩
  | ins c fs =>
    obtain ⟨dx, vs, q, w⟩ := h4
    exact ⟨_, r.join e rfl h1 q rfl fun gg => ⟨_, h1, by unfold Rep; exact ⟨a, dx, vs, rfl, upd_same, w.mono gg⟩⟩⟩
  | ndic kvs => exact ⟨G, Same.refl _, r.lay e True.intro rfl⟩
/-- the slots of a list frozen -/
def frz : List Nat → DSt → DSt
  | [], δ => δ
  | i :: r, δ => frz r (match δ[i]? with
    | some (.own o) => δ.set i o.s
    | _ => δ)
theorem DR.freeze : ∀ {S : List Nat} {G : Hp} {δ : DSt}, DR K p G σ H δ → ∃ G1, Same G G1 ∧ DR K p G1 σ H (frz S δ)
  | [], G, δ, r => ⟨G, Same.refl _, r⟩
  | i :: S, G, δ, r => by
    unfold frz
    cases e : δ[i]? with
    | none => exact DR.freeze r
    | some s =>
      cases s with
      | non => exact DR.freeze r
      | val d => exact DR.freeze r
      | me a c fs => exact DR.freeze r
      | own o =>
        obtain ⟨G1, h1, r1⟩ := r.freeze1 e
        obtain ⟨G2, h2, r2⟩ := DR.freeze (S := S) r1
        exact ⟨G2, h1.trans h2, r2⟩
/-- an own thing is changed -/
theorem DR.changeS (r : DR K p G σ H δ) {i : Nat} {s s' : Sl} {a : Addr} {u : HO} (e : δ[i]? = some s) (m : s.mine = true) (ha : σ[i]? = some (some (.ref a))) (h : G a = none → Fr0 p.H0 a → SlOk K p G σ (upd H a u) i s') : DR K p G σ (upd H a u) (δ.set i s') := by
  obtain ⟨h2, h3, w, w1, w2⟩ := (r.slot i s e).mineN m ha
  have hi : i < δ.length := (List.getElem?_eq_some_iff.mp e).1
  have nb := r.nb h3
  refine ⟨r.base, fun c w h => ?_, fun c w n t h => ?_, r.new, ?_, r.bin, by rw [List.length_set]; exact r.len, fun j t q => ?_, fun j k o1 o2 c n e1 e2 m1 m2 q => ?_⟩
  · rw [upd_ne (ne_of_none h h2)]; exact r.sub _ _ h
  · rw [upd_ne (fun z => h3 w (by rw [← z]; exact h) t)]; exact r.keep c w n t h
  · exact r.bag.upd nb fun o z => by
      rw [w1] at z; cases z
      exact w2
  · by_cases z : i = j
    · subst z
      rw [List.getElem?_set_self hi] at q
      cases q
      exact h h2 h3
    · rw [List.getElem?_set_ne z] at q
      refine (r.slot j t q).mono (Same.refl _) (fun _ _ _ _ _ y => y) fun b v _ _ hv ⟨_, _, hm, hb⟩ => ?_
      have nc : b ≠ a := fun y => r.dis i j s t a z e q m hm ha (by rw [← y]; exact hb)
      rw [upd_ne nc]; exact hv
  · by_cases zj : i = j
    · subst zj
      rw [List.getElem?_set_ne n] at e2
      exact r.dis i k s o2 c n e e2 m m2 q
    · rw [List.getElem?_set_ne zj] at e1
      by_cases zk : i = k
      · subst zk
        exact r.dis j i o1 s c n e1 e m1 m q
      · rw [List.getElem?_set_ne zk] at e2
        exact r.dis j k o1 o2 c n e1 e2 m1 m2 q
theorem DR.change (r : DR K p G σ H δ) {i : Nat} {o o' : DO} {a : Addr} {u : HO} (e : δ[i]? = some (.own o)) (ha : σ[i]? = some (some (.ref a))) (h : OwnAt K p G (upd H a u) a o') : DR K p G σ (upd H a u) (δ.set i (.own o')) :=
  r.changeS e rfl ha fun h2 h3 => ⟨a, ha, h2, h3, h⟩
/-- a name gets a thing of its own, new -/
theorem DR.setOwn (r : DR K p G σ H δ) {i : Nat} {a : Addr} {o : DO} (hG : G a = none) (h0 : Fr0 p.H0 a) (h : OwnAt K p G H a o) (hn : ∀ (j : Nat) (s' : Sl), δ[j]? = some s' → s'.mine = true → σ[j]? ≠ some (some (.ref a))) : DR K p G (σ.set i (some (.ref a))) H (δ.set i (.own o)) :=
  r.put (fun e => ⟨a, e, hG, h0, h⟩) fun _ b eb j s' _ e1 m1 => by
    cases eb
    exact hn j s' e1 m1
end
end DL

namespace DL
open PySem PySem.Spec PyProof.Rows L2

abbrev XD := Str → List (Str × D) → Prop
abbrev QD := D → Prop
abbrev TDE := DSt → QD → XD → Prop
abbrev TDT := DSt → (Bool → Prop) → XD → Prop
abbrev TDA := DSt → (List D → Prop) → XD → Prop
abbrev RD2 := D → D → QD → Prop

/-- what leaves by an exception is what the context wishes -/
def XOk (K : PySem.W.Frag) (b : Bag) (W : WX) (G : Hp) (σ : VSt) (H : Hp) (Ed : XD) : Prop :=
  ∀ G' H' c fs d vs, Ext K b G H G' H' → G' d = some (.xd vs) → RepsF K G' fs vs → Ed c fs → W (.ref (He.ga K c)) (some d) σ H'
theorem XOk.step {K : PySem.W.Frag} {b : Bag} {W : WX} {G G1 : Hp} {σ : VSt} {H H1 : Hp} {Ed : XD} (h : XOk K b W G σ H Ed) (hb : H b.a ≠ none) (x : Ext K b G H G1 H1) : XOk K b W G1 σ H1 Ed :=
  fun G' H' c fs d vs y e r q => h G' H' c fs d vs (x.trans hb y) e r q

/-- the data-level reading td is right for the reading t -/
def RefE (K : PySem.W.Frag) (p : Pr) (W : WX) (t : TE) (td : TDE) : Prop :=
  ∀ (G : Hp) (σ : VSt) (H : Hp) (δ : DSt) (Q : VK) (Qd : QD) (Ed : XD), DR K p G σ H δ → td δ Qd Ed →
    (∀ G' H' v d, Ext K p.b G H G' H' → Rep K G' d v → Qd d → Q v H') → XOk K p.b W G σ H Ed → t σ H Q
def RefT (K : PySem.W.Frag) (p : Pr) (W : WX) (t : TT) (td : TDT) : Prop :=
  ∀ (G : Hp) (σ : VSt) (H : Hp) (δ : DSt) (Q : Bool → Hp → Prop) (Qd : Bool → Prop) (Ed : XD), DR K p G σ H δ → td δ Qd Ed →
    (∀ G' H' b, Ext K p.b G H G' H' → Qd b → Q b H') → XOk K p.b W G σ H Ed → t σ H Q
def RefA (K : PySem.W.Frag) (p : Pr) (W : WX) (t : TA) (td : TDA) : Prop :=
  ∀ (G : Hp) (σ : VSt) (H : Hp) (δ : DSt) (Q : List V → Hp → Prop) (Qd : List D → Prop) (Ed : XD), DR K p G σ H δ → td δ Qd Ed →
    (∀ G' H' vs ds, Ext K p.b G H G' H' → Reps K G' ds vs → Qd ds → Q vs H') → XOk K p.b W G σ H Ed → t σ H Q
structure DE (p : Pr) (X : Cx) (W : WX) (e : Expr) (td : TDE) : Prop where
  ex : ∃ t : TE, PE X e t ∧ RefE X.K p W t td
structure DT (p : Pr) (X : Cx) (W : WX) (e : Expr) (td : TDT) : Prop where
  ex : ∃ t : TT, PT X e t ∧ RefT X.K p W t td
/-- a chain of and, or -/
structure DW (p : Pr) (X : Cx) (W : WX) (e : Expr) (td : TDT) : Prop where
  ex : ∃ t : TT, PW X e t ∧ RefT X.K p W t td
structure DA (p : Pr) (X : Cx) (W : WX) (es : List Expr) (td : TDA) : Prop where
  ex : ∃ t : TA, PA X es t ∧ RefA X.K p W t td
/-- an operation on values -/
def RefR (K : PySem.W.Frag) (b : Bag) (r : R2) (rd : RD2) : Prop :=
  ∀ (G H : Hp) (x y : D) (v u : V) (Q : VK) (Qd : QD), Same G H → BagOk K b G H → Rep K G x v → Rep K G y u → rd x y Qd →
    (∀ G' H' w d, Ext K b G H G' H' → Rep K G' d w → Qd d → Q w H') → r v u H Q
/-- a call of a known value, by values -/
def RefC (K : PySem.W.Frag) (b : Bag) (r : List V → Hp → VK → Prop) (rd : List D → QD → Prop) : Prop :=
  ∀ (G H : Hp) (xs : List D) (vs : List V) (Q : VK) (Qd : QD), Same G H → BagOk K b G H → Reps K G xs vs → rd xs Qd →
    (∀ G' H' w d, Ext K b G H G' H' → Rep K G' d w → Qd d → Q w H') → r vs H Q

section
variable {p : Pr} {X : Cx} {W : WX} {K : PySem.W.Frag} {a b c e : Expr} {es : List Expr} {ta tb tc te : TDE} {ts : TDA} {tt tu tv : TDT} {pos : Pos}

def xVar (i : Nat) : TDE := fun δ Q _ => ∃ d, δ[i]? = some (.val d) ∧ Q d
def xC (d : D) : TDE := fun _ Q _ => Q d
theorem d_var (i : Nat) {x : Str} (hN : X.N[i]? = some x := by rfl) (hv : Vis X.env.scope x := by first | exact Or.inl rfl | exact Or.inr (Or.inl rfl) | exact Or.inr (Or.inr rfl)) (hd : (x == ("__debug__" : Str)) = false := by decide)
    (hcd : (x == ("__classdict__" : Str)) = false := by decide) : DE p X W (.Name x pos) (xVar i) := by
  refine ⟨_, pe_var hN hv hd hcd, fun G σ H δ Q Qd Ed r h k _ => ?_⟩
  obtain ⟨d, h1, h2⟩ := h
  obtain ⟨v, h3, h4⟩ := r.slot i _ h1
  exact ⟨v, h3, k G H v d r.refl h4 h2⟩
/-- a scalar's value -/
def scV : D → Option V
  | .non => some .non
  | .bl b => some (.bl b)
  | .int i => some (.int i)
  | .str x => some (.str x)
  | .ty n => some (.ty n)
  | .adr a => some (.ref a)
  | _ => none
theorem rep_sc {G : Hp} {d : D} {v : V} (h : scV d = some v) : Rep K G d v := by
  cases d <;> first | (unfold Rep; exact (Option.some.inj h).symm) | cases h
theorem sc_rep {G : Hp} {d : D} {v w : V} (h : scV d = some v) (r : Rep K G d w) : w = v := by
  cases d <;> first | (unfold Rep at r; rw [r]; exact Option.some.inj h) | cases h
theorem refC {v : V} {d : D} (h : scV d = some v) : RefE K p W (tC v) (xC d) := fun G σ H δ Q Qd Ed r q k _ => k G H v d r.refl (rep_sc h) q
theorem d_int {i j} : DE p X W (.Constant (.int i) j pos) (xC (.int i)) := ⟨_, pe_int, refC rfl⟩
theorem d_bl {i j} : DE p X W (.Constant (.bool i) j pos) (xC (.bl i)) := ⟨_, pe_bl, refC rfl⟩
theorem d_non {j} : DE p X W (.Constant .none j pos) (xC .non) := ⟨_, pe_non, refC rfl⟩
theorem d_str {i j} : DE p X W (.Constant (.str i) j pos) (xC (.str i)) := ⟨_, pe_str, refC rfl⟩
/-- a constant of the module -/
theorem d_glob {x : Str} {v : V} {u : Value} {d : D} (hs : scV d = some v) (hg : Gl X x) (hm : X.mg x = some u) (r : RelV v u) (hd : (x == ("__debug__" : Str)) = false := by decide) : DE p X W (.Name x pos) (xC d) := ⟨_, pe_glob hg hm r hd, refC hs⟩
/-- a built-in's name as a value -/
theorem d_bltn {x : Str} {v : V} {u : Value} {d : D} (hs : scV d = some v) (hg : Gl X x) (hm : X.mg x = none) (hv : bootBuiltins x = some u) (r : RelV v u) (hn : x ≠ "__name__" := by decide) (hd : (x == ("__debug__" : Str)) = false := by decide) : DE p X W (.Name x pos) (xC d) :=
  ⟨_, pe_bltn hg hm hv r hn hd, refC hs⟩

def xOp (rd : RD2) (ta tb : TDE) : TDE := fun δ Q E => ta δ (fun x => tb δ (fun y => rd x y Q) E) E
theorem refOp {r : R2} {rd : RD2} {t u : TE} (hr : RefR K p.b r rd) (h1 : RefE K p W t ta) (h2 : RefE K p W u tb) : RefE K p W (tOp r t u) (xOp rd ta tb) := by
  intro G σ H δ Q Qd Ed r q k x
  refine h1 G σ H δ _ _ Ed r q (fun G1 H1 v d1 e1 r1 q1 => ?_) x
  have R1 := r.ext e1
  refine h2 G1 σ H1 δ _ _ Ed R1 q1 (fun G2 H2 u d2 e2 r2 q2 => ?_) (x.step r.at e1)
  have e12 := e1.trans r.at e2
  exact hr G2 H2 d1 d2 v u Q Qd e12.sub e12.bag (r1.mono e2.gg) r2 q2 fun G3 H3 w d e3 r3 q3 => k G3 H3 w d (e12.trans r.at e3) r3 q3
theorem d_op {op : Operator} {r : R2} {rd : RD2} (ho : OpR X (binaryOp op) r) (hr : RefR X.K p.b r rd) (ha : DE p X W a ta) (hb : DE p X W b tb) : DE p X W (.BinOp a op b pos) (xOp rd ta tb) := by
  obtain ⟨t, h1, h2⟩ := ha
  obtain ⟨u, h3, h4⟩ := hb
  exact ⟨_, pe_op ho h1 h3, refOp hr h2 h4⟩
theorem d_cmp {op : CmpOp} {r : R2} {rd : RD2} (ho : OpR X (compareOp op) r) (hr : RefR X.K p.b r rd) (hm : behindInMarks op b = false) (ha : DE p X W a ta) (hb : DE p X W b tb) : DE p X W (.Compare a [op] [b] pos) (xOp rd ta tb) := by
  obtain ⟨t, h1, h2⟩ := ha
  obtain ⟨u, h3, h4⟩ := hb
  exact ⟨_, pe_cmpR ho h1 h3 hm, refOp hr h2 h4⟩
def xTest (ta : TDE) : TDT := fun δ Q E => ta δ (fun x => ∃ k, x = .bl k ∧ Q k) E
theorem refTest {t : TE} (h : RefE K p W t ta) : RefT K p W (tTest t) (xTest ta) := by
  intro G σ H δ Q Qd Ed r q k x
  refine h G σ H δ _ _ Ed r q (fun G1 H1 v d1 e1 r1 q1 => ?_) x
  obtain ⟨b, rfl, q2⟩ := q1
  unfold Rep at r1
  exact ⟨b, r1, k G1 H1 b e1 q2⟩
theorem dt_cmp {op : CmpOp} {r : R2} {rd : RD2} (ho : OpR X (compareOp op) r) (hr : RefR X.K p.b r rd) (hm : behindInMarks op b = false) (ha : DE p X W a ta) (hb : DE p X W b tb) : DT p X W (.Compare a [op] [b] pos) (xTest (xOp rd ta tb)) := by
  obtain ⟨t, h1, h2⟩ := ha
  obtain ⟨u, h3, h4⟩ := hb
  exact ⟨_, pt_cmpR ho h1 h3 hm, refTest (refOp hr h2 h4)⟩
/-- a < b < c -/
def xChain (rd rd' : RD2) (ta tb tc : TDE) : TDE := fun δ Q E => ta δ (fun x => tb δ (fun y => rd x y fun z => ∃ k, z = .bl k ∧ if k = true then tc δ (fun w => rd' y w Q) E else Q (.bl false)) E) E
theorem d_chain {op op' : CmpOp} {r r' : R2} {rd rd' : RD2} (ho : OpR X (compareOp op) r) (ho' : OpR X (compareOp op') r') (hr : RefR X.K p.b r rd) (hr' : RefR X.K p.b r' rd') (ha : DE p X W a ta) (hb : DE p X W b tb) (hc : DE p X W c tc)
    (hm : lastMarks [op, op'] [b, c] = false := by rfl) : DE p X W (.Compare a [op, op'] [b, c] pos) (xChain rd rd' ta tb tc) := by
  obtain ⟨t, h1, h2⟩ := ha
  obtain ⟨u, h3, h4⟩ := hb
  obtain ⟨w, h5, h6⟩ := hc
  refine ⟨_, pe_chain ho ho' h1 h3 h5 (hm := hm), fun G σ H δ Q Qd Ed r q k x => ?_⟩
  refine h2 G σ H δ _ _ Ed r q (fun G1 H1 v d1 e1 r1 q1 => ?_) x
  have R1 := r.ext e1
  refine h4 G1 σ H1 δ _ _ Ed R1 q1 (fun G2 H2 v2 d2 e2 r2 q2 => ?_) (x.step r.at e1)
  have e12 := e1.trans r.at e2
  refine hr G2 H2 d1 d2 v v2 _ _ e12.sub e12.bag (r1.mono e2.gg) r2 q2 fun G3 H3 z d3 e3 r3 q3 => ?_
  obtain ⟨kk, rfl, q4⟩ := q3
  unfold Rep at r3
  have e13 := e12.trans r.at e3
  refine ⟨kk, r3, ?_⟩
  cases kk with
  | true =>
    rw [if_pos rfl] at q4 ⊢
    refine h6 G3 σ H3 δ _ _ Ed (r.ext e13) q4 (fun G4 H4 v4 d4 e4 r4 q5 => ?_) (x.step r.at e13)
    have e14 := e13.trans r.at e4
    exact hr' G4 H4 d2 d4 v2 v4 _ _ e14.sub e14.bag ((r2.mono e3.gg).mono e4.gg) r4 q5 fun G5 H5 w5 d5 e5 r5 q6 => k G5 H5 w5 d5 (e14.trans r.at e5) r5 q6
  | false =>
    rw [if_neg Bool.false_ne_true] at q4 ⊢
    exact k G3 H3 _ _ e13 (rep_sc rfl) q4

/-- an expression that gives a bool, as a test -/
theorem dt_val {he : ∀ whole, isTrue e X.env whole = (do let v ← whole; standAt e.pos; holding [v] (truthy v))} (h : DE p X W e te) : DT p X W e (xTest te) := by
  obtain ⟨t, h1, h2⟩ := h
  exact ⟨_, pt_val h1 he, refTest h2⟩
/-- truth of data -/
def truD : D → Bool → Prop
  | .non, k => k = false
  | .bl b, k => k = b
  | .int i, k => k = (i != 0)
  | .str y, k => y.length ≤ sizeLine ∧ k = ((y.length : Int) != 0)
  | .tup ds, k => k = !ds.isEmpty
  | .lst ds, k => k = !ds.isEmpty
  | .dic ds, k => k = !ds.isEmpty
  | _, _ => False
theorem Reps.isEmpty {G : Hp} {ds : List D} {vs : List V} (h : Reps K G ds vs) : vs.isEmpty = ds.isEmpty := by
  have e := h.length
  cases ds <;> cases vs <;> first | rfl | (simp at e)
theorem RepsK.length {G : Hp} : ∀ {ds : List (Key × D)} {vs : List (Key × V)}, RepsK K G ds vs → ds.length = vs.length
  | [], vs, h => by rw [RepsK.nil_iff.mp h]; rfl
  | d :: ds, vs, h => by
    obtain ⟨v, r, rfl, _, h2⟩ := RepsK.cons_iff.mp h
    rw [List.length_cons, List.length_cons, RepsK.length h2]
theorem truD_ok {G H : Hp} {d : D} {v : V} {k : Bool} (s : Same G H) (r : Rep K G d v) (h : truD d k) : TruV K v H k := by
  cases d with
  | non => unfold Rep at r; subst r; exact h
  | bl b => unfold Rep at r; subst r; exact h
  | int b => unfold Rep at r; subst r; exact h
  | str b => unfold Rep at r; subst r; exact h
  | tup ds =>
    unfold Rep at r
    obtain ⟨a, vs, rfl, h1, h2⟩ := r
    exact .inr (.inl ⟨vs, sameT s h1, by rw [h2.isEmpty]; exact h⟩)
  | lst ds =>
    unfold Rep at r
    obtain ⟨a, vs, rfl, h1, h2⟩ := r
    exact .inl ⟨vs, SqL.of (s _ _ h1), by rw [h2.isEmpty]; exact h⟩
  | dic ds =>
    unfold Rep at r
    obtain ⟨a, vs, rfl, h1, h2⟩ := r
    refine .inr (.inr ⟨vs, s _ _ h1, ?_⟩)
    have e := h2.length
    have h' : k = !ds.isEmpty := h
    rw [h']
    cases ds <;> cases vs <;> first | rfl | (simp at e)
  | _ => exact h.elim
def xTru (te : TDE) : TDT := fun δ Q E => te δ (fun x => ∃ k, truD x k ∧ Q k) E
theorem dt_truth {he : ∀ whole, isTrue e X.env whole = (do let v ← whole; standAt e.pos; holding [v] (truthy v))} (h : DE p X W e te) : DT p X W e (xTru te) := by
  obtain ⟨t, h1, h2⟩ := h
  refine ⟨_, pt_truth h1 he, fun G σ H δ Q Qd Ed r q k x => ?_⟩
  refine h2 G σ H δ _ _ Ed r q (fun G1 H1 v d1 e1 r1 q1 => ?_) x
  obtain ⟨kk, q2, q3⟩ := q1
  exact ⟨kk, truD_ok e1.sub r1 q2, k G1 H1 kk e1 q3⟩
def xAnd (t u : TDT) : TDT := fun δ Q E => t δ (fun k => if k = true then u δ Q E else Q false) E
def xOr (t u : TDT) : TDT := fun δ Q E => t δ (fun k => if k = true then Q true else u δ Q E) E
def xNot (t : TDT) : TDT := fun δ Q E => t δ (fun k => Q (!k)) E
theorem dw_and1 (h : DT p X W a tt) : DW p X W (.BoolOp .And [a] pos) tt := by
  obtain ⟨t, h1, h2⟩ := h
  exact ⟨_, pw_and1 h1, h2⟩
theorem dw_or1 (h : DT p X W a tt) : DW p X W (.BoolOp .Or [a] pos) tt := by
  obtain ⟨t, h1, h2⟩ := h
  exact ⟨_, pw_or1 h1, h2⟩
theorem dw_and (h : DT p X W a tt) (hb : DW p X W (.BoolOp .And (b :: es) pos) tu) : DW p X W (.BoolOp .And (a :: b :: es) pos) (xAnd tt tu) := by
  obtain ⟨t, h1, h2⟩ := h
  obtain ⟨u, h3, h4⟩ := hb
  refine ⟨_, pw_and h1 h3, fun G σ H δ Q Qd Ed r q k x => ?_⟩
  refine h2 G σ H δ _ _ Ed r q (fun G1 H1 kk e1 q1 => ?_) x
  cases kk with
  | true =>
    rw [if_pos rfl] at q1 ⊢
    exact h4 G1 σ H1 δ _ _ Ed (r.ext e1) q1 (fun G2 H2 b2 e2 q2 => k G2 H2 b2 (e1.trans r.at e2) q2) (x.step r.at e1)
  | false =>
    rw [if_neg Bool.false_ne_true] at q1 ⊢
    exact k G1 H1 _ e1 q1
theorem dw_or (h : DT p X W a tt) (hb : DW p X W (.BoolOp .Or (b :: es) pos) tu) : DW p X W (.BoolOp .Or (a :: b :: es) pos) (xOr tt tu) := by
  obtain ⟨t, h1, h2⟩ := h
  obtain ⟨u, h3, h4⟩ := hb
  refine ⟨_, pw_or h1 h3, fun G σ H δ Q Qd Ed r q k x => ?_⟩
  refine h2 G σ H δ _ _ Ed r q (fun G1 H1 kk e1 q1 => ?_) x
  cases kk with
  | false =>
    rw [if_neg Bool.false_ne_true] at q1 ⊢
    exact h4 G1 σ H1 δ _ _ Ed (r.ext e1) q1 (fun G2 H2 b2 e2 q2 => k G2 H2 b2 (e1.trans r.at e2) q2) (x.step r.at e1)
  | true =>
    rw [if_pos rfl] at q1 ⊢
    exact k G1 H1 _ e1 q1
theorem DW.t (h : DW p X W e tt) : DT p X W e tt := by
  obtain ⟨t, h1, h2⟩ := h
  exact ⟨_, h1.pt, h2⟩
theorem dt_not (h : DT p X W a tt) : DT p X W (.UnaryOp .Not a pos) (xNot tt) := by
  obtain ⟨t, h1, h2⟩ := h
  refine ⟨_, pt_not h1, fun G σ H δ Q Qd Ed r q k x => ?_⟩
  exact h2 G σ H δ _ _ Ed r q (fun G1 H1 kk e1 q1 => k G1 H1 _ e1 q1) x
/-- as values: all but the last are bools -/
def xAndV (ta tb : TDE) : TDE := fun δ Q E => ta δ (fun x => ∃ k, x = .bl k ∧ if k = true then tb δ Q E else Q (.bl false)) E
def xOrV (ta tb : TDE) : TDE := fun δ Q E => ta δ (fun x => ∃ k, x = .bl k ∧ if k = true then Q (.bl true) else tb δ Q E) E
def xNotV (ta : TDE) : TDE := fun δ Q E => ta δ (fun x => ∃ k, x = .bl k ∧ Q (.bl (!k))) E
theorem d_one {op} (h : DE p X W a ta) : DE p X W (.BoolOp op [a] pos) ta := by
  obtain ⟨t, h1, h2⟩ := h
  exact ⟨_, pe_one h1, h2⟩
theorem d_and (h : DE p X W a ta) (hb : DE p X W (.BoolOp .And (b :: es) pos) tb) : DE p X W (.BoolOp .And (a :: b :: es) pos) (xAndV ta tb) := by
  obtain ⟨t, h1, h2⟩ := h
  obtain ⟨u, h3, h4⟩ := hb
  refine ⟨_, pe_and h1 h3, fun G σ H δ Q Qd Ed r q k x => ?_⟩
  refine h2 G σ H δ _ _ Ed r q (fun G1 H1 v d1 e1 r1 q1 => ?_) x
  obtain ⟨kk, rfl, q2⟩ := q1
  unfold Rep at r1
  refine ⟨kk, r1, ?_⟩
  cases kk with
  | true =>
    rw [if_pos rfl] at q2 ⊢
    exact h4 G1 σ H1 δ _ _ Ed (r.ext e1) q2 (fun G2 H2 b2 d2 e2 r2 q3 => k G2 H2 b2 d2 (e1.trans r.at e2) r2 q3) (x.step r.at e1)
  | false =>
    rw [if_neg Bool.false_ne_true] at q2 ⊢
    exact k G1 H1 _ _ e1 (rep_sc rfl) q2
theorem d_or (h : DE p X W a ta) (hb : DE p X W (.BoolOp .Or (b :: es) pos) tb) : DE p X W (.BoolOp .Or (a :: b :: es) pos) (xOrV ta tb) := by
  obtain ⟨t, h1, h2⟩ := h
  obtain ⟨u, h3, h4⟩ := hb
  refine ⟨_, pe_or h1 h3, fun G σ H δ Q Qd Ed r q k x => ?_⟩
  refine h2 G σ H δ _ _ Ed r q (fun G1 H1 v d1 e1 r1 q1 => ?_) x
  obtain ⟨kk, rfl, q2⟩ := q1
  unfold Rep at r1
  refine ⟨kk, r1, ?_⟩
  cases kk with
  | false =>
    rw [if_neg Bool.false_ne_true] at q2 ⊢
    exact h4 G1 σ H1 δ _ _ Ed (r.ext e1) q2 (fun G2 H2 b2 d2 e2 r2 q3 => k G2 H2 b2 d2 (e1.trans r.at e2) r2 q3) (x.step r.at e1)
  | true =>
    rw [if_pos rfl] at q2 ⊢
    exact k G1 H1 _ _ e1 (rep_sc rfl) q2
theorem d_not (h : DE p X W a ta) : DE p X W (.UnaryOp .Not a pos) (xNotV ta) := by
  obtain ⟨t, h1, h2⟩ := h
  refine ⟨_, pe_not h1, fun G σ H δ Q Qd Ed r q k x => ?_⟩
  refine h2 G σ H δ _ _ Ed r q (fun G1 H1 v d1 e1 r1 q1 => ?_) x
  obtain ⟨kk, rfl, q2⟩ := q1
  unfold Rep at r1
  exact ⟨kk, r1, k G1 H1 _ _ e1 (rep_sc rfl) q2⟩
def xIf (tt : TDT) (ta tb : TDE) : TDE := fun δ Q E => tt δ (fun k => if k = true then ta δ Q E else tb δ Q E) E
theorem d_if (hc : DT p X W c tt) (ha : DE p X W a ta) (hb : DE p X W b tb) : DE p X W (.IfExp c a b pos) (xIf tt ta tb) := by
  obtain ⟨t, h1, h2⟩ := hc
  obtain ⟨u, h3, h4⟩ := ha
  obtain ⟨w, h5, h6⟩ := hb
  refine ⟨_, pe_ifExp h1 h3 h5, fun G σ H δ Q Qd Ed r q k x => ?_⟩
  refine h2 G σ H δ _ _ Ed r q (fun G1 H1 kk e1 q1 => ?_) x
  cases kk with
  | true =>
    rw [if_pos rfl] at q1 ⊢
    exact h4 G1 σ H1 δ _ _ Ed (r.ext e1) q1 (fun G2 H2 b2 d2 e2 r2 q3 => k G2 H2 b2 d2 (e1.trans r.at e2) r2 q3) (x.step r.at e1)
  | false =>
    rw [if_neg Bool.false_ne_true] at q1 ⊢
    exact h6 G1 σ H1 δ _ _ Ed (r.ext e1) q1 (fun G2 H2 b2 d2 e2 r2 q3 => k G2 H2 b2 d2 (e1.trans r.at e2) r2 q3) (x.step r.at e1)
/-- is None -/
def D.isNon : D → Bool
  | .non => true
  | _ => false
def xIsN (neg : Bool) (ta : TDE) : TDE := fun δ Q E => ta δ (fun x => Q (.bl (if neg then !x.isNon else x.isNon))) E
theorem refIsN {t : TE} (neg : Bool) (h : RefE K p W t ta) : RefE K p W (fun σ H Q => t σ H fun x H1 => Q (.bl (if neg then !decide (x = .non) else decide (x = .non))) H1) (xIsN neg ta) := by
  intro G σ H δ Q Qd Ed r q k x
  refine h G σ H δ _ _ Ed r q (fun G1 H1 v d1 e1 r1 q1 => ?_) x
  have e : d1.isNon = decide (v = .non) := by
    cases d1 with
    | non => unfold Rep at r1; subst r1; rfl
    | bl b => unfold Rep at r1; subst r1; rfl
    | int b => unfold Rep at r1; subst r1; rfl
    | str b => unfold Rep at r1; subst r1; rfl
    | ty b => unfold Rep at r1; subst r1; rfl
    | adr b => unfold Rep at r1; subst r1; rfl
    | tup b => unfold Rep at r1; obtain ⟨_, _, r1, _⟩ := r1; subst r1; rfl
    | lst b => unfold Rep at r1; obtain ⟨_, _, r1, _⟩ := r1; subst r1; rfl
    | dic b => unfold Rep at r1; obtain ⟨_, _, r1, _⟩ := r1; subst r1; rfl
    | obj b => unfold Rep at r1; obtain ⟨_, _, _, r1, _⟩ := r1; subst r1; rfl
    | exc b => unfold Rep at r1; obtain ⟨_, _, _, _, r1, _⟩ := r1; subst r1; rfl
  rw [e] at q1
  exact k G1 H1 _ _ e1 (rep_sc rfl) q1
theorem d_isN {j pos'} (h : DE p X W a ta) : DE p X W (.Compare a [.Is] [.Constant .none j pos'] pos) (xIsN false ta) := by
  obtain ⟨t, h1, h2⟩ := h
  exact ⟨_, pe_cmp (pc_isN h1) rfl, refIsN false h2⟩
theorem d_notN {j pos'} (h : DE p X W a ta) : DE p X W (.Compare a [.IsNot] [.Constant .none j pos'] pos) (xIsN true ta) := by
  obtain ⟨t, h1, h2⟩ := h
  exact ⟨_, pe_cmp (pc_notN h1) rfl, refIsN true h2⟩

def xNil : TDA := fun _ Q _ => Q []
def xCons (ta : TDE) (ts : TDA) : TDA := fun δ Q E => ta δ (fun x => ts δ (fun xs => Q (x :: xs)) E) E
theorem refNil : RefA K p W tNil xNil := fun G σ H δ Q Qd Ed r q k x => k G H [] [] r.refl Reps.nil q
theorem refCons {t : TE} {u : TA} (h2 : RefE K p W t ta) (h4 : RefA K p W u ts) : RefA K p W (tCons t u) (xCons ta ts) := by
  intro G σ H δ Q Qd Ed r q k x
  refine h2 G σ H δ _ _ Ed r q (fun G1 H1 v d1 e1 r1 q1 => ?_) x
  refine h4 G1 σ H1 δ _ _ Ed (r.ext e1) q1 (fun G2 H2 vs ds e2 r2 q2 => ?_) (x.step r.at e1)
  exact k G2 H2 (v :: vs) (d1 :: ds) (e1.trans r.at e2) (Reps.cons (r1.mono e2.gg) r2) q2
theorem da_nil : DA p X W [] xNil := ⟨_, pa_nil, refNil⟩
theorem da_cons (h : DE p X W e te) (hr : DA p X W es ts) (hs : starEach (e :: es) X.env = (false, eval e X.env) :: starEach es X.env := by rfl) : DA p X W (e :: es) (xCons te ts) := by
  obtain ⟨t, h1, h2⟩ := h
  obtain ⟨u, h3, h4⟩ := hr
  exact ⟨_, pa_cons h1 h3 hs, refCons h2 h4⟩
def xTup (ts : TDA) : TDE := fun δ Q E => ts δ (fun xs => xs.length ≤ sizeLine ∧ Q (.tup xs)) E
def xLst (ts : TDA) : TDE := fun δ Q E => ts δ (fun xs => xs.length ≤ sizeLine ∧ Q (.lst xs)) E
theorem rep_tup {G : Hp} {q : Addr} {ds : List D} {vs : List V} {H : Hp} (s : Same G H) (n : H q = none) (h : Reps K G ds vs) : Rep K (upd G q (.tup vs)) (.tup ds) (.ref q) := by
  unfold Rep
  exact ⟨q, vs, rfl, SqT.of upd_same, h.mono fun c u e => by rw [upd_ne (ne_of_none e (s.free n))]; exact e⟩
theorem rep_lst {G : Hp} {q : Addr} {ds : List D} {vs : List V} {H : Hp} (s : Same G H) (n : H q = none) (h : Reps K G ds vs) : Rep K (upd G q (.lst vs)) (.lst ds) (.ref q) := by
  unfold Rep
  exact ⟨q, vs, rfl, upd_same, h.mono fun c u e => by rw [upd_ne (ne_of_none e (s.free n))]; exact e⟩
theorem d_tup {k} (h : DA p X W es ts) : DE p X W (.Tuple es k pos) (xTup ts) := by
  obtain ⟨t, h1, h2⟩ := h
  refine ⟨_, pe_tup h1, fun G σ H δ Q Qd Ed r q k x => ?_⟩
  refine h2 G σ H δ _ _ Ed r q (fun G1 H1 vs ds e1 r1 q1 => ?_) x
  refine ⟨by rw [← r1.length]; exact q1.1, fun a hn => ?_⟩
  exact k _ _ _ _ (e1.trans r.at (Ext.laid e1.sub e1.bag hn)) (rep_tup e1.sub hn r1) q1.2
theorem d_lst (h : DA p X W es ts) : DE p X W (.List es pos) (xLst ts) := by
  obtain ⟨t, h1, h2⟩ := h
  refine ⟨_, pe_lst h1, fun G σ H δ Q Qd Ed r q k x => ?_⟩
  refine h2 G σ H δ _ _ Ed r q (fun G1 H1 vs ds e1 r1 q1 => ?_) x
  refine ⟨by rw [← r1.length]; exact q1.1, fun a hn => ?_⟩
  exact k _ _ _ _ (e1.trans r.at (Ext.laid e1.sub e1.bag hn)) (rep_lst e1.sub hn r1) q1.2

def xCall (rd : List D → QD → Prop) (ts : TDA) : TDE := fun δ Q E => ts δ (fun xs => rd xs Q) E
theorem refCall {r : List V → Hp → VK → Prop} {rd : List D → QD → Prop} {t : TA} (hr : RefC K p.b r rd) (h : RefA K p W t ts) : RefE K p W (tCB r t) (xCall rd ts) := by
  intro G σ H δ Q Qd Ed r q k x
  refine h G σ H δ _ _ Ed r q (fun G1 H1 vs ds e1 r1 q1 => ?_) x
  exact hr G1 H1 ds vs Q Qd e1.sub e1.bag r1 q1 fun G2 H2 w d e2 r2 q2 => k G2 H2 w d (e1.trans r.at e2) r2 q2
theorem d_callB {id : String} {x : Str} {q : Pos} {r : List V → Hp → VK → Prop} {rd : List D → QD → Prop} (hc : CallR X (.builtin id) r) (hr : RefC X.K p.b r rd) (hg : Gl X x) (hm : X.mg x = none) (hv : bootBuiltins x = some (.builtin id)) (ha : DA p X W (e :: es) ts)
    (hn : x ≠ "__name__" := by decide) (hdb : (x == ("__debug__" : Str)) = false := by decide)
    (he : starEach (e :: es) X.env = (false, eval e X.env) :: starEach es X.env := by rfl) (hpl : (backTo pos (starEach es X.env)).any (·.1) = false := by rfl) : DE p X W (.Call (.Name x q) (e :: es) [] pos) (xCall rd ts) := by
  obtain ⟨t, h1, h2⟩ := ha
  exact ⟨_, pe_callB hc hg hm hv h1 hn hdb he hpl, refCall hr h2⟩
theorem d_callTy {id : String} {x : Str} {q : Pos} {r : List V → Hp → VK → Prop} {rd : List D → QD → Prop} (hc : CallR X (.type id) r) (hr : RefC X.K p.b r rd) (hg : Gl X x) (hm : X.mg x = none) (hv : bootBuiltins x = some (.type id)) (ha : DA p X W (e :: es) ts)
    (hn : x ≠ "__name__" := by decide) (hdb : (x == ("__debug__" : Str)) = false := by decide)
    (he : starEach (e :: es) X.env = (false, eval e X.env) :: starEach es X.env := by rfl) (hpl : (backTo pos (starEach es X.env)).any (·.1) = false := by rfl) : DE p X W (.Call (.Name x q) (e :: es) [] pos) (xCall rd ts) := by
  obtain ⟨t, h1, h2⟩ := ha
  exact ⟨_, pe_callTy hc hg hm hv h1 hn hdb he hpl, refCall hr h2⟩
end
end DL

namespace DL
open PySem PySem.Spec PyProof.Rows L2
section
variable {p : Pr} {X : Cx} {W : WX} {K : PySem.W.Frag} {b : Bag}

theorem rep_int {G : Hp} {i : Int} {v : V} : Rep K G (.int i) v ↔ v = .int i := by
  constructor
  · intro h; unfold Rep at h; exact h
  · intro h; unfold Rep; exact h
theorem rep_str {G : Hp} {i : Str} {v : V} : Rep K G (.str i) v ↔ v = .str i := by
  constructor
  · intro h; unfold Rep at h; exact h
  · intro h; unfold Rep; exact h
theorem rep_bl {G : Hp} {i : Bool} {v : V} : Rep K G (.bl i) v ↔ v = .bl i := by
  constructor
  · intro h; unfold Rep at h; exact h
  · intro h; unfold Rep; exact h
theorem rep_non {G : Hp} {v : V} : Rep K G .non v ↔ v = .non := by
  constructor
  · intro h; unfold Rep at h; exact h
  · intro h; unfold Rep; exact h
theorem rep_lstI {G : Hp} {ds : List D} {v : V} : Rep K G (.lst ds) v ↔ ∃ a vs, v = .ref a ∧ G a = some (.lst vs) ∧ Reps K G ds vs := by
  constructor
  · intro h; unfold Rep at h; exact h
  · intro h; unfold Rep; exact h
theorem rep_tupI {G : Hp} {ds : List D} {v : V} : Rep K G (.tup ds) v ↔ ∃ a vs, v = .ref a ∧ SqT K G a vs ∧ Reps K G ds vs := by
  constructor
  · intro h; unfold Rep at h; exact h
  · intro h; unfold Rep; exact h
theorem rep_dicI {G : Hp} {ds : List (Key × D)} {v : V} : Rep K G (.dic ds) v ↔ ∃ a vs, v = .ref a ∧ G a = some (.dK vs) ∧ RepsK K G ds vs := by
  constructor
  · intro h; unfold Rep at h; exact h
  · intro h; unfold Rep; exact h

def dAdd : RD2 := fun x y Q => match x, y with
  | .int i, .int j => Q (.int (i + j))
  | .str s, .str t => s.length + t.length ≤ sizeLine ∧ Q (.str (s ++ t))
  | .lst s, .lst t => s.length + t.length ≤ sizeLine ∧ Q (.lst (s ++ t))
  | .tup s, .tup t => s.length + t.length ≤ sizeLine ∧ Q (.tup (s ++ t))
  | _, _ => False
def rAddAll (K : PySem.W.Frag) : R2 := fun x y H Q => rI0 (fun i j => .int (i + j)) x y H Q ∨ ((fun x y H Q => ∃ i j, x = V.str i ∧ y = V.str j ∧ i.length + j.length ≤ sizeLine ∧ Q (.str (i ++ j)) H) x y H Q ∨ (rCat x y H Q ∨ rCatA K x y H Q))
theorem o_add : OpR X (binaryOp .Add) (rAddAll X.K) := OpR.or op_add (OpR.or op_add_str (OpR.or op_cat op_catA))
theorem r_add : RefR K b (rAddAll K) dAdd := by
  intro G H x y v u Q Qd s hb rx ry h k
  cases x <;> cases y <;> try exact h.elim
  · rw [rep_int.mp rx, rep_int.mp ry]
    exact .inl ⟨_, _, rfl, rfl, k G H _ _ (Ext.refl s hb) (rep_sc rfl) h⟩
  · rw [rep_str.mp rx, rep_str.mp ry]
    exact .inr (.inl ⟨_, _, rfl, rfl, h.1, k G H _ _ (Ext.refl s hb) (rep_sc rfl) h.2⟩)
  · obtain ⟨a, vs, rfl, h1, h2⟩ := rep_tupI.mp rx
    obtain ⟨c, ws, rfl, h3, h4⟩ := rep_tupI.mp ry
    refine .inr (.inr (.inr ⟨a, c, vs, ws, rfl, rfl, sameT s h1, sameT s h3, by rw [← h2.length, ← h4.length]; exact h.1, fun e => ?_, fun _ e => ?_, fun _ _ q hq => ?_⟩))
    · subst e
      refine k G H _ _ (Ext.refl s hb) ?_ h.2
      have e2 := h2.length
      rw [List.length_nil] at e2
      rw [List.eq_nil_of_length_eq_zero e2, List.nil_append]
      exact ry
    · subst e
      refine k G H _ _ (Ext.refl s hb) ?_ h.2
      have e2 := h4.length
      rw [List.length_nil] at e2
      rw [List.eq_nil_of_length_eq_zero e2, List.append_nil]
      exact rx
    · exact k _ _ _ _ (Ext.laid s hb hq) (rep_tup s hq (h2.append h4)) h.2
  · obtain ⟨a, vs, rfl, h1, h2⟩ := rep_lstI.mp rx
    obtain ⟨c, ws, rfl, h3, h4⟩ := rep_lstI.mp ry
    exact .inr (.inr (.inl ⟨a, c, vs, ws, rfl, rfl, s _ _ h1, s _ _ h3, by rw [← h2.length, ← h4.length]; exact h.1, fun q hq => k _ _ _ _ (Ext.laid s hb hq) (rep_lst s hq (h2.append h4)) h.2⟩))
/-- two ints, under C -/
def dI (C : Int → Int → Prop) (g : Int → Int → D) : RD2 := fun x y Q => match x, y with
  | .int i, .int j => C i j ∧ Q (g i j)
  | _, _ => False
theorem r_I {C : Int → Int → Prop} {g : Int → Int → V} {g' : Int → Int → D} (hg : ∀ i j, scV (g' i j) = some (g i j)) : RefR K b (rI C g) (dI C g') := by
  intro G H x y v u Q Qd s hb rx ry h k
  cases x <;> cases y <;> try exact h.elim
  rw [rep_int.mp rx, rep_int.mp ry]
  exact ⟨_, _, rfl, rfl, h.1, k G H _ _ (Ext.refl s hb) (rep_sc (hg _ _)) h.2⟩
def dI0 (g : Int → Int → D) : RD2 := fun x y Q => match x, y with
  | .int i, .int j => Q (g i j)
  | _, _ => False
theorem r_I0 {g : Int → Int → V} {g' : Int → Int → D} (hg : ∀ i j, scV (g' i j) = some (g i j)) : RefR K b (rI0 g) (dI0 g') := by
  intro G H x y v u Q Qd s hb rx ry h k
  cases x <;> cases y <;> try exact h.elim
  rw [rep_int.mp rx, rep_int.mp ry]
  exact ⟨_, _, rfl, rfl, k G H _ _ (Ext.refl s hb) (rep_sc (hg _ _)) h⟩
def dSub : RD2 := dI0 fun i j => .int (i - j)
def dMul : RD2 := dI CMul fun i j => .int (i * j)
def dMod : RD2 := dI (fun _ j => 0 < j) fun i j => .int (i % j)
def dDiv : RD2 := dI CDiv fun i j => .int (i / j)
def dPow : RD2 := dI CPow fun i j => .int (i ^ j.toNat)
def dLt : RD2 := dI0 fun i j => .bl (decide (i < j))
def dLe : RD2 := dI0 fun i j => .bl (decide (i ≤ j))
def dGt : RD2 := dI0 fun i j => .bl (decide (j < i))
def dGe : RD2 := dI0 fun i j => .bl (decide (j ≤ i))
variable {e1 e2 : Expr} {ta tb : TDE} {pos : Pos}
theorem d_add (ha : DE p X W e1 ta) (hb : DE p X W e2 tb) : DE p X W (.BinOp e1 .Add e2 pos) (xOp dAdd ta tb) := d_op o_add r_add ha hb
theorem d_sub (ha : DE p X W e1 ta) (hb : DE p X W e2 tb) : DE p X W (.BinOp e1 .Sub e2 pos) (xOp dSub ta tb) := d_op op_sub (r_I0 fun _ _ => rfl) ha hb
theorem d_mul (ha : DE p X W e1 ta) (hb : DE p X W e2 tb) : DE p X W (.BinOp e1 .Mult e2 pos) (xOp dMul ta tb) := d_op op_mul (r_I fun _ _ => rfl) ha hb
theorem d_mod (ha : DE p X W e1 ta) (hb : DE p X W e2 tb) : DE p X W (.BinOp e1 .Mod e2 pos) (xOp dMod ta tb) := d_op op_mod (r_I fun _ _ => rfl) ha hb
theorem d_div (ha : DE p X W e1 ta) (hb : DE p X W e2 tb) : DE p X W (.BinOp e1 .FloorDiv e2 pos) (xOp dDiv ta tb) := d_op op_fdiv (r_I fun _ _ => rfl) ha hb
theorem d_pow (ha : DE p X W e1 ta) (hb : DE p X W e2 tb) : DE p X W (.BinOp e1 .Pow e2 pos) (xOp dPow ta tb) := d_op op_pow (r_I fun _ _ => rfl) ha hb
theorem d_lt (ha : DE p X W e1 ta) (hb : DE p X W e2 tb) : DE p X W (.Compare e1 [.Lt] [e2] pos) (xOp dLt ta tb) := d_cmp op_lt (r_I0 fun _ _ => rfl) (nomark _) ha hb
theorem d_le (ha : DE p X W e1 ta) (hb : DE p X W e2 tb) : DE p X W (.Compare e1 [.LtE] [e2] pos) (xOp dLe ta tb) := d_cmp op_le (r_I0 fun _ _ => rfl) (nomark _) ha hb
theorem d_gt (ha : DE p X W e1 ta) (hb : DE p X W e2 tb) : DE p X W (.Compare e1 [.Gt] [e2] pos) (xOp dGt ta tb) := d_cmp op_gt (r_I0 fun _ _ => rfl) (nomark _) ha hb
theorem d_ge (ha : DE p X W e1 ta) (hb : DE p X W e2 tb) : DE p X W (.Compare e1 [.GtE] [e2] pos) (xOp dGe ta tb) := d_cmp op_ge (r_I0 fun _ _ => rfl) (nomark _) ha hb
theorem dt_lt (ha : DE p X W e1 ta) (hb : DE p X W e2 tb) : DT p X W (.Compare e1 [.Lt] [e2] pos) (xTest (xOp dLt ta tb)) := dt_cmp op_lt (r_I0 fun _ _ => rfl) (nomark _) ha hb
theorem dt_le (ha : DE p X W e1 ta) (hb : DE p X W e2 tb) : DT p X W (.Compare e1 [.LtE] [e2] pos) (xTest (xOp dLe ta tb)) := dt_cmp op_le (r_I0 fun _ _ => rfl) (nomark _) ha hb
theorem dt_gt (ha : DE p X W e1 ta) (hb : DE p X W e2 tb) : DT p X W (.Compare e1 [.Gt] [e2] pos) (xTest (xOp dGt ta tb)) := dt_cmp op_gt (r_I0 fun _ _ => rfl) (nomark _) ha hb
theorem dt_ge (ha : DE p X W e1 ta) (hb : DE p X W e2 tb) : DT p X W (.Compare e1 [.GtE] [e2] pos) (xTest (xOp dGe ta tb)) := dt_cmp op_ge (r_I0 fun _ _ => rfl) (nomark _) ha hb

mutual
def D.py : D → Option PyData
  | .non => some .none
  | .bl b => some (.bool b)
  | .int i => some (.int i)
  | .str x => some (.str x)
  | .tup ds => (D.pys ds).map .tuple
  | .lst ds => (D.pys ds).map .list
  | _ => none
def D.pys : List D → Option (List PyData)
  | [] => some []
  | d :: ds => (D.py d).bind fun x => (D.pys ds).map fun xs => x :: xs
end
mutual
theorem dp_of {G H : Hp} (s : Same G H) : ∀ {d : D} {v : V} {x : PyData}, Rep K G d v → d.py = some x → Dp K H v x
  | .non, _, _, r, e => by unfold Rep at r; unfold D.py at e; cases e; subst r; exact .non
  | .bl _, _, _, r, e => by unfold Rep at r; unfold D.py at e; cases e; subst r; exact .bl _
  | .int _, _, _, r, e => by unfold Rep at r; unfold D.py at e; cases e; subst r; exact .int _
  | .str _, _, _, r, e => by unfold Rep at r; unfold D.py at e; cases e; subst r; exact .str _
  | .tup ds, _, _, r, e => by
    unfold Rep at r
    unfold D.py at e
    obtain ⟨a, vs, rfl, h1, h2⟩ := r
    obtain ⟨xs, e1, rfl⟩ := Option.map_eq_some_iff.mp e
    exact .tup (sameT s h1) (dps_of s h2 e1)
  | .lst ds, _, _, r, e => by
    unfold Rep at r
    unfold D.py at e
    obtain ⟨a, vs, rfl, h1, h2⟩ := r
    obtain ⟨xs, e1, rfl⟩ := Option.map_eq_some_iff.mp e
    exact .lst (SqL.of (s _ _ h1)) (dps_of s h2 e1)
  | .ty _, _, _, _, e => by unfold D.py at e; cases e
  | .dic _, _, _, _, e => by unfold D.py at e; cases e
  | .obj _ _, _, _, _, e => by unfold D.py at e; cases e
  | .exc _ _, _, _, _, e => by unfold D.py at e; cases e
  | .adr _, _, _, _, e => by unfold D.py at e; cases e
theorem dps_of {G H : Hp} (s : Same G H) : ∀ {ds : List D} {vs : List V} {xs : List PyData}, Reps K G ds vs → D.pys ds = some xs → DpAll K H vs xs
  | [], _, _, r, e => by
    unfold Reps at r
    unfold D.pys at e
    cases e
    subst r
    exact .nil
  | d :: ds, _, _, r, e => by
    unfold Reps at r
    unfold D.pys at e
    obtain ⟨v, w, rfl, h1, h2⟩ := r
    obtain ⟨x, e1, e2⟩ := Option.bind_eq_some_iff.mp e
    obtain ⟨xs, e3, rfl⟩ := Option.map_eq_some_iff.mp e2
    exact .cons (dp_of s h1 e1) (dps_of s h2 e3)
end
/-- of scalars: decided here; else by the library's equality of data -/
def scEq : D → D → Option Bool
  | .int i, .int j => some (decide (i = j))
  | .str i, .str j => some (decide (i = j))
  | .bl i, .bl j => some (decide (i = j))
  | .non, .non => some true
  | .non, .int _ => some false
  | .int _, .non => some false
  | .non, .str _ => some false
  | .str _, .non => some false
  | .non, .bl _ => some false
  | .bl _, .non => some false
  | .int _, .str _ => some false
  | .str _, .int _ => some false
  | .bl _, .str _ => some false
  | .str _, .bl _ => some false
  | _, _ => none
def dEq (neg : Bool) : RD2 := fun x y Q => match scEq x y with
  | some k => Q (.bl (if neg then !k else k))
  | none => ∃ d e, x.py = some d ∧ y.py = some e ∧ SeqAt.shaped d = true ∧ SeqAt.shaped e = true ∧ Q (.bl (if neg then !PyData.eqv d e else PyData.eqv d e))
theorem scEq_ok {G : Hp} {x y : D} {v u : V} {k : Bool} (rx : Rep K G x v) (ry : Rep K G y u) (h : scEq x y = some k) : scal v u = true ∧ decide (v = u) = k := by
  cases x <;> cases y <;> unfold scEq at h <;> (try cases h) <;> (unfold Rep at rx ry; subst rx; subst ry; refine ⟨rfl, ?_⟩; simp)
theorem r_eq : RefR K b (fun x y H Q => rEq x y H Q ∨ rEqD K x y H Q) (dEq false) := by
  intro G H x y v u Q Qd s hb rx ry h k
  unfold dEq at h
  cases e : scEq x y with
  | some kk =>
    rw [e] at h
    obtain ⟨h1, h2⟩ := scEq_ok rx ry e
    refine .inl ⟨h1, ?_⟩
    rw [h2]
    exact k G H _ _ (Ext.refl s hb) (rep_sc rfl) h
  | none =>
    rw [e] at h
    obtain ⟨d, d', h1, h2, h3, h4, h5⟩ := h
    exact .inr ⟨d, d', dp_of s rx h1, dp_of s ry h2, h3, h4, k G H _ _ (Ext.refl s hb) (rep_sc rfl) h5⟩
theorem r_ne : RefR K b (fun x y H Q => rNe x y H Q ∨ rNeD K x y H Q) (dEq true) := by
  intro G H x y v u Q Qd s hb rx ry h k
  unfold dEq at h
  cases e : scEq x y with
  | some kk =>
    rw [e] at h
    obtain ⟨h1, h2⟩ := scEq_ok rx ry e
    refine .inl ⟨h1, ?_⟩
    rw [h2]
    exact k G H _ _ (Ext.refl s hb) (rep_sc rfl) h
  | none =>
    rw [e] at h
    obtain ⟨d, d', h1, h2, h3, h4, h5⟩ := h
    exact .inr ⟨d, d', dp_of s rx h1, dp_of s ry h2, h3, h4, k G H _ _ (Ext.refl s hb) (rep_sc rfl) h5⟩
theorem d_eq (hu : X.A.units + 64 < cLine) (ha : DE p X W e1 ta) (hb : DE p X W e2 tb) : DE p X W (.Compare e1 [.Eq] [e2] pos) (xOp (dEq false) ta tb) := d_cmp (OpR.or op_eq (op_eqD hu)) r_eq (nomark _) ha hb
theorem d_ne (hu : X.A.units + 64 < cLine) (ha : DE p X W e1 ta) (hb : DE p X W e2 tb) : DE p X W (.Compare e1 [.NotEq] [e2] pos) (xOp (dEq true) ta tb) := d_cmp (OpR.or op_ne (op_neD hu)) r_ne (nomark _) ha hb
theorem dt_eq (hu : X.A.units + 64 < cLine) (ha : DE p X W e1 ta) (hb : DE p X W e2 tb) : DT p X W (.Compare e1 [.Eq] [e2] pos) (xTest (xOp (dEq false) ta tb)) := dt_cmp (OpR.or op_eq (op_eqD hu)) r_eq (nomark _) ha hb
theorem dt_ne (hu : X.A.units + 64 < cLine) (ha : DE p X W e1 ta) (hb : DE p X W e2 tb) : DT p X W (.Compare e1 [.NotEq] [e2] pos) (xTest (xOp (dEq true) ta tb)) := dt_cmp (OpR.or op_ne (op_neD hu)) r_ne (nomark _) ha hb

def flatD : D → Bool
  | .non => true
  | .bl _ => true
  | .int _ => true
  | .str _ => true
  | _ => false
def eqF : D → D → Bool
  | .non, .non => true
  | .bl a, .bl b => a == b
  | .bl a, .int b => (if a then 1 else 0) == b
  | .int a, .bl b => a == (if b then 1 else 0)
  | .int a, .int b => a == b
  | .str a, .str b => a == b
  | _, _ => false
def inD (x : D) (xs : List D) : Bool := xs.any fun y => eqF y x
theorem flat_rep {G : Hp} {d : D} {v : V} (r : Rep K G d v) (h : flatD d = true) : flatV v = true := by
  cases d <;> first | (unfold Rep at r; subst r; rfl) | exact absurd (show false = true from h) Bool.false_ne_true
theorem flats_rep {G : Hp} : ∀ {ds : List D} {vs : List V}, Reps K G ds vs → ds.all flatD = true → vs.all flatV = true
  | [], vs, r, _ => by rw [Reps.nil_iff.mp r]; rfl
  | d :: ds, vs, r, h => by
    obtain ⟨v, w, rfl, h1, h2⟩ := Reps.cons_iff.mp r
    rw [List.all_cons, Bool.and_eq_true] at h ⊢
    exact ⟨flat_rep h1 h.1, flats_rep h2 h.2⟩
theorem eqF_rep {G : Hp} {x y : D} {v u : V} (rx : Rep K G x v) (ry : Rep K G y u) (fx : flatD x = true) (fy : flatD y = true) : eqV v u = eqF x y := by
  cases x <;> (first | exact absurd (show false = true from fx) Bool.false_ne_true | skip) <;> cases y <;> (first | exact absurd (show false = true from fy) Bool.false_ne_true | skip) <;> (unfold Rep at rx ry; subst rx; subst ry; rfl)
theorem inD_rep {G : Hp} {x : D} {v : V} (rx : Rep K G x v) (fx : flatD x = true) : ∀ {ds : List D} {vs : List V}, Reps K G ds vs → ds.all flatD = true → inV v vs = inD x ds
  | [], vs, r, _ => by rw [Reps.nil_iff.mp r]; rfl
  | d :: ds, vs, r, h => by
    obtain ⟨u, w, rfl, h1, h2⟩ := Reps.cons_iff.mp r
    rw [List.all_cons, Bool.and_eq_true] at h
    have q := inD_rep rx fx h2 h.2
    unfold inV inD at q ⊢
    rw [List.any_cons, List.any_cons, q, eqF_rep h1 rx h.1 fx]
def dIn (neg : Bool) : RD2 := fun x y Q => match y with
  | .lst ds => flatD x = true ∧ ds.all flatD = true ∧ Q (.bl (if neg then !inD x ds else inD x ds))
  | .tup ds => flatD x = true ∧ ds.all flatD = true ∧ Q (.bl (if neg then !inD x ds else inD x ds))
  | _ => False
theorem r_in (neg : Bool) : RefR K b (rIn K neg) (dIn neg) := by
  intro G H x y v u Q Qd s hb rx ry h k
  cases y <;> try exact h.elim
  · obtain ⟨a, vs, rfl, h1, h2⟩ := rep_tupI.mp ry
    refine ⟨a, vs, rfl, .inr (sameT s h1), flat_rep rx h.1, flats_rep h2 h.2.1, ?_⟩
    rw [inD_rep rx h.1 h2 h.2.1]
    exact k G H _ _ (Ext.refl s hb) (rep_sc rfl) h.2.2
  · obtain ⟨a, vs, rfl, h1, h2⟩ := rep_lstI.mp ry
    refine ⟨a, vs, rfl, .inl (SqL.of (s _ _ h1)), flat_rep rx h.1, flats_rep h2 h.2.1, ?_⟩
    rw [inD_rep rx h.1 h2 h.2.1]
    exact k G H _ _ (Ext.refl s hb) (rep_sc rfl) h.2.2

def dIx : RD2 := fun x y Q => match x, y with
  | .lst ds, .int i => ∃ d, atI ds i = some d ∧ Q d
  | .tup ds, .int i => ∃ d, atI ds i = some d ∧ Q d
  | .str z, .int i => z.length ≤ sizeLine ∧ ∃ c, atI z.cps.toList i = some c ∧ Q (.str ⟨#[c]⟩)
  | _, _ => False
theorem atI_rep {G : Hp} {ds : List D} {vs : List V} {i : Int} {d : D} (r : Reps K G ds vs) (h : atI ds i = some d) : ∃ v, atI vs i = some v ∧ Rep K G d v := by
  unfold atI at h ⊢
  rw [← r.length]
  cases e : ixN ds.length i with
  | none => rw [e] at h; cases h
  | some j =>
    rw [e] at h
    exact r.get h
theorem r_ix : RefR K b (rIx K) dIx := by
  intro G H x y v u Q Qd s hb rx ry h k
  cases x <;> cases y <;> try exact h.elim
  · rw [rep_str.mp rx, rep_int.mp ry]
    obtain ⟨h1, c, h2, h3⟩ := h
    exact .inr (.inr ⟨_, _, c, rfl, rfl, h1, h2, k G H _ _ (Ext.refl s hb) (rep_sc rfl) h3⟩)
  · obtain ⟨a, vs, rfl, h1, h2⟩ := rep_tupI.mp rx
    rw [rep_int.mp ry]
    obtain ⟨d, h3, h4⟩ := h
    obtain ⟨w, h5, h6⟩ := atI_rep h2 h3
    exact .inr (.inl ⟨a, vs, _, w, rfl, rfl, sameT s h1, h5, k G H _ _ (Ext.refl s hb) h6 h4⟩)
  · obtain ⟨a, vs, rfl, h1, h2⟩ := rep_lstI.mp rx
    rw [rep_int.mp ry]
    obtain ⟨d, h3, h4⟩ := h
    obtain ⟨w, h5, h6⟩ := atI_rep h2 h3
    exact .inl ⟨a, vs, _, w, rfl, rfl, SqL.of (s _ _ h1), h5, k G H _ _ (Ext.refl s hb) h6 h4⟩
theorem d_ix (hs : PlainIx e2) (ha : DE p X W e1 ta) (hb : DE p X W e2 tb) : DE p X W (.Subscript e1 e2 pos) (xOp dIx ta tb) := by
  obtain ⟨t, h1, h2⟩ := ha
  obtain ⟨u, h3, h4⟩ := hb
  exact ⟨_, pe_ix ix_seq h1 h3 hs, refOp r_ix h2 h4⟩
abbrev TDO := DSt → (Option Int → Prop) → XD → Prop
def RefO (K : PySem.W.Frag) (p : Pr) (W : WX) (t : TO) (td : TDO) : Prop :=
  ∀ (G : Hp) (σ : VSt) (H : Hp) (δ : DSt) (Q : Option Int → Hp → Prop) (Qd : Option Int → Prop) (Ed : XD), DR K p G σ H δ → td δ Qd Ed →
    (∀ G' H' o, Ext K p.b G H G' H' → Qd o → Q o H') → XOk K p.b W G σ H Ed → t σ H Q
structure DO' (p : Pr) (X : Cx) (W : WX) (e : Option Expr) (td : TDO) : Prop where
  ex : ∃ t : TO, PO X e t ∧ RefO X.K p W t td
def xNoPart : TDO := fun _ Q _ => Q none
def xPart (te : TDE) : TDO := fun δ Q E => te δ (fun x => ∃ i, x = .int i ∧ Q (some i)) E
theorem do_none : DO' p X W none xNoPart := ⟨_, po_none, fun G σ H δ Q Qd Ed r q k x => k G H _ r.refl q⟩
theorem do_some (h : DE p X W e1 ta) : DO' p X W (some e1) (xPart ta) := by
  obtain ⟨t, h1, h2⟩ := h
  refine ⟨_, po_some h1, fun G σ H δ Q Qd Ed r q k x => ?_⟩
  refine h2 G σ H δ _ _ Ed r q (fun G1 H1 v d1 e1 r1 q1 => ?_) x
  obtain ⟨i, rfl, q2⟩ := q1
  exact ⟨i, rep_int.mp r1, k G1 H1 _ e1 q2⟩
def cutD {α : Type} (xs : List α) (lo hi : Option Int) : List α := (xs.drop (HT.sIx xs.length 0 lo)).take (HT.sIx xs.length xs.length hi - HT.sIx xs.length 0 lo)
theorem cut_rep {G : Hp} {ds : List D} {vs : List V} (r : Reps K G ds vs) (lo hi : Option Int) : Reps K G (cutD ds lo hi) (cutV vs lo hi) := by
  unfold cutD cutV
  rw [← r.length]
  exact (r.drop _).take _
def dSl (x : D) (lo hi : Option Int) (Q : QD) : Prop := match x with
  | .lst ds => Q (.lst (cutD ds lo hi))
  | .tup ds => Q (.tup (cutD ds lo hi))
  | .str z => z.length ≤ sizeLine ∧ Q (.str (cutS z lo hi))
  | _ => False
def rSlAll (K : PySem.W.Frag) : V → Option Int → Option Int → Hp → VK → Prop := fun x lo hi H Q => rSlL K x lo hi H Q ∨ (rSlA K x lo hi H Q ∨ rSlS x lo hi H Q)
def xSl (te : TDE) (tl th : TDO) : TDE := fun δ Q E => te δ (fun x => tl δ (fun lo => th δ (fun hi => dSl x lo hi Q) E) E) E
theorem cutD_whole {α : Type} (xs : List α) (lo hi : Option Int) (h : HT.sIx xs.length 0 lo = 0 ∧ HT.sIx xs.length xs.length hi = xs.length) : cutD xs lo hi = xs := by
  unfold cutD
  rw [h.1, h.2]
  simp
theorem d_slice {lo hi : Option Expr} {p2 : Pos} {tl th : TDO} (ha : DE p X W e1 ta) (hl : DO' p X W lo tl) (hh : DO' p X W hi th) : DE p X W (.Subscript e1 (.Slice lo hi none p2) pos) (xSl ta tl th) := by
  obtain ⟨t, h1, h2⟩ := ha
  obtain ⟨u, h3, h4⟩ := hl
  obtain ⟨w, h5, h6⟩ := hh
  refine ⟨_, pe_slice (SlR.or sl_list (SlR.or sl_tupA sl_str)) h1 h3 h5, fun G σ H δ Q Qd Ed r q k x => ?_⟩
  refine h2 G σ H δ _ _ Ed r q (fun G1 H1 v d1 e1 r1 q1 => ?_) x
  refine h4 G1 σ H1 δ _ _ Ed (r.ext e1) q1 (fun G2 H2 lo e2 q2 => ?_) (x.step r.at e1)
  have e12 := e1.trans r.at e2
  refine h6 G2 σ H2 δ _ _ Ed (r.ext e12) q2 (fun G3 H3 hi e3 q3 => ?_) (x.step r.at e12)
  have e13 := e12.trans r.at e3
  have r3 := (r1.mono e2.gg).mono e3.gg
  cases d1 <;> try exact False.elim q3
  · rw [rep_str.mp r3]
    exact .inr (.inr ⟨_, rfl, q3.1, k G3 H3 _ _ e13 (rep_sc rfl) q3.2⟩)
  · obtain ⟨a, vs, rfl, c1, c2⟩ := rep_tupI.mp r3
    refine .inr (.inl ⟨a, vs, rfl, sameT e13.sub c1, fun hw => ?_, fun _ q hq => ?_⟩)
    · rw [← c2.length] at hw
      have q4 : Qd (.tup (cutD _ lo hi)) := q3
      rw [cutD_whole _ _ _ hw] at q4
      exact k G3 H3 _ _ e13 r3 q4
    · exact k _ _ _ _ (e13.trans r.at (Ext.laid e13.sub e13.bag hq)) (rep_tup e13.sub hq (cut_rep c2 _ _)) q3
  · obtain ⟨a, vs, rfl, c1, c2⟩ := rep_lstI.mp r3
    exact .inl ⟨a, vs, rfl, SqL.of (e13.sub _ _ c1), fun q hq => k _ _ _ _ (e13.trans r.at (Ext.laid e13.sub e13.bag hq)) (rep_lst e13.sub hq (cut_rep c2 _ _)) q3⟩

def dLen (xs : List D) (Q : QD) : Prop := match xs with
  | [.str z] => z.length ≤ sizeLine ∧ Q (.int z.length)
  | [.lst ds] => Q (.int ds.length)
  | [.tup ds] => Q (.int ds.length)
  | _ => False
theorem reps1 {G : Hp} {d : D} {vs : List V} (h : Reps K G [d] vs) : ∃ v, vs = [v] ∧ Rep K G d v := by
  obtain ⟨v, r, rfl, h1, h2⟩ := Reps.cons_iff.mp h
  rw [Reps.nil_iff.mp h2]
  exact ⟨v, rfl, h1⟩
theorem r_len : RefC K b (fun xs H Q => ∃ x n, xs = [x] ∧ LenV K x H n ∧ Q (.int n) H) dLen := by
  intro G H xs vs Q Qd s hb rs h k
  unfold dLen at h
  split at h
  · obtain ⟨v, rfl, r⟩ := reps1 rs
    rw [rep_str.mp r]
    exact ⟨_, _, rfl, ⟨h.1, rfl⟩, k G H _ _ (Ext.refl s hb) (rep_sc rfl) h.2⟩
  · obtain ⟨v, rfl, r⟩ := reps1 rs
    obtain ⟨a, vs, rfl, c1, c2⟩ := rep_lstI.mp r
    refine ⟨_, vs.length, rfl, .inl ⟨vs, SqL.of (s _ _ c1), rfl⟩, ?_⟩
    rw [← c2.length]
    exact k G H _ _ (Ext.refl s hb) (rep_sc rfl) h
  · obtain ⟨v, rfl, r⟩ := reps1 rs
    obtain ⟨a, vs, rfl, c1, c2⟩ := rep_tupI.mp r
    refine ⟨_, vs.length, rfl, .inr ⟨vs, sameT s c1, rfl⟩, ?_⟩
    rw [← c2.length]
    exact k G H _ _ (Ext.refl s hb) (rep_sc rfl) h
  · exact h.elim
def dInt (xs : List D) (Q : QD) : Prop := match xs with
  | [.int i] => Q (.int i)
  | [.bl k] => Q (.int (if k then 1 else 0))
  | _ => False
theorem r_int : RefC K b (fun xs H Q => (∃ i, xs = [V.int i] ∧ Q (.int i) H) ∨ ∃ k, xs = [V.bl k] ∧ Q (.int (if k then 1 else 0)) H) dInt := by
  intro G H xs vs Q Qd s hb rs h k
  unfold dInt at h
  split at h
  · obtain ⟨v, rfl, r⟩ := reps1 rs
    rw [rep_int.mp r]
    exact .inl ⟨_, rfl, k G H _ _ (Ext.refl s hb) (rep_sc rfl) h⟩
  · obtain ⟨v, rfl, r⟩ := reps1 rs
    rw [rep_bl.mp r]
    exact .inr ⟨_, rfl, k G H _ _ (Ext.refl s hb) (rep_sc rfl) h⟩
  · exact h.elim
/-- list(x), x a list or tuple -/
def dList (xs : List D) (Q : QD) : Prop := match xs with
  | [.lst ds] => Q (.lst ds)
  | [.tup ds] => Q (.lst ds)
  | _ => False
theorem r_list : RefC K b (fun xs H Q => ∃ p ys, xs = [V.ref p] ∧ (SqL K H p ys ∨ SqT K H p ys) ∧ ∀ l, H l = none → Q (.ref l) (upd H l (.lst ys))) dList := by
  intro G H xs vs Q Qd s hb rs h k
  unfold dList at h
  split at h
  · obtain ⟨v, rfl, r⟩ := reps1 rs
    obtain ⟨a, vs, rfl, c1, c2⟩ := rep_lstI.mp r
    exact ⟨a, vs, rfl, .inl (SqL.of (s _ _ c1)), fun l hl => k _ _ _ _ (Ext.laid s hb hl) (rep_lst s hl c2) h⟩
  · obtain ⟨v, rfl, r⟩ := reps1 rs
    obtain ⟨a, vs, rfl, c1, c2⟩ := rep_tupI.mp r
    exact ⟨a, vs, rfl, .inr (sameT s c1), fun l hl => k _ _ _ _ (Ext.laid s hb hl) (rep_lst s hl c2) h⟩
  · exact h.elim
def dTuple (xs : List D) (Q : QD) : Prop := match xs with
  | [.lst ds] => Q (.tup ds)
  | [.tup ds] => Q (.tup ds)
  | _ => False
theorem r_tuple : RefC K b (fun xs H Q => ∃ p ys, xs = [V.ref p] ∧ ((SqL K H p ys ∧ ∀ l, H l = none → Q (.ref l) (upd H l (.tup ys))) ∨ (SqT K H p ys ∧ Q (.ref p) H))) dTuple := by
  intro G H xs vs Q Qd s hb rs h k
  unfold dTuple at h
  split at h
  · obtain ⟨v, rfl, r⟩ := reps1 rs
    obtain ⟨a, vs, rfl, c1, c2⟩ := rep_lstI.mp r
    exact ⟨a, vs, rfl, .inl ⟨SqL.of (s _ _ c1), fun l hl => k _ _ _ _ (Ext.laid s hb hl) (rep_tup s hl c2) h⟩⟩
  · obtain ⟨v, rfl, r⟩ := reps1 rs
    obtain ⟨a, vs, rfl, c1, c2⟩ := rep_tupI.mp r
    exact ⟨a, vs, rfl, .inr ⟨sameT s c1, k _ _ _ _ (Ext.refl s hb) r h⟩⟩
  · exact h.elim
/-- bools as data -/
def blsD : List D → Option (List Bool)
  | [] => some []
  | .bl k :: r => (blsD r).map fun ks => k :: ks
  | _ :: _ => none
theorem blsD_rep {G : Hp} : ∀ {ds : List D} {vs : List V} {ks : List Bool}, Reps K G ds vs → blsD ds = some ks → vs = ks.map V.bl
  | [], vs, ks, r, e => by
    cases e
    rw [Reps.nil_iff.mp r]; rfl
  | d :: ds, vs, ks, r, e => by
    obtain ⟨v, w, rfl, h1, h2⟩ := Reps.cons_iff.mp r
    cases d with
    | bl kk =>
      obtain ⟨ks', e1, rfl⟩ := Option.map_eq_some_iff.mp (show (blsD ds).map (fun ks => kk :: ks) = some ks from e)
      rw [rep_bl.mp h1, blsD_rep h2 e1]; rfl
    | _ => cases e
def dAll (f : List Bool → Bool) (xs : List D) (Q : QD) : Prop := match xs with
  | [.lst ds] => ∃ ks, blsD ds = some ks ∧ Q (.bl (f ks))
  | _ => False
theorem r_all : RefC K b (rAll K) (dAll fun ks => ks.all id) := by
  intro G H xs vs Q Qd s hb rs h k
  unfold dAll at h
  split at h
  · obtain ⟨v, rfl, r⟩ := reps1 rs
    obtain ⟨a, vs, rfl, c1, c2⟩ := rep_lstI.mp r
    obtain ⟨ks, h1, h2⟩ := h
    refine ⟨a, ks, rfl, SqL.of ?_, k _ _ _ _ (Ext.refl s hb) (rep_sc rfl) h2⟩
    rw [← blsD_rep c2 h1]
    exact s _ _ c1
  · exact h.elim
theorem r_any : RefC K b (rAny K) (dAll fun ks => ks.any id) := by
  intro G H xs vs Q Qd s hb rs h k
  unfold dAll at h
  split at h
  · obtain ⟨v, rfl, r⟩ := reps1 rs
    obtain ⟨a, vs, rfl, c1, c2⟩ := rep_lstI.mp r
    obtain ⟨ks, h1, h2⟩ := h
    refine ⟨a, ks, rfl, SqL.of ?_, k _ _ _ _ (Ext.refl s hb) (rep_sc rfl) h2⟩
    rw [← blsD_rep c2 h1]
    exact s _ _ c1
  · exact h.elim

/-- a method's reading: the receiver, the arguments -/
def RefM (K : PySem.W.Frag) (b : Bag) (T : String) (r : V → List V → Hp → VK → Prop) (rd : D → List D → QD → Prop) : Prop :=
  ∀ (G H : Hp) (x : D) (xs : List D) (v : V) (vs : List V) (Q : VK) (Qd : QD), Same G H → BagOk K b G H → Rep K G x v → Reps K G xs vs → rd x xs Qd →
    (∀ G' H' w d, Ext K b G H G' H' → Rep K G' d w → Qd d → Q w H') → r v vs H Q
/-- the receiver's type -/
def tyD (T : String) : D → Prop
  | .str _ => T = "str"
  | .int _ => T = "int"
  | .lst _ => T = "list"
  | .dic _ => T = "dict"
  | _ => False
theorem tyD_ok {G H : Hp} {T : String} {x : D} {v : V} (s : Same G H) (r : Rep K G x v) (h : tyD T x) : tyV K T v H := by
  cases x <;> try exact h.elim
  · rw [rep_int.mp r]; exact h
  · rw [rep_str.mp r]; exact h
  · obtain ⟨a, vs, rfl, c1, c2⟩ := rep_lstI.mp r
    exact .inl ⟨h, vs, SqL.of (s _ _ c1)⟩
  · obtain ⟨a, vs, rfl, c1, c2⟩ := rep_dicI.mp r
    exact .inr (.inr (.inl ⟨h, .inl ⟨vs, s _ _ c1⟩⟩))
def xMeth (T : String) (rd : D → List D → QD → Prop) (to : TDE) (ts : TDA) : TDE := fun δ Q E => to δ (fun x => tyD T x ∧ ts δ (fun xs => rd x xs Q) E) E
def xMeth0 (T : String) (rd : D → List D → QD → Prop) (to : TDE) : TDE := fun δ Q E => to δ (fun x => tyD T x ∧ rd x [] Q) E
theorem d_bm {T id : String} {name : Str} {apos cpos : Pos} {o e : Expr} {es : List Expr} {to : TDE} {ts : TDA} {r : V → List V → Hp → VK → Prop} {rd : D → List D → QD → Prop}
    (pa : PlainAttrs T) (slot : Slot T name id) (hty : typeOf (.builtin id) = pure (.type "method_descriptor")) (hm : MtR X id r) (hr : RefM X.K p.b T r rd) (ho : DE p X W o to) (ha : DA p X W (e :: es) ts)
    (hbase : attributeBase o name X.env (eval o X.env) = eval o X.env := by rfl)
    (hfew : ((backTo cpos (starEach (e :: es) X.env)).all (fun x => !x.1) && (backToKw cpos (keywordEach [] X.env)).all (fun x => x.1.isSome)
      && decide ((e :: es).length + ([] : List Keyword).length + (if ([] : List Keyword).isEmpty then 0 else 1) < 30)) = true := by rfl)
    (hline : (apos.endLine == cpos.line) = true := by rfl) (hs : starEach (e :: es) X.env = (false, eval e X.env) :: starEach es X.env := by rfl) (hplain : (backTo cpos (starEach es X.env)).any (·.1) = false := by rfl) :
    DE p X W (.Call (.Attribute o name apos) (e :: es) [] cpos) (xMeth T rd to ts) := by
  obtain ⟨t, h1, h2⟩ := ho
  obtain ⟨u, h3, h4⟩ := ha
  refine ⟨_, pe_bm pa slot hty hm h1 h3 hbase hfew hline hs hplain, fun G σ H δ Q Qd Ed r q k x => ?_⟩
  refine h2 G σ H δ _ _ Ed r q (fun G1 H1 v d1 e1 r1 q1 => ?_) x
  refine ⟨tyD_ok e1.sub r1 q1.1, ?_⟩
  refine h4 G1 σ H1 δ _ _ Ed (r.ext e1) q1.2 (fun G2 H2 vs ds e2 r2 q2 => ?_) (x.step r.at e1)
  have e12 := e1.trans r.at e2
  exact hr G2 H2 d1 ds v vs Q Qd e12.sub e12.bag (r1.mono e2.gg) r2 q2 fun G3 H3 w d e3 r3 q3 => k G3 H3 w d (e12.trans r.at e3) r3 q3
theorem d_bm0 {T id : String} {name : Str} {apos cpos : Pos} {o : Expr} {to : TDE} {r : V → List V → Hp → VK → Prop} {rd : D → List D → QD → Prop}
    (pa : PlainAttrs T) (slot : Slot T name id) (hty : typeOf (.builtin id) = pure (.type "method_descriptor")) (hm : MtR X id r) (hr : RefM X.K p.b T r rd) (ho : DE p X W o to)
    (hbase : attributeBase o name X.env (eval o X.env) = eval o X.env := by rfl) (hline : (apos.endLine == cpos.line) = true := by rfl) : DE p X W (.Call (.Attribute o name apos) [] [] cpos) (xMeth0 T rd to) := by
  obtain ⟨t, h1, h2⟩ := ho
  refine ⟨_, pe_bm0 pa slot hty hm h1 hbase hline, fun G σ H δ Q Qd Ed r q k x => ?_⟩
  refine h2 G σ H δ _ _ Ed r q (fun G1 H1 v d1 e1 r1 q1 => ?_) x
  refine ⟨tyD_ok e1.sub r1 q1.1, ?_⟩
  exact hr G1 H1 d1 [] v [] Q Qd e1.sub e1.bag r1 Reps.nil q1.2 fun G3 H3 w d e3 r3 q3 => k G3 H3 w d (e1.trans r.at e3) r3 q3
/-- texts as data -/
def strsD : List D → Option (List Str)
  | [] => some []
  | .str k :: r => (strsD r).map fun ks => k :: ks
  | _ :: _ => none
theorem strsD_rep {G : Hp} : ∀ {ds : List D} {vs : List V} {ks : List Str}, Reps K G ds vs → strsD ds = some ks → vs = ks.map V.str
  | [], vs, ks, r, e => by
    cases e
    rw [Reps.nil_iff.mp r]; rfl
  | d :: ds, vs, ks, r, e => by
    obtain ⟨v, w, rfl, h1, h2⟩ := Reps.cons_iff.mp r
    cases d with
    | str kk =>
      obtain ⟨ks', e1, rfl⟩ := Option.map_eq_some_iff.mp (show (strsD ds).map (fun ks => kk :: ks) = some ks from e)
      rw [rep_str.mp h1, strsD_rep h2 e1]; rfl
    | _ => cases e
def dJoin (x : D) (xs : List D) (Q : QD) : Prop := match x, xs with
  | .str a, [.lst ds] => ∃ ks, strsD ds = some ks ∧ (ks.map (·.length)).sum + ks.length * a.length ≤ 16777216 ∧ Q (.str (Txt.join a ks))
  | .str a, [.tup ds] => ∃ ks, strsD ds = some ks ∧ (ks.map (·.length)).sum + ks.length * a.length ≤ 16777216 ∧ Q (.str (Txt.join a ks))
  | _, _ => False
theorem r_join : RefM K b "str" (fun x xs H Q => ∃ a p, ∃ ys : List Str, x = .str a ∧ xs = [.ref p] ∧ (SqL K H p (ys.map V.str) ∨ SqT K H p (ys.map V.str)) ∧
    (ys.map (·.length)).sum + ys.length * a.length ≤ 16777216 ∧ Q (.str (Txt.join a ys)) H) dJoin := by
  intro G H x xs v vs Q Qd s hb rx rs h k
  unfold dJoin at h
  split at h
  · obtain ⟨w, rfl, r⟩ := reps1 rs
    obtain ⟨a, us, rfl, c1, c2⟩ := rep_lstI.mp r
    obtain ⟨ks, h1, h2, h3⟩ := h
    refine ⟨_, a, ks, rep_str.mp rx, rfl, .inl (SqL.of ?_), h2, k _ _ _ _ (Ext.refl s hb) (rep_sc rfl) h3⟩
    rw [← strsD_rep c2 h1]
    exact s _ _ c1
  · obtain ⟨w, rfl, r⟩ := reps1 rs
    obtain ⟨a, us, rfl, c1, c2⟩ := rep_tupI.mp r
    obtain ⟨ks, h1, h2, h3⟩ := h
    refine ⟨_, a, ks, rep_str.mp rx, rfl, .inr ?_, h2, k _ _ _ _ (Ext.refl s hb) (rep_sc rfl) h3⟩
    rw [← strsD_rep c2 h1]
    exact sameT s c1
  · exact h.elim
end
end DL

namespace DL
open PySem PySem.Spec PyProof.Rows L2

structure DEnds where
  nx : DSt → Prop
  rt : D → Prop
  bk : DSt → Prop := fun _ => False
  ct : DSt → Prop := fun _ => False
  xc : Str → List (Str × D) → DSt → Prop := fun _ _ _ => False
  ro : List D → Prop := fun _ => False
abbrev TDS := DEnds → DSt → Prop
structure EndsOk (K : PySem.W.Frag) (p : Pr) (Gb : Hp) (W : WX) (D : Ends) (Dd : DEnds) : Prop where
  nx : ∀ G σ H δ, Same Gb G → DR K p G σ H δ → Dd.nx δ → D.nx σ H
  rt : ∀ G σ H δ v d, Same Gb G → DR K p G σ H δ → Rep K G d v → Dd.rt d → D.rt v H
  bk : ∀ G σ H δ, Same Gb G → DR K p G σ H δ → Dd.bk δ → D.bk σ H
  ct : ∀ G σ H δ, Same Gb G → DR K p G σ H δ → Dd.ct δ → D.ct σ H
  xc : ∀ G σ H δ c fs d vs, Same Gb G → DR K p G σ H δ → G d = some (.xd vs) → RepsF K G fs vs → Dd.xc c fs δ → W (.ref (He.ga K c)) (some d) σ H
  ro : ∀ G σ H δ a us ds, Same Gb G → DR K p G σ H δ → G a = none → Fr0 p.H0 a → H a = some (.lst us) → Reps K G ds us → Dd.ro ds → D.rt (.ref a) H
def RefS (K : PySem.W.Frag) (p : Pr) (W : WX) (t : TS) (td : TDS) : Prop :=
  ∀ (Gb G : Hp) (σ : VSt) (H : Hp) (δ : DSt) (D : Ends) (Dd : DEnds), Same Gb G → DR K p G σ H δ → td Dd δ → EndsOk K p Gb W D Dd → t D σ H
structure DS (p : Pr) (X : Cx) (W : WX) (st : Stmt) (td : TDS) : Prop where
  ex : ∃ t : TS, PS X st t ∧ RefS X.K p W t td
structure DSs (p : Pr) (X : Cx) (W : WX) (st : List Stmt) (td : TDS) : Prop where
  ex : ∃ t : TS, PSs X st t ∧ RefS X.K p W t td
section
variable {p : Pr} {X : Cx} {W : WX} {K : PySem.W.Frag} {Gb G H : Hp} {σ : VSt} {δ : DSt} {D' : Ends} {Dd : DEnds}
theorem EndsOk.mono {Gb' : Hp} (h : EndsOk K p Gb W D' Dd) (e : Same Gb Gb') : EndsOk K p Gb' W D' Dd :=
  ⟨fun G σ H δ s => h.nx G σ H δ (e.trans s), fun G σ H δ v d s => h.rt G σ H δ v d (e.trans s), fun G σ H δ s => h.bk G σ H δ (e.trans s), fun G σ H δ s => h.ct G σ H δ (e.trans s), fun G σ H δ c fs d vs s => h.xc G σ H δ c fs d vs (e.trans s), fun G σ H δ a us ds s => h.ro G σ H δ a us ds (e.trans s)⟩
/-- the wish about exceptions, from a state on -/
theorem EndsOk.x (h : EndsOk K p Gb W D' Dd) (s : Same Gb G) (r : DR K p G σ H δ) : XOk K p.b W G σ H (fun c fs => Dd.xc c fs δ) :=
  fun G' H' c fs d vs e h1 h2 h3 => h.xc G' σ H' δ c fs d vs (s.trans e.gg) (r.ext e) h1 h2 h3

def yNext : TDS := fun Dd δ => Dd.nx δ
def ySeq (t u : TDS) : TDS := fun Dd δ => t { Dd with nx := u Dd } δ
variable {st : Stmt} {rest : List Stmt} {t u : TDS} {e c : Expr} {te : TDE} {tt : TDT} {pos : Pos}
theorem dss_nil : DSs p X W [] yNext := ⟨_, pss_nil, fun Gb G σ H δ D Dd s r q h => h.nx G σ H δ s r q⟩
theorem dss_cons (h1 : DS p X W st t) (h2 : DSs p X W rest u) : DSs p X W (st :: rest) (ySeq t u) := by
  obtain ⟨a, a1, a2⟩ := h1
  obtain ⟨b, b1, b2⟩ := h2
  refine ⟨_, pss_cons a1 b1, fun Gb G σ H δ D Dd s r q h => ?_⟩
  exact a2 Gb G σ H δ _ _ s r q ⟨fun G σ H δ s r q => b2 Gb G σ H δ D Dd s r q h, h.rt, h.bk, h.ct, h.xc, h.ro⟩
theorem dss_one (h1 : DS p X W st t) : DSs p X W [st] t := by
  obtain ⟨a, a1, a2⟩ := h1
  exact ⟨_, pss_one a1, a2⟩
def yBreak : TDS := fun Dd δ => Dd.bk δ
def yCont : TDS := fun Dd δ => Dd.ct δ
theorem ds_pass : DS p X W (.Pass pos) yNext := ⟨_, ps_pass, fun Gb G σ H δ D Dd s r q h => h.nx G σ H δ s r q⟩
theorem ds_break : DS p X W (.Break pos) yBreak := ⟨_, ps_break, fun Gb G σ H δ D Dd s r q h => h.bk G σ H δ s r q⟩
theorem ds_continue : DS p X W (.Continue pos) yCont := ⟨_, ps_continue, fun Gb G σ H δ D Dd s r q h => h.ct G σ H δ s r q⟩
theorem ds_doc {x : Str} {j pos pos'} : DS p X W (.Expr (.Constant (.str x) j pos) pos') yNext := ⟨_, ps_doc, fun Gb G σ H δ D Dd s r q h => h.nx G σ H δ s r q⟩
def yNever : TDS := fun _ _ => False
theorem ds_never : DS p X W st yNever := ⟨_, ps_never, fun Gb G σ H δ D Dd s r q h => q.elim⟩
theorem dss_never {sts : List Stmt} : DSs p X W sts yNever := ⟨_, pss_never, fun Gb G σ H δ D Dd s r q h => q.elim⟩

/-- an expression of whose value nothing is kept: the own things stay own -/
def yExpr (S : List Nat) (te : TDE) : TDS := fun Dd δ => te (frz S δ) (fun _ => Dd.nx δ) (fun c fs => Dd.xc c fs (frz S δ))
theorem ds_expr (S : List Nat) (he : DE p X W e te) (hs : swapsWith e none pos.line X.env = pure false := by rfl) : DS p X W (.Expr e pos) (yExpr S te) := by
  obtain ⟨a, a1, a2⟩ := he
  refine ⟨_, ps_expr a1 hs, fun Gb G σ H δ D Dd s r q h => ?_⟩
  obtain ⟨G1, g1, r1⟩ := DR.freeze (S := S) r
  exact a2 G1 σ H _ _ _ _ r1 q (fun G2 H2 v d e2 _ q2 => h.nx G σ H2 δ s (r.backE g1 e2) q2) (h.x (s.trans g1) r1)
def yRet (S : List Nat) (te : TDE) : TDS := fun Dd δ => te (frz S δ) Dd.rt (fun c fs => Dd.xc c fs (frz S δ))
theorem ds_ret (S : List Nat) (he : DE p X W e te) : DS p X W (.Return (some e) pos) (yRet S te) := by
  obtain ⟨a, a1, a2⟩ := he
  refine ⟨_, ps_ret a1, fun Gb G σ H δ D Dd s r q h => ?_⟩
  obtain ⟨G1, g1, r1⟩ := DR.freeze (S := S) r
  exact a2 G1 σ H _ _ _ _ r1 q (fun G2 H2 v d e2 r2 q2 => h.rt G2 σ H2 _ v d ((s.trans g1).trans e2.gg) (r1.ext e2) r2 q2) (h.x (s.trans g1) r1)
def yRetN : TDS := fun Dd _ => Dd.rt .non
theorem ds_retN : DS p X W (.Return none pos) yRetN := ⟨_, ps_retN, fun Gb G σ H δ D Dd s r q h => h.rt G σ H δ _ _ s r (rep_sc rfl) q⟩
def yIf (S : List Nat) (tt : TDT) (t u : TDS) : TDS := fun Dd δ => tt (frz S δ) (fun k => if k = true then t Dd δ else u Dd δ) (fun c fs => Dd.xc c fs (frz S δ))
theorem ds_if (S : List Nat) {a b : List Stmt} (hc : DT p X W c tt) (ha : DSs p X W a t) (hb : DSs p X W b u) : DS p X W (.If c a b pos) (yIf S tt t u) := by
  obtain ⟨x, x1, x2⟩ := hc
  obtain ⟨y, y1, y2⟩ := ha
  obtain ⟨z, z1, z2⟩ := hb
  refine ⟨_, ps_if x1 y1 z1, fun Gb G σ H δ D Dd s r q h => ?_⟩
  obtain ⟨G1, g1, r1⟩ := DR.freeze (S := S) r
  refine x2 G1 σ H _ _ _ _ r1 q (fun G2 H2 k e2 q2 => ?_) (h.x (s.trans g1) r1)
  cases k with
  | true =>
    rw [if_pos rfl] at q2 ⊢
    exact y2 Gb G σ H2 δ D Dd s (r.backE g1 e2) q2 h
  | false =>
    rw [if_neg Bool.false_ne_true] at q2 ⊢
    exact z2 Gb G σ H2 δ D Dd s (r.backE g1 e2) q2 h
/-- is it a scalar -/
def D.sc : D → Bool
  | .non => true
  | .bl _ => true
  | .int _ => true
  | .str _ => true
  | .ty _ => true
  | .adr _ => true
  | _ => false
theorem rep_of_sc {d : D} {v : V} {G G' : Hp} (h : d.sc = true) (r : Rep K G d v) : Rep K G' d v := by
  cases d <;> first | (unfold Rep at r ⊢; exact r) | exact absurd (show false = true from h) Bool.false_ne_true
/-- x = e -/
def ySet (S : List Nat) (i : Nat) (te : TDE) : TDS := fun Dd δ => te (frz S δ) (fun d => Dd.nx ((if d.sc = true then δ else frz S δ).set i (.val d))) (fun c fs => Dd.xc c fs (frz S δ))
theorem refSet {a : TE} (S : List Nat) (i : Nat) (a2 : RefE K p W a te) : RefS K p W (tAsg a (gName i)) (ySet S i te) := by
  intro Gb G σ H δ D Dd s r q h
  obtain ⟨G1, g1, r1⟩ := DR.freeze (S := S) r
  refine a2 G1 σ H _ _ _ _ r1 q (fun G2 H2 v d e2 r2 q2 => ?_) (h.x (s.trans g1) r1)
  by_cases hd : d.sc = true
  · rw [if_pos hd] at q2
    exact h.nx G _ H2 _ s ((r.backE g1 e2).set (s := .val d) ⟨v, rfl, rep_of_sc hd r2⟩) q2
  · rw [if_neg hd] at q2
    exact h.nx G2 _ H2 _ ((s.trans g1).trans e2.gg) ((r1.ext e2).set (s := .val d) ⟨v, rfl, r2⟩) q2
theorem ds_set (S : List Nat) (i : Nat) {x : Str} {pos' : Pos} (hN : X.N.Nodup) (he : DE p X W e te) (hi : X.N[i]? = some x := by rfl) (hx : Loc X.env.scope x := by first | exact .inl rfl | exact .inr rfl) (hs : swapsWith e (some (.Name x pos')) pos.line X.env = pure false := by rfl)
    (hf : X.fn x = true ∨ X.env.scope.names.lookup x = some .local := by first | exact .inl rfl | exact .inr rfl | assumption) : DS p X W (.Assign [.Name x pos'] e pos) (ySet S i te) := by
  obtain ⟨a, a1, a2⟩ := he
  exact ⟨_, ps_set hN hi hx a1 hs hf, refSet S i a2⟩

abbrev TDG := D → DSt → (DSt → Prop) → Prop
/-- the slots outside of vs stay -/
def Outs (vs : List Nat) (σ σ' : VSt) : Prop := σ'.length = σ.length ∧ ∀ j, j ∉ vs → σ'[j]? = σ[j]?
theorem Outs.refl {vs : List Nat} {σ : VSt} : Outs vs σ σ := ⟨rfl, fun _ _ => rfl⟩
theorem Outs.trans {vs ws : List Nat} {σ σ1 σ2 : VSt} (a : Outs vs σ σ1) (b : Outs ws σ1 σ2) : Outs (vs ++ ws) σ σ2 :=
  ⟨b.1.trans a.1, fun j h => by
    rw [List.mem_append, not_or] at h
    exact (b.2 j h.2).trans (a.2 j h.1)⟩
def RefG (K : PySem.W.Frag) (p : Pr) (ix : List Nat) (g : TG) (gd : TDG) : Prop :=
  ∀ (G : Hp) (σ : VSt) (H : Hp) (δ : DSt) (d : D) (v : V) (Q : VSt → Hp → Prop) (Qd : DSt → Prop), DR K p G σ H δ → Rep K G d v → gd d δ Qd →
    (∀ G' σ' H' δ', Same G G' → DR K p G' σ' H' δ' → (∀ a o, a ≠ p.b.a → NT o → H a = some o → H' a = some o) → (∀ a o, H a = some o → NT o → G' a ≠ none → G a ≠ none) → Outs ix σ σ' → Qd δ' → Q σ' H') → g v σ H Q
structure DG (p : Pr) (X : Cx) (tg : Expr) (ix : List Nat) (gd : TDG) : Prop where
  ex : ∃ g : TG, PG X tg g ∧ RefG X.K p ix g gd
abbrev TDGs := List D → DSt → (DSt → Prop) → Prop
def RefGs (K : PySem.W.Frag) (p : Pr) (ix : List Nat) (g : TGs) (gd : TDGs) : Prop :=
  ∀ (G : Hp) (σ : VSt) (H : Hp) (δ : DSt) (ds : List D) (vs : List V) (Q : VSt → Hp → Prop) (Qd : DSt → Prop), DR K p G σ H δ → Reps K G ds vs → gd ds δ Qd →
    (∀ G' σ' H' δ', Same G G' → DR K p G' σ' H' δ' → (∀ a o, a ≠ p.b.a → NT o → H a = some o → H' a = some o) → (∀ a o, H a = some o → NT o → G' a ≠ none → G a ≠ none) → Outs ix σ σ' → Qd δ' → Q σ' H') → g vs σ H Q
structure DGs (p : Pr) (X : Cx) (tgs : List Expr) (ix : List Nat) (gd : TDGs) : Prop where
  ex : ∃ g : TGs, PGs X tgs g ∧ RefGs X.K p ix g gd
def zName (i : Nat) : TDG := fun d δ Q => Q (δ.set i (.val d))
theorem dg_name (i : Nat) {x : Str} (hN : X.N.Nodup) (hi : X.N[i]? = some x := by rfl) (hx : Loc X.env.scope x := by first | exact .inl rfl | exact .inr rfl)
    (hf : X.fn x = true ∨ X.env.scope.names.lookup x = some .local := by first | exact .inl rfl | exact .inr rfl | assumption) : DG p X (.Name x pos) [i] (zName i) :=
  ⟨_, pg_name hN hi hx hf, fun G σ H δ d v Q Qd r rv q k => k G _ H _ (Same.refl _) (r.set (s := .val d) ⟨v, rfl, rv⟩) (fun _ _ _ _ h => h) (fun _ _ _ _ h => h)
    ⟨List.length_set, fun j hj => List.getElem?_set_ne (fun e => hj (by rw [e]; exact List.mem_cons_self))⟩ q⟩
def zNil : TDGs := fun ds δ Q => ds = [] ∧ Q δ
def zCons (g : TDG) (gs : TDGs) : TDGs := fun ds δ Q => match ds with
  | d :: r => g d δ fun δ1 => gs r δ1 Q
  | [] => False
theorem dgs_nil : DGs p X [] [] zNil := ⟨_, pgs_nil, fun G σ H δ ds vs Q Qd r rv q k => by
  obtain ⟨rfl, q⟩ := q
  rw [Reps.nil_iff.mp rv]
  exact ⟨rfl, k G σ H δ (Same.refl _) r (fun _ _ _ _ h => h) (fun _ _ _ _ h => h) Outs.refl q⟩⟩
theorem dgs_cons {e1 : Expr} {es : List Expr} {g : TDG} {gs : TDGs} {ix iy : List Nat} (h1 : DG p X e1 ix g) (h2 : DGs p X es iy gs) (hs : (assignEach (e1 :: es) X.env).map (·.2) = assign e1 X.env :: (assignEach es X.env).map (·.2) := by rfl) : DGs p X (e1 :: es) (ix ++ iy) (zCons g gs) := by
  obtain ⟨a, a1, a2⟩ := h1
  obtain ⟨b, b1, b2⟩ := h2
  refine ⟨_, pgs_cons a1 b1 hs, fun G σ H δ ds vs Q Qd r rv q k => ?_⟩
  cases ds with
  | nil => exact q.elim
  | cons d ds =>
    obtain ⟨v, w, rfl, r1, r2⟩ := Reps.cons_iff.mp rv
    refine ⟨v, w, rfl, ?_⟩
    refine a2 G σ H δ d v _ _ r r1 q fun G1 σ1 H1 δ1 s1 d1 k1 n1 o1 q1 => ?_
    exact b2 G1 σ1 H1 δ1 ds w _ _ d1 (r2.mono s1) q1 fun G2 σ2 H2 δ2 s2 d2 k2 n2 o2 q2 => k G2 σ2 H2 δ2 (s1.trans s2) d2 (fun a o n t h => k2 a o n t (k1 a o n t h))
      (fun a o h t g => by
        by_cases e : a = p.b.a
        · exact absurd (by rw [e]; exact d2.bag.1) g
        · exact n1 a o h t (n2 a o (k1 a o e t h) t g)) (o1.trans o2) q2
def zTup (n : Nat) (gs : TDGs) : TDG := fun d δ Q => match d with
  | .tup ds => ds.length = n ∧ gs ds δ Q
  | _ => False
theorem dg_tup {es : List Expr} {k : Nat} {gs : TDGs} {ix : List Nat} {n : Nat} (hc : X.calm = true) (h : DGs p X es ix gs)
    (hn : (assignEach es X.env).length = n := by rfl) (hst : (assignEach es X.env).findIdx? (·.1) = none := by rfl) : DG p X (.Tuple es k pos) ix (zTup n gs) := by
  obtain ⟨a, a1, a2⟩ := h
  refine ⟨_, pg_tup hc a1 hn hst, fun G σ H δ d v Q Qd r rv q k => ?_⟩
  cases d <;> try exact q.elim
  obtain ⟨c, vs, rfl, c1, c2⟩ := rep_tupI.mp rv
  exact ⟨c, vs, rfl, sameT r.sub c1, by rw [← c2.length]; exact q.1, a2 G σ H δ _ vs _ _ r c2 q.2 k⟩
/-- target = e, the target no plain name -/
def yAsg (S : List Nat) (te : TDE) (g : TDG) : TDS := fun Dd δ => te (frz S δ) (fun d => g d (frz S δ) Dd.nx) (fun c fs => Dd.xc c fs (frz S δ))
theorem ds_asg (S : List Nat) {tg : Expr} {g : TDG} {ix : List Nat} (he : DE p X W e te) (hg : DG p X tg ix g) (hs : swapsWithSole [tg] e pos.line X.env = pure false := by rfl) (hw : swappedStores [tg] e X.env = pure none := by rfl)
    (h1 : (assignEach [tg] X.env).map (·.2) = [assign tg X.env] := by rfl) : DS p X W (.Assign [tg] e pos) (yAsg S te g) := by
  obtain ⟨a, a1, a2⟩ := he
  obtain ⟨b, b1, b2⟩ := hg
  refine ⟨_, ps_asg a1 b1 hs hw h1, fun Gb G σ H δ D Dd s r q h => ?_⟩
  obtain ⟨G1, g1, r1⟩ := DR.freeze (S := S) r
  refine a2 G1 σ H _ _ _ _ r1 q (fun G2 H2 v d e2 r2 q2 => ?_) (h.x (s.trans g1) r1)
  exact b2 G2 σ H2 _ d v _ _ (r1.ext e2) r2 q2 fun G3 σ3 H3 δ3 s3 r3 _ _ _ q3 => h.nx G3 σ3 H3 δ3 (((s.trans g1).trans e2.gg).trans s3) r3 q3

structure ItOk (K : PySem.W.Frag) (b : Bag) (G1 : Hp) (J : It) (items : List D) : Prop where
  go : ∀ G H i, Same G1 G → Same G H → i < items.length → J.go i H
  stop : ∀ G H, Same G1 G → Same G H → J.stop items.length H
  yld : ∀ G H i x H', Same G1 G → Same G H → BagOk K b G H → i < items.length → J.yld i H x H' → ∃ G' d, items[i]? = some d ∧ Ext K b G H G' H' ∧ Rep K G' d x
abbrev TDI := DSt → (List D → Prop) → XD → Prop
def RefI (K : PySem.W.Frag) (p : Pr) (W : WX) (wi : TI) (ti : TDI) : Prop :=
  ∀ (G : Hp) (σ : VSt) (H : Hp) (δ : DSt) (R : It → Hp → Prop) (Rd : List D → Prop) (Ed : XD), DR K p G σ H δ → ti δ Rd Ed →
    (∀ G' H' J items, Ext K p.b G H G' H' → ItOk K p.b G' J items → Rd items → R J H') → XOk K p.b W G σ H Ed → wi σ H R
structure DI (p : Pr) (X : Cx) (W : WX) (tg iter : Expr) (ti : TDI) : Prop where
  ex : ∃ wi : TI, PI X tg iter wi ∧ RefI X.K p W wi ti
theorem itl_ok {b : Bag} {G1 : Hp} {a : Addr} {ds : List D} {vs : List V} (h : G1 a = some (.lst vs)) (r : Reps K G1 ds vs) : ItOk K b G1 (Itl K a) ds := by
  have l := r.length
  refine ⟨fun G H i s1 s2 hi => ?_, fun G H s1 s2 => ?_, fun G H i x H' s1 s2 hb hi hy => ?_⟩
  · exact ⟨vs, vs[i]'(by rw [← l]; exact hi), SqL.of (s2 _ _ (s1 _ _ h)), by simp [l ▸ hi]⟩
  · exact ⟨vs, SqL.of (s2 _ _ (s1 _ _ h)), by rw [l]; exact Nat.le_refl _⟩
  · obtain ⟨rfl, hy⟩ := hy
    obtain ⟨d, h1, h2⟩ := r.getV (hy vs (SqL.of (s2 _ _ (s1 _ _ h))))
    exact ⟨G, d, h1, Ext.refl s2 hb, h2.mono s1⟩
theorem itt_ok {b : Bag} {G1 : Hp} {a : Addr} {ds : List D} {vs : List V} (h : SqT K G1 a vs) (r : Reps K G1 ds vs) : ItOk K b G1 (Itt K a) ds := by
  have l := r.length
  refine ⟨fun G H i s1 s2 hi => ?_, fun G H s1 s2 => ?_, fun G H i x H' s1 s2 hb hi hy => ?_⟩
  · exact ⟨vs, vs[i]'(by rw [← l]; exact hi), sameT s2 (sameT s1 h), by simp [l ▸ hi]⟩
  · exact ⟨vs, sameT s2 (sameT s1 h), by rw [l]; exact Nat.le_refl _⟩
  · obtain ⟨rfl, hy⟩ := hy
    obtain ⟨d, h1, h2⟩ := r.getV (hy vs (sameT s2 (sameT s1 h)))
    exact ⟨G, d, h1, Ext.refl s2 hb, h2.mono s1⟩
def rangeD (lo : Int) (n : Nat) : List D := (List.range n).map fun (k : Nat) => D.int (lo + ((k : Nat) : Int))
theorem itr_ok {b : Bag} {G1 : Hp} (lo : Int) (n : Nat) : ItOk K b G1 (Itr lo n) (rangeD lo n) := by
  have l : (rangeD lo n).length = n := by unfold rangeD; simp
  refine ⟨fun G H i s1 s2 hi => by rw [l] at hi; exact hi, fun G H s1 s2 => by rw [l]; exact Nat.le_refl _, fun G H i x H' s1 s2 hb hi hy => ?_⟩
  obtain ⟨rfl, rfl⟩ := hy
  rw [l] at hi
  exact ⟨G, .int (lo + (i : Int)), by unfold rangeD; simp [hi], Ext.refl s2 hb, rep_sc rfl⟩
/-- the signs of a text -/
def signsD (z : Str) : List D := z.cps.toList.map fun c => .str ⟨#[c]⟩
theorem its_ok {b : Bag} {G1 : Hp} (z : Str) : ItOk K b G1 (Its z) (signsD z) := by
  have l : (signsD z).length = z.cps.size := by unfold signsD; simp
  refine ⟨fun G H i s1 s2 hi => by rw [l] at hi; exact hi, fun G H s1 s2 => by rw [l]; exact Nat.le_refl _, fun G H i x H' s1 s2 hb hi hy => ?_⟩
  obtain ⟨rfl, c, h1, rfl⟩ := hy
  refine ⟨G, .str ⟨#[c]⟩, ?_, Ext.refl s2 hb, rep_sc rfl⟩
  unfold signsD
  rw [List.getElem?_map, Array.getElem?_toList, h1]; rfl
/-- iteration over a list -/
def xiSeq (te : TDE) : TDI := fun δ R E => te δ (fun d => match d with | .lst ds => R ds | _ => False) E
def xiTup (te : TDE) : TDI := fun δ R E => te δ (fun d => match d with | .tup ds => R ds | _ => False) E
def xiStr (te : TDE) : TDI := fun δ R E => te δ (fun d => match d with | .str z => R (signsD z) | _ => False) E
variable {tg : Expr}
theorem di_list (he : DE p X W e te) : DI p X W tg e (xiSeq te) := by
  obtain ⟨a, a1, a2⟩ := he
  refine ⟨_, pi_list a1, fun G σ H δ R Rd Ed r q k x => ?_⟩
  refine a2 G σ H δ _ _ Ed r q (fun G1 H1 v d e1 r1 q1 => ?_) x
  cases d <;> try exact q1.elim
  obtain ⟨c, vs, rfl, c1, c2⟩ := rep_lstI.mp r1
  exact ⟨c, rfl, ⟨vs, SqL.of (e1.sub _ _ c1)⟩, k G1 H1 _ _ e1 (itl_ok c1 c2) q1⟩
theorem di_tup (he : DE p X W e te) : DI p X W tg e (xiTup te) := by
  obtain ⟨a, a1, a2⟩ := he
  refine ⟨_, pi_tup a1, fun G σ H δ R Rd Ed r q k x => ?_⟩
  refine a2 G σ H δ _ _ Ed r q (fun G1 H1 v d e1 r1 q1 => ?_) x
  cases d <;> try exact q1.elim
  obtain ⟨c, vs, rfl, c1, c2⟩ := rep_tupI.mp r1
  exact ⟨c, rfl, ⟨vs, sameT e1.sub c1⟩, k G1 H1 _ _ e1 (itt_ok c1 c2) q1⟩
theorem di_str (he : DE p X W e te) : DI p X W tg e (xiStr te) := by
  obtain ⟨a, a1, a2⟩ := he
  refine ⟨_, pi_str a1, fun G σ H δ R Rd Ed r q k x => ?_⟩
  refine a2 G σ H δ _ _ Ed r q (fun G1 H1 v d e1 r1 q1 => ?_) x
  cases d <;> try exact q1.elim
  rw [rep_str.mp r1]
  exact ⟨_, rfl, k G1 H1 _ _ e1 (its_ok _) q1⟩
def xiRng1 (ts : TDA) : TDI := fun δ R E => ts δ (fun xs => match xs with | [.int j] => -(2 ^ 62) ≤ j ∧ j < 2 ^ 62 ∧ R (rangeD 0 j.toNat) | _ => False) E
theorem di_range1 {p' : Pos} {ts : TDA} (hg : Gl X "range") (hm : X.mg "range" = none) (ha : DA p X W [e] ts) (hs : starEach [e] X.env = [(false, eval e X.env)] := by rfl) : DI p X W tg (.Call (.Name "range" p') [e] [] pos) (xiRng1 ts) := by
  obtain ⟨a, a1, a2⟩ := ha
  refine ⟨_, pi_range1 hg hm a1 hs, fun G σ H δ R Rd Ed r q k x => ?_⟩
  refine a2 G σ H δ _ _ Ed r q (fun G1 H1 vs ds e1 r1 q1 => ?_) x
  split at q1
  · obtain ⟨v, rfl, r2⟩ := reps1 r1
    rw [rep_int.mp r2]
    exact ⟨_, rfl, q1.1, q1.2.1, k G1 H1 _ _ e1 (itr_ok _ _) q1.2.2⟩
  · exact q1.elim
def xiRng2 (ts : TDA) : TDI := fun δ R E => ts δ (fun xs => match xs with | [.int i, .int j] => (-(2 ^ 62) ≤ i ∧ i < 2 ^ 62 ∧ -(2 ^ 62) ≤ j ∧ j < 2 ^ 62) ∧ R (rangeD i (j - i).toNat) | _ => False) E
theorem di_range2 {p' : Pos} {e2 : Expr} {ts : TDA} (hg : Gl X "range") (hm : X.mg "range" = none) (ha : DA p X W [e, e2] ts) (hs : starEach [e, e2] X.env = [(false, eval e X.env), (false, eval e2 X.env)] := by rfl) (hs2 : starEach [e2] X.env = [(false, eval e2 X.env)] := by rfl) : DI p X W tg (.Call (.Name "range" p') [e, e2] [] pos) (xiRng2 ts) := by
  obtain ⟨a, a1, a2⟩ := ha
  refine ⟨_, pi_range2 hg hm a1 hs hs2, fun G σ H δ R Rd Ed r q k x => ?_⟩
  refine a2 G σ H δ _ _ Ed r q (fun G1 H1 vs ds e1 r1 q1 => ?_) x
  split at q1
  · obtain ⟨v, w, rfl, r2, r3⟩ := Reps.cons_iff.mp r1
    obtain ⟨v2, rfl, r4⟩ := reps1 r3
    rw [rep_int.mp r2, rep_int.mp r4]
    exact ⟨_, _, rfl, q1.1, k G1 H1 _ _ e1 (itr_ok _ _) q1.2⟩
  · exact q1.elim
/-- enumerate of a list -/
def enumD (i : Nat) : List D → List D
  | [] => []
  | d :: r => .tup [.int (i : Int), d] :: enumD (i + 1) r
theorem enumD_len : ∀ (ds : List D) (i : Nat), (enumD i ds).length = ds.length
  | [], _ => rfl
  | d :: r, i => by show (enumD (i + 1) r).length + 1 = r.length + 1; rw [enumD_len r]
theorem enumD_get : ∀ (ds : List D) (i j : Nat) (d : D), ds[j]? = some d → (enumD i ds)[j]? = some (.tup [.int ((i + j : Nat) : Int), d])
  | [], _, _, _, h => by simp at h
  | d :: r, i, 0, d', h => by simp at h; subst h; rfl
  | d :: r, i, j + 1, d', h => by
    show (enumD (i + 1) r)[j]? = _
    rw [enumD_get r (i + 1) j d' (by simpa using h)]
    congr 4
    omega
theorem ite_ok {b : Bag} {G1 : Hp} {a : Addr} {ds : List D} {vs : List V} (h : G1 a = some (.lst vs)) (r : Reps K G1 ds vs) : ItOk K b G1 (Ite K a) (enumD 0 ds) := by
  have l := r.length
  refine ⟨fun G H i s1 s2 hi => ?_, fun G H s1 s2 => ?_, fun G H i x H' s1 s2 hb hi hy => ?_⟩
  · rw [enumD_len] at hi
    exact ⟨vs, vs[i]'(by rw [← l]; exact hi), SqL.of (s2 _ _ (s1 _ _ h)), by simp [l ▸ hi]⟩
  · rw [enumD_len]
    exact ⟨vs, SqL.of (s2 _ _ (s1 _ _ h)), by rw [l]; exact Nat.le_refl _⟩
  · obtain ⟨T, y, rfl, hn, rfl, hy⟩ := hy
    obtain ⟨d, h1, h2⟩ := r.getV (hy vs (SqL.of (s2 _ _ (s1 _ _ h))))
    refine ⟨_, _, enumD_get ds 0 i d h1, Ext.laid s2 hb hn, rep_tup s2 hn ?_⟩
    rw [Nat.zero_add]
    exact Reps.cons (rep_sc rfl) (Reps.cons (h2.mono s1) Reps.nil)
def xiEnum (ts : TDA) : TDI := fun δ R E => ts δ (fun xs => match xs with | [.lst ds] => R (enumD 0 ds) | _ => False) E
theorem di_enum {p' tpos : Pos} {elts : List Expr} {kk : Nat} {ts : TDA} (hg : Gl X "enumerate") (hm : X.mg "enumerate" = none) (ha : DA p X W [e] ts) (hs : starEach [e] X.env = [(false, eval e X.env)] := by rfl) : DI p X W (.Tuple elts kk tpos) (.Call (.Name "enumerate" p') [e] [] pos) (xiEnum ts) := by
  obtain ⟨a, a1, a2⟩ := ha
  refine ⟨_, pi_enum hg hm a1 hs, fun G σ H δ R Rd Ed r q k x => ?_⟩
  refine a2 G σ H δ _ _ Ed r q (fun G1 H1 vs ds e1 r1 q1 => ?_) x
  split at q1
  · obtain ⟨v, rfl, r2⟩ := reps1 r1
    obtain ⟨c, vs, rfl, c1, c2⟩ := rep_lstI.mp r2
    exact ⟨c, vs, rfl, SqL.of (e1.sub _ _ c1), k G1 H1 _ _ e1 (ite_ok c1 c2) q1⟩
  · exact q1.elim
/-- zip of two lists, of two tuples -/
def zipD : List D → List D → List D
  | a :: r, b :: s => .tup [a, b] :: zipD r s
  | _, _ => []
theorem zipD_len : ∀ (xs ys : List D), (zipD xs ys).length = min xs.length ys.length
  | [], _ => by simp [zipD]
  | _ :: _, [] => by simp [zipD]
  | a :: r, b :: s => by
    show (zipD r s).length + 1 = _
    rw [zipD_len r s, List.length_cons, List.length_cons]; omega
theorem zipD_get : ∀ (xs ys : List D) (i : Nat) (x y : D), xs[i]? = some x → ys[i]? = some y → (zipD xs ys)[i]? = some (.tup [x, y])
  | [], _, _, _, _, h, _ => by simp at h
  | _ :: _, [], _, _, _, _, h => by simp at h
  | a :: r, b :: s, 0, x, y, h1, h2 => by simp at h1 h2; subst h1; subst h2; rfl
  | a :: r, b :: s, i + 1, x, y, h1, h2 => zipD_get r s i x y (by simpa using h1) (by simpa using h2)
theorem itz_ok {b : Bag} {G1 : Hp} {a a' : Addr} {ds es : List D} {vs ws : List V} (h : G1 a = some (.lst vs)) (h' : G1 a' = some (.lst ws)) (r : Reps K G1 ds vs) (r' : Reps K G1 es ws) : ItOk K b G1 (Itz K a a') (zipD ds es) := by
  have l := r.length
  have l' := r'.length
  refine ⟨fun G H i s1 s2 hi => ?_, fun G H s1 s2 => ?_, fun G H i x H' s1 s2 hb hi hy => ?_⟩
  · rw [zipD_len] at hi
    exact ⟨vs, ws, vs[i]'(by omega), ws[i]'(by omega), SqL.of (s2 _ _ (s1 _ _ h)), SqL.of (s2 _ _ (s1 _ _ h')), by simp, by simp⟩
  · rw [zipD_len]
    exact ⟨vs, ws, SqL.of (s2 _ _ (s1 _ _ h)), SqL.of (s2 _ _ (s1 _ _ h')), by omega⟩
  · obtain ⟨T, y, z, rfl, hn, rfl, hy, hz⟩ := hy
    obtain ⟨d, h1, h2⟩ := r.getV (hy vs (SqL.of (s2 _ _ (s1 _ _ h))))
    obtain ⟨d', h3, h4⟩ := r'.getV (hz ws (SqL.of (s2 _ _ (s1 _ _ h'))))
    exact ⟨_, _, zipD_get ds es i d d' h1 h3, Ext.laid s2 hb hn, rep_tup s2 hn (Reps.cons (h2.mono s1) (Reps.cons (h4.mono s1) Reps.nil))⟩
theorem itzT_ok {b : Bag} {G1 : Hp} {a a' : Addr} {ds es : List D} {vs ws : List V} (h : SqT K G1 a vs) (h' : SqT K G1 a' ws) (r : Reps K G1 ds vs) (r' : Reps K G1 es ws) : ItOk K b G1 (RZ.ItzT K a a') (zipD ds es) := by
  have l := r.length
  have l' := r'.length
  refine ⟨fun G H i s1 s2 hi => ?_, fun G H s1 s2 => ?_, fun G H i x H' s1 s2 hb hi hy => ?_⟩
  · rw [zipD_len] at hi
    exact ⟨vs, ws, vs[i]'(by omega), ws[i]'(by omega), sameT s2 (sameT s1 h), sameT s2 (sameT s1 h'), by simp, by simp⟩
  · rw [zipD_len]
    exact ⟨vs, ws, sameT s2 (sameT s1 h), sameT s2 (sameT s1 h'), by omega⟩
  · obtain ⟨T, y, z, rfl, hn, rfl, hy, hz⟩ := hy
    obtain ⟨d, h1, h2⟩ := r.getV (hy vs (sameT s2 (sameT s1 h)))
    obtain ⟨d', h3, h4⟩ := r'.getV (hz ws (sameT s2 (sameT s1 h')))
    exact ⟨_, _, zipD_get ds es i d d' h1 h3, Ext.laid s2 hb hn, rep_tup s2 hn (Reps.cons (h2.mono s1) (Reps.cons (h4.mono s1) Reps.nil))⟩
def xiZip (ts : TDA) : TDI := fun δ R E => ts δ (fun xs => match xs with | [.lst ds, .lst es] => R (zipD ds es) | [.tup ds, .tup es] => R (zipD ds es) | _ => False) E
theorem di_zip {p' tpos : Pos} {e2 : Expr} {elts : List Expr} {kk : Nat} {ts : TDA} (hg : Gl X "zip") (hm : X.mg "zip" = none) (ha : DA p X W [e, e2] ts)
    (hs : starEach [e, e2] X.env = (false, eval e X.env) :: starEach [e2] X.env := by rfl) (hpl : (backTo pos (starEach [e2] X.env)).any (·.1) = false := by rfl) : DI p X W (.Tuple elts kk tpos) (.Call (.Name "zip" p') [e, e2] [] pos) (xiZip ts) := by
  obtain ⟨a, a1, a2⟩ := ha
  refine ⟨_, RZ.pi_zipA hg hm a1 hs hpl, fun G σ H δ R Rd Ed r q k x => ?_⟩
  refine a2 G σ H δ _ _ Ed r q (fun G1 H1 vs ds e1 r1 q1 => ?_) x
  split at q1
  · obtain ⟨v, w, rfl, r2, r3⟩ := Reps.cons_iff.mp r1
    obtain ⟨v2, rfl, r4⟩ := reps1 r3
    obtain ⟨c, vs, rfl, c1, c2⟩ := rep_lstI.mp r2
    obtain ⟨c', vs', rfl, c3, c4⟩ := rep_lstI.mp r4
    exact ⟨c, c', vs, vs', rfl, .inl ⟨SqL.of (e1.sub _ _ c1), SqL.of (e1.sub _ _ c3), k G1 H1 _ _ e1 (itz_ok c1 c3 c2 c4) q1⟩⟩
  · obtain ⟨v, w, rfl, r2, r3⟩ := Reps.cons_iff.mp r1
    obtain ⟨v2, rfl, r4⟩ := reps1 r3
    obtain ⟨c, vs, rfl, c1, c2⟩ := rep_tupI.mp r2
    obtain ⟨c', vs', rfl, c3, c4⟩ := rep_tupI.mp r4
    exact ⟨c, c', vs, vs', rfl, .inr ⟨sameT e1.sub c1, sameT e1.sub c3, k G1 H1 _ _ e1 (itzT_ok c1 c3 c2 c4) q1⟩⟩
  · exact q1.elim

def loopD (g : TDG) (tb : TDS) (Dd : DEnds) : List D → DSt → Prop
  | [], δ => Dd.nx δ
  | d :: ds, δ => g d δ fun δ1 => tb { nx := loopD g tb Dd ds, ct := loopD g tb Dd ds, bk := Dd.nx, rt := Dd.rt, xc := Dd.xc, ro := Dd.ro } δ1
def yFor (S : List Nat) (ti : TDI) (g : TDG) (tb : TDS) : TDS := fun Dd δ => ti (frz S δ) (fun items => loopD g tb Dd items (frz S δ)) (fun c fs => Dd.xc c fs (frz S δ))
theorem ds_for (S : List Nat) {iter : Expr} {body : List Stmt} {ti : TDI} {g : TDG} {tb : TDS} {ix : List Nat} (hp : PassesOwn (model X.prog X.w) X.A X.env X.xe) (hc : X.calm = true) (hi : DI p X W tg iter ti) (hg : DG p X tg ix g) (hb : DSs p X W body tb)
    (hs : ∀ x, foldedSetIterable iter X.env x = pure x := by intro _; rfl) : DS p X W (.For tg iter body [] pos) (yFor S ti g tb) := by
  obtain ⟨a, a1, a2⟩ := hi
  obtain ⟨b, b1, b2⟩ := hg
  obtain ⟨f, f1, f2⟩ := hb
  refine ⟨_, ps_for hp hc a1 b1 f1 hs, fun Gb G σ H δ D Dd s r q h => ?_⟩
  obtain ⟨G1, g1, r1⟩ := DR.freeze (S := S) r
  refine a2 G1 σ H _ _ _ _ r1 q (fun G2 H2 J items e2 it q2 => ?_) (h.x (s.trans g1) r1)
  have s2 : Same Gb G2 := (s.trans g1).trans e2.gg
  refine ⟨fun i m σ H => m = items.length - i ∧ i ≤ items.length ∧ ∃ G δ, Same G2 G ∧ DR X.K p G σ H δ ∧ loopD g tb Dd (items.drop i) δ, ⟨_, rfl, Nat.zero_le _, G2, _, Same.refl _, r1.ext e2, q2⟩, ?_⟩
  rintro i m σ3 H3 ⟨rfl, hi, G3, δ3, s3, r3, q3⟩
  by_cases hlt : i < items.length
  · refine .inr ⟨it.go G3 H3 i s3 r3.sub hlt, fun σ H => ∃ G δ, Same G2 G ∧ DR X.K p G σ H δ ∧ loopD g tb Dd (items.drop (i + 1)) δ, fun σ' H' ⟨G', δ', x1, x2, x3⟩ => ⟨items.length - (i + 1), by omega, rfl, hlt, G', δ', x1, x2, x3⟩, fun x H' y => ?_⟩
    obtain ⟨G4, d, h1, e4, r4⟩ := it.yld G3 H3 i x H' s3 r3.sub r3.bag hlt y
    have dr : items.drop i = d :: items.drop (i + 1) := by
      rw [List.drop_eq_getElem_cons hlt]
      congr 1
      rw [List.getElem?_eq_getElem hlt] at h1
      exact Option.some.inj h1
    rw [dr] at q3
    refine b2 G4 σ3 H' δ3 d x _ _ (r3.ext e4) r4 q3 fun G5 σ5 H5 δ5 s5 r5 _ _ _ q5 => ?_
    have s25 : Same G2 G5 := (s3.trans e4.gg).trans s5
    exact f2 G2 G5 σ5 H5 δ5 _ _ s25 r5 q5 ⟨fun G σ H δ z1 z2 z3 => ⟨G, δ, z1, z2, z3⟩, fun G σ H δ v d z1 => h.rt G σ H δ v d (s2.trans z1), fun G σ H δ z1 => h.nx G σ H δ (s2.trans z1), fun G σ H δ z1 z2 z3 => ⟨G, δ, z1, z2, z3⟩, fun G σ H δ c fs d vs z1 => h.xc G σ H δ c fs d vs (s2.trans z1), fun G σ H δ a us ds z1 => h.ro G σ H δ a us ds (s2.trans z1)⟩
  · have e : i = items.length := by omega
    subst e
    rw [List.drop_length] at q3
    exact .inl ⟨it.stop G3 H3 s3 r3.sub, h.nx G3 σ3 H3 δ3 (s2.trans s3) r3 q3⟩

def yWhile (S : List Nat) (tt : TDT) (tb : TDS) : TDS := fun Dd δ => ∃ P : Nat → DSt → Prop, (∃ m, P m δ) ∧ ∀ m δ, P m δ →
  tt (frz S δ) (fun k => if k = true then tb { nx := fun δ' => ∃ m', m' < m ∧ P m' δ', ct := fun δ' => ∃ m', m' < m ∧ P m' δ', bk := Dd.nx, rt := Dd.rt, xc := Dd.xc, ro := Dd.ro } δ else Dd.nx δ) (fun c fs => Dd.xc c fs (frz S δ))
theorem ds_while (S : List Nat) {body : List Stmt} {tb : TDS} (hp : PassesOwn (model X.prog X.w) X.A X.env X.xe) (hc : DT p X W c tt) (hb : DSs p X W body tb) : DS p X W (.While c body [] pos) (yWhile S tt tb) := by
  obtain ⟨a, a1, a2⟩ := hc
  obtain ⟨f, f1, f2⟩ := hb
  refine ⟨_, ps_while hp a1 f1, fun Gb G σ H δ D Dd s r q h => ?_⟩
  obtain ⟨P, ⟨m0, p0⟩, turn⟩ := q
  refine ⟨fun m σ H => ∃ G δ, Same Gb G ∧ DR X.K p G σ H δ ∧ P m δ, ⟨m0, G, δ, s, r, p0⟩, ?_⟩
  rintro m σ3 H3 ⟨G3, δ3, s3, r3, q3⟩
  obtain ⟨G1, g1, r1⟩ := DR.freeze (S := S) r3
  refine a2 G1 σ3 H3 _ _ _ _ r1 (turn m δ3 q3) (fun G2 H2 k e2 q2 => ?_) (h.x (s3.trans g1) r1)
  have rb := r3.backE g1 e2
  cases k with
  | true =>
    rw [if_pos rfl] at q2 ⊢
    refine ⟨fun σ H => ∃ m', m' < m ∧ ∃ G δ, Same Gb G ∧ DR X.K p G σ H δ ∧ P m' δ, fun σ' H' z => z, ?_⟩
    exact f2 Gb G3 σ3 H2 δ3 _ _ s3 rb q2 ⟨fun G σ H δ z1 z2 ⟨m', l, z3⟩ => ⟨m', l, G, δ, z1, z2, z3⟩, h.rt, h.nx, fun G σ H δ z1 z2 ⟨m', l, z3⟩ => ⟨m', l, G, δ, z1, z2, z3⟩, h.xc, h.ro⟩
  | false =>
    rw [if_neg Bool.false_ne_true] at q2 ⊢
    exact h.nx G3 σ3 H2 δ3 s3 rb q2

/-- the block's own names are forgotten -/
def wipeD (δ : DSt) : List Nat → DSt
  | [] => δ
  | i :: r => (wipeD δ r).set i .non
theorem DR.wipe (r : DR K p G σ H δ) : ∀ vs : List Nat, DR K p G (L2.wipe σ vs) H (wipeD δ vs)
  | [] => r
  | i :: vs => (DR.wipe r vs).set (s := .non) True.intro
theorem wipe_get (σ : VSt) : ∀ (vs : List Nat) (j : Nat), (L2.wipe σ vs)[j]? = if j ∈ vs then σ[j]?.map (fun _ => none) else σ[j]?
  | [], j => by simp [L2.wipe]
  | v :: vs, j => by
    unfold L2.wipe
    have ih := wipe_get σ vs j
    by_cases e : v = j
    · subst e
      rw [if_pos List.mem_cons_self]
      by_cases h : v < σ.length
      · rw [List.getElem?_set_self (by rw [L2.wipe_length]; exact h)]
        simp [h]
      · rw [List.getElem?_eq_none (by rw [List.length_set, L2.wipe_length]; omega), List.getElem?_eq_none (by omega)]
        rfl
    · rw [List.getElem?_set_ne e, ih]
      have : (j ∈ v :: vs) = (j ∈ vs) := by
        rw [List.mem_cons, eq_iff_iff]
        exact ⟨fun h => h.elim (fun z => absurd z.symm e) id, .inr⟩
      simp only [this]
theorem wipe_outs {vs ix : List Nat} {σ σ' : VSt} (h : Outs ix (L2.wipe σ vs) σ') (hs : ∀ j ∈ ix, j ∈ vs) : L2.wipe σ' vs = L2.wipe σ vs := by
  refine List.ext_getElem? fun j => ?_
  rw [wipe_get, wipe_get]
  by_cases hj : j ∈ vs
  · rw [if_pos hj, if_pos hj]
    have l : σ'.length = σ.length := h.1.trans (L2.wipe_length σ vs)
    by_cases q : j < σ.length
    · simp [q, l]
    · rw [List.getElem?_eq_none (by omega), List.getElem?_eq_none (by omega)]
  · rw [if_neg hj, if_neg hj]
    have z := h.2 j (fun m => hj (hs j m))
    rw [z, wipe_get, if_neg hj]
structure DTs (p : Pr) (X : Cx) (W : WX) (ifs : List Expr) (td : TDT) : Prop where
  ex : ∃ t : TT, PTs X ifs t ∧ RefT X.K p W t td
def xYes : TDT := fun _ Q _ => Q true
theorem dts_nil : DTs p X W [] xYes := ⟨_, pts_nil, fun G σ H δ Q Qd Ed r q k _ => k G H true r.refl q⟩
theorem dts_one {c : Expr} {tt : TDT} (h : DT p X W c tt) : DTs p X W [c] tt := by
  obtain ⟨t, h1, h2⟩ := h
  exact ⟨_, pts_one h1, h2⟩
/-- a block's wish: nothing leaves it by an exception -/
abbrev W0 : WX := fun _ _ _ _ => False
def compD (g : TDG) (tt : TDT) (te : TDE) (δ : DSt) : List D → (List D → Prop) → Prop
  | [], k => k []
  | d :: ds, k => g d δ fun δ1 => tt δ1 (fun b => if b = true then te δ1 (fun y => compD g tt te δ ds fun ys => k (y :: ys)) (fun _ _ => False) else compD g tt te δ ds k) (fun _ _ => False)
def xLc (vs : List Nat) (ti : TDI) (g : TDG) (tt : TDT) (te : TDE) : DSt → (List D → Prop) → XD → Prop := fun δ Q E => ti δ (fun items => items.length ≤ sizeLine ∧ compD g tt te (wipeD δ vs) items Q) E
theorem ref_lc {vs ix : List Nat} {wi : TI} {g : TG} {t : TT} {e : TE} {ti : TDI} {gd : TDG} {td : TDT} {ed : TDE} (hs : ∀ j ∈ ix, j ∈ vs) (hi : RefI K p W wi ti) (hg : RefG K p ix g gd) (ht : RefT K p W0 t td) (he : RefE K p W0 e ed)
    {Q : VK} {Qd : List D → Prop} {Ed : XD} (r : DR K p G σ H δ) (q : xLc vs ti gd td ed δ Qd Ed)
    (k : ∀ G' H' a ds us, Ext K p.b G H G' H' → H' a = some (.lst us) → Reps K G' ds us → G' a = none → Fr0 H a → Qd ds → Q (.ref a) H') (x : XOk K p.b W G σ H Ed) : tLc wi g t e vs σ H Q := by
  refine hi G σ H δ _ _ Ed r q (fun G1 H1 J items e1 it q1 => ?_) x
  intro A hA
  obtain ⟨hz, q1⟩ := q1
  have r1 := r.ext e1
  have nb : A ≠ p.b.a := fun z => r1.at (by rw [← z]; exact hA)
  have nG : G1 A = none := r1.sub.free hA
  have hHA : Fr0 H A := fun o z t => by rw [e1.keep A o nb t z] at hA; cases hA
  refine ⟨fun i m H => m = items.length - i ∧ i ≤ items.length ∧ ∃ G us ds, Ext K p.b G1 H1 G H ∧ G A = none ∧ H A = some (.lst us) ∧ Reps K G ds us ∧ us.length ≤ i ∧ compD gd td ed (wipeD δ vs) (items.drop i) (fun ys => Qd (ds ++ ys)),
    ⟨_, rfl, Nat.zero_le _, G1, [], [], ⟨Same.refl _, fun c o z => ?_, fun c o n t z => ?_, fun _ _ _ _ z => z, r1.bag.new hA⟩, nG, upd_same, Reps.nil, Nat.le_refl _, q1⟩, ?_⟩
  · rw [upd_ne (ne_of_none z nG)]; exact e1.sub _ _ z
  · rw [upd_ne (ne_of_none z hA)]; exact z
  rintro i m H2 ⟨rfl, hi', G2, us, ds, e2, nG2, hA2, rs2, hl2, q2⟩
  by_cases hlt : i < items.length
  · refine .inr ⟨it.go G2 H2 i e2.gg e2.sub hlt, fun H => ∃ G us ds, Ext K p.b G1 H1 G H ∧ G A = none ∧ H A = some (.lst us) ∧ Reps K G ds us ∧ us.length ≤ i + 1 ∧ compD gd td ed (wipeD δ vs) (items.drop (i + 1)) (fun ys => Qd (ds ++ ys)),
      fun H' ⟨G', us', ds', z⟩ => ⟨items.length - (i + 1), by omega, rfl, hlt, G', us', ds', z⟩, fun y H' hy => ?_⟩
    obtain ⟨G3, d, h3, e3, r3⟩ := it.yld G2 H2 i y H' e2.gg e2.sub e2.bag hlt hy
    have dr : items.drop i = d :: items.drop (i + 1) := by
      rw [List.drop_eq_getElem_cons hlt]
      congr 1
      rw [List.getElem?_eq_getElem hlt] at h3
      exact Option.some.inj h3
    rw [dr] at q2
    have e23 := e2.trans r1.at e3
    have nA : ∀ {Gx Hx : Hp}, Ext K p.b G2 H2 Gx Hx → Gx A = none := fun {Gx Hx} z => by
      cases w : Gx A with
      | none => rfl
      | some o => exact absurd nG2 (z.new A _ hA2 nt_lst (by rw [w]; exact fun v => nomatch v))
    have r3' : DR K p G3 (L2.wipe σ vs) H' (wipeD δ vs) := (r1.ext e23).wipe vs
    refine hg G3 (L2.wipe σ vs) H' (wipeD δ vs) d y _ _ r3' r3 q2 fun G4 σ4 H4 δ4 s4 r4 k4 n4 o4 q4 => ?_
    have e34 : Ext K p.b G3 H' G4 H4 := ⟨s4, r4.sub, k4, n4, r4.bag⟩
    have e24 := e3.trans e2.bag.at e34
    refine ⟨wipe_outs o4 hs, ?_⟩
    refine ht G4 σ4 H4 δ4 _ _ _ r4 q4 (fun G5 H5 b e5 q5 => ?_) (fun _ _ _ _ _ _ _ _ _ z => z)
    have e25 := e24.trans e2.bag.at e5
    have e15 := e2.trans r1.at e25
    cases b with
    | false =>
      rw [if_neg Bool.false_ne_true] at q5 ⊢
      exact ⟨G5, us, ds, e15, nA e25, e25.keep A _ nb nt_lst hA2, rs2.mono e25.gg, Nat.le_succ_of_le hl2, q5⟩
    | true =>
      rw [if_pos rfl] at q5 ⊢
      refine he G5 σ4 H5 δ4 _ _ _ (r4.ext e5) q5 (fun G6 H6 v d6 e6 r6 q6 => ?_) (fun _ _ _ _ _ _ _ _ _ z => z)
      have e26 := e25.trans e2.bag.at e6
      have e16 := e2.trans r1.at e26
      have nA6 := nA e26
      refine ⟨us, e26.keep A _ nb nt_lst hA2, by omega, G6, us ++ [v], ds ++ [d6], ⟨e16.gg, fun c o z => ?_, fun c o n t z => ?_, e16.new, e16.bag.upd nb fun o z => by
          rw [e26.keep A _ nb nt_lst hA2] at z; cases z
          exact chg_lst⟩, nA6, upd_same, (rs2.mono e26.gg).snoc r6, ?_, ?_⟩
      · rw [upd_ne (ne_of_none z nA6)]; exact e16.sub _ _ z
      · rw [upd_ne (ne_of_none z hA)]; exact e16.keep c o n t z
      · rw [List.length_append, List.length_singleton]; omega
      · have eq : (fun ys => Qd (ds ++ (d6 :: ys))) = fun ys => Qd (ds ++ [d6] ++ ys) := by
          funext ys
          rw [List.append_assoc]; rfl
        rw [← eq]
        exact q6
  · have e : i = items.length := by omega
    subst e
    rw [List.drop_length] at q2
    have q3 : Qd (ds ++ []) := q2
    rw [List.append_nil] at q3
    exact .inl ⟨it.stop G2 H2 e2.gg e2.sub, k G2 H2 A ds us (e1.trans r.at e2) hA2 rs2 nG2 hHA q3⟩
/-- a list that nobody else knows joins what stays -/
theorem lst_join {a : Addr} {us : List V} {ds : List D} {G' H' : Hp} (e : Ext K p.b G H G' H') (hb : ∃ o, H p.b.a = some o ∧ NT o) (h1 : H' a = some (.lst us)) (h2 : Reps K G' ds us) (h3 : G' a = none) (h4 : Fr0 H a) : Ext K p.b G H (upd G' a (.lst us)) H' ∧ Rep K (upd G' a (.lst us)) (.lst ds) (.ref a) := by
  have gg : Same G' (upd G' a (.lst us)) := fun c o z => by rw [upd_ne (ne_of_none z h3)]; exact z
  refine ⟨⟨e.gg.trans gg, fun c o z => ?_, e.keep, fun c o z t w => ?_, e.bag.g gg ?_ (e.bag.2.2.1.2.upd nt_lst)⟩, ?_⟩
  · by_cases q : c = a
    · rw [q, upd_same] at z; rw [q, h1]; exact z
    · rw [upd_ne q] at z; exact e.sub _ _ z
  · by_cases q : c = a
    · rw [q] at z; exact absurd t (h4 _ z)
    · rw [upd_ne q] at w; exact e.new c o z t w
  · rw [upd_ne (fun q => by
      obtain ⟨o, b1, b2⟩ := hb
      exact h4 o (by rw [← q]; exact b1) b2)]; exact e.bag.1
  · exact rep_lstI.mpr ⟨a, us, rfl, upd_same, h2.mono gg⟩
section
variable {elt iter : Expr} {ifs : List Expr} {scope : Scope} {own : List (Str × Nat)} {ix : List Nat} {ti : TDI} {g : TDG} {tt : TDT} {te : TDE}
/-- the comprehension's block: its parts' readings, one for all entries -/
theorem lc_parts (hi : DI p X W tg iter ti) (hg : ∀ (s : Shared) (H : Hp) (C : Addr) (cl : List (Str × Addr)) (fp : List Addr), DG p (X.blk s H scope (compEnvC scope cl C X.env) fp) tg ix g)
    (ht : ∀ (s : Shared) (H : Hp) (C : Addr) (cl : List (Str × Addr)) (fp : List Addr), DTs p (X.blk s H scope (compEnvC scope cl C X.env) fp) W0 ifs tt)
    (he : ∀ (s : Shared) (H : Hp) (C : Addr) (cl : List (Str × Addr)) (fp : List Addr), DE p (X.blk s H scope (compEnvC scope cl C X.env) fp) W0 elt te) :
    ∃ (wi : TI) (gv : TG) (tv : TT) (ev : TE), PI X tg iter wi ∧ (∀ (s : Shared) (H : Hp) (C : Addr) (cl : List (Str × Addr)) (fp : List Addr), PG (X.blk s H scope (compEnvC scope cl C X.env) fp) tg gv) ∧
      (∀ (s : Shared) (H : Hp) (C : Addr) (cl : List (Str × Addr)) (fp : List Addr), PTs (X.blk s H scope (compEnvC scope cl C X.env) fp) ifs tv) ∧
      (∀ (s : Shared) (H : Hp) (C : Addr) (cl : List (Str × Addr)) (fp : List Addr), PE (X.blk s H scope (compEnvC scope cl C X.env) fp) elt ev) ∧ RefI X.K p W wi ti ∧ RefG X.K p ix gv g ∧ RefT X.K p W0 tv tt ∧ RefE X.K p W0 ev te := by
  obtain ⟨wi, w1, w2⟩ := hi
  refine ⟨wi, fun v σ H Q => ∀ (s : Shared) (H' : Hp) (C : Addr) (cl : List (Str × Addr)) (fp : List Addr), ∃ g, PG (X.blk s H' scope (compEnvC scope cl C X.env) fp) tg g ∧ g v σ H Q,
    fun σ H Q => ∀ (s : Shared) (H' : Hp) (C : Addr) (cl : List (Str × Addr)) (fp : List Addr), ∃ t, PTs (X.blk s H' scope (compEnvC scope cl C X.env) fp) ifs t ∧ t σ H Q,
    fun σ H Q => ∀ (s : Shared) (H' : Hp) (C : Addr) (cl : List (Str × Addr)) (fp : List Addr), ∃ t, PE (X.blk s H' scope (compEnvC scope cl C X.env) fp) elt t ∧ t σ H Q, w1, fun s H C cl fp => ⟨fun pins s' σ H' v u Q I r h => ?_⟩, fun s H C cl fp => ⟨fun pins s' σ H' Q I h => ?_⟩, fun s H C cl fp => ⟨fun pins s' σ H' Q I h => ?_⟩, w2, ?_, ?_, ?_⟩
  · obtain ⟨g', h1, h2⟩ := h s H C cl fp
    exact h1.run pins s' σ H' v u Q I r h2
  · obtain ⟨g', h1, h2⟩ := h s H C cl fp
    exact h1.run pins s' σ H' Q I h2
  · obtain ⟨g', h1, h2⟩ := h s H C cl fp
    exact h1.run pins s' σ H' Q I h2
  · intro G σ H δ d v Q Qd r rv q k s H' C cl fp
    obtain ⟨g', h1, h2⟩ := hg s H' C cl fp
    exact ⟨g', h1, h2 G σ H δ d v Q Qd r rv q k⟩
  · intro G σ H δ Q Qd Ed r q k x s H' C cl fp
    obtain ⟨g', h1, h2⟩ := ht s H' C cl fp
    exact ⟨g', h1, h2 G σ H δ Q Qd Ed r q k x⟩
  · intro G σ H δ Q Qd Ed r q k x s H' C cl fp
    obtain ⟨g', h1, h2⟩ := he s H' C cl fp
    exact ⟨g', h1, h2 G σ H δ Q Qd Ed r q k x⟩
def xLcE (vs : List Nat) (ti : TDI) (g : TDG) (tt : TDT) (te : TDE) : TDE := fun δ Q E => xLc vs ti g tt te δ (fun ds => Q (.lst ds)) E
/-- [elt for tg in iter if ..] as a value -/
theorem d_lc (own : List (Str × Nat)) (hsub : ∀ j ∈ ix, j ∈ own.map (·.2)) (hc : X.calm = true) (hN : X.N.Nodup) (ok : BlkOk X.N X.env.scope scope own) (hi : DI p X W tg iter ti)
    (hg : ∀ (s : Shared) (H : Hp) (C : Addr) (cl : List (Str × Addr)) (fp : List Addr), DG p (X.blk s H scope (compEnvC scope cl C X.env) fp) tg ix g)
    (ht : ∀ (s : Shared) (H : Hp) (C : Addr) (cl : List (Str × Addr)) (fp : List Addr), DTs p (X.blk s H scope (compEnvC scope cl C X.env) fp) W0 ifs tt)
    (he : ∀ (s : Shared) (H : Hp) (C : Addr) (cl : List (Str × Addr)) (fp : List Addr), DE p (X.blk s H scope (compEnvC scope cl C X.env) fp) W0 elt te)
    (hs : ∀ x, foldedSetIterable iter X.env x = pure x := by intro _; rfl) : DE p X W (.ListComp elt [⟨tg, iter, ifs, 0⟩] scope pos) (xLcE (own.map (·.2)) ti g tt te) := by
  obtain ⟨wi, gv, tv, ev, a1, a2, a3, a4, b1, b2, b3, b4⟩ := lc_parts hi hg ht he
  refine ⟨_, pe_lc hc hN a1 ok a2 a3 a4 hs, fun G σ H δ Q Qd Ed r q k x => ?_⟩
  refine ref_lc hsub b1 b2 b3 b4 r q (fun G' H' a ds us e h1 h2 h3 h4 q' => ?_) x
  obtain ⟨e', r'⟩ := lst_join e r.bag.atN h1 h2 h3 h4
  exact k _ H' _ _ e' r' q'
/-- y = [elt for ..] on one line, y a local -/
def ySetLc (S : List Nat) (i : Nat) (vs : List Nat) (ti : TDI) (g : TDG) (tt : TDT) (te : TDE) : TDS := fun Dd δ => xLc vs ti g tt te (frz S δ) (fun ds => Dd.nx ((frz S δ).set i (.val (.lst ds)))) (fun c fs => Dd.xc c fs (frz S δ))
theorem ds_setLc (S : List Nat) (i : Nat) (own : List (Str × Nat)) {y : Str} {py spos : Pos} (hsub : ∀ j ∈ ix, j ∈ own.map (·.2)) (hc : X.calm = true) (hN : X.N.Nodup) (ok : BlkOk X.N X.env.scope scope own) (hi : DI p X W tg iter ti)
    (hg : ∀ (s : Shared) (H : Hp) (C : Addr) (cl : List (Str × Addr)) (fp : List Addr), DG p (X.blk s H scope (compEnvC scope cl C X.env) fp) tg ix g)
    (ht : ∀ (s : Shared) (H : Hp) (C : Addr) (cl : List (Str × Addr)) (fp : List Addr), DTs p (X.blk s H scope (compEnvC scope cl C X.env) fp) W0 ifs tt)
    (he : ∀ (s : Shared) (H : Hp) (C : Addr) (cl : List (Str × Addr)) (fp : List Addr), DE p (X.blk s H scope (compEnvC scope cl C X.env) fp) W0 elt te)
    (hsw : swapsWith (.ListComp elt [⟨tg, iter, ifs, 0⟩] scope pos) (some (.Name y py)) spos.line X.env = pure true) (hy : X.N[i]? = some y := by rfl) (hyl : X.env.scope.names.lookup y = some .local := by rfl)
    (hs : ∀ x, foldedSetIterable iter X.env x = pure x := by intro _; rfl) : DS p X W (.Assign [.Name y py] (.ListComp elt [⟨tg, iter, ifs, 0⟩] scope pos) spos) (ySetLc S i (own.map (·.2)) ti g tt te) := by
  obtain ⟨wi, gv, tv, ev, a1, a2, a3, a4, b1, b2, b3, b4⟩ := lc_parts hi hg ht he
  refine ⟨_, ps_setLc (i := i) hc hN hy hyl hsw a1 ok a2 a3 a4 hs, fun Gb G σ H δ D Dd s r q h => ?_⟩
  obtain ⟨G1, g1, r1⟩ := DR.freeze (S := S) r
  show tLc wi gv tv ev (own.map (·.2)) σ H (fun x H1 => gName i x σ H1 D.nx)
  refine ref_lc hsub b1 b2 b3 b4 r1 q (fun G' H' a ds us e h1 h2 h3 h4 q' => ?_) (h.x (s.trans g1) r1)
  obtain ⟨e', r'⟩ := lst_join e r1.bag.atN h1 h2 h3 h4
  exact h.nx _ _ H' _ ((s.trans g1).trans e'.gg) ((r1.ext e').set (s := .val (.lst ds)) ⟨.ref a, rfl, r'⟩) q'
/-- .. the list the name's own -/
def ySetLcO (S : List Nat) (i : Nat) (vs : List Nat) (ti : TDI) (g : TDG) (tt : TDT) (te : TDE) : TDS := fun Dd δ => xLc vs ti g tt te (frz S δ) (fun ds => Dd.nx ((frz S δ).set i (.own (.lst ds)))) (fun c fs => Dd.xc c fs (frz S δ))
theorem own_fresh {a : Addr} (r : DR K p G σ H δ) (h : Fr0 H a) : ∀ (j : Nat) (s' : Sl), δ[j]? = some s' → s'.mine = true → σ[j]? ≠ some (some (.ref a)) := fun j s' hj m z => by
  obtain ⟨_, _, w, w1, w2⟩ := (r.slot j _ hj).mineN m z
  exact h w w1 w2.1
theorem h0_none {a : Addr} (r : DR K p G σ H δ) (h : Fr0 H a) : Fr0 p.H0 a := fun o z t => by
  have e : a ≠ p.b.a := fun e => by
    obtain ⟨w, w1, w2⟩ := r.bag.atN
    exact h w (by rw [e]; exact w1) w2
  exact h o (r.keep a o e t z) t
theorem ds_setLcO (S : List Nat) (i : Nat) (own : List (Str × Nat)) {y : Str} {py spos : Pos} (hsub : ∀ j ∈ ix, j ∈ own.map (·.2)) (hc : X.calm = true) (hN : X.N.Nodup) (ok : BlkOk X.N X.env.scope scope own) (hi : DI p X W tg iter ti)
    (hg : ∀ (s : Shared) (H : Hp) (C : Addr) (cl : List (Str × Addr)) (fp : List Addr), DG p (X.blk s H scope (compEnvC scope cl C X.env) fp) tg ix g)
    (ht : ∀ (s : Shared) (H : Hp) (C : Addr) (cl : List (Str × Addr)) (fp : List Addr), DTs p (X.blk s H scope (compEnvC scope cl C X.env) fp) W0 ifs tt)
    (he : ∀ (s : Shared) (H : Hp) (C : Addr) (cl : List (Str × Addr)) (fp : List Addr), DE p (X.blk s H scope (compEnvC scope cl C X.env) fp) W0 elt te)
    (hsw : swapsWith (.ListComp elt [⟨tg, iter, ifs, 0⟩] scope pos) (some (.Name y py)) spos.line X.env = pure true) (hy : X.N[i]? = some y := by rfl) (hyl : X.env.scope.names.lookup y = some .local := by rfl)
    (hs : ∀ x, foldedSetIterable iter X.env x = pure x := by intro _; rfl) : DS p X W (.Assign [.Name y py] (.ListComp elt [⟨tg, iter, ifs, 0⟩] scope pos) spos) (ySetLcO S i (own.map (·.2)) ti g tt te) := by
  obtain ⟨wi, gv, tv, ev, a1, a2, a3, a4, b1, b2, b3, b4⟩ := lc_parts hi hg ht he
  refine ⟨_, ps_setLc (i := i) hc hN hy hyl hsw a1 ok a2 a3 a4 hs, fun Gb G σ H δ D Dd s r q h => ?_⟩
  obtain ⟨G1, g1, r1⟩ := DR.freeze (S := S) r
  show tLc wi gv tv ev (own.map (·.2)) σ H (fun x H1 => gName i x σ H1 D.nx)
  refine ref_lc hsub b1 b2 b3 b4 r1 q (fun G' H' a ds us e h1 h2 h3 h4 q' => ?_) (h.x (s.trans g1) r1)
  exact h.nx _ _ H' _ ((s.trans g1).trans e.gg) ((r1.ext e).setOwn (o := .lst ds) h3 (h0_none r1 h4) ⟨us, h1, h2⟩ (own_fresh r1 h4)) q'
end
end
end DL

namespace DL
open PySem PySem.Spec PyProof.Rows L2

/-- a contract: the bag's address, the arguments, what is wanted of the value, of an exception -/
abbrev DC := Addr → List D → QD → XD → Prop
/-- the tables of code objects that are known -/
abbrev TbL := List (Addr × Str)
def spD (K : PySem.W.Frag) (T : TbL) (c : DC) : Sp := fun vs H Q E => ∃ (b : Bag) (G : Hp) (ds : List D) (Qd : QD) (Ed : XD), b.T = T ∧ Same G H ∧ BagOk K b G H ∧ Reps K G ds vs ∧ c b.a ds Qd Ed ∧
  (∀ G' H' v d, Ext K b G H G' H' → Rep K G' d v → Qd d → Q v H') ∧ (∀ G' H' cn fs d us, Ext K b G H G' H' → G' d = some (.xd us) → RepsF K G' fs us → Ed cn fs → E (.ref (He.ga K cn)) (some d) H')
def startD (n : Nat) (ds : List D) : DSt := ds.map Sl.val ++ List.replicate (n - ds.length) .non
section
variable {P : Program} {w : World} {K : PySem.W.Frag} {mg : Str → Option Value} {base : Heap}
theorem start_DR {b : Bag} {G H : Hp} {N : List Str} {ds : List D} {vs : List V} (s : Same G H) (hb : BagOk K b G H) (r : Reps K G ds vs) : DR K ⟨b, H, G, P, w⟩ G (L2.start N vs) H (startD N.length ds) where
  base := Same.refl _
  sub := s
  keep := fun _ _ _ _ h => h
  new := fun _ _ _ _ g => g
  bag := hb
  bin := hb.atN
  len := by unfold startD L2.start; simp [r.length]
  slot := fun i sl e => by
    unfold startD at e
    by_cases hi : i < ds.length
    · rw [List.getElem?_append_left (by simpa using hi), List.getElem?_map] at e
      cases q : ds[i]? with
      | none => rw [q] at e; cases e
      | some d =>
        rw [q] at e
        cases e
        obtain ⟨v, h1, h2⟩ := r.get q
        refine ⟨v, ?_, h2⟩
        unfold L2.start
        rw [List.getElem?_append_left (by rw [List.length_map, ← r.length]; exact hi), List.getElem?_map, h1]; rfl
    · rw [List.getElem?_append_right (by simpa using hi), List.getElem?_replicate] at e
      split at e
      · cases e; exact True.intro
      · cases e
  dis := fun i j o o' a n e1 _ m1 => by
    exfalso
    unfold startD at e1
    by_cases hi : i < ds.length
    · rw [List.getElem?_append_left (by simpa using hi), List.getElem?_map] at e1
      cases q : ds[i]? with
      | none => rw [q] at e1; cases e1
      | some d => rw [q] at e1; cases e1; cases m1
    · rw [List.getElem?_append_right (by simpa using hi), List.getElem?_replicate] at e1
      split at e1
      · cases e1; cases m1
      · cases e1
/-- a state of the body, seen from the entry -/
theorem DR.seen {p : Pr} {G : Hp} {σ : VSt} {H : Hp} {δ : DSt} (r : DR K p G σ H δ) : Ext K p.b p.G0 p.H0 G H := ⟨r.base, r.sub, r.keep, r.new, r.bag⟩
/-- the code object of the def at f -/
def codeV (K : PySem.W.Frag) (f : Addr) : Value := match K.lookup f with
  | some ⟨_, _, .func fd, _⟩ => fd.code
  | _ => .none
theorem okXc {x qual : Str} {st : Stmt} {f : Addr} {fd : FuncData} {N ps : List Str} {k : Nat} {sp : Sp} (F : Fun K x qual st f fd) (S : FnScope N ps (defScope st)) (len : ∀ vs H Q E, sp vs H Q E → vs.length = ps.length)
    (hbody : ∀ (cdv : Value) (A : Around) (outer : List Env) (s : Shared) (H : Hp) (vs : List V) (Q : VK) (E : XK), codeV K f = cdv → Room k (A.deeper (envOfC qual (defScope st) s.heap.objs.size f cdv)) → sp vs H Q E →
      ∃ t, PSs (cxOf (L2.CX P w) P w K mg base N qual (defScope st) f cdv A outer s H E) (defBody st) t ∧ t { nx := fun _ H' => Q .non H', rt := Q } (L2.start N vs) H) : FnOk P w K mg base (L2.CX P w) (k + 1) f fd ps sp := by
  obtain ⟨oc, od, kV, doc, pm, an, cdv, ct, osl, rfl, lk, hcd⟩ := F.ex
  exact fn_of lk hcd S len fun A outer s H vs Q E hr hsp => hbody cdv A outer s H vs Q E (by unfold codeV; rw [lk] <;> rfl) hr hsp
/-- THE RULE for a def: c its contract -/
theorem fnD {x qual : Str} {st : Stmt} {f : Addr} {fd : FuncData} {N ps : List Str} {k : Nat} {T : TbL} (c : DC) (F : Fun K x qual st f fd) (S : FnScope N ps (defScope st)) (len : ∀ β ds Q E, c β ds Q E → ds.length = ps.length)
    (hbody : ∀ (cdv : Value) (A : Around) (outer : List Env) (s : Shared) (p : Pr) (E : XK), p.b.T = T → p.P = P ∧ p.w = w → codeV K f = cdv → Room k (A.deeper (envOfC qual (defScope st) s.heap.objs.size f cdv)) →
      ∃ td, DSs p (cxOf (L2.CX P w) P w K mg base N qual (defScope st) f cdv A outer s p.H0 E) (fun cls d _ H => E cls d H) (defBody st) td ∧
        ∀ ds Qd Ed, c p.b.a ds Qd Ed → td { nx := fun _ => Qd .non, rt := Qd, xc := fun cn fs _ => Ed cn fs } (startD N.length ds)) :
    FnOk P w K mg base (L2.CX P w) (k + 1) f fd ps (spD K T c) := by
  refine okXc F S (fun vs H Q E h => ?_) (fun cdv A outer s H vs Q E hcv hr h => ?_)
  · obtain ⟨b, G, ds, Qd, Ed, _, _, _, r, q, _⟩ := h
    rw [← r.length]
    exact len _ _ _ _ q
  · obtain ⟨b, G, ds, Qd, Ed, hT, s1, hb, r, q, k1, k2⟩ := h
    obtain ⟨td, ⟨t, h1, h2⟩, h3⟩ := hbody cdv A outer s ⟨b, H, G, P, w⟩ E hT ⟨rfl, rfl⟩ hcv hr
    refine ⟨t, h1, ?_⟩
    refine h2 G G (L2.start N vs) H (startD N.length ds) _ _ (Same.refl _) (start_DR s1 hb r) (h3 ds Qd Ed q) ⟨fun G' σ' H' δ' _ r' q' => ?_, fun G' σ' H' δ' v d _ r' rv q' => ?_, fun _ _ _ _ _ _ z => z, fun _ _ _ _ _ _ z => z, fun G' σ' H' δ' cn fs d us _ r' hd rf q' => ?_, fun _ _ _ _ _ _ _ _ _ _ _ _ _ z => z.elim⟩
    · exact k1 G' H' _ _ r'.seen (rep_sc rfl) q'
    · exact k1 G' H' v d r'.seen rv q'
    · exact k2 G' H' cn fs d us r'.seen hd rf q'
/-- a stronger contract serves for a weaker one -/
theorem fnD_imp {k : Nat} {f : Addr} {fd : FuncData} {ps : List Str} {CX : CXT} {T : TbL} {c c' : DC} (F : FnOk P w K mg base CX k f fd ps (spD K T c)) (h : ∀ β ds Q E, c' β ds Q E → c β ds Q E) : FnOk P w K mg base CX k f fd ps (spD K T c') :=
  F.imp fun vs H Q E ⟨b, G, ds, Qd, Ed, h0, h1, h2, h3, h4, h5⟩ => ⟨b, G, ds, Qd, Ed, h0, h1, h2, h3, h _ _ _ _ h4, h5⟩
end

section
variable {p : Pr} {X : Cx} {W : WX} {K : PySem.W.Frag} {Gb G H : Hp} {σ : VSt} {δ : DSt} {e : Expr} {es : List Expr} {te : TDE} {ts : TDA} {pos : Pos}
/-- f(..) by f's contract -/
def xFn (β : Addr) (c : DC) (ts : TDA) : TDE := fun δ Q E => ts δ (fun ds => c β ds Q E) E
theorem d_call {T : TbL} {c : DC} {k : Nat} {f : Addr} {fd : FuncData} {ps : List Str} {x : Str} {q : Pos} (F : FnOk X.prog X.w X.K X.mg X.base (L2.CX X.prog X.w) k f fd ps (spD X.K T c)) (hT : p.b.T = T) (hr : Room k X.A) (tk : Takes X W) (hm : X.mg x = some (.ref f)) (hk : PySem.W.keepIn X.K (.ref f) = true) (hb : Binds X.K fd ps [])
    (ha : DA p X W (e :: es) ts) (hg : Gl X x := by rfl) (hdb : (x == ("__debug__" : Str)) = false := by decide) (he : starEach (e :: es) X.env = (false, eval e X.env) :: starEach es X.env := by rfl) (hpl : (backTo pos (starEach es X.env)).any (·.1) = false := by rfl) :
    DE p X W (.Call (.Name x q) (e :: es) [] pos) (xFn p.b.a c ts) := by
  obtain ⟨a, a1, a2⟩ := ha
  refine ⟨_, pe_callS F hr hg hm hk hb (fun σ => passAt tk σ) a1 hdb he hpl, fun G σ H δ Q Qd Ed r q k x => ?_⟩
  refine a2 G σ H δ _ _ Ed r q (fun G1 H1 vs ds e1 r1 q1 => ?_) x
  exact ⟨p.b, G1, ds, Qd, Ed, hT, e1.sub, e1.bag, r1, q1, fun G2 H2 v d e2 r2 q2 => k G2 H2 v d (e1.trans r.at e2) r2 q2, fun G2 H2 cn fs d us e2 hd rf q2 => x G2 H2 cn fs d us (e1.trans r.at e2) hd rf q2⟩

theorem frz_get : ∀ {S : List Nat} {δ : DSt} {i : Nat}, i ∉ S → (frz S δ)[i]? = δ[i]?
  | [], _, _, _ => rfl
  | j :: S, δ, i, h => by
    rw [List.mem_cons, not_or] at h
    unfold frz
    rw [frz_get h.2]
    split
    · exact List.getElem?_set_ne (Ne.symm h.1)
    · rfl
/-- a method of a name's own list: its content, the arguments, the content behind -/
def RefOM (K : PySem.W.Frag) (r : V → List V → Hp → VK → Prop) (rd : List D → List D → (List D → Prop) → Prop) : Prop :=
  ∀ (G H : Hp) (a : Addr) (us : List V) (ds args : List D) (vs : List V) (Q : VK) (Qd : List D → Prop), Same G H → H a = some (.lst us) → G a = none → Reps K G ds us → Reps K G args vs → rd ds args Qd →
    (∀ us' ds' v, Reps K G ds' us' → Qd ds' → Q v (upd H a (.lst us'))) → r (.ref a) vs H Q
/-- all scalars -/
def scs (ds : List D) : Bool := ds.all D.sc
theorem reps_of_sc {G G' : Hp} : ∀ {ds : List D} {vs : List V}, scs ds = true → Reps K G ds vs → Reps K G' ds vs
  | [], vs, _, r => by rw [Reps.nil_iff.mp r]; exact Reps.nil
  | d :: ds, vs, h, r => by
    unfold scs at h
    rw [List.all_cons, Bool.and_eq_true] at h
    obtain ⟨v, w, rfl, r1, r2⟩ := Reps.cons_iff.mp r
    exact Reps.cons (rep_of_sc h.1 r1) (reps_of_sc h.2 r2)
def yOM (S : List Nat) (i : Nat) (rd : List D → List D → (List D → Prop) → Prop) (ts : TDA) : TDS := fun Dd δ => ∃ ds, δ[i]? = some (.own (.lst ds)) ∧ i ∉ S ∧
  ts (frz S δ) (fun args => rd ds args fun ds' => Dd.nx ((if scs args = true then δ else frz S δ).set i (.own (.lst ds')))) (fun c fs => Dd.xc c fs (frz S δ))
theorem ref_om {r : V → List V → Hp → VK → Prop} {rd : List D → List D → (List D → Prop) → Prop} {t : TA} (S : List Nat) (i : Nat) (hr : RefOM K r rd) (h : RefA K p W t ts) : RefS K p W (tDrop (tBM K "list" r (tVar i) t)) (yOM S i rd ts) := by
  intro Gb G σ H δ D Dd s rr q h'
  obtain ⟨ds, hi, hS, q⟩ := q
  obtain ⟨G1, g1, r1⟩ := DR.freeze (S := S) rr
  have hi1 : (frz S δ)[i]? = some (.own (.lst ds)) := by rw [frz_get hS]; exact hi
  obtain ⟨a, a1, a2, a3, us, a4, a5⟩ := rr.slot i _ hi
  obtain ⟨a', b1, b2, b3, us', b4, b5⟩ := r1.slot i _ hi1
  rw [a1] at b1; cases b1
  rw [a4] at b4; cases b4
  refine ⟨.ref a, a1, .inl ⟨rfl, us, SqL.of a4⟩, ?_⟩
  refine h G1 σ H (frz S δ) _ _ _ r1 q (fun G2 H2 vs args e2 ra q2 => ?_) (h'.x (s.trans g1) r1)
  have nb := rr.nb a3
  have h2a : H2 a = some (.lst us) := e2.keep a _ nb nt_lst a4
  by_cases hsc : scs args = true
  · rw [if_pos hsc] at q2
    have rb := rr.backE g1 e2
    refine hr G H2 a us ds args vs _ _ rb.sub h2a a2 a5 (reps_of_sc hsc ra) q2 fun us' ds' v ru q3 => ?_
    exact h'.nx G σ _ _ s (rb.change (o' := .lst ds') hi a1 ⟨us', upd_same, ru⟩) q3
  · rw [if_neg hsc] at q2
    have rx := r1.ext e2
    obtain ⟨a', c1, c2, c3, us2, c4, c5⟩ := rx.slot i _ hi1
    rw [a1] at c1; cases c1
    rw [h2a] at c4; cases c4
    refine hr G2 H2 a us ds args vs _ _ e2.sub h2a c2 c5 ra q2 fun us' ds' v ru q3 => ?_
    exact h'.nx G2 σ _ _ ((s.trans g1).trans e2.gg) (rx.change (o' := .lst ds') hi1 a1 ⟨us', upd_same, ru⟩) q3
theorem ds_om {id : String} {name x : Str} {apos cpos pn : Pos} {r : V → List V → Hp → VK → Prop} {rd : List D → List D → (List D → Prop) → Prop} (S : List Nat) (i : Nat) (slot : Slot "list" name id) (hty : typeOf (.builtin id) = pure (.type "method_descriptor")) (hm : MtR X id r) (hr : RefOM X.K r rd) (ha : DA p X W (e :: es) ts)
    (hN : X.N[i]? = some x := by rfl) (hv : Vis X.env.scope x := by first | exact Or.inl rfl | exact Or.inr (Or.inl rfl) | exact Or.inr (Or.inr rfl)) (hd : (x == ("__debug__" : Str)) = false := by decide) (hcd : (x == ("__classdict__" : Str)) = false := by decide)
    (hbase : attributeBase (.Name x pn) name X.env (eval (.Name x pn) X.env) = eval (.Name x pn) X.env := by rfl)
    (hfew : ((backTo cpos (starEach (e :: es) X.env)).all (fun x => !x.1) && (backToKw cpos (keywordEach [] X.env)).all (fun x => x.1.isSome)
      && decide ((e :: es).length + ([] : List Keyword).length + (if ([] : List Keyword).isEmpty then 0 else 1) < 30)) = true := by rfl)
    (hline : (apos.endLine == cpos.line) = true := by rfl) (hs : starEach (e :: es) X.env = (false, eval e X.env) :: starEach es X.env := by rfl) (hplain : (backTo cpos (starEach es X.env)).any (·.1) = false := by rfl)
    (hsw : swapsWith (.Call (.Attribute (.Name x pn) name apos) (e :: es) [] cpos) none pos.line X.env = pure false := by rfl) : DS p X W (.Expr (.Call (.Attribute (.Name x pn) name apos) (e :: es) [] cpos) pos) (yOM S i rd ts) := by
  obtain ⟨a, a1, a2⟩ := ha
  exact ⟨_, ps_expr (pe_bm PySem.F.plainAttrs_list slot hty hm (pe_var hN hv hd hcd) a1 hbase hfew hline hs hplain) hsw, ref_om S i hr a2⟩
def oAppend (ds args : List D) (k : List D → Prop) : Prop := match args with
  | [d] => ds.length < sizeLine ∧ k (ds ++ [d])
  | _ => False
theorem r_append : RefOM K rAppend oAppend := by
  intro G H a us ds args vs Q Qd s ha hG r ra h k
  unfold oAppend at h
  split at h
  · obtain ⟨v, rfl, r1⟩ := reps1 ra
    exact ⟨a, us, v, rfl, rfl, ha, by rw [← r.length]; exact h.1, k _ _ _ (r.snoc r1) h.2⟩
  · exact h.elim
def oExtend (ds args : List D) (k : List D → Prop) : Prop := match args with
  | [.lst es] => ds.length + es.length ≤ sizeLine ∧ k (ds ++ es)
  | _ => False
theorem r_extend : RefOM K rExtend oExtend := by
  intro G H a us ds args vs Q Qd s ha hG r ra h k
  unfold oExtend at h
  split at h
  · obtain ⟨v, rfl, r1⟩ := reps1 ra
    obtain ⟨c, ws, rfl, c1, c2⟩ := rep_lstI.mp r1
    exact ⟨a, c, us, ws, rfl, rfl, ha, s _ _ c1, by rw [← r.length, ← c2.length]; exact h.1, k _ _ _ (r.append c2) h.2⟩
  · exact h.elim
theorem ds_append {x : Str} {apos cpos pn : Pos} (S : List Nat) (i : Nat) (ha : DA p X W [e] ts)
    (hN : X.N[i]? = some x := by rfl) (hv : Vis X.env.scope x := by first | exact Or.inl rfl | exact Or.inr (Or.inl rfl) | exact Or.inr (Or.inr rfl)) (hd : (x == ("__debug__" : Str)) = false := by decide) (hcd : (x == ("__classdict__" : Str)) = false := by decide)
    (hbase : attributeBase (.Name x pn) "append" X.env (eval (.Name x pn) X.env) = eval (.Name x pn) X.env := by rfl)
    (hfew : ((backTo cpos (starEach [e] X.env)).all (fun x => !x.1) && (backToKw cpos (keywordEach [] X.env)).all (fun x => x.1.isSome)
      && decide (([e]).length + ([] : List Keyword).length + (if ([] : List Keyword).isEmpty then 0 else 1) < 30)) = true := by rfl)
    (hline : (apos.endLine == cpos.line) = true := by rfl) (hs : starEach [e] X.env = (false, eval e X.env) :: starEach [] X.env := by rfl) (hplain : (backTo cpos (starEach [] X.env)).any (·.1) = false := by rfl)
    (hsw : swapsWith (.Call (.Attribute (.Name x pn) "append" apos) [e] [] cpos) none pos.line X.env = pure false := by rfl) : DS p X W (.Expr (.Call (.Attribute (.Name x pn) "append" apos) [e] [] cpos) pos) (yOM S i oAppend ts) :=
  ds_om S i PySem.F.slot_list_append PySem.F.type_list_append mt_append r_append ha hN hv hd hcd hbase hfew hline hs hplain hsw
/-- x = [..], the list x's own -/
def ySetLstO (S : List Nat) (i : Nat) (ts : TDA) : TDS := fun Dd δ => ts (frz S δ) (fun ds => ds.length ≤ sizeLine ∧ Dd.nx ((if scs ds = true then δ else frz S δ).set i (.own (.lst ds)))) (fun c fs => Dd.xc c fs (frz S δ))
theorem ds_setLstO (S : List Nat) (i : Nat) {x : Str} {pl px : Pos} (hN : X.N.Nodup) (ha : DA p X W es ts) (hi : X.N[i]? = some x := by rfl) (hx : Loc X.env.scope x := by first | exact .inl rfl | exact .inr rfl) (hs : swapsWith (.List es pl) (some (.Name x px)) pos.line X.env = pure false := by rfl)
    (hf : X.fn x = true ∨ X.env.scope.names.lookup x = some .local := by first | exact .inl rfl | exact .inr rfl | assumption) : DS p X W (.Assign [.Name x px] (.List es pl) pos) (ySetLstO S i ts) := by
  obtain ⟨a, a1, a2⟩ := ha
  refine ⟨_, ps_set hN hi hx (pe_lst a1) hs hf, fun Gb G σ H δ D Dd s r q h => ?_⟩
  obtain ⟨G1, g1, r1⟩ := DR.freeze (S := S) r
  refine a2 G1 σ H _ _ _ _ r1 q (fun G2 H2 vs ds e2 r2 q2 => ?_) (h.x (s.trans g1) r1)
  refine ⟨by rw [← r2.length]; exact q2.1, fun A hA => ?_⟩
  have q3 := q2.2
  have up : ∀ c o, c ≠ p.b.a → NT o → H2 c = some o → upd H2 A (.lst vs) c = some o := fun c o _ _ z => by rw [upd_ne (ne_of_none z hA)]; exact z
  have rx := r1.ext e2
  have sb : Same G2 (upd H2 A (.lst vs)) := fun c o z => by
    have := e2.sub c o z
    rw [upd_ne (ne_of_none this hA)]; exact this
  have bg : BagOk X.K p.b G2 (upd H2 A (.lst vs)) := rx.bag.new hA
  by_cases hsc : scs ds = true
  · rw [if_pos hsc] at q3
    have ra := r.backE g1 e2
    have rb : DR X.K p G σ (upd H2 A (.lst vs)) δ := r.back (fun c o n t z => up c o n t (e2.keep c o n t z)) sb (g1.trans e2.gg) bg
    exact h.nx G _ _ _ s (rb.setOwn (o := .lst ds) (ra.sub.free hA) (h0_none ra (Fr0.of hA)) ⟨vs, upd_same, reps_of_sc hsc r2⟩ (own_fresh ra (Fr0.of hA))) q3
  · rw [if_neg hsc] at q3
    have rb : DR X.K p G2 σ (upd H2 A (.lst vs)) _ := rx.back up sb (Same.refl _) bg
    exact h.nx G2 _ _ _ ((s.trans g1).trans e2.gg) (rb.setOwn (o := .lst ds) (rx.sub.free hA) (h0_none rx (Fr0.of hA)) ⟨vs, upd_same, r2⟩ (own_fresh rx (Fr0.of hA))) q3
end
end DL

namespace PySem
namespace EXG
open PySem.W PySem.Calls PyProof.Rows PySem.HandSPX
section
variable {M : Model} {A : Around} {E : Value → Shared → Prop} {h : Heap} {g : Array GenState} {d : Drawn} {t : Nat} {os : OsState}
variable {nm q : Str} {C N : Addr} {bs bm bmB : List Value} {hdct : Bool} {sn : List Str} {sub : List Value} {ab : Bool} {col : Option Bool} {dd : Option Addr} {k0 k1 k2 k3 k5 : Option Value} {B newId initId : String}
theorem check_new_kw (F : ExcBaseFacts B newId initId bmB) (hT : ∀ X : String, bm.contains (.type X) = bmB.contains (.type X)) {rest : List Value} {kw : List (Str × Value)} {Q : Unit → Shared → Prop}
    (hC : h.get? C = some (excClassObj nm q C N bs bm hdct sn sub ab col dd k0 k1 k2 k3 k5 newId)) (hq : Q () ⟨h, g, d, t, os⟩) : wpAny M A (checkBuiltinCall newId ⟨.ref C :: rest, kw⟩) Q E ⟨h, g, d, t, os⟩ := by
  have hcont : (Value.ref C :: bm).contains (.type B) = true := by rw [List.contains_cons, hT, F.hasB, Bool.or_true]
  have hstar := F.noStar
  simp only [checkBuiltinCall, F.newKind, F.newSplit, F.newRow]
  repeat (first | refine wpAny_loadPart_at hC ?_ | (refine wpAny_isSubtype_exc hC ?_; rw [hcont]) | refine wpAny_staticBase_exc hC ?_ | refine wpAny_madeBy_exc hC ?_ | simp only [bne_self_eq_false, Bool.false_eq_true, if_false] | wp_step)
  exact hq
theorem check_call_kw {rest : List Value} {kw : List (Str × Value)} {Q : Unit → Shared → Prop} (hC : h.get? C = some (excClassObj nm q C N bs bm hdct sn sub ab col dd k0 k1 k2 k3 k5 newId))
    (hq : Q () ⟨h, g, d, t, os⟩) : wpAny M A (checkBuiltinCall "type.__call__" ⟨.ref C :: rest, kw⟩) Q E ⟨h, g, d, t, os⟩ := by
  have f3 := tc_sub
  have hT : (⟨h, g, d, t, os⟩ : Shared).TypeIs (.ref C) "type" := ⟨_, hC, rfl⟩
  simp only [checkBuiltinCall, tc_kind, tc_split]
  repeat (any_goals (first | assumption | with_reducible refine wpAny_loadPart_at hC ?_ | with_reducible refine wpAny_onRaise ?_ | with_reducible refine wpAny_map ?_ | wp_step))
end
section
variable {prog : Program} {w : World} {A : Around} {E : Value → Shared → Prop} {R : Result → Shared → Prop} {h : Heap} {g : Array GenState} {d : Drawn} {t : Nat} {os : OsState}
variable {nm q : Str} {C N : Addr} {bs bm bmB : List Value} {hdct : Bool} {sn : List Str} {sub : List Value} {ab : Bool} {col : Option Bool} {dd : Option Addr} {k0 k1 k2 k3 k5 : Option Value} {B newId initId : String}
theorem new_kw (F : ExcBaseFacts B newId initId bmB) (hT : ∀ X : String, bm.contains (.type X) = bmB.contains (.type X)) {rest : List Value} {kw : List (Str × Value)}
    (hC : h.get? C = some (excClassObj nm q C N bs bm hdct sn sub ab col dd k0 k1 k2 k3 k5 newId))
    (hq : R (.ok (.ret (.ref (h.objs.size + 1)))) ⟨(h.push { cls := .type "tuple", data := .seq rest.toArray }).push
      { cls := .ref C, data := .fields #[.ref h.objs.size, .none, .none, .none, .bool false, .none] }, g, d, t, os⟩) (hrest : rest.length ≤ sizeLine) :
    codeAny (model prog w) A (.builtin newId ⟨.ref C :: rest, kw⟩) R ⟨h, g, d, t, os⟩ := by
  have hends := F.ends
  have hcB : (Value.ref C :: bm).contains (.type B) = true := by rw [List.contains_cons, hT, F.hasB, Bool.or_true]
  have hcA : (Value.ref C :: bm).contains (.type "AttributeError") = false := by rw [List.contains_cons, hT, F.noAttr]; rfl
  have hcN : (Value.ref C :: bm).contains (.type "NameError") = false := by rw [List.contains_cons, hT, F.noName]; rfl
  refine codeAny_builtinAt F.entry ?_
  unfold Builtin.«BaseException.__new__»
  refine wpAt_bind ?_
  show wpAt _ _ _ (stack >>= _) _ _ _
  refine wpAt_bind (wpAt_stack fun p below => wpAt_of_wpAny ?_)
  wp_walk
  refine wpAt_of_wpAny ?_
  rw [F.owner]
  repeat (first | with_reducible refine wpAny_madeHere_exc F.canon hC ?_ | with_reducible refine wpAny_loadPart_at hC ?_ | (with_reducible refine wpAny_isSubtype_exc hC ?_; first | rw [hcB] | rw [hcA] | rw [hcN]) | wp_step)
  show R _ _
  rw [Heap.size_push]
  exact hq
theorem type_call_kw (F : ExcBaseFacts B newId initId bmB) (hT : ∀ X : String, bm.contains (.type X) = bmB.contains (.type X)) {rest : List Value} {kw : List (Str × Value)} {fI : Addr} {Q : Fin → Shared → Prop}
    (hC : h.get? C = some (excClassObj nm q C N bs bm hdct sn sub ab col dd k0 k1 k2 k3 k5 newId))
    (hi : W.Looks (model prog w) h (typeLookup (.ref C) "__init__") (some (.ref fI))) (hb : ∀ self, W.Looks (model prog w) h (bindSpecial (.ref fI) self) (.ref fI, [self])) (hrest : rest.length ≤ sizeLine)
    (hq : codeAny (model prog w) A (.call (.ref fI) ⟨.ref (h.objs.size + 1) :: rest, kw⟩)
      (fun r s' => match r with | .ok (.ret v) => v = .none ∧ Q (.done (.ret (.ref (h.objs.size + 1)))) s' | .ok _ => False | .error e => E e s')
      ⟨(h.push (W.kdv_tup rest)).push (excO C h.objs.size), g, d, t, os⟩) :
    wpAny (model prog w) A (Builtin.«type.__call__» ⟨.ref C :: rest, kw⟩) Q E ⟨h, g, d, t, os⟩ := by
  repeat (first | with_reducible refine wpAny_loadPart_at hC ?_ | with_reducible refine wpAny_madeBy_exc hC ?_ | wp_step)
  refine codeAny_call_builtin_code (Code.quiet_builtin _ F.quiet) (check_new_kw F hT hC ?_)
  refine new_kw F hT hC ?_ hrest
  show wpAny _ _ _ _ _ _
  have k : ∀ b o, h.get? b = some o → ((h.push (W.kdv_tup rest)).push (excO C h.objs.size)).get? b = some o := fun b o e => Heap.get?_push_of_some _ (Heap.get?_push_of_some _ e)
  have hC₁ := k _ _ hC
  have hget : ((h.push (W.kdv_tup rest)).push (excO C h.objs.size)).get? (h.objs.size + 1) = some (excO C h.objs.size) := by heap_get
  have hcC : (Value.ref C :: bm).contains (.ref C) = true := by simp
  have i1 := hi.keeps k
  have b1 := (hb (.ref (h.objs.size + 1))).keeps k
  unfold isInstance
  repeat (first | with_reducible refine wpAny_loadPart_at hget ?_ | (with_reducible refine wpAny_isSubtype_exc hC₁ ?_; rw [hcC]) | wp_step)
  show wpAny _ _ (typeLookup (.ref C) _) _ _ _
  refine i1.at ?_
  refine wpAny_holding (wpAny_bind (b1.at ?_))
  refine wpAny_bind (wpAny_call (codeAny_mono hq fun r s' z => ?_))
  rcases r with e | (v | _ | _ | _) <;> first | exact z | exact z.elim | skip
  obtain ⟨rfl, z⟩ := z
  first
    | exact wpAny_pure (wpAny_pure z)
    | (wp_walk; exact z)
theorem call_kw (F : ExcBaseFacts B newId initId bmB) (hT : ∀ X : String, bm.contains (.type X) = bmB.contains (.type X)) {rest : List Value} {kw : List (Str × Value)} {fI : Addr}
    (hC : h.get? C = some (excClassObj nm q C N bs bm hdct sn sub ab col dd k0 k1 k2 k3 k5 newId))
    (hi : W.Looks (model prog w) h (typeLookup (.ref C) "__init__") (some (.ref fI))) (hb : ∀ self, W.Looks (model prog w) h (bindSpecial (.ref fI) self) (.ref fI, [self])) (hrest : rest.length ≤ sizeLine)
    (hq : codeAny (model prog w) (A.under (.builtin "type.__call__" ⟨.ref C :: rest, kw⟩)) (.call (.ref fI) ⟨.ref (h.objs.size + 1) :: rest, kw⟩) (W.InitBack (h.objs.size + 1) R)
      ⟨(h.push (W.kdv_tup rest)).push (excO C h.objs.size), g, d, t, os⟩) :
    codeAny (model prog w) A (.call (.ref C) ⟨rest, kw⟩) R ⟨h, g, d, t, os⟩ := by
  have f1 := tc_lookup
  have f2 := tc_bind (.ref C)
  have hTy : (⟨h, g, d, t, os⟩ : Shared).TypeIs (.ref C) "type" := ⟨_, hC, rfl⟩
  refine codeAny_of_tree ?_
  show wpAny _ _ (callAny (.ref C) _) _ _ _
  repeat (any_goals (first | assumption | with_reducible refine wpAny_loadPart_at hC ?_ | wp_step))
  refine ⟨rfl, ?_⟩
  refine codeAny_call_builtin_at (Code.quiet_builtin _ (by decide +kernel)) entry_typeCall (check_call_kw hC (type_call_kw F hT hC hi hb hrest ?_))
  refine codeAny_mono hq fun r s' z => ?_
  rcases r with e | (v | _ | _ | _) <;> exact z
end
/-- what a store asks of a class's mro -/
structure MroOk (m : List Value) : Prop where
  ne : m.isEmpty = false
  ob : m.contains (.type "object") = true
  pass : ∀ self, refuseLoop self "__setattr__" m = pure ()
theorem mroOk_of {B : String} {bmB bm : List Value} {C : Addr} (SF : StoreFacts B bmB "object.__setattr__" "object") (h : excTail bmB bm = true) : MroOk (.ref C :: bm) :=
  ⟨rfl, by rw [List.contains_cons, excTail_contains "object" _ h, SF.hasOwner, Bool.or_true], fun self => by rw [refuseLoop_ref]; exact excTail_pass self (SF.passes self) _ h⟩
section
open Builtin Builtin.ObjectAttr
variable {prog : Program} {w : World} {A : Around} {E : Value → Shared → Prop} {R : Result → Shared → Prop} {hp : Heap} {g : Array GenState} {d : Drawn} {t : Nat} {os : OsState}
theorem osa_first {K : W.Frag} {name : Str} {tk : Tok} {v : Value} {x C : Addr} {fv : Array Value} {cd : ClassData}
    (X : K.In hp) (hx : hp.get? x = some { cls := .ref C, data := .fields fv }) (hcd : W.clsIn K C = some cd) (hm : MroOk cd.mro) (hh : cd.hasDict = true) (ha : W.findIn K (.ref C) name = some none)
    (hq : ∀ h' tk' dx, (∀ b o, b ≠ x → hp.get? b = some o → h'.get? b = some o) → hp.objs.size ≤ dx → dx ≠ x → h'.get? x = some { cls := .ref C, dict := some dx, data := .fields fv } →
      h'.Ns1 dx (fun y => if y = name then some v else none) → R (.ok (.ret .none)) ⟨h', g, d, tk', os⟩) :
    codeAny (model prog w) A (.call (.builtin "object.__setattr__") ⟨[.ref x, .str name tk, v], []⟩) R ⟨hp, g, d, t, os⟩ := by
  have I : W.InstAt hp x { cls := .ref C, data := .fields fv } C none := ⟨hx, rfl, rfl, trivial⟩
  have SF := F.store_object
  have ne := hm.ne
  have hob := hm.ob
  have hxs : x ≠ hp.objs.size := Nat.ne_of_lt (Heap.lt_size hx)
  have sub : W.Looks (model prog w) hp (isInstance (.ref x) (.type "object")) true := I.type.andThen (W.looks_mroIn X (by unfold W.mroIn; rw [hcd, Option.bind_some, if_neg (by rw [ne]; decide), hob]))
  refine codeAny_call_builtin SF.slot.plain SF.entry (@W.check_slot (model prog w) _ _ ⟨hp, g, d, t, os⟩ "object.__setattr__" "object" "__setattr__" (.ref x) [.str name tk, v] [] _ SF.kind SF.split sub (SF.args (.ref x) (.str name tk) v) ?_)
  have hmr : W.Looks (model prog w) hp (mroOf (.ref C)) cd.mro := (W.looks_clsIn X hcd).andThen .now
  have L3 : W.Looks (model prog w) hp (storeTaker? none) none := .now
  have hcls : W.Looks (model prog w) hp (classData C) cd := W.looks_clsIn X hcd
  rw [W.osa_eq, refuse_eq]
  refine wpAny_bind (wpAny_bind (I.type.at (wpAny_bind (hmr.at ?_))))
  rw [hm.pass]
  refine wpAny_pure (wpAny_bind (I.type.at (wpAny_bind ((W.looks_findIn X ha).at (wpAny_bind (L3.at ?_))))))
  show wpAny _ _ (storeInOwnDict (.ref x) (.ref C) (.str name tk) name v false) _ _ _
  obtain ⟨nm, bs, mro, ns, qn, hd, sn, sb, ab, col, del⟩ := cd
  dsimp only at hh
  subst hh
  unfold storeInOwnDict ownDictForStores
  repeat (first | with_reducible refine store_in_new ?_ ?_ | with_reducible refine wpAny_loadPart_at hx ?_ | with_reducible refine hcls.at ?_ | wp_step)
  · exact ⟨_, #[], _, (Heap.get?_update_ne _ _ _ _ hxs.symm).trans (Heap.get?_push_at rfl rfl), rfl, fun e he => absurd he (by simp), fun _ => rfl⟩
  · intro h' tk' hn' hs
    have hx₁ : (hp.push { cls := .type "dict", data := .dict #[] }).get? x = some { cls := .ref C, data := .fields fv } := Heap.get?_push_of_some _ hx
    refine hq h' tk' hp.objs.size (fun b o hb ho => ?_) (Nat.le_refl _) hxs.symm ?_ hn'
    · exact (hs.2 b (Nat.ne_of_lt (Heap.lt_size ho))).trans ((Heap.get?_update_ne _ _ _ _ hb).trans (Heap.get?_push_of_some _ ho))
    · exact (hs.2 x hxs).trans (Heap.get?_update_self _ hx₁ rfl)
theorem osa_next {K : W.Frag} {name : Str} {tk : Tok} {v : Value} {x C dx : Addr} {fv : Array Value} {cd : ClassData} {m0 : Str → Option Value} {nl : List Str}
    (X : K.In hp) (hx : hp.get? x = some { cls := .ref C, dict := some dx, data := .fields fv }) (hns : hp.Ns1 dx m0) (hw : Within m0 nl) (hz : nl.length ≤ 1000) (hcd : W.clsIn K C = some cd) (hm : MroOk cd.mro) (hh : cd.hasDict = true)
    (ha : W.findIn K (.ref C) name = some none)
    (hq : ∀ h' tk', (∀ b o, b ≠ dx → hp.get? b = some o → h'.get? b = some o) → h'.Ns1 dx (fun y => if y = name then some v else m0 y) → R (.ok (.ret .none)) ⟨h', g, d, tk', os⟩) :
    codeAny (model prog w) A (.call (.builtin "object.__setattr__") ⟨[.ref x, .str name tk, v], []⟩) R ⟨hp, g, d, t, os⟩ := by
  obtain ⟨oD, esD, epD, hoD, hdD, _⟩ := hns.count hw
  have I : W.InstAt hp x { cls := .ref C, dict := some dx, data := .fields fv } C (some oD) := ⟨hx, rfl, rfl, hoD⟩
  have SF := F.store_object
  have ne := hm.ne
  have hob := hm.ob
  have sub : W.Looks (model prog w) hp (isInstance (.ref x) (.type "object")) true := I.type.andThen (W.looks_mroIn X (by unfold W.mroIn; rw [hcd, Option.bind_some, if_neg (by rw [ne]; decide), hob]))
  refine codeAny_call_builtin SF.slot.plain SF.entry (@W.check_slot (model prog w) _ _ ⟨hp, g, d, t, os⟩ "object.__setattr__" "object" "__setattr__" (.ref x) [.str name tk, v] [] _ SF.kind SF.split sub (SF.args (.ref x) (.str name tk) v) ?_)
  have hmr : W.Looks (model prog w) hp (mroOf (.ref C)) cd.mro := (W.looks_clsIn X hcd).andThen .now
  have L3 : W.Looks (model prog w) hp (storeTaker? none) none := .now
  have hcls : W.Looks (model prog w) hp (classData C) cd := W.looks_clsIn X hcd
  rw [W.osa_eq, refuse_eq]
  refine wpAny_bind (wpAny_bind (I.type.at (wpAny_bind (hmr.at ?_))))
  rw [hm.pass]
  refine wpAny_pure (wpAny_bind (I.type.at (wpAny_bind ((W.looks_findIn X ha).at (wpAny_bind (L3.at ?_))))))
  show wpAny _ _ (storeInOwnDict (.ref x) (.ref C) (.str name tk) name v false) _ _ _
  obtain ⟨nm, bs, mro, ns, qn, hd, sn, sb, ab, col, del⟩ := cd
  dsimp only at hh
  subst hh
  unfold storeInOwnDict ownDictForStores
  repeat (first | with_reducible refine OEX.store_in_old hns hw hz ?_ | with_reducible refine wpAny_loadPart_at hx ?_ | with_reducible refine hcls.at ?_ | wp_step)
  intro h' tk' hn' hs
  exact hq h' tk' (fun b o hb ho => (hs.2 b hb).trans ho) hn'
end
end EXG
end PySem

namespace EX
open PySem PySem.Spec PyProof.Rows L2

/-- what the written part says of an own exception class -/
structure OxC (K : PySem.W.Frag) (C : Addr) : Prop where
  cls : ∃ (B newId initId : String) (bmB : List Value) (nm q : Str) (N : Addr) (bs bm : List Value) (sn : List Str) (sub : List Value) (ab : Bool) (col : Option Bool) (dd : Option Addr) (k0 k1 k2 k3 k5 : Option Value), ExcBaseFacts B newId initId bmB ∧ (∀ X : String, bm.contains (.type X) = bmB.contains (.type X)) ∧ PySem.EXG.MroOk (.ref C :: bm) ∧
    K.lookup C = some (excClassObj nm q C N bs bm true sn sub ab col dd k0 k1 k2 k3 k5 newId)
  sa : PySem.W.findIn K (.ref C) "__setattr__" = some (some (.builtin "object.__setattr__"))
  exC : PySem.W.subIn K (.ref C) (.type "BaseException") = some true
  tyC : PySem.W.typeIn K (.ref C) = some (.type "type")
  kC : PySem.W.keepIn K (.ref C) = true
  ga : PySem.W.findIn K (.ref C) "__getattribute__" = some (some (.builtin "BaseException.__getattribute__"))
  gg : PySem.W.findIn K (.ref C) "__getattr__" = some none
  hd : PySem.W.hasDictIn K C = true
  ha : PySem.W.findIn K (.ref C) "__class__" = some (some (.builtin "object.__class__"))
  hn : PySem.W.specialIn K (.builtin "object.__class__") "__get__" = some (some (.builtin "getset_descriptor.__get__"))
  ht : PySem.W.takesIn K (.builtin "object.__class__") = some true
  hm : PySem.W.mroIn K C (.type "object") = some true
def veB : List Value := [.type "ValueError", .type "Exception", .type "BaseException", .type "object"]
def leB : List Value := [.type "LookupError", .type "Exception", .type "BaseException", .type "object"]
def ieB : List Value := [.type "IndexError", .type "LookupError", .type "Exception", .type "BaseException", .type "object"]
def oxIn (K : PySem.W.Frag) (C : Addr) (bmB : List Value) (newId : String) : Bool := match K.lookup C with
  | some ⟨.type "type", _, .cls cd, sl⟩ => (match cd.mro, sl.toList with
    | .ref C' :: bm, [_, _, _, _, some (.builtin n), _] => C' == C && n == newId && !cd.hasDel && PySem.W.excTail bmB bm && cd.hasDict
    | _, _ => false)
  | _ => false
theorem oxIn_of {K : PySem.W.Frag} {C : Addr} {bmB : List Value} {newId : String} (q : oxIn K C bmB newId = true) : ∃ (nm qn : Str) (N : Addr) (bs bm : List Value) (sn : List Str) (sub : List Value) (ab : Bool) (col : Option Bool) (dd : Option Addr) (k0 k1 k2 k3 k5 : Option Value),
    PySem.W.excTail bmB bm = true ∧ K.lookup C = some (excClassObj nm qn C N bs bm true sn sub ab col dd k0 k1 k2 k3 k5 newId) := by
  unfold oxIn at q
  split at q
  · rename_i dd cd sl ho
    split at q
    · rename_i C' bm k0 k1 k2 k3 n k5 hm hs
      simp only [Bool.and_eq_true, beq_iff_eq, Bool.not_eq_true'] at q
      obtain ⟨⟨⟨⟨rfl, rfl⟩, hdel⟩, ht⟩, hdi⟩ := q
      obtain ⟨nm, bs, mro, ns, qn, hd, sn, sub, ab, col, del⟩ := cd
      dsimp only at hm hdel hdi
      subst hm hdel hdi
      have hsl : sl = #[k0, k1, k2, k3, some (.builtin n), k5] := by
        obtain ⟨l⟩ := sl
        simp only at hs
        rw [hs]
      subst hsl
      exact ⟨nm, qn, ns, bs, bm, sn, sub, ab, col, dd, k0, k1, k2, k3, k5, ht, ho⟩
    · cases q
  · cases q
def oxB (K : PySem.W.Frag) (C : Addr) : Bool := (oxIn K C veB "ValueError.__new__" || (oxIn K C leB "LookupError.__new__" || oxIn K C ieB "IndexError.__new__")) &&
  (He.eqO (PySem.W.findIn K (.ref C) "__setattr__") (some (some (.builtin "object.__setattr__"))) && (decide (PySem.W.subIn K (.ref C) (.type "BaseException") = some true) && (decide (PySem.W.typeIn K (.ref C) = some (.type "type")) && (PySem.W.keepIn K (.ref C) &&
  (He.eqO (PySem.W.findIn K (.ref C) "__getattribute__") (some (some (.builtin "BaseException.__getattribute__"))) && (He.eqO (PySem.W.findIn K (.ref C) "__getattr__") (some none) && (PySem.W.hasDictIn K C && (He.eqO (PySem.W.findIn K (.ref C) "__class__") (some (some (.builtin "object.__class__"))) &&
  (He.eqO (PySem.W.specialIn K (.builtin "object.__class__") "__get__") (some (some (.builtin "getset_descriptor.__get__"))) && (decide (PySem.W.takesIn K (.builtin "object.__class__") = some true) && decide (PySem.W.mroIn K C (.type "object") = some true)))))))))))
theorem oxB_ok {K : PySem.W.Frag} {C : Addr} (h : oxB K C = true) : OxC K C := by
  obtain ⟨h0, h⟩ := He.ba h
  obtain ⟨h1, h⟩ := He.ba h
  obtain ⟨h2, h⟩ := He.ba h
  obtain ⟨h3, h⟩ := He.ba h
  obtain ⟨h4, h⟩ := He.ba h
  obtain ⟨h5, h⟩ := He.ba h
  obtain ⟨h6, h⟩ := He.ba h
  obtain ⟨h7, h⟩ := He.ba h
  obtain ⟨h8, h⟩ := He.ba h
  obtain ⟨h9, h⟩ := He.ba h
  obtain ⟨h10, h11⟩ := He.ba h
  refine ⟨?_, He.eqO_ok h1, of_decide_eq_true h2, of_decide_eq_true h3, h4, He.eqO_ok h5, He.eqO_ok h6, h7, He.eqO_ok h8, He.eqO_ok h9, of_decide_eq_true h10, of_decide_eq_true h11⟩
  rcases Bool.or_eq_true_iff.mp h0 with z | z
  · obtain ⟨nm, q, N, bs, bm, sn, sub, ab, col, dd, k0, k1, k2, k3, k5, t, l⟩ := oxIn_of z
    exact ⟨_, _, _, _, nm, q, N, bs, bm, sn, sub, ab, col, dd, k0, k1, k2, k3, k5, PySem.F.excBase_ValueError, fun X => PySem.W.excTail_contains X _ t, PySem.EXG.mroOk_of PySem.F.store_ValueError t, l⟩
  · rcases Bool.or_eq_true_iff.mp z with z | z
    · obtain ⟨nm, q, N, bs, bm, sn, sub, ab, col, dd, k0, k1, k2, k3, k5, t, l⟩ := oxIn_of z
      exact ⟨_, _, _, _, nm, q, N, bs, bm, sn, sub, ab, col, dd, k0, k1, k2, k3, k5, PySem.F.excBase_LookupError, fun X => PySem.W.excTail_contains X _ t, PySem.EXG.mroOk_of PySem.F.store_LookupError t, l⟩
    · obtain ⟨nm, q, N, bs, bm, sn, sub, ab, col, dd, k0, k1, k2, k3, k5, t, l⟩ := oxIn_of z
      exact ⟨_, _, _, _, nm, q, N, bs, bm, sn, sub, ab, col, dd, k0, k1, k2, k3, k5, PySem.F.excBase_IndexError, fun X => PySem.W.excTail_contains X _ t, PySem.EXG.mroOk_of PySem.F.store_IndexError t, l⟩

section
variable {X : Cx} {pins : List (Addr × Obj)} {σ : DL.VSt} {H : Hp} {s : Shared} {a C dx : Addr} {f : Str} {y : V} {u : Value} {fs : List (Str × V)} {Q : Unit → Shared → Prop} {E : Value → Shared → Prop} {A : Around}
/-- self.f = y, the first one -/
theorem ox_new (T : OxC X.K C) (I : Inv X pins σ H s) (e : H a = some (exo a C none)) (hno : PySem.W.findIn X.K (.ref C) f = some none) (ry : RelV y u)
    (h : ∀ dx s', H dx = none → dx ≠ a → Inv X pins σ (upd (upd H dx (exd dx [(f, y)])) a (exo a C (some dx))) s' → Q () s') : wpAny (model X.prog X.w) A (setAttr (.ref a) f u) Q E s := by
  obtain ⟨_, _, _, _, nm, q, N, bs, bm, sn, sub, ab, col, dd, k0, k1, k2, k3, k5, _, _, hM, hC⟩ := T.cls
  have hcl : PySem.W.clsIn X.K C = some { name := nm, bases := bs, mro := .ref C :: bm, ns := N, qualname := q, hasDict := true, slotNames := sn, subclasses := sub, abstract := ab, collection := col, hasDel := false } := by unfold PySem.W.clsIn; rw [hC] <;> rfl
  obtain ⟨t1, ho⟩ := exo_at I.hok e
  obtain ⟨hp, g, d, t, os⟩ := s
  refine PySem.W.set_plain I.kIn (ox := { cls := .ref C, dict := none, data := .fields #[.ref t1, .none, .none, .none, .bool false, .none] }) (od := none) ⟨ho, rfl, rfl, trivial⟩ T.sa ?_
  refine PySem.EXG.osa_first I.kIn ho hcl hM rfl hno (fun h' tk' dx k dn dne hx hn => ?_)
  have hnd : H dx = none := I.hok.fresh dn
  have nd : ∀ {b : Addr} {o : Obj}, hp.get? b = some o → b ≠ dx := fun {b o} q => Nat.ne_of_lt (Nat.lt_of_lt_of_le (Heap.lt_size q) dn)
  have na : ∀ {b : Addr}, H b = none → b ≠ a := fun {b} n z => by
    rw [z, e] at n
    cases n
  have Un1 : Un X.fs [] H (upd (upd H dx (exd dx [(f, y)])) a (exo a C (some dx))) hp h' := {
    keep := fun b o q n _ _ => k b o (na n) q
    slot := fun b o q n _ _ => ⟨o.slots, k b o (na n) q⟩
    free := fun b o q n _ => by rw [upd_ne (na n), upd_ne (nd q)]; exact n
    there := fun b o q _ => by
      by_cases hb : b = a
      · exact ⟨_, by rw [hb]; exact hx⟩
      · exact ⟨o, k b o hb q⟩
    tups := fun b xs q => by rw [upd_ne (at_ne e q exo_tup), upd_ne (ne_of_none q hnd)]; exact q
    frzs := fun b o v q => by rw [upd_ne (at_ne e q exo_frz), upd_ne (ne_of_none q hnd)]; exact q
    tbls := fun b ps q => ⟨#[], by rw [upd_ne (at_ne e q exo_tbl), upd_ne (ne_of_none q hnd), q]; simp⟩ }
  refine h dx _ hnd dne (I.un (t' := tk') Un1 fun b o q => ?_)
  by_cases hb : b = a
  · subst hb
    rw [upd_same] at q
    cases q
    exact exo_ok hx
  · rw [upd_ne hb] at q
    by_cases hd : b = dx
    · subst hd
      rw [upd_same] at q
      cases q
      exact exd_ok hn (relO_put (fs := []) ry fun g => True.intro)
    · rw [upd_ne hd] at q
      exact (I.hok b o q).stay (fun c v hc z => k c v (by
          rcases hc with hc | hc
          · rw [hc]
            exact hb
          · exact at_ne e hc exo_own) z)
        (fun c hc => by rw [upd_ne (at_ne e hc exo_own), upd_ne (ne_of_none hc hnd)]; exact hc) (fun c xs hc => by rw [upd_ne (at_ne e hc exo_tup), upd_ne (ne_of_none hc hnd)]; exact hc)
/-- self.f = y, a further one -/
theorem ox_old (T : OxC X.K C) (I : Inv X pins σ H s) (e : H a = some (exo a C (some dx))) (ed : H dx = some (exd dx fs)) (hl : fs.length ≤ 900) (hno : PySem.W.findIn X.K (.ref C) f = some none) (ry : RelV y u)
    (h : ∀ s', Inv X pins σ (upd H dx (exd dx ((f, y) :: fs))) s' → Q () s') : wpAny (model X.prog X.w) A (setAttr (.ref a) f u) Q E s := by
  obtain ⟨_, _, _, _, nm, q, N, bs, bm, sn, sub, ab, col, dd, k0, k1, k2, k3, k5, _, _, hM, hC⟩ := T.cls
  have hcl : PySem.W.clsIn X.K C = some { name := nm, bases := bs, mro := .ref C :: bm, ns := N, qualname := q, hasDict := true, slotNames := sn, subclasses := sub, abstract := ab, collection := col, hasDel := false } := by unfold PySem.W.clsIn; rw [hC] <;> rfl
  obtain ⟨t1, ho⟩ := exo_at I.hok e
  obtain ⟨mA, hns, rel⟩ := exd_at I.hok ed
  have hw := within_of rel
  obtain ⟨hp, g, d, t, os⟩ := s
  obtain ⟨oD, _, _, hoD, _, _⟩ := hns.count hw
  refine PySem.W.set_plain I.kIn (ox := { cls := .ref C, dict := some dx, data := .fields #[.ref t1, .none, .none, .none, .bool false, .none] }) (od := some oD) ⟨ho, rfl, rfl, hoD⟩ T.sa ?_
  refine PySem.EXG.osa_next I.kIn ho hns hw (by rw [List.length_map]; omega) hcl hM rfl hno (fun h' tk' k hn => ?_)
  have hd : ∃ o, h'.get? dx = some o := by
    obtain ⟨o, _, _, e', _⟩ := hn
    exact ⟨o, e'⟩
  exact h _ (I.write (t' := tk') (x := dx) (e := dx) (o := exd dx ((f, y) :: fs)) (by rw [ed]; exact True.intro) (.inl rfl) k hd (exd_ok hn (relO_put ry rel)))
end
/-- self.f = e -/
def tOx (K : PySem.W.Frag) (f : Str) (to te : TE) : TS := fun D σ H => te σ H fun y H1 => to σ H1 fun x H2 => ∃ a C : Addr, x = .ref a ∧ OxC K C ∧ PySem.W.findIn K (.ref C) f = some none ∧
  ((H2 a = some (exo a C none) ∧ ∀ dx, H2 dx = none → dx ≠ a → D.nx σ (upd (upd H2 dx (exd dx [(f, y)])) a (exo a C (some dx)))) ∨
    ∃ (dx : Addr) (fs : List (Str × V)), H2 a = some (exo a C (some dx)) ∧ H2 dx = some (exd dx fs) ∧ fs.length ≤ 900 ∧ D.nx σ (upd H2 dx (exd dx ((f, y) :: fs))))
section
variable {X : Cx} {o e : Expr} {es : List Expr} {to te : TE} {ta : TA} {f : Str} {p p' p1 p2 pos : Pos}
theorem ps_ox (ho : PE X o to) (he : PE X e te) (hs : swapsWith e (some (.Attribute o f p')) pos.line X.env = pure false := by rfl) : PS X (.Assign [.Attribute o f p'] e pos) (tOx X.K f to te) := by
  refine ⟨fun pins s σ H D I h => ?_⟩
  refine plainObj_wpAny_Assign_Attribute (thn (he.run pins s σ H _ I h) fun v s1 ⟨y, H1, I1, r1, q1⟩ => thn (ho.run pins s1 σ H1 _ I1 q1) fun u s2 ⟨x, H2, I2, r2, a, C, ex, T, hno, q⟩ => ?_) hs
  subst ex
  obtain rfl : u = Value.ref a := r2
  rcases q with ⟨ea, q⟩ | ⟨dx, fs, ea, ed, hl, q⟩
  · exact ox_new T I2 ea hno r1 fun dx s' n ne J => ⟨σ, _, J, q dx n ne⟩
  · exact ox_old T I2 ea ed hl hno r1 fun s' J => ⟨σ, _, J, q⟩
end

/-- the fields behind __init__ -/
def xFs (code : Str) (ns : List Str) (args : List V) : List (Str × V) := (ns.zip args).reverse ++ [((("code" : Str), V.str code) : Str × V)]
def spXI (C : Addr) (code : Str) (ns : List Str) : Sp := fun vs H Q _ => ∃ (a : Addr) (args : List V), vs = .ref a :: args ∧ args.length = ns.length ∧ H a = some (exo a C none) ∧
  ∀ dx H', H dx = none → dx ≠ a → H' a = some (exo a C (some dx)) → H' dx = some (exd dx (xFs code ns args)) → (∀ b, b ≠ a → b ≠ dx → H' b = H b) → Q .non H'
def body0 (c : Str) (j : Nat) (p1 p2 p3 p4 : Pos) : List Stmt := [.Assign [.Attribute (.Name "self" p1) "code" p2] (.Constant (.str c) j p3) p4]
def body1 (c f : Str) (j : Nat) (p1 p2 p3 p4 p5 p6 p7 p8 : Pos) : List Stmt := body0 c j p1 p2 p3 p4 ++ [.Assign [.Attribute (.Name "self" p5) f p6] (.Name f p7) p8]
def body2 (c f g : Str) (j : Nat) (p1 p2 p3 p4 p5 p6 p7 p8 q5 q6 q7 q8 : Pos) : List Stmt := body1 c f j p1 p2 p3 p4 p5 p6 p7 p8 ++ [.Assign [.Attribute (.Name "self" q5) g q6] (.Name g q7) q8]
section
variable {P : Program} {w : World} {K : PySem.W.Frag} {mg : Str → Option Value} {base : Heap} {qual : Str} {st : Stmt} {f C : Addr} {fd : FuncData} {c f1 f2 : Str} {j : Nat} {p1 p2 p3 p4 p5 p6 p7 p8 q5 q6 q7 q8 : Pos}
theorem init0 (T : OxC K C) (F : Fun K "__init__" qual st f fd) (S : FnScope ["self"] ["self"] (defScope st)) (hc : PySem.W.findIn K (.ref C) "code" = some none)
    (hb : defBody st = body0 c j p1 p2 p3 p4) (hs : (defScope st).names.lookup ("self" : Str) = some .local) : FnOk P w K mg base (L2.CX P w) 1 f fd ["self"] (spXI C c []) := by
  refine F.okX S (fun vs H Q E h => ?_) (fun cdv A outer s H vs Q E hr h => ?_)
  · obtain ⟨a, args, rfl, h1, _⟩ := h
    simp only [List.length_cons, h1]
  · obtain ⟨a, args, rfl, h1, h2, k⟩ := h
    rw [hb]
    refine ⟨_, pss_one (ps_ox (pe_var (i := 0) rfl (.inl hs)) pe_str), ?_⟩
    have e0 : args = [] := List.eq_nil_of_length_eq_zero h1
    subst e0
    refine ⟨_, rfl, a, C, rfl, T, hc, .inl ⟨h2, fun dx n ne => ?_⟩⟩
    exact k dx _ n ne upd_same (by rw [upd_ne ne, upd_same]; rfl) (fun b h3 h4 => by rw [upd_ne h3, upd_ne h4])
theorem init1 (T : OxC K C) (F : Fun K "__init__" qual st f fd) (S : FnScope ["self", f1] ["self", f1] (defScope st)) (hc : PySem.W.findIn K (.ref C) "code" = some none) (hc1 : PySem.W.findIn K (.ref C) f1 = some none)
    (hb : defBody st = body1 c f1 j p1 p2 p3 p4 p5 p6 p7 p8) (hs : (defScope st).names.lookup ("self" : Str) = some .local) (hs1 : (defScope st).names.lookup f1 = some .local) (d1 : (f1 == ("__debug__" : Str)) = false) (d1' : (f1 == ("__classdict__" : Str)) = false) :
    FnOk P w K mg base (L2.CX P w) 1 f fd ["self", f1] (spXI C c [f1]) := by
  refine F.okX S (fun vs H Q E h => ?_) (fun cdv A outer s H vs Q E hr h => ?_)
  · obtain ⟨a, args, rfl, h1, _⟩ := h
    simp only [List.length_cons, h1]
  · obtain ⟨a, args, rfl, h1, h2, k⟩ := h
    rw [hb]
    refine ⟨_, pss_cons (ps_ox (pe_var (i := 0) rfl (.inl hs)) pe_str) (pss_one (ps_ox (pe_var (i := 0) rfl (.inl hs)) (pe_var (i := 1) rfl (.inl hs1) d1 d1'))), ?_⟩
    obtain ⟨y, rfl⟩ : ∃ y, args = [y] := by
      match args, h1 with
      | [y], _ => exact ⟨y, rfl⟩
    refine ⟨_, rfl, a, C, rfl, T, hc, .inl ⟨h2, fun dx n ne => ?_⟩⟩
    refine ⟨_, rfl, _, rfl, a, C, rfl, T, hc1, .inr ⟨dx, _, upd_same, by rw [upd_ne ne, upd_same], by show 1 ≤ 900; decide, ?_⟩⟩
    exact k dx _ n ne (by rw [upd_ne (Ne.symm ne), upd_same]) upd_same (fun b h3 h4 => by rw [upd_ne h4, upd_ne h3, upd_ne h4])
theorem init2 (T : OxC K C) (F : Fun K "__init__" qual st f fd) (S : FnScope ["self", f1, f2] ["self", f1, f2] (defScope st)) (hc : PySem.W.findIn K (.ref C) "code" = some none) (hc1 : PySem.W.findIn K (.ref C) f1 = some none) (hc2 : PySem.W.findIn K (.ref C) f2 = some none)
    (hb : defBody st = body2 c f1 f2 j p1 p2 p3 p4 p5 p6 p7 p8 q5 q6 q7 q8) (hs : (defScope st).names.lookup ("self" : Str) = some .local) (hs1 : (defScope st).names.lookup f1 = some .local) (hs2 : (defScope st).names.lookup f2 = some .local) (d1 : (f1 == ("__debug__" : Str)) = false) (d1' : (f1 == ("__classdict__" : Str)) = false) (d2 : (f2 == ("__debug__" : Str)) = false) (d2' : (f2 == ("__classdict__" : Str)) = false) :
    FnOk P w K mg base (L2.CX P w) 1 f fd ["self", f1, f2] (spXI C c [f1, f2]) := by
  refine F.okX S (fun vs H Q E h => ?_) (fun cdv A outer s H vs Q E hr h => ?_)
  · obtain ⟨a, args, rfl, h1, _⟩ := h
    simp only [List.length_cons, h1]
  · obtain ⟨a, args, rfl, h1, h2, k⟩ := h
    rw [hb]
    refine ⟨_, pss_cons (ps_ox (pe_var (i := 0) rfl (.inl hs)) pe_str) (pss_cons (ps_ox (pe_var (i := 0) rfl (.inl hs)) (pe_var (i := 1) rfl (.inl hs1) d1 d1')) (pss_one (ps_ox (pe_var (i := 0) rfl (.inl hs)) (pe_var (i := 2) rfl (.inl hs2) d2 d2')))), ?_⟩
    obtain ⟨y, z, rfl⟩ : ∃ y z, args = [y, z] := by
      match args, h1 with
      | [y, z], _ => exact ⟨y, z, rfl⟩
    refine ⟨_, rfl, a, C, rfl, T, hc, .inl ⟨h2, fun dx n ne => ?_⟩⟩
    refine ⟨_, rfl, _, rfl, a, C, rfl, T, hc1, .inr ⟨dx, _, upd_same, by rw [upd_ne ne, upd_same], by show 1 ≤ 900; decide, ?_⟩⟩
    refine ⟨_, rfl, _, rfl, a, C, rfl, T, hc2, .inr ⟨dx, _, by rw [upd_ne (Ne.symm ne), upd_same], upd_same, by show 2 ≤ 900; decide, ?_⟩⟩
    exact k dx _ n ne (by rw [upd_ne (Ne.symm ne), upd_ne (Ne.symm ne), upd_same]) upd_same (fun b h3 h4 => by rw [upd_ne h4, upd_ne h4, upd_ne h3, upd_ne h4])
end

def pickP {α : Type} (pm : List Nat) (l : List α) : List α := pm.filterMap fun i => l[i]?
theorem vals_at {vs : List V} {us : List Value} (r : Vals vs us) : ∀ i : Nat, (vs[i]? = none ∧ us[i]? = none) ∨ ∃ x y, vs[i]? = some x ∧ us[i]? = some y ∧ RelV x y := by
  induction r with
  | nil => exact fun i => .inl ⟨rfl, rfl⟩
  | cons h t ih =>
    intro i
    cases i with
    | zero => exact .inr ⟨_, _, rfl, rfl, h⟩
    | succ i => simpa using ih i
theorem pickP_vals {vs : List V} {us : List Value} (r : Vals vs us) : ∀ pm : List Nat, Vals (pickP pm vs) (pickP pm us)
  | [] => .nil
  | i :: pm => by
    have t := pickP_vals r pm
    unfold pickP at t ⊢
    rcases vals_at r i with ⟨h1, h2⟩ | ⟨x, y, h1, h2, h3⟩
    · rw [List.filterMap_cons_none h1, List.filterMap_cons_none h2]; exact t
    · rw [List.filterMap_cons_some h1, List.filterMap_cons_some h2]; exact .cons h3 t
/-- a class and its __init__, as the maker needs them -/
structure IFn (X : Cx) (C : Addr) (code : Str) (ns : List Str) (fI : Addr) (fd : FuncData) : Prop where
  T : OxC X.K C
  iC : PySem.W.findIn X.K (.ref C) "__init__" = some (some (.ref fI))
  tI : PySem.W.typeIn X.K (.ref fI) = some (.type "function")
  F : FnOk X.prog X.w X.K X.mg X.base (L2.CX X.prog X.w) 1 fI fd ("self" :: ns) (spXI C code ns)
/-- how m values by place and the keywords ks bind -/
structure BX (fd : FuncData) (ns : List Str) (m : Nat) (ks : List Str) (pm : List Nat) : Prop where
  to : ∀ (s : Shared) (u : Value) (us ws : List Value), us.length = m → ws.length = ks.length → BindsTo s fd ⟨u :: us, ks.zip ws⟩ (((("self" : Str) :: ns)).zip (u :: pickP pm (us ++ ws)))
section
variable {X : Cx} {pins : List (Addr × Obj)} {σ : DL.VSt} {H1 : Hp} {s : Shared} {C fI : Addr} {fd : FuncData} {code : Str} {ns ks : List Str} {pm : List Nat}
theorem run_mkx {us ws : List Value} {vs zs : List V} {Qv : Value → Shared → Prop} (D : IFn X C code ns fI fd) (B : BX fd ns us.length ks pm) (hr : Room 2 X.A) (I1 : Inv X pins σ H1 s) (r1 : Vals vs us) (r3 : Vals zs ws) (hw : ws.length = ks.length)
    (hl : (pickP pm (vs ++ zs)).length = ns.length) (hus : us.length ≤ sizeLine)
    (h : ∀ (a d : Addr) (H2 : Hp) (hp2 h2 : Heap) (g2 : Array GenState) (d2 : Drawn) (t2 : Nat), s.heap.objs.size ≤ a → (∀ b o, s.heap.get? b = some o → hp2.get? b = some o) → Un (frs X.stack) [] (upd H1 a (exo a C none)) H2 hp2 h2 → HOk X.prog X.w H2 h2 → AllBare g2 →
      H2 a = some (exo a C (some d)) → H2 d = some (exd d (xFs code ns (pickP pm (vs ++ zs)))) → H1 d = none → d ≠ a → (∀ b, b ≠ a → b ≠ d → H2 b = H1 b) → Qv (.ref a) ⟨h2, g2, d2, t2, s.os⟩) :
    wpAny (model X.prog X.w) X.A (call (.ref C) us (ks.zip ws)) Qv X.xe s := by
  obtain ⟨T, iC, tI, F⟩ := D
  obtain ⟨_, _, _, _, nm, q, N, bs, bm, sn, sub, ab, col, dd, k0, k1, k2, k3, k5, FB, hT, hM, hC⟩ := T.cls
  obtain ⟨hp, g, dr, tk, os⟩ := s
  have hsz : hp.objs.size ≤ hp.objs.size + 1 := Nat.le_succ _
  have hn : H1 (hp.objs.size + 1) = none := I1.hok.fresh hsz
  have kk : ∀ b o, hp.get? b = some o → ((hp.push (PySem.W.kdv_tup us)).push (PySem.HandSPX.excO C hp.objs.size)).get? b = some o := fun b o e => Heap.get?_push_of_some _ (Heap.get?_push_of_some _ e)
  have hget : ((hp.push (PySem.W.kdv_tup us)).push (PySem.HandSPX.excO C hp.objs.size)).get? (hp.objs.size + 1) = some (PySem.HandSPX.excO C hp.objs.size) := by heap_get
  have I2 : Inv X pins σ (upd H1 (hp.objs.size + 1) (exo (hp.objs.size + 1) C none)) ⟨(hp.push (PySem.W.kdv_tup us)).push (PySem.HandSPX.excO C hp.objs.size), g, dr, tk, os⟩ :=
    I1.laid (t' := tk) (a := hp.objs.size + 1) (o := exo (hp.objs.size + 1) C none) (h' := (hp.push (PySem.W.kdv_tup us)).push (PySem.HandSPX.excO C hp.objs.size)) kk hsz (exo_ok hget)
  have r2 : Vals (V.ref (hp.objs.size + 1) :: pickP pm (vs ++ zs)) (Value.ref (hp.objs.size + 1) :: pickP pm (us ++ ws)) := .cons rfl (pickP_vals (r1.append r3) pm)
  have hq : spXI C code ns (V.ref (hp.objs.size + 1) :: pickP pm (vs ++ zs)) (upd H1 (hp.objs.size + 1) (exo (hp.objs.size + 1) C none)) (fun v H2 => v = .non ∧ ∃ d, H2 (hp.objs.size + 1) = some (exo (hp.objs.size + 1) C (some d)) ∧
      H2 d = some (exd d (xFs code ns (pickP pm (vs ++ zs)))) ∧ H1 d = none ∧ d ≠ hp.objs.size + 1 ∧ ∀ b, b ≠ hp.objs.size + 1 → b ≠ d → H2 b = H1 b) (fun _ _ _ => False) :=
    ⟨_, _, rfl, hl, upd_same, fun dx H' n ne e1 e2 fr => ⟨rfl, dx, e1, e2, by rw [upd_ne ne] at n; exact n, ne, fun b x y => by rw [fr b x y, upd_ne x]⟩⟩
  refine wpAny_call (PySem.EXG.call_kw FB hT (I1.kIn _ _ hC) (PySem.W.looks_findIn I1.kIn iC) (fun self => PySem.W.bind_fn I1.kIn self tI) hus
    (codeAny_mono (F.run _ X.stack _ _ ⟨Value.ref (hp.objs.size + 1) :: us, ks.zip ws⟩ (Value.ref (hp.objs.size + 1) :: pickP pm (us ++ ws)) _ _ (fun _ _ _ => False) (hr.make C us (ks.zip ws)) (I2.env0.make C us (ks.zip ws)) (B.to _ _ us ws rfl hw) r2 hq) fun r s' hq' => ?_))
  cases r with
  | error er => exact passL pins σ _ _ er s' I2 hq'
  | ok fl =>
    cases fl with
    | ret u =>
      obtain ⟨v, H2, os2, bare2, un2, hok2, rv, ev, d, ea, ed, hd1, ne, fr⟩ := hq'
      subst ev
      obtain ⟨h2, g2, d2, t2, os'⟩ := s'
      obtain rfl : os' = os := os2
      exact ⟨rv, h _ d H2 _ h2 g2 d2 t2 hsz kk un2 hok2 bare2 ea ed hd1 ne fr⟩
    | next => exact False.elim hq'
    | brk => exact False.elim hq'
    | cont => exact False.elim hq'
/-- kept as a value: nobody changes it further -/
theorem mk_kept {H2 : Hp} {hp hp2 h2 : Heap} {g1 g2 : Array GenState} {d1 d2 : Drawn} {t1 t2 : Nat} {os : OsState} {a d : Addr} {fs : List (Str × V)} (I1 : Inv X pins σ H1 ⟨hp, g1, d1, t1, os⟩)
    (ha : hp.objs.size ≤ a) (k : ∀ b o, hp.get? b = some o → hp2.get? b = some o) (un : Un (frs X.stack) [] (upd H1 a (exo a C none)) H2 hp2 h2) (hok : HOk X.prog X.w H2 h2) (hb : AllBare g2)
    (ea : H2 a = some (exo a C (some d))) (ed : H2 d = some (exd d fs)) (hd1 : H1 d = none) (hda : d ≠ a) (fr : ∀ b, b ≠ a → b ≠ d → H2 b = H1 b) :
    ∃ oe : Obj, oe.cls = .ref C ∧ oe.dict = some d ∧ (∃ ws, oe.data = .fields ws) ∧ H1 a = none ∧ Inv X pins σ (upd (upd H1 d (.xd fs)) a (DL.excHO a oe)) ⟨h2, g2, d2, t2, os⟩ := by
  obtain ⟨t0, hoe⟩ := exo_at hok ea
  obtain ⟨mA, hns, rel⟩ := exd_at hok ed
  have hn : H1 a = none := I1.hok.fresh ha
  refine ⟨{ cls := .ref C, dict := some d, data := .fields #[.ref t0, .none, .none, .none, .bool false, .none] }, rfl, rfl, ⟨_, rfl⟩, hn, ?_⟩
  have nha : ∀ {b : Addr} {o : Obj}, hp.get? b = some o → b ≠ a := fun {b o} z => Nat.ne_of_lt (Nat.lt_of_lt_of_le (Heap.lt_size z) ha)
  have up : ∀ {b : Addr}, b ≠ a → H1 b = none → upd H1 a (exo a C none) b = none := fun {b} hb n => by rw [upd_ne hb]; exact n
  have nd : ∀ {b : Addr} {o : Obj}, hp.get? b = some o → H1 b = none → b ≠ d := fun {b o} z n e => by
    have y := un.free b o (k b o z) (up (nha z) n) (by simp)
    rw [e, ed] at y
    cases y
  have U : Un (frs X.stack) [] H1 (upd (upd H1 d (.xd fs)) a (DL.excHO a { cls := .ref C, dict := some d, data := .fields #[.ref t0, .none, .none, .none, .bool false, .none] })) hp h2 := {
    keep := fun b o z n hf hx => un.keep b o (k b o z) (up (nha z) n) hf hx
    slot := fun b o z n hf hx => un.slot b o (k b o z) (up (nha z) n) hf hx
    free := fun b o z n hx => by
      rw [upd_ne (nha z), upd_ne (nd z n)]
      exact n
    there := fun b o z hx => un.there b o (k b o z) hx
    tups := fun b xs z => by
      rw [upd_ne (ne_of_none z hn), upd_ne (ne_of_none z hd1)]
      exact z
    frzs := fun b o v z => by
      rw [upd_ne (ne_of_none z hn), upd_ne (ne_of_none z hd1)]
      exact z
    tbls := fun b ps z => by
      rw [upd_ne (ne_of_none z hn), upd_ne (ne_of_none z hd1), z]
      exact ⟨#[], by simp⟩ }
  refine I1.call' (ch := []) rfl U (fun b o z => ?_) hb (fun b z => absurd z (by simp))
  by_cases hba : b = a
  · subst hba
    rw [upd_same] at z
    cases z
    exact ⟨hoe, hoe, ⟨_, hoe⟩, fun h1 h3 e kp => kp _ e⟩
  · rw [upd_ne hba] at z
    by_cases hbd : b = d
    · subst hbd
      rw [upd_same] at z
      cases z
      exact ⟨mA, hns, rel⟩
    · rw [upd_ne hbd] at z
      rw [← fr b hba hbd] at z
      exact (hok b o z).stay (fun c v hc y => y) (fun c hc => by
          have h1 := at_ne ea hc exo_own
          have h2 := at_ne ed hc exd_own
          rw [upd_ne h1, upd_ne h2, ← fr c h1 h2]; exact hc) (fun c xs hc => by
          have h1 := at_ne ea hc exo_tup
          have h2 := at_ne ed hc exd_tup
          rw [upd_ne h1, upd_ne h2, ← fr c h1 h2]; exact hc)
end

/-- the values by place, then those of the keywords -/
def tAK (ta tk : TA) : TA := fun σ H Q => ta σ H fun vs H1 => tk σ H1 fun zs H2 => Q (vs ++ zs) H2
def tXV (C : Addr) (code : Str) (ns : List Str) (pm : List Nat) (n : Nat) (ta : TA) : TE := fun σ H Q => ta σ H fun vs H1 => vs.length = n ∧ (pickP pm vs).length = ns.length ∧
  ∀ (a d : Addr) (oe : Obj), H1 a = none → H1 d = none → d ≠ a → oe.cls = .ref C → oe.dict = some d → (∃ ws, oe.data = .fields ws) → Q (.ref a) (upd (upd H1 d (.xd (xFs code ns (pickP pm vs)))) a (DL.excHO a oe))
def tXR (C : Addr) (code : Str) (ns : List Str) (pm : List Nat) (n : Nat) (ta : TA) : DL.VSt → Hp → XK → Prop := fun σ H Q => ta σ H fun vs H1 => vs.length = n ∧ (pickP pm vs).length = ns.length ∧
  ∀ (d : Addr), H1 d = none → Q (.ref C) (some d) (upd H1 d (.xd (xFs code ns (pickP pm vs))))
/-- what a maker's call runs: a class, a shape of its arguments -/
structure MkArgs (X : Cx) (pos : Pos) (es : List Expr) (kws : List Keyword) (ks : List Str) (t : TA) : Prop where
  run : ∀ (C : Addr) (pins : List (Addr × Obj)) (s : Shared) (σ : DL.VSt) (H : Hp) (Q : List V → Hp → Prop) (R : Value → Shared → Prop), Inv X pins σ H s → PySem.W.keepIn X.K (.ref C) = true → t σ H Q →
    (∀ (us ws : List Value) (vs zs : List V) (H2 : Hp) (s2 : Shared), us.length = es.length → ws.length = ks.length → Vals vs us → Vals zs ws → Inv X pins σ H2 s2 → Q (vs ++ zs) H2 → wpAny (model X.prog X.w) X.A (call (.ref C) us (ks.zip ws)) R X.xe s2) →
    wpAny (model X.prog X.w) X.A (callWith pos (.ref C) [] (backTo pos (starEach es X.env)) (backToKw pos (keywordEach kws X.env))) R X.xe s
section
variable {X : Cx} {C fI : Addr} {fd : FuncData} {code : Str} {ns ks : List Str} {pm : List Nat} {x : Str} {p pos : Pos} {e : Expr} {es : List Expr} {kws : List Keyword} {ta tk : TA}
theorem pe_mkx (D : IFn X C code ns fI fd) (B : BX fd ns es.length ks pm) (hr : Room 2 X.A) (hm : X.mg x = some (.ref C)) (ha : MkArgs X pos es kws ks ta) (hle : es.length ≤ sizeLine) (hg : Gl X x := by rfl) (hdb : (x == ("__debug__" : Str)) = false := by decide) :
    PE X (.Call (.Name x p) es kws pos) (tXV C code ns pm (es.length + ks.length) ta) := by
  refine ⟨fun pins s σ H Q I h => ?_⟩
  refine wpAny_Call_Name_kw (ld_glob I hg hm ?_ hdb)
  refine ha.run C pins s σ H _ _ I D.T.kC h fun us ws vs zs H2 s2 hu hw r1 r3 I2 ⟨hl, hl2, q⟩ => ?_
  refine run_mkx D (by rw [hu]; exact B) hr I2 r1 r3 hw hl2 (by rw [hu]; exact hle) fun a d H3 hp2 h2 g2 d2 t2 hsz kk un hok hb ea ed hd1 ne fr => ?_
  obtain ⟨oe, c1, c2, c3, hn, J⟩ := mk_kept (d2 := d2) (t2 := t2) I2 hsz kk un hok hb ea ed hd1 ne fr
  exact ⟨.ref a, _, J, rfl, q a d oe hn hd1 ne c1 c2 c3⟩
theorem pmk_mkx (D : IFn X C code ns fI fd) (B : BX fd ns es.length ks pm) (hr : Room 2 X.A) (hm : X.mg x = some (.ref C)) (ha : MkArgs X pos es kws ks ta) (hle : es.length ≤ sizeLine) (hg : Gl X x := by rfl) (hdb : (x == ("__debug__" : Str)) = false := by decide) :
    PMk X (.Call (.Name x p) es kws pos) (tXR C code ns pm (es.length + ks.length) ta) := by
  intro pins s σ H Q I h
  refine wpAny_Call_Name_kw (ld_glob I hg hm ?_ hdb)
  refine ha.run C pins s σ H _ _ I D.T.kC h fun us ws vs zs H2 s2 hu hw r1 r3 I2 ⟨hl, hl2, q⟩ => ?_
  refine run_mkx D (by rw [hu]; exact B) hr I2 r1 r3 hw hl2 (by rw [hu]; exact hle) fun a d H3 hp2 h2 g2 d2 t2 hsz kk un hok hb ea ed hd1 ne fr => ?_
  obtain ⟨hp, g, dr, t, os⟩ := s2
  refine mk_end (raises_own D.T.exC D.T.tyC) I2 hsz kk un hok rfl hb ea ed hd1 ?_
  have hn : H2 a = none := I2.hok.fresh hsz
  have e0 : upd (del H3 a) d (.xd (xFs code ns (pickP pm (vs ++ zs)))) = upd H2 d (.xd (xFs code ns (pickP pm (vs ++ zs)))) := by
    funext b
    by_cases hbd : b = d
    · subst hbd; rw [upd_same, upd_same]
    · rw [upd_ne hbd, upd_ne hbd]
      by_cases hba : b = a
      · subst hba; rw [del_same, hn]
      · rw [del_ne hba]; exact fr b hba hbd
  rw [e0]
  exact q d hd1
theorem mka_pos (ha : PA X (e :: es) ta) (he : starEach (e :: es) X.env = (false, eval e X.env) :: starEach es X.env := by rfl) (hpl : (backTo pos (starEach es X.env)).any (·.1) = false := by rfl)
    : MkArgs X pos (e :: es) [] [] (fun σ H Q => ta σ H fun vs H1 => vs.length = (e :: es).length ∧ Q vs H1) := by
  refine ⟨fun C pins s σ H Q R I hk h k => ?_⟩
  refine PySem.W.callWith_K (h₀ := X.base) I.ok.mod.kin hk (thn (ha.run pos pins s σ H _ I h) fun us s1 ⟨vs, H1, I1, r1, hz, q1⟩ => ⟨I1.kIn, ?_⟩) he hpl
  exact k us [] vs [] H1 s1 (by rw [← hz]; exact (Paired.length r1).symm) rfl r1 .nil I1 (by rw [List.append_nil]; exact q1)
theorem mka_nil : MkArgs X pos [] [] [] tNil := by
  refine ⟨fun C pins s σ H Q R I hk h k => ?_⟩
  exact PySem.W.callWith_K0 I.kIn hk (k [] [] [] [] H s rfl rfl .nil .nil I h)
theorem mka_kw (hkw : PK X kws tk) (hall : (backToKw pos (keywordEach kws X.env)).all (·.1.isSome) = true := by rfl) (hks : (backToKw pos (keywordEach kws X.env)).filterMap (·.1) = ks := by rfl)
    (hpl : ((backTo pos (starEach [] X.env)).any (·.1) || (backToKw pos (keywordEach kws X.env)).any (·.1.isNone)) = false := by rfl) : MkArgs X pos [] kws ks (fun σ H Q => tk σ H fun vs H1 => vs.length = ks.length ∧ Q vs H1) := by
  refine ⟨fun C pins s σ H Q R I hk h k => ?_⟩
  refine PySem.W.callWith_KW0 (h₀ := X.base) I.ok.mod.kin hk hall (thn (hkw.run pos pins s σ H _ I h) fun ws s2 ⟨zs, H2, I2, rz, hz, q2⟩ => ⟨I2.kIn, ?_⟩) hpl
  rw [hks]
  exact k [] ws [] zs H2 s2 rfl (by rw [← hz]; exact (Paired.length rz).symm) .nil rz I2 q2
theorem mka_both (ha : PA X (e :: es) ta) (hkw : PK X kws tk) (hall : (backToKw pos (keywordEach kws X.env)).all (·.1.isSome) = true := by rfl) (hks : (backToKw pos (keywordEach kws X.env)).filterMap (·.1) = ks := by rfl)
    (he : starEach (e :: es) X.env = (false, eval e X.env) :: starEach es X.env := by rfl)
    (hpl : ((backTo pos (starEach (e :: es) X.env)).any (·.1) || (backToKw pos (keywordEach kws X.env)).any (·.1.isNone)) = false := by rfl) :
    MkArgs X pos (e :: es) kws ks (fun σ H Q => ta σ H fun vs H1 => vs.length = (e :: es).length ∧ tk σ H1 fun zs H2 => zs.length = ks.length ∧ Q (vs ++ zs) H2) := by
  refine ⟨fun C pins s σ H Q R I hk h k => ?_⟩
  refine PySem.W.callWith_KW (h₀ := X.base) I.ok.mod.kin hk hall (thn (ha.run pos pins s σ H _ I h) fun us s1 ⟨vs, H1, I1, r1, hz, q1⟩ => ?_) hpl he
  refine thn (hkw.run pos pins s1 σ H1 _ I1 q1) fun ws s2 ⟨zs, H2, I2, rz, hz2, q2⟩ => ⟨I2.kIn, ?_⟩
  rw [hks]
  exact k us ws vs zs H2 s2 (by rw [← hz]; exact (Paired.length r1).symm) (by rw [← hz2]; exact (Paired.length rz).symm) r1 rz I2 q2
end
end EX

namespace PySem.W
open PySem PySem.Spec PySem.Calls PyProof.Rows
section
variable {prog : Program} {w : World} {A : Around} {E : Value → Shared → Prop} {s : Shared} {K : Frag} {x D : Addr} {ox : Obj} {od : Option Obj}
theorem kin_classO {Q : Option Value → Shared → Prop} (hga : findIn K (.ref D) "__getattribute__" = some (some (.builtin "BaseException.__getattribute__"))) (hgt : findIn K (.ref D) "__getattr__" = some none) (hsub : subIn K (.ref D) (.type "BaseException") = some true)
    (hdct : hasDictIn K D = true) (ha : findIn K (.ref D) "__class__" = some (some (.builtin "object.__class__")))
    (hn : specialIn K (.builtin "object.__class__") "__get__" = some (some (.builtin "getset_descriptor.__get__"))) (htk : takesIn K (.builtin "object.__class__") = some true) (hm : mroIn K D (.type "object") = some true)
    (X : K.In s.heap) (I : InstAt s.heap x ox D od) (h : Q (some (.ref D)) { s with toks := s.toks + 1 }) : wpAny (model prog w) A (getAttr? (.ref x) "__class__") Q E s := by
  have hf : findObj K D od "__class__" = some (.bind (.builtin "getset_descriptor.__get__") (.builtin "object.__class__")) := findObj_dataE (by obtain ⟨cd, hc, _⟩ := any_some hdct; rw [hc]; rfl) ha hn htk
  obtain ⟨hp, g, d, t, os⟩ := s
  have L0 := I.type (M := model prog w)
  have L1 := looks_findIn (M := model prog w) X hga
  have L2 := looks_findIn (M := model prog w) X hgt
  have L3 := looks_find (M := model prog w) X I hf
  have sub : Looks (model prog w) hp (isInstance (.ref x) (.type "BaseException")) true := L0.andThen (looks_subIn X hsub)
  have hx0 : (false && onTheHeap (Value.builtin "BaseException.__getattribute__")) = false := rfl
  have hx2 : (Value.builtin "BaseException.__getattribute__" == Value.builtin "object.__getattribute__") = false := by decide +kernel
  have hx1 : (onTheHeap (Value.ref D) && Value.builtin "BaseException.__getattribute__" == Value.builtin "object.__getattribute__") = false := by rw [hx2]; rfl
  unfold getAttr? getAttrBy? getAttrBy
  refine wpAny_bind (wpAny_mkText (wpAny_bind (wpAny_attempt (wpAny_holding (wpAny_bind (L0.at (wpAny_bind (L1.at ?_))))))))
  show wpAny _ _ (if (onTheHeap (Value.ref D) && Value.builtin "BaseException.__getattribute__" == Value.builtin "object.__getattribute__") = true then _ else _) _ _ _
  rw [hx1, if_neg Bool.false_ne_true]
  unfold getAttrByItsOwn hookBefore
  refine wpAny_bind ?_
  rw [if_pos (show onTheHeap (Value.ref D) = true from rfl)]
  refine L2.at ?_
  refine wpAny_bind (wpAny_attempt (wpAny_holding ?_))
  unfold callGetattribute
  rw [hx0, if_neg Bool.false_ne_true]
  unfold boundAndCalled
  rw [PySem.F.excAttr_ValueError.ga.bind (.ref x)]
  refine wpAny_bind (wpAny_pure ?_)
  show wpAny _ _ (call (.builtin "BaseException.__getattribute__") [.ref x, .str "__class__" t]) _ _ _
  refine wpAny_call (codeAny_call_builtin PySem.F.excAttr_ValueError.ga.plain PySem.F.entry_bexc_ga ?_)
  refine @check_slot (model prog w) _ _ ⟨hp, g, d, t + 1, os⟩ "BaseException.__getattribute__" "BaseException" "__getattribute__" (.ref x) [.str "__class__" t] [] _ (by decide +kernel) (by decide +kernel) sub (PySem.F.args_bexc_ga (.ref x) (.str "__class__" t)) ?_
  unfold Builtin.«object.__getattribute__»
  refine wpAny_bind (wpAny_of_eq (a := ((Value.ref x : Value), [Value.str "__class__" t])) (by first | rfl | (simp only [slotArgs]; rfl)) ?_)
  refine wpAny_bind (wpAny_pure (wpAny_bind (L0.at (wpAny_bind (L3.at ?_)))))
  show wpAny _ _ (holding [Value.builtin "object.__class__"] (call (.builtin "getset_descriptor.__get__") [.builtin "object.__class__", .ref x, .ref D]) >>= ret) _ _ _
  refine wpAny_bind (wpAny_holding (wpAny_call (class_get (s := ⟨hp, g, d, t + 1, os⟩) (ox := ox) (od := od) X I hm ?_)))
  refine wpAny_pure ?_
  show wpAny _ _ (handedOut (.ref D)) _ _ _
  rw [handedOut_of (v := .ref D) rfl]
  first
    | exact wpAny_pure (wpAny_pure h)
    | exact wpAny_pure h
    | exact wpAny_pure (wpAny_bind (wpAny_pure (wpAny_pure h)))
theorem kitx_excO (hga : findIn K (.ref D) "__getattribute__" = some (some (.builtin "BaseException.__getattribute__"))) (hgt : findIn K (.ref D) "__getattr__" = some none) (hsub : subIn K (.ref D) (.type "BaseException") = some true) (hdct : hasDictIn K D = true) (ha : findIn K (.ref D) "__class__" = some (some (.builtin "object.__class__")))
    (hn : specialIn K (.builtin "object.__class__") "__get__" = some (some (.builtin "getset_descriptor.__get__"))) (htk : takesIn K (.builtin "object.__class__") = some true) (hm : mroIn K D (.type "object") = some true) :
    KitX K (.ref x) (.ref D) (fun h => InstAt h x ox D od) where
  ty := fun _ _ _ I => I.type
  it := fun _ _ X _ => by
    obtain ⟨cdD, hcD, _⟩ := any_some hdct
    unfold clsIn at hcD
    split at hcD
    · rename_i c' d' cd' sl' ho
      intro A' Q' E' s' k q
      unfold isType loadHead
      exact wpAny_bind (wpAny_loadPart (k _ _ (X _ _ ho)) (wpAny_pure q))
    · cases hcD
  ne := fun h tp dd its n sl X htp => by
    obtain ⟨cdD, hcD, _⟩ := any_some hdct
    refine Bool.eq_false_iff.mpr fun q => ?_
    have e : D = tp := Value.ref.inj (beq_iff_eq.mp q)
    subst e
    unfold clsIn at hcD
    split at hcD
    · rename_i c' d' cd' sl' ho
      have z := (X _ _ ho).symm.trans htp
      cases z
    · cases hcD
  ca := fun X I k => kin_classO hga hgt hsub hdct ha hn htk hm X I k
end
end PySem.W
namespace EX
open PySem PySem.Spec PyProof.Rows L2
/-- a tracked exception: a its place, d its dict -/
structure TrE (K : PySem.W.Frag) (H : Hp) (a C d : Addr) (fs : List (Str × V)) : Prop where
  ob : ∃ oe : Obj, H a = some (DL.excHO a oe) ∧ oe.cls = .ref C ∧ oe.dict = some d ∧ ∃ ws, oe.data = .fields ws
  xd : H d = some (.xd fs)
  T : OxC K C
section
variable {X : Cx} {pins : List (Addr × Obj)} {σ : DL.VSt} {H : Hp} {s : Shared} {a C d : Addr} {fs : List (Str × V)}
theorem TrE.inst (t : TrE X.K H a C d fs) (I : Inv X pins σ H s) : ∃ (oe : Obj) (od : Obj), PySem.W.InstAt s.heap a oe C (some od) ∧ ∃ mA : Str → Option Value, (∀ n, PySem.W.lookIn n od = some (mA n)) ∧ ∀ f, RelO (fs.lookup f) (mA f) := by
  obtain ⟨oe, e1, c1, c2, ws, c3⟩ := t.ob
  have h1 : ObjOk X.prog X.w H s.heap a (DL.excHO a oe) := I.hok a _ e1
  obtain ⟨hget, _⟩ := h1
  have hx : ObjOk X.prog X.w H s.heap d (.xd fs) := I.hok d _ t.xd
  obtain ⟨mA, hns, hr⟩ := hx
  obtain ⟨od, ho, hl⟩ := lookIn_ns hns
  exact ⟨oe, od, ⟨hget, c1, by unfold PySem.W.notCls; rw [c3] <;> rfl, by rw [c2]; exact ho⟩, mA, hl, hr⟩
end
/-- e.f of a tracked exception -/
def tXo (K : PySem.W.Frag) (f : Str) (te : TE) : TE := fun σ H Q => te σ H fun x H1 => ∃ (a C d : Addr) (fs : List (Str × V)) (v : V), x = .ref a ∧ TrE K H1 a C d fs ∧ PySem.W.findIn K (.ref C) f = some none ∧ fs.lookup f = some v ∧ Q v H1
theorem pe_xo {X : Cx} {e : Expr} {te : TE} {pos : Pos} {n : Str} (he : PE X e te) (hb : attributeBase e n X.env (eval e X.env) = eval e X.env := by rfl) : PE X (.Attribute e n pos) (tXo X.K n te) := by
  refine ⟨fun pins s σ H Q I h => ?_⟩
  refine attr_of hb (thn (he.run pins s σ H _ I h) fun u s1 hh => ?_)
  obtain ⟨x, H1, I1, rx, a, C, d, fs, v, ex, t, hno, l, q⟩ := hh
  subst ex
  obtain rfl : u = Value.ref a := rx
  obtain ⟨oe, od, J, mA, hl, hr⟩ := t.inst I1
  obtain ⟨u, hu, ru⟩ := RelO.some_of (v := v) (o := mA n) (by rw [← l]; exact hr n)
  exact HandSPX.exc_get I1.kIn J t.T.ga t.T.gg t.T.exC (PySem.W.findObj_own t.T.hd hno rfl (by rw [hl, hu])) (handed_of ru) ⟨v, H1, I1.tok _, ru, q⟩

/-- a value's type, exceptions with -/
inductive TyZ (K : PySem.W.Frag) (H : Hp) : V → Value → Prop
  | base {x : V} {t : Value} (h : TyX K H x t) : TyZ K H x t
  | exc {a C d : Addr} {fs : List (Str × V)} (h : TrE K H a C d fs) : TyZ K H (.ref a) (.ref C)
section
variable {X : Cx} {pins : List (Addr × Obj)} {σ : DL.VSt} {H : Hp} {s : Shared}
theorem kitz_of {x : V} {u t : Value} (I : Inv X pins σ H s) (rx : RelV x u) (ty : TyZ X.K H x t) : ∃ P : Heap → Prop, PySem.W.KitX X.K u t P ∧ P s.heap ∧ u ≠ .builtin "__main__.__loader__#opaque" := by
  cases ty with
  | base h => exact kit_of I rx h
  | @exc a C d fs h =>
    cases (show u = Value.ref a from rx)
    obtain ⟨oe, od, J, _⟩ := h.inst I
    exact ⟨_, PySem.W.kitx_excO h.T.ga h.T.gg h.T.exC h.T.hd h.T.ha h.T.hn h.T.ht h.T.hm, J, fun z => nomatch z⟩
end
def rIsiZ (K : PySem.W.Frag) : List V → Hp → VK → Prop := fun xs H Q => ∃ (x : V) (t : Value) (b : Bool), TyZ K H x t ∧ Q (.bl b) H ∧
  ((∃ (c : V) (u : Value), xs = [x, c] ∧ ClsV c u ∧ PySem.W.kitOne K t u = some b) ∨ ∃ (tp : Addr) (cs : List V) (us : List Value), xs = [x, .ref tp] ∧ SqT K H tp cs ∧ Paired ClsV cs us ∧ PySem.W.kitAny K t us = some b)
theorem call_isiZ {X : Cx} : CallR X (.builtin "isinstance") (rIsiZ X.K) := by
  intro pins s σ H xs us Q I r h
  obtain ⟨x, t, b, ty, q, h⟩ := h
  rcases h with ⟨c, u, rfl, k, e⟩ | ⟨tp, cs, ws, rfl, hT, k, e⟩
  · obtain ⟨u1, u2, rfl, r1, r2⟩ := vals2 r
    have e2 := k.eq r2
    subst e2
    obtain ⟨P, Z, p, hx⟩ := kitz_of I r1 ty
    exact PySem.W.kia_one Z I.kIn p e hx fun tk => ⟨.bl b, H, I.tok tk, rfl, q⟩
  · obtain ⟨u1, u2, rfl, r1, r2⟩ := vals2 r
    cases (show u2 = Value.ref tp from r2)
    obtain ⟨P, Z, p, hx⟩ := kitz_of I r1 ty
    have tupc : ObjOk X.prog X.w H s.heap tp (.tup cs) → wpAny (model X.prog X.w) X.A (call (.builtin "isinstance") [u1, .ref tp]) (EP X pins σ Q) X.xe s := fun hh => by
      obtain ⟨_, its, rv, o, h1, h2, n, h3⟩ := hh
      have e3 := ClsV.all k rv
      subst e3
      obtain ⟨oc, od, dt, sl⟩ := o
      simp only at h2 h3
      subst h2 h3
      exact PySem.W.kia_tup Z I.kIn p h1 e hx fun tk => ⟨.bl b, H, I.tok tk, rfl, q⟩
    rcases hT with (hT | ⟨o, hT⟩) | ⟨o, its, n, hk, hc, hd, hsz, rv⟩
    · exact tupc (I.hok tp _ hT)
    · exact tupc (show ObjOk X.prog X.w H s.heap tp (.frz o (.tup cs)) from I.hok tp _ hT).2
    · have e3 := ClsV.all k rv
      obtain ⟨oc, od, dt, sl⟩ := o
      obtain ⟨l⟩ := its
      simp only at hc hd e3
      subst hc hd e3
      exact PySem.W.kia_tup Z I.kIn p (I.kIn _ _ hk) e hx fun tk => ⟨.bl b, H, I.tok tk, rfl, q⟩

open L2H (RoomH roomH_of)
structure FnN (P : Program) (w : World) (K : PySem.W.Frag) (mg : Str → Option Value) (base : Heap) (CX : CXT) (k : Nat) (f : Addr) (fd : FuncData) (ps : List Str) (sp : Sp) : Prop where
  len : ∀ vs H Q E, sp vs H Q E → vs.length = ps.length
  run : ∀ (A : Around) (outer : List Env) (s : Shared) (H : Hp) (args : Args) (us : List Value) (vs : List V) (Q : VK) (E : XK), RoomH k A → Env0 P w K mg base A outer s H → BindsTo s fd args (ps.zip us) → Vals vs us → sp vs H Q E →
    codeAny (model P w) A (.call (.ref f) args) (CR CX outer P w H s Q E) s
theorem FnN.ok {P : Program} {w : World} {K : PySem.W.Frag} {mg : Str → Option Value} {base : Heap} {CX : CXT} {k : Nat} {f : Addr} {fd : FuncData} {ps : List Str} {sp : Sp} (F : FnN P w K mg base CX k f fd ps sp) : FnOk P w K mg base CX k f fd ps sp :=
  ⟨F.len, fun A outer s H args us vs Q E hr => F.run A outer s H args us vs Q E (roomH_of hr)⟩
theorem FnN.mono {P : Program} {w : World} {K : PySem.W.Frag} {mg : Str → Option Value} {base : Heap} {CX : CXT} {j k : Nat} {f : Addr} {fd : FuncData} {ps : List Str} {sp : Sp} (F : FnN P w K mg base CX j f fd ps sp) (h : j ≤ k) :
    FnN P w K mg base CX k f fd ps sp := ⟨F.len, fun A outer s H args us vs Q E hr => F.run A outer s H args us vs Q E (hr.mono h)⟩
def cxN (CX : CXT) (P : Program) (w : World) (K : PySem.W.Frag) (mg : Str → Option Value) (base : Heap) (N : List Str) (qual : Str) (scope : Scope) (f : Addr) (cd : Value) (A : Around) (outer : List Env) (s : Shared) (H : Hp) (E : XK) : Cx :=
  { cxOf CX P w K mg base N qual scope f cd A outer s H E with calm := false }
theorem inv_startN {CX : CXT} {P : Program} {w : World} {K : PySem.W.Frag} {mg : Str → Option Value} {base : Heap} {N ps : List Str} {qual : Str} {scope : Scope} {f : Addr} {cd : Value} {A : Around} {outer : List Env} {s s1 : Shared} {H : Hp} {E : XK} {us : List Value} {vs : List V}
    (S : FnScope N ps scope) (e0 : Env0 P w K mg base A outer s H) (hl : vs.length = ps.length) (r : Vals vs us)
    (x : InCallC s s.heap.objs.size (bindL (envOfC qual scope s.heap.objs.size f cd).kindOf (ps.zip us) fun _ => none) (cellsFrom (s.heap.objs.size + 1) scope.names []) (bindC (envOfC qual scope s.heap.objs.size f cd).kindOf (ps.zip us) fun _ => none) s1) :
    Inv (cxN CX P w K mg base N qual scope f cd A outer s H E) [] (L2.start N vs) H s1 := by
  have hpl : ps.length ≤ N.length := by have := congrArg List.length S.pre; rw [List.length_take] at this; omega
  obtain ⟨h1, tk, rfl, hk⟩ := x.done
  have noA : ∀ b : Addr, b ∉ (cxN CX P w K mg base N qual scope f cd A outer s H E).ex := fun b z => absurd (show b ∈ ([] : List Addr) from z) (by simp)
  refine ⟨⟨e0.mod, S.kind, rfl, rfl, Nat.le_refl _, fun y z c h1 h2 => ?_, fun y hy => ?_, fun y c _ h => ?_, (fun z => Bool.noConfusion (show false = true from z)), Around.frames_deeper e0.frames, .inr ⟨rfl, rfl⟩, fun b z => absurd z (noA b), e0.bs, e0.bsz, fun b _ _ => noA b, fun b z => absurd z (noA b), e0.funs, e0.frf⟩,
    rfl, e0.bare, Un.kept hk, ⟨_, x.toInCall.ns, fun i y v h1 h2 h3 => ?_⟩, fun y c h => ⟨_, x.cell y c h⟩, e0.hok.fresh (Nat.le_refl _), fun y c h => ?_, fun q hq => ?_, e0.hok.kept hk, ?_⟩
  · exact name_of_addr x.apart (PySem.mem_of_lookup h1) (PySem.mem_of_lookup h2)
  · have hy : scope.names.lookup y = some .cell ∨ scope.names.lookup y = some .free := hy
    rcases hy with hy | hy
    · exact cell_has hy
    · exact absurd rfl (S.nofree _ (PySem.mem_of_lookup hy))
  · exact Nat.le_of_lt (x.above y c (PySem.mem_of_lookup h))
  · have hi : i < vs.length := by
      unfold L2.start at h2
      by_cases hi : i < vs.length
      · exact hi
      · rw [List.getElem?_append_right (by simpa using hi)] at h2
        rw [List.getElem?_replicate] at h2
        split at h2 <;> cases h2
    have ha : vs[i]? = some v := by
      unfold L2.start at h2
      rw [List.getElem?_append_left (by simpa using hi), List.getElem?_map] at h2
      cases e : vs[i]? with
      | none => rw [e] at h2; cases h2
      | some a => rw [e] at h2; cases h2; rfl
    obtain ⟨u, hu, rv⟩ := r.get ha
    have hp : ps[i]? = some y := by
      rw [← S.pre, List.getElem?_take_of_lt (by omega)]; exact h1
    have ndP : ps.Nodup := by rw [← S.pre]; exact S.nd.sublist (List.take_sublist _ _)
    refine ⟨u, rv, ?_⟩
    rcases S.par y (List.mem_of_getElem? hp) with k | k
    · exact .inl ⟨k, bindL_get ndP hp hu k⟩
    · obtain ⟨c, e⟩ := cell_has (n := s.heap.objs.size + 1) k
      refine .inr ⟨.inl k, c, e, ?_⟩
      have q := x.cell y c e
      rw [bindC_get ndP hp hu (by show scope.names.lookup y ≠ _; rw [k]; decide)] at q
      exact q
  · exact e0.hok.fresh (Nat.le_of_lt (x.above y c (PySem.mem_of_lookup h)))
  · exact absurd (show q ∈ ([] : List (Addr × Obj)) from hq) (by simp)
  · unfold L2.start
    show _ = N.length
    rw [List.length_append, List.length_map, List.length_replicate]
    omega
section
variable {P : Program} {w : World} {K : PySem.W.Frag} {mg : Str → Option Value} {base : Heap}
/-- THE RULE for such a def -/
theorem okN {x qual : Str} {st : Stmt} {f : Addr} {fd : FuncData} {N ps : List Str} {k : Nat} {sp : Sp} (F : Fun K x qual st f fd) (S : FnScope N ps (defScope st)) (len : ∀ vs H Q E, sp vs H Q E → vs.length = ps.length)
    (hbody : ∀ (cdv : Value) (A : Around) (outer : List Env) (s : Shared) (H : Hp) (vs : List V) (Q : VK) (E : XK), RoomH k (A.deeper (envOfC qual (defScope st) s.heap.objs.size f cdv)) → sp vs H Q E →
      ∃ t, PSs (cxN (L2.CX P w) P w K mg base N qual (defScope st) f cdv A outer s H E) (defBody st) t ∧ t { nx := fun _ H' => Q .non H', rt := Q } (L2.start N vs) H) : FnN P w K mg base (L2.CX P w) (k + 1) f fd ps sp := by
  obtain ⟨oc, od, dV, doc, pm, an, cdv, ct, osl, rfl, lk, hcd⟩ := F.ex
  refine ⟨len, fun A outer s H args us vs Q E hr e0 hb r hsp => ?_⟩
  have hl := len _ _ _ _ hsp
  have KX : K.In s.heap := e0.mod.kin.keeps fun b o e => (e0.bs b o e).1
  have lim : s.heap.NoLimit := e0.mod.nolimit.keeps fun b o e => (e0.bs b o e).1
  have hkind : ∀ y ∈ ps.zip us, (defScope st).names.lookup y.1 = some .local ∨ ((defScope st).names.lookup y.1 = some .cell ∧ ((cellsFrom (s.heap.objs.size + 1) (defScope st).names []).lookup y.1).isSome = true) := fun ⟨n, v⟩ hy => by
    rcases S.par n (List.of_mem_zip hy).1 with q | q
    · exact .inl q
    · exact .inr ⟨q, PySem.W.cellsFrom_some _ _ _ (.inl q)⟩
  refine codeAny_call_function hr.depth (KX _ _ lk) rfl S.co S.gen rfl (PySem.W.codeRec_of KX hcd) (hb _ _ _ _ ?_)
  refine wpAny_newFunctionEnv_cells S.kind hkind fun env he s1 x => ?_
  subst he
  refine ⟨lim.keeps x.toInCall.keep, codeAny_func ?_⟩
  obtain ⟨t, ht, hq⟩ := hbody cdv A outer s H vs Q E (hr.deeper _) hsp
  have I : Inv (cxN (L2.CX P w) P w K mg base N qual (defScope st) f cdv A outer s H E) [] (L2.start N vs) H s1 := inv_startN S e0 hl r x
  refine wpAny_mono (ht.run [] s1 (L2.start N vs) H _ I hq) (fun fl s' hs => ?_) fun e s' hs => hs
  have fin : ∀ {σ' : DL.VSt} {H' : Hp} {v : V} {u : Value}, Inv (cxN (L2.CX P w) P w K mg base N qual (defScope st) f cdv A outer s H E) [] σ' H' s' → RelV v u → Q v H' → CE outer P w H s Q u s' :=
    fun {σ' H' v u} J rv q => ⟨v, H', J.os, J.bare, J.base, J.hok, rv, q⟩
  cases fl with
  | ret u =>
    obtain ⟨v, σ', H', J, rv, q⟩ := hs
    exact fin J rv q
  | next =>
    obtain ⟨σ', H', J, q⟩ := hs
    exact fin (v := V.non) (u := Value.none) J rfl q
  | brk =>
    obtain ⟨_, _, _, q⟩ := hs
    exact False.elim q
  | cont =>
    obtain ⟨_, _, _, q⟩ := hs
    exact False.elim q
end
section
variable {X : Cx} {CX : CXT} {k : Nat} {f C : Addr} {fd : FuncData} {ps : List Str} {sp : Sp} {E : DL.VSt → XK} {x m : Str} {q pos apos : Pos} {e o : Expr} {es : List Expr} {ta : TE} {t : TA}
theorem run_fnN {pins : List (Addr × Obj)} {σ : DL.VSt} {H : Hp} {s : Shared} {Q : VK} {us : List Value} {vs : List V} (F : FnN X.prog X.w X.K X.mg X.base CX k f fd ps sp) (hr : RoomH k X.A) (hb : Binds X.K fd ps []) (hx : PassesAt CX X σ (E σ))
    (I : Inv X pins σ H s) (r : Vals vs us) (h : sp vs H Q (E σ)) : wpAny (model X.prog X.w) X.A (call (.ref f) us) (EP X pins σ Q) X.xe s := by
  have hl : us.length = ps.length := by rw [← r.length]; exact F.len _ _ _ _ h
  have b := hb s us I.kIn (by rw [List.append_nil]; exact hl)
  rw [List.append_nil] at b
  refine wpAny_call (codeAny_mono (F.run X.A X.stack s H ⟨us, []⟩ us vs Q (E σ) hr I.env0 b r h) fun r s' hq => ?_)
  cases r with
  | error e => exact hx pins H s e s' I hq
  | ok fl =>
    cases fl with
    | ret u => exact I.after hq
    | next => exact False.elim hq
    | brk => exact False.elim hq
    | cont => exact False.elim hq
theorem pe_callN (F : FnN X.prog X.w X.K X.mg X.base CX k f fd ps sp) (hr : RoomH k X.A) (hg : Gl X x) (hm : X.mg x = some (.ref f)) (hk : PySem.W.keepIn X.K (.ref f) = true) (hb : Binds X.K fd ps []) (hx : ∀ σ, PassesAt CX X σ (E σ))
    (ha : PA X (e :: es) t) (hdb : (x == ("__debug__" : Str)) = false := by decide) (he : starEach (e :: es) X.env = (false, eval e X.env) :: starEach es X.env := by rfl) (hpl : (backTo pos (starEach es X.env)).any (·.1) = false := by rfl) :
    PE X (.Call (.Name x q) (e :: es) [] pos) (tCallS sp E t) := by
  refine ⟨fun pins s σ H Q I h => ?_⟩
  refine wpAny_Call_Name_kw (ld_glob I hg hm ?_ hdb)
  refine PySem.W.callWith_K (h₀ := X.base) I.ok.mod.kin hk (thn (ha.run pos pins s σ H _ I h) fun us s1 ⟨vs, H1, I1, r, q⟩ => ⟨I1.kIn, ?_⟩) he hpl
  exact run_fnN F hr hb (hx σ) I1 r q
end

/-- an exception that landed becomes a tracked thing -/
theorem Inv.track {X : Cx} {pins : List (Addr × Obj)} {σ : DL.VSt} {H : Hp} {sI s : Shared} {B : Heap} {a : Addr} {oe : Obj} (J0 : Inv X pins σ H sI) (nb : ∀ b o, sI.heap.get? b = some o → b ∉ frs X.stack → B.get? b = some o) (nB : B.get? a = none) (nfs : a ∉ frs X.stack)
    (J : Inv X pins σ H s) (ha : s.heap.get? a = some oe) (hd : ∃ vs, oe.data = .fields vs) (na : H a = none) (nL : a ≠ X.env.locals) (ok : Cx.Ok (X.suite a (X.pn ++ pins))) : Inv (X.suite a (X.pn ++ pins)) [] σ (upd H a (DL.excHO a oe)) s := by
  obtain ⟨vs, hd⟩ := hd
  have nI : sI.heap.get? a = none := by
    cases z : sI.heap.get? a with
    | none => rfl
    | some o => rw [nb a o z nfs] at nB; cases nB
  have nc : ∀ {c : Addr} {v : Option Value}, s.heap.IsCell c v → c ≠ a := fun {c v} h e => by
    obtain ⟨o, h1, h2⟩ := h
    rw [e, ha] at h1
    cases h1
    rw [hd] at h2
    cases h2
  have n0 : ∀ b o, X.s_0.heap.get? b = some o → b ∉ X.ex → b ≠ a := fun b o e hx z => by
    obtain ⟨o', e'⟩ := J0.base.there b o e hx
    rw [z, nI] at e'; cases e'
  refine ⟨ok, J.os, J.bare, ⟨J.base.keep, J.base.slot, fun b o e n hx => by rw [upd_ne (n0 b o e hx)]; exact J.base.free b o e n hx, J.base.there, fun b xs e => ?_, fun b o u e => ?_, fun b ps e => ?_⟩, J.loc, J.cell, by rw [upd_ne (Ne.symm nL)]; exact J.free, fun x c e => ?_, fun p hp => ?_, fun b o e => ?_, J.len⟩
  · have := J.base.tups b xs e
    rw [upd_ne (ne_of_none this na)]; exact this
  · have := J.base.frzs b o u e
    rw [upd_ne (ne_of_none this na)]; exact this
  · obtain ⟨more, this⟩ := J.base.tbls b ps e
    exact ⟨more, by rw [upd_ne (ne_of_none this na)]; exact this⟩
  · obtain ⟨v, z⟩ := J.cell x c e
    rw [upd_ne (nc z)]; exact J.freeC x c e
  · have hp' : p ∈ X.pn ++ pins := by rw [List.append_nil] at hp; exact hp
    obtain ⟨p1, p2, p3, p4, p5⟩ := J.pin p hp'
    refine ⟨p1, ?_, p3, p4, p5⟩
    rw [upd_ne ?_]
    · exact p2
    · intro z
      have q := (J0.pin p hp').1
      rw [z, nI] at q; cases q
  · by_cases hb : b = a
    · subst hb
      rw [upd_same] at e
      cases e
      exact ⟨ha, ha, ⟨_, ha⟩, fun h1 h3 e kp => kp _ e⟩
    · rw [upd_ne hb] at e
      refine (J.hok b o e).stay (fun c v hc y => y) (fun c hc => ?_) (fun c xs hc => ?_)
      · rw [upd_ne (ne_of_none hc na)]; exact hc
      · rw [upd_ne (ne_of_none hc na)]; exact hc
theorem Inv.untrack {X : Cx} {pins : List (Addr × Obj)} {σ : DL.VSt} {H : Hp} {s : Shared} {a : Addr} {pn' : List (Addr × Obj)} (I : Inv (X.suite a (X.pn ++ pins)) pn' σ H s) (ok : X.Ok) : Inv X pins σ H s :=
  ⟨ok, I.os, I.bare, I.base, I.loc, I.cell, I.free, I.freeC, fun p hp => I.pin p (List.mem_append_left _ hp), I.hok, I.len⟩
/-- a clause: the class, the name's slot, the suite's reading -/
abbrev ClT := Value × Option Nat × (Addr → List (Addr × Obj) → TS)
def setO (i : Option Nat) (v : Option V) (σ : DL.VSt) : DL.VSt := match i with
  | some i => σ.set i v
  | none => σ
def endsO (i : Option Nat) (D : Ends) : Ends := { nx := fun σ' H' => D.nx (setO i none σ') H', rt := D.rt, bk := fun σ' H' => D.bk (setO i none σ') H', ct := fun σ' H' => D.ct (setO i none σ') H' }
def wManyT (K : PySem.W.Frag) (Wout : WX) (D : Ends) : List ClT → WX
  | [] => Wout
  | (c, i, ts) :: r => fun cls d σ H => ∃ b, PySem.W.exmOne K cls c = some b ∧ (b = true → ∀ (a : Addr) (oe : Obj) (pn : List (Addr × Obj)), H a = none → oe.cls = cls → oe.dict = d → (∃ vs, oe.data = .fields vs) → ts a pn (endsO i D) (setO i (some (.ref a)) σ) (upd H a (DL.excHO a oe))) ∧
      (b = false → wManyT K Wout D r cls d σ H)
inductive HdsT (X : Cx) : List ExceptHandler → List ClT → Prop
  | nil : HdsT X [] []
  | cons {x : Str} {c : Value} {ts : Addr → List (Addr × Obj) → TS} {b₀ : Stmt} {suite : List Stmt} {np pos' : Pos} {hds : List ExceptHandler} {l : List ClT} (hc : Names X x c)
      (hsu : ∀ (a : Addr) (pn : List (Addr × Obj)), PSs (X.suite a pn) (b₀ :: suite) (ts a pn)) (r : HdsT X hds l) :
      HdsT X (.ExceptHandler (some (.Name x np)) none (b₀ :: suite) pos' :: hds) ((c, none, ts) :: l)
  | as {x n : Str} {i : Nat} {c : Value} {ts : Addr → List (Addr × Obj) → TS} {b₀ : Stmt} {suite : List Stmt} {np pos' : Pos} {hds : List ExceptHandler} {l : List ClT} (hN : X.N.Nodup) (hi : X.N[i]? = some n) (hln : X.env.kindOf n = some .local) (hc : Names X x c)
      (hsu : ∀ (a : Addr) (pn : List (Addr × Obj)), PSs (X.suite a pn) (b₀ :: suite) (ts a pn)) (r : HdsT X hds l) :
      HdsT X (.ExceptHandler (some (.Name x np)) (some n) (b₀ :: suite) pos' :: hds) ((c, some i, ts) :: l)
section
variable {X : Cx} {body : List Stmt} {h₀ : ExceptHandler} {hds : List ExceptHandler} {l : List ClT} {pos : Pos} {tb : WX → List (Addr × Obj) → (Value → Shared → Prop) → TS} {Wout : WX}
theorem ps_tryT (hs : X.stack = X.env :: X.outer) (hf : X.env.frame = some X.env.locals) (tk : Takes X Wout)
    (hb : ∀ (W : WX) (pn : List (Addr × Obj)) (xe : Value → Shared → Prop), Takes (X.tr pn xe) W → PassesOwn (model X.prog X.w) X.A X.env xe → PSs (X.tr pn xe) body (tb W pn xe))
    (hh : HdsT X (h₀ :: hds) l) : PS X (.Try body (h₀ :: hds) [] [] pos) (fun D σ H => ∀ pn xe, Takes (X.tr pn xe) (wManyT X.K Wout D l) → PassesOwn (model X.prog X.w) X.A X.env xe → tb (wManyT X.K Wout D l) pn xe D σ H) := by
  refine ⟨fun pins s σ H D I h => ?_⟩
  have ok := I.ok
  have hfr : X.A.frames = some (X.env :: X.outer) := by rw [ok.frames, hs]
  refine wpAny_Try_except ?_
  refine (fun (tkk : Takes (X.tr (X.pn ++ pins) (fun e s₁ => wpAny (model X.prog X.w) X.A (noteFrame e X.env) (fun _ s₂ => wpAny (model X.prog X.w) X.A (setFlight e none) (fun _ s₃ =>
    wpAny (model X.prog X.w) X.A (handleBy e X.env (h₀ :: hds)) (SP X pins D) X.xe s₃) X.xe s₂) X.xe s₁)) (wManyT X.K Wout D l)) => ?_) (fun u s' xx => ?_)
  rotate_left
  · -- the catch
    obtain ⟨a, B, sI, pins', σ', H', cls, d, rfl, J', nb, up, sky, na, os, ag, w⟩ := xx
    have J : Inv X pins σ' H' sI := J'.ofTry ok
    have sky' : Sky B (X.env :: X.outer) a (Zc cls d) X.env.locals s'.heap := by rw [← hs]; exact sky
    show wpAny (model X.prog X.w) X.A (noteFrame (.ref a) X.env) _ _ _
    refine Sky.land Zc.steady hfr hf sky' fun h3 fl3 up3 => ?_
    have J3 : Inv X pins σ' H' { s' with heap := h3 } := J.landed nb fl3.1 (up.trans up3) os ag
    obtain ⟨oe3, vs3, he3, hz3, hd3⟩ := fl3.there
    have notFr : ∀ {h : Heap} {o : Obj} {vs : Array Value}, h.FunFrames B (X.env :: X.outer) → h.get? a = some o → o.data = .fields vs → a ∉ frs (X.env :: X.outer) := fun {h o vs} ff e dd hm => by
      obtain ⟨_, o', e', hnf⟩ := ff.mem hm
      rw [e] at e'; cases e'
      exact hnf _ dd
    have nfr := notFr fl3.2.2.1 he3 hd3
    have nfs : a ∉ frs X.stack := by rw [hs]; exact nfr
    have nL : a ≠ X.env.locals := fun z => nfr (List.mem_filterMap.mpr ⟨X.env, List.mem_cons_self, by rw [hf, z]⟩)
    have nF : a ∉ X.fs := fun hm => by
      obtain ⟨e, he, q⟩ := List.mem_filterMap.mp hm
      exact nfr (List.mem_filterMap.mpr ⟨e, List.mem_cons_of_mem _ he, q⟩)
    have S3 := J3.suite he3 hd3 na nL nF
    have go : ∀ {hds' : List ExceptHandler} {l' : List ClT}, HdsT X hds' l' → wManyT X.K Wout D l' cls d σ' H' →
        wpAny (model X.prog X.w) X.A (handleBy (.ref a) X.env hds') (SP X pins D) X.xe { s' with heap := h3 } := by
      intro hds' l' hk
      induction hk with
      | nil =>
        intro w
        refine wpAny_handleBy_nil ?_
        obtain ⟨k1, k2, k3, oe, vs, T, oT, ts', he, hz, hd, h1, hr⟩ := id fl3
        unfold PySem.passOn
        refine wpAny_bind (wpAny_field he hd h1 ?_)
        rw [if_neg (show ¬ ((Value.ref T == Value.none) = true) from by simp)]
        have fin : wpAny (model X.prog X.w) X.A (setFlight (.ref a) X.env.frame) (fun _ s4 => wpAny (model X.prog X.w) X.A (throw (.ref a) : Sem Flow) (SP X pins D) X.xe s4) X.xe { s' with heap := h3 } := by
          rw [hf]
          refine HandSPX.setFlight_upZ fl3 fun h4 hh4 up4 => wpAny_throw (tk _ _ ?_)
          exact ⟨a, B, sI, pins, σ', H', cls, d, rfl, J, nb, (up.trans up3).trans up4, .inr (.inr (by rw [hs]; exact hh4)), na, os, ag, w⟩
        first
          | exact wpAny_bind (wpAny_pure (wpAny_bind fin))
          | exact wpAny_bind fin
      | @cons x c ts b₀ suite np pos' hds2 l2 hc hsu r ih =>
        intro w
        obtain ⟨b, hb1, hyes, hno⟩ := w
        refine wpAny_handleBy_cons (codeAny_handlers_test ?_) (by intro q; cases q)
        have LT : PySem.W.Looks (model X.prog X.w) h3 (typeOf (.ref a)) cls := fun A Q E s k q => wpAny_typeOf_ref (k _ _ he3) (by rw [hz3.1]; exact q)
        have LM := PySem.W.exm_one (M := model X.prog X.w) (J3.kIn) LT hb1
        have test : ∀ {Q : Value → Shared → Prop} {E : Value → Shared → Prop}, Q c { s' with heap := h3 } → wpAny (model X.prog X.w) (X.A.mark (some (.ref a))) (eval (.Name x np) X.env) Q E { s' with heap := h3 } := fun {Q E} q => by
          obtain ⟨hg, hdbg, hm | ⟨hm, hv, hnn⟩⟩ := hc
          · exact ld_glob (X := X.suite a ((a, oe3) :: (X.pn ++ pins))) S3 hg hm q hdbg
          · exact ld_blt (X := X.suite a ((a, oe3) :: (X.pn ++ pins))) S3 hg hm hv q hnn hdbg
        refine test (LM.here ?_)
        cases b with
        | true =>
          refine codeAny_handlers_suite ?_
          refine HandSPX.lands_againZ fl3 fun h4 fl4 up4 => ?_
          have J4 : Inv X pins σ' H' { s' with heap := h4 } := J.landed nb fl4.1 ((up.trans up3).trans up4) os ag
          obtain ⟨oe4, vs4, he4, hz4, hd4⟩ := fl4.there
          have S4 := Inv.track J nb fl4.2.1 nfs J4 he4 ⟨_, hd4⟩ na nL (ok.suite a _)
          refine wpAny_mono ((hsu a (X.pn ++ pins)).run [] _ _ _ _ S4 (hyes rfl a oe4 (X.pn ++ pins) na hz4.1 hz4.2 ⟨_, hd4⟩)) (fun f s6 hsp => ?_) (fun _ _ z => False.elim z)
          cases f with
          | next =>
            obtain ⟨σ6, H6, S6, q6⟩ := hsp
            exact ⟨_, _, Inv.untrack S6 ok, q6⟩
          | brk =>
            obtain ⟨σ6, H6, S6, q6⟩ := hsp
            exact ⟨_, _, Inv.untrack S6 ok, q6⟩
          | cont =>
            obtain ⟨σ6, H6, S6, q6⟩ := hsp
            exact ⟨_, _, Inv.untrack S6 ok, q6⟩
          | ret u =>
            obtain ⟨v6, σ6, H6, S6, r6, q6⟩ := hsp
            exact ⟨_, _, _, Inv.untrack S6 ok, r6, q6⟩
        | false =>
          show wpAny _ X.A (handleBy (.ref a) X.env hds2) _ _ _
          exact ih (hno rfl)
      | @as x n i c ts b₀ suite np pos' hds2 l2 hN hi hln hc hsu r ih =>
        intro w
        obtain ⟨b, hb1, hyes, hno⟩ := w
        have hloc : Loc X.env.scope n := .inl hln
        refine wpAny_handleBy_cons (codeAny_handlers_test ?_) (by intro q; cases q)
        have LT : PySem.W.Looks (model X.prog X.w) h3 (typeOf (.ref a)) cls := fun A Q E s k q => wpAny_typeOf_ref (k _ _ he3) (by rw [hz3.1]; exact q)
        have LM := PySem.W.exm_one (M := model X.prog X.w) (J3.kIn) LT hb1
        have test : ∀ {Q : Value → Shared → Prop} {E : Value → Shared → Prop}, Q c { s' with heap := h3 } → wpAny (model X.prog X.w) (X.A.mark (some (.ref a))) (eval (.Name x np) X.env) Q E { s' with heap := h3 } := fun {Q E} q => by
          obtain ⟨hg, hdbg, hm | ⟨hm, hv, hnn⟩⟩ := hc
          · exact ld_glob (X := X.suite a ((a, oe3) :: (X.pn ++ pins))) S3 hg hm q hdbg
          · exact ld_blt (X := X.suite a ((a, oe3) :: (X.pn ++ pins))) S3 hg hm hv q hnn hdbg
        refine test (LM.here ?_)
        cases b with
        | true =>
          refine codeAny_handlers_suite_as ?_
          refine HandSPX.lands_againZ fl3 fun h4 fl4 up4 => ?_
          have J4 : Inv X pins σ' H' { s' with heap := h4 } := J.landed nb fl4.1 ((up.trans up3).trans up4) os ag
          obtain ⟨oe4, vs4, he4, hz4, hd4⟩ := fl4.there
          have S4 := Inv.track J nb fl4.2.1 nfs J4 he4 ⟨_, hd4⟩ na nL (ok.suite a _)
          refine store_ok (X := X.suite a (X.pn ++ pins)) (v := .ref a) S4 hN hi hloc rfl (fun s5 S5 => ?_) (.inr hln)
          refine wpAny_mono ((hsu a (X.pn ++ pins)).run [] s5 _ _ _ S5 (hyes rfl a oe4 (X.pn ++ pins) na hz4.1 hz4.2 ⟨_, hd4⟩)) (fun f s6 hsp => ?_) (fun _ _ z => False.elim z)
          have end_ : ∀ {σ6 : DL.VSt} {H6 : Hp} {Q : Shared → Prop}, Inv (X.suite a (X.pn ++ pins)) [] σ6 H6 s6 → (∀ s7, Inv X pins (σ6.set i none) H6 s7 → Q s7) →
              wpAny (model X.prog X.w) X.A (do bindName X.env n .none; unbindBehindTheSuite X.env n pos') (fun _ s7 => Q s7) X.xe s6 := fun {σ6 H6 Q} S6 hq => gone_ok (Inv.untrack S6 ok) hN hi hln hq
          cases f with
          | next =>
            obtain ⟨σ6, H6, S6, q6⟩ := hsp
            exact end_ S6 fun s7 J7 => ⟨_, _, J7, q6⟩
          | brk =>
            obtain ⟨σ6, H6, S6, q6⟩ := hsp
            exact end_ S6 fun s7 J7 => ⟨_, _, J7, q6⟩
          | cont =>
            obtain ⟨σ6, H6, S6, q6⟩ := hsp
            exact end_ S6 fun s7 J7 => ⟨_, _, J7, q6⟩
          | ret u =>
            obtain ⟨v6, σ6, H6, S6, r6, q6⟩ := hsp
            exact end_ S6 fun s7 J7 => ⟨_, _, _, J7, r6, q6⟩
        | false =>
          show wpAny _ X.A (handleBy (.ref a) X.env hds2) _ _ _
          exact ih (hno rfl)
    exact go hh w
  · refine wpAny_mono ((hb (wManyT X.K Wout D l) (X.pn ++ pins) _ tkk PassesOwn.looking).run [] s σ H D (I.toTry _) (h _ _ tkk PassesOwn.looking)) (fun f s1 hsp => ?_) (fun e s1 he => he)
    cases f with
    | next =>
      obtain ⟨σ', H', J', q⟩ := hsp
      exact wpAny_execs_nil ⟨σ', H', J'.ofTry ok, q⟩
    | brk =>
      obtain ⟨σ', H', J', q⟩ := hsp
      exact ⟨σ', H', J'.ofTry ok, q⟩
    | cont =>
      obtain ⟨σ', H', J', q⟩ := hsp
      exact ⟨σ', H', J'.ofTry ok, q⟩
    | ret u =>
      obtain ⟨v, σ', H', J', r, q⟩ := hsp
      exact ⟨v, σ', H', J'.ofTry ok, r, q⟩
end
end EX

namespace DL
open PySem PySem.Spec PyProof.Rows L2 EX

abbrev OxT := List (Str × List Str)
def OxF (K : PySem.W.Frag) (t : OxT) : Prop := ∀ p ∈ t, OxC K (He.ga K p.1) ∧ ∀ f ∈ p.2, PySem.W.findIn K (.ref (He.ga K p.1)) f = some none
def oxtB (K : PySem.W.Frag) (t : OxT) : Bool := t.all fun p => oxB K (He.ga K p.1) && p.2.all fun f => He.eqO (PySem.W.findIn K (.ref (He.ga K p.1)) f) (some none)
theorem oxtB_ok {K : PySem.W.Frag} {t : OxT} (h : oxtB K t = true) : OxF K t := fun p hp => by
  obtain ⟨h1, h2⟩ := He.ba (List.all_eq_true.mp h p hp)
  exact ⟨oxB_ok h1, fun f hf => He.eqO_ok (List.all_eq_true.mp h2 f hf)⟩
def hasC (t : OxT) (c : Str) : Bool := t.any fun p => p.1 == c
def hasF (t : OxT) (c f : Str) : Bool := t.any fun p => p.1 == c && p.2.contains f
section
variable {K : PySem.W.Frag} {t : OxT}
theorem OxF.c (h : OxF K t) {c : Str} (q : hasC t c = true) : OxC K (He.ga K c) := by
  obtain ⟨p, hp, e⟩ := List.any_eq_true.mp q
  rw [← beq_iff_eq.mp e]; exact (h p hp).1
theorem OxF.f (h : OxF K t) {c f : Str} (q : hasF t c f = true) : OxC K (He.ga K c) ∧ PySem.W.findIn K (.ref (He.ga K c)) f = some none := by
  obtain ⟨p, hp, e⟩ := List.any_eq_true.mp q
  obtain ⟨e1, e2⟩ := Bool.and_eq_true_iff.mp e
  rw [← beq_iff_eq.mp e1]
  exact ⟨(h p hp).1, (h p hp).2 f (List.contains_iff_mem.mp e2)⟩
end

/-- the fields behind __init__, as data -/
def xfD (code : Str) (ns : List Str) (args : List D) : List (Str × D) := (ns.zip args).reverse ++ [((("code" : Str), D.str code) : Str × D)]
section
variable {K : PySem.W.Frag} {G : Hp}
theorem repsF_zip {acc : List (Str × D)} {acc' : List (Str × V)} : ∀ {ns : List Str} {ds : List D} {vs : List V} {acc : List (Str × D)} {acc' : List (Str × V)}, Reps K G ds vs → RepsF K G acc acc' → RepsF K G ((ns.zip ds).reverse ++ acc) ((ns.zip vs).reverse ++ acc')
  | [], ds, vs, acc, acc', r, h => by simpa using h
  | n :: ns, [], vs, acc, acc', r, h => by rw [Reps.nil_iff.mp r]; simpa using h
  | n :: ns, d :: ds, vs, acc, acc', r, h => by
    obtain ⟨v, w, rfl, h1, h2⟩ := Reps.cons_iff.mp r
    rw [List.zip_cons_cons, List.zip_cons_cons, List.reverse_cons, List.reverse_cons, List.append_assoc, List.append_assoc]
    exact repsF_zip (acc := acc) (acc' := acc') h2 (RepsF.cons h1 h)
theorem repsF_xfs {code : Str} {ns : List Str} {ds : List D} {vs : List V} (r : Reps K G ds vs) : RepsF K G (xfD code ns ds) (xFs code ns vs) := repsF_zip (acc := []) (acc' := []) r (RepsF.cons (rep_sc rfl) RepsF.nil)
theorem reps_pick {ds : List D} {vs : List V} (r : Reps K G ds vs) : ∀ pm : List Nat, Reps K G (pickP pm ds) (pickP pm vs)
  | [] => Reps.nil
  | i :: pm => by
    have t := reps_pick r pm
    unfold pickP at t ⊢
    cases q : ds[i]? with
    | none =>
      have q' : vs[i]? = none := by
        rw [List.getElem?_eq_none_iff] at q ⊢
        rw [← r.length]; exact q
      rw [List.filterMap_cons_none q, List.filterMap_cons_none q']; exact t
    | some d =>
      obtain ⟨v, h1, h2⟩ := r.get q
      rw [List.filterMap_cons_some q, List.filterMap_cons_some h1]; exact Reps.cons h2 t
end
section
variable {p : Pr} {X : Cx} {W : WX} {K : PySem.W.Frag} {a b c e o : Expr} {es : List Expr} {te to : TDE} {ts tk : TDA} {pos : Pos} {kws : List Keyword} {ks : List Str}
structure DK (p : Pr) (X : Cx) (W : WX) (kws : List Keyword) (td : TDA) : Prop where
  ex : ∃ t : TA, PK X kws t ∧ RefA X.K p W t td
theorem dk_nil : DK p X W [] xNil := ⟨_, pk_nil, fun G σ H δ Q Qd Ed r q k x => k G H [] [] r.refl Reps.nil q⟩
theorem dk_cons {nm : Option Str} {kpos : Pos} (he : DE p X W e te) (hr : DK p X W kws ts) : DK p X W (⟨nm, e, kpos⟩ :: kws) (xCons te ts) := by
  obtain ⟨t, h1, h2⟩ := he
  obtain ⟨u, h3, h4⟩ := hr
  refine ⟨_, pk_cons h1 h3, fun G σ H δ Q Qd Ed r q k x => ?_⟩
  refine h2 G σ H δ _ _ Ed r q (fun G1 H1 v d e1 r1 q1 => ?_) x
  refine h4 G1 σ H1 δ _ _ Ed (r.ext e1) q1 (fun G2 H2 vs ds e2 r2 q2 => ?_) (x.step r.at e1)
  exact k G2 H2 (v :: vs) (d :: ds) (e1.trans r.at e2) (Reps.cons (r1.mono e2.gg) r2) q2
structure DMk (p : Pr) (X : Cx) (W : WX) (pos : Pos) (es : List Expr) (kws : List Keyword) (ks : List Str) (td : TDA) : Prop where
  ex : ∃ t : TA, MkArgs X pos es kws ks t ∧ RefA X.K p W t td
def xLen (n : Nat) (ts : TDA) : TDA := fun δ Q E => ts δ (fun ds => ds.length = n ∧ Q ds) E
def xApp (n m : Nat) (ts tk : TDA) : TDA := fun δ Q E => ts δ (fun ds => ds.length = n ∧ tk δ (fun zs => zs.length = m ∧ Q (ds ++ zs)) E) E
theorem refLen {n : Nat} {t : TA} (h : RefA K p W t ts) : RefA K p W (fun σ H Q => t σ H fun vs H1 => vs.length = n ∧ Q vs H1) (xLen n ts) := fun G σ H δ Q Qd Ed r q k x =>
  h G σ H δ _ _ Ed r q (fun G1 H1 vs ds e1 r1 q1 => ⟨by rw [← r1.length]; exact q1.1, k G1 H1 vs ds e1 r1 q1.2⟩) x
theorem dmk_pos (ha : DA p X W (e :: es) ts) (he : starEach (e :: es) X.env = (false, eval e X.env) :: starEach es X.env := by rfl) (hpl : (backTo pos (starEach es X.env)).any (·.1) = false := by rfl) : DMk p X W pos (e :: es) [] [] (xLen (e :: es).length ts) := by
  obtain ⟨t, h1, h2⟩ := ha
  exact ⟨_, mka_pos h1 he hpl, refLen h2⟩
theorem dmk_nil : DMk p X W pos [] [] [] xNil := ⟨_, mka_nil, fun G σ H δ Q Qd Ed r q k x => k G H [] [] r.refl Reps.nil q⟩
theorem dmk_kw (hk : DK p X W kws tk) (hall : (backToKw pos (keywordEach kws X.env)).all (·.1.isSome) = true := by rfl) (hks : (backToKw pos (keywordEach kws X.env)).filterMap (·.1) = ks := by rfl)
    (hpl : ((backTo pos (starEach [] X.env)).any (·.1) || (backToKw pos (keywordEach kws X.env)).any (·.1.isNone)) = false := by rfl) : DMk p X W pos [] kws ks (xLen ks.length tk) := by
  obtain ⟨t, h1, h2⟩ := hk
  exact ⟨_, mka_kw h1 hall hks hpl, refLen h2⟩
theorem dmk_both (ha : DA p X W (e :: es) ts) (hk : DK p X W kws tk) (hall : (backToKw pos (keywordEach kws X.env)).all (·.1.isSome) = true := by rfl) (hks : (backToKw pos (keywordEach kws X.env)).filterMap (·.1) = ks := by rfl)
    (he : starEach (e :: es) X.env = (false, eval e X.env) :: starEach es X.env := by rfl)
    (hpl : ((backTo pos (starEach (e :: es) X.env)).any (·.1) || (backToKw pos (keywordEach kws X.env)).any (·.1.isNone)) = false := by rfl) : DMk p X W pos (e :: es) kws ks (xApp (e :: es).length ks.length ts tk) := by
  obtain ⟨t, h1, h2⟩ := ha
  obtain ⟨u, h3, h4⟩ := hk
  refine ⟨_, mka_both h1 h3 hall hks he hpl, fun G σ H δ Q Qd Ed r q k x => ?_⟩
  refine h2 G σ H δ _ _ Ed r q (fun G1 H1 vs ds e1 r1 q1 => ⟨by rw [← r1.length]; exact q1.1, ?_⟩) x
  refine h4 G1 σ H1 δ _ _ Ed (r.ext e1) q1.2 (fun G2 H2 zs cs e2 r2 q2 => ⟨by rw [← r2.length]; exact q2.1, ?_⟩) (x.step r.at e1)
  exact k G2 H2 (vs ++ zs) (ds ++ cs) (e1.trans r.at e2) (Reps.append (r1.mono e2.gg) r2) q2.2
/-- C(e, .., k = v, ..) kept as a value -/
def xMkx (c code : Str) (ns : List Str) (pm : List Nat) (n : Nat) (ts : TDA) : TDE := fun δ Q E => ts δ (fun ds => ds.length = n ∧ (pickP pm ds).length = ns.length ∧ Q (.exc c (xfD code ns (pickP pm ds)))) E
theorem d_mkx {fI : Addr} {fd : FuncData} {code : Str} {ns : List Str} {pm : List Nat} {x cn : Str} {q : Pos} (D : IFn X (He.ga X.K cn) code ns fI fd) (B : BX fd ns es.length ks pm) (hr : Room 2 X.A) (hm : X.mg x = some (.ref (He.ga X.K cn))) (ha : DMk p X W pos es kws ks ts)
    (hle : es.length ≤ sizeLine := by decide) (hg : Gl X x := by rfl) (hdb : (x == ("__debug__" : Str)) = false := by decide) : DE p X W (.Call (.Name x q) es kws pos) (xMkx cn code ns pm (es.length + ks.length) ts) := by
  obtain ⟨t, h1, h2⟩ := ha
  refine ⟨_, pe_mkx D B hr hm h1 hle hg hdb, fun G σ H δ Q Qd Ed r q k x => ?_⟩
  refine h2 G σ H δ _ _ Ed r q (fun G1 H1 vs ds e1 r1 q1 => ?_) x
  obtain ⟨q2, q3, q4⟩ := q1
  have rp := reps_pick r1 pm
  refine ⟨by rw [← r1.length]; exact q2, by rw [← rp.length]; exact q3, fun a d oe na nd ne c1 c2 c3 => ?_⟩
  have y1 := Ext.laid (K := X.K) e1.sub e1.bag (o := .xd (xFs code ns (pickP pm vs))) nd
  have na1 : upd H1 d (.xd (xFs code ns (pickP pm vs))) a = none := by rw [upd_ne (Ne.symm ne)]; exact na
  have y2 := Ext.laid (K := X.K) y1.sub y1.bag (o := excHO a oe) na1 (fun ps z => by unfold excHO at z; cases z)
  have hb1 : H1 p.b.a ≠ none := e1.bag.at
  refine k _ _ _ (.exc cn (xfD code ns (pickP pm ds))) ((e1.trans r.at y1).trans r.at y2) ?_ q4
  unfold Rep
  exact ⟨a, oe, d, _, rfl, upd_same, c1, c2, c3, by rw [upd_ne ne, upd_same], repsF_xfs (rp.mono (y1.gg.trans y2.gg))⟩
/-- raise C(..) -/
def yRaise (S : List Nat) (c code : Str) (ns : List Str) (pm : List Nat) (n : Nat) (ts : TDA) : TDS := fun Dd δ => ts (frz S δ) (fun ds => ds.length = n ∧ (pickP pm ds).length = ns.length ∧ Dd.xc c (xfD code ns (pickP pm ds)) (frz S δ)) (fun c fs => Dd.xc c fs (frz S δ))
theorem ds_raise (S : List Nat) {fI : Addr} {fd : FuncData} {code : Str} {ns : List Str} {pm : List Nat} {x cn : Str} {q rpos : Pos} (hc : X.calm = true) (tk : Takes X W) (D : IFn X (He.ga X.K cn) code ns fI fd) (B : BX fd ns es.length ks pm) (hr : Room 2 X.A) (hm : X.mg x = some (.ref (He.ga X.K cn)))
    (ha : DMk p X W pos es kws ks ts) (hle : es.length ≤ sizeLine := by decide) (hg : Gl X x := by rfl) (hdb : (x == ("__debug__" : Str)) = false := by decide) : DS p X W (.Raise (some (.Call (.Name x q) es kws pos)) none rpos) (yRaise S cn code ns pm (es.length + ks.length) ts) := by
  obtain ⟨t, h1, h2⟩ := ha
  refine ⟨_, ps_raise hc tk (pmk_mkx D B hr hm h1 hle hg hdb), fun Gb G σ H δ D' Dd s r q h => ?_⟩
  obtain ⟨G1, g1, r1⟩ := DR.freeze (S := S) r
  refine h2 G1 σ H _ _ _ _ r1 q (fun G2 H2 vs ds e2 r2 q2 => ?_) (h.x (s.trans g1) r1)
  obtain ⟨q3, q4, q5⟩ := q2
  have rp := reps_pick r2 pm
  refine ⟨by rw [← r2.length]; exact q3, by rw [← rp.length]; exact q4, fun d nd => ?_⟩
  have y1 := Ext.laid (K := X.K) e2.sub e2.bag (o := .xd (xFs code ns (pickP pm vs))) nd
  exact h.xc _ σ _ _ cn _ d _ (((s.trans g1).trans e2.gg).trans y1.gg) ((r1.ext e2).ext y1) upd_same (repsF_xfs (rp.mono y1.gg)) q5
/-- e.f of an exception -/
def xXat (t : OxT) (f : Str) (te : TDE) : TDE := fun δ Q E => te δ (fun x => ∃ c fs d, x = .exc c fs ∧ hasF t c f = true ∧ fs.lookup f = some d ∧ Q d) E
theorem rep_exc {K : PySem.W.Frag} {G H : Hp} {c : Str} {fs : List (Str × D)} {v : V} (T : OxC K (He.ga K c)) (r : Rep K G (.exc c fs) v) (s : Same G H) : ∃ a d vs, v = .ref a ∧ TrE K H a (He.ga K c) d vs ∧ RepsF K G fs vs := by
  unfold Rep at r
  obtain ⟨a, oe, d, vs, rfl, e1, c1, c2, c3, e2, rf⟩ := r
  exact ⟨a, d, vs, rfl, ⟨⟨oe, s _ _ e1, c1, c2, c3⟩, s _ _ e2, T⟩, rf⟩
theorem d_xat {t : OxT} {f : Str} (T : OxF X.K t) (he : DE p X W e te) (hb : attributeBase e f X.env (eval e X.env) = eval e X.env := by rfl) : DE p X W (.Attribute e f pos) (xXat t f te) := by
  obtain ⟨u, h1, h2⟩ := he
  refine ⟨_, pe_xo h1 hb, fun G σ H δ Q Qd Ed r q k x => ?_⟩
  refine h2 G σ H δ _ _ Ed r q (fun G1 H1 v d e1 r1 q1 => ?_) x
  obtain ⟨c, fs, dd, rfl, hf, hl, q2⟩ := q1
  obtain ⟨oc, fn⟩ := T.f hf
  obtain ⟨a, d', vs, rfl, tr, rf⟩ := rep_exc oc r1 e1.sub
  obtain ⟨v, hv, rv⟩ := rf.lookup hl
  exact ⟨a, _, d', vs, v, rfl, tr, fn, hv, k G1 H1 v dd e1 rv q2⟩
end

inductive Tg where
  | b (n : String)
  | o (c : Str)
def Tg.v (K : PySem.W.Frag) : Tg → Value
  | .b n => .type n
  | .o c => .ref (He.ga K c)
def tgD (t : OxT) : D → Option Tg
  | .non => some (.b "NoneType")
  | .bl _ => some (.b "bool")
  | .int _ => some (.b "int")
  | .str _ => some (.b "str")
  | .tup _ => some (.b "tuple")
  | .lst _ => some (.b "list")
  | .dic _ => some (.b "dict")
  | .exc c _ => if hasC t c then some (.o c) else none
  | _ => none
def tgNames : List String := ["NoneType", "bool", "int", "str", "tuple", "list", "dict"]
def isB (n m : String) : Option Bool := if tgNames.contains n && tgNames.contains m then some (n == m || (n == "bool" && m == "int")) else none
theorem isB_ok {K : PySem.W.Frag} {n m : String} {r : Bool} (h : isB n m = some r) : PySem.W.kitOne K (.type n) (.type m) = some r := by
  unfold isB at h
  split at h
  · rename_i hc
    obtain ⟨h1, h2⟩ := Bool.and_eq_true_iff.mp hc
    cases h
    refine kit_ty ?_
    have key : ∀ n ∈ tgNames, ∀ m ∈ tgNames, kitB n m = some (n == m || (n == "bool" && m == "int")) := by decide +kernel
    exact key n (List.contains_iff_mem.mp h1) m (List.contains_iff_mem.mp h2)
  · cases h
def isOne (K : PySem.W.Frag) : Tg → D → Option Bool
  | .b n, .ty m => isB n m
  | g, .ty m => PySem.W.kitOne K (g.v K) (.type m)
  | g, .adr a => PySem.W.kitOne K (g.v K) (.ref a)
  | _, _ => none
def isAny (K : PySem.W.Frag) (g : Tg) : List D → Option Bool
  | [] => some false
  | c :: cs => match isOne K g c with
    | some true => (isAny K g cs).map fun _ => true
    | some false => isAny K g cs
    | none => none
def cvD : D → Value
  | .ty m => .type m
  | .adr a => .ref a
  | _ => .none
def dIsi (K : PySem.W.Frag) (t : OxT) (xs : List D) (Q : QD) : Prop := match xs with
  | [x, .tup cs] => ∃ g b, tgD t x = some g ∧ isAny K g cs = some b ∧ Q (.bl b)
  | [x, c] => ∃ g b, tgD t x = some g ∧ isOne K g c = some b ∧ Q (.bl b)
  | _ => False
section
variable {K : PySem.W.Frag} {b : Bag} {G H : Hp} {t : OxT}
theorem isOne_ok {g : Tg} {c : D} {r : Bool} {v : V} (h : isOne K g c = some r) (hv : Rep K G c v) : ClsV v (cvD c) ∧ PySem.W.kitOne K (g.v K) (cvD c) = some r := by
  unfold isOne at h
  split at h
  · rw [show v = V.ty _ from by unfold Rep at hv; exact hv]
    exact ⟨.ty _, isB_ok h⟩
  · rw [show v = V.ty _ from by unfold Rep at hv; exact hv]
    exact ⟨.ty _, h⟩
  · rw [show v = V.ref _ from by unfold Rep at hv; exact hv]
    exact ⟨.own _, h⟩
  · cases h
theorem isAny_ok {g : Tg} : ∀ {cs : List D} {r : Bool} {vs : List V}, isAny K g cs = some r → Reps K G cs vs → Paired ClsV vs (cs.map cvD) ∧ PySem.W.kitAny K (g.v K) (cs.map cvD) = some r
  | [], r, vs, h, hv => by
    rw [Reps.nil_iff.mp hv]
    cases h
    exact ⟨.nil, kitAny_nil⟩
  | c :: cs, r, vs, h, hv => by
    obtain ⟨v, w, rfl, h1, h2⟩ := Reps.cons_iff.mp hv
    unfold isAny at h
    split at h
    · rename_i e
      obtain ⟨k1, k2⟩ := isOne_ok e h1
      obtain ⟨r', e', rfl⟩ := Option.map_eq_some_iff.mp h
      obtain ⟨p1, p2⟩ := isAny_ok e' h2
      exact ⟨.cons k1 p1, kitAny_cons k2 (fun z => nomatch z) (fun _ => rfl)⟩
    · rename_i e
      obtain ⟨k1, k2⟩ := isOne_ok e h1
      obtain ⟨p1, p2⟩ := isAny_ok h h2
      exact ⟨.cons k1 p1, kitAny_cons k2 (fun _ => p2) (fun z => nomatch z)⟩
    · cases h
theorem tgD_ok (T : OxF K t) {x : D} {v : V} {g : Tg} (h : tgD t x = some g) (r : Rep K G x v) (s : Same G H) : TyZ K H v (g.v K) := by
  cases x with
  | non => cases h; rw [show v = V.non from by unfold Rep at r; exact r]; exact .base (.base .non)
  | bl y => cases h; rw [rep_bl.mp r]; exact .base (.base (.bl y))
  | int y => cases h; rw [rep_int.mp r]; exact .base (.base (.int y))
  | str y => cases h; rw [rep_str.mp r]; exact .base (.base (.str y))
  | tup ds =>
    cases h
    obtain ⟨a, vs, rfl, c1, c2⟩ := rep_tupI.mp r
    rcases sameT s c1 with (z | ⟨o, z⟩) | z
    · exact .base (.base (.tup z))
    · exact .base (.fTuple z)
    · obtain ⟨o, its, n, hk, hc, _⟩ := z
      exact .base (.kTuple hk hc)
  | lst ds =>
    cases h
    obtain ⟨a, vs, rfl, c1, c2⟩ := rep_lstI.mp r
    exact .base (.base (.lst (s _ _ c1)))
  | dic ds =>
    cases h
    obtain ⟨a, vs, rfl, c1, c2⟩ := rep_dicI.mp r
    exact .base (.base (.dK (s _ _ c1)))
  | exc c fs =>
    have h : (if hasC t c = true then some (Tg.o c) else none) = some g := h
    split at h
    · rename_i hc
      cases h
      obtain ⟨a, d, vs, rfl, tr, rf⟩ := rep_exc (T.c hc) r s
      exact .exc tr
    · cases h
  | _ => cases h
theorem r_isi (T : OxF K t) : RefC K b (rIsiZ K) (dIsi K t) := by
  intro G H xs vs Q Qd s hb r q k
  unfold dIsi at q
  split at q
  · rename_i x cs
    obtain ⟨g, bb, h1, h2, h3⟩ := q
    obtain ⟨v, w, rfl, r1, r2⟩ := Reps.cons_iff.mp r
    obtain ⟨v2, w2, rfl, r3, r4⟩ := Reps.cons_iff.mp r2
    cases Reps.nil_iff.mp r4
    obtain ⟨a, us, rfl, c1, c2⟩ := rep_tupI.mp r3
    obtain ⟨p1, p2⟩ := isAny_ok h2 c2
    exact ⟨v, _, bb, tgD_ok T h1 r1 s, k _ _ _ _ (Ext.refl s hb) (rep_sc rfl) h3, .inr ⟨a, us, _, rfl, sameT s c1, p1, p2⟩⟩
  · rename_i x c _
    obtain ⟨g, bb, h1, h2, h3⟩ := q
    obtain ⟨v, w, rfl, r1, r2⟩ := Reps.cons_iff.mp r
    obtain ⟨v2, w2, rfl, r3, r4⟩ := Reps.cons_iff.mp r2
    cases Reps.nil_iff.mp r4
    obtain ⟨p1, p2⟩ := isOne_ok h2 r3
    exact ⟨v, _, bb, tgD_ok T h1 r1 s, k _ _ _ _ (Ext.refl s hb) (rep_sc rfl) h3, .inl ⟨_, _, rfl, p1, p2⟩⟩
  · exact q.elim
end
end DL

namespace DL
open PySem PySem.Spec PyProof.Rows L2 EX
open L2H (RoomH roomH_of)

/-- a clause: the class, the name's slot, the suite -/
abbrev ClD := Value × Option Nat × TDS
def setDO (i : Option Nat) (s : Sl) (δ : DSt) : DSt := match i with
  | some i => δ.set i s
  | none => δ
def endsDO (i : Option Nat) (Dd : DEnds) : DEnds := { nx := fun δ => Dd.nx (setDO i .non δ), rt := Dd.rt, bk := fun δ => Dd.bk (setDO i .non δ), ct := fun δ => Dd.ct (setDO i .non δ), xc := fun _ _ _ => False, ro := Dd.ro }
def dMany (K : PySem.W.Frag) (Dd : DEnds) : List ClD → Str → List (Str × D) → DSt → Prop
  | [], c, fs, δ => Dd.xc c fs δ
  | (v, i, td) :: r, c, fs, δ => ∃ b, PySem.W.exmOne K (.ref (He.ga K c)) v = some b ∧ (if b = true then td (endsDO i Dd) (setDO i (.val (.exc c fs)) δ) else dMany K Dd r c fs δ)
inductive HdsD (p : Pr) (X : Cx) : List ExceptHandler → List ClD → Prop
  | nil : HdsD p X [] []
  | cons {x : Str} {c : Value} {td : TDS} {b₀ : Stmt} {suite : List Stmt} {np pos' : Pos} {hds : List ExceptHandler} {l : List ClD} (hc : Names X x c)
      (hsu : ∀ (a : Addr) (pn : List (Addr × Obj)), DSs p (X.suite a pn) (fun _ _ _ _ => False) (b₀ :: suite) td) (r : HdsD p X hds l) :
      HdsD p X (.ExceptHandler (some (.Name x np)) none (b₀ :: suite) pos' :: hds) ((c, none, td) :: l)
  | as {x n : Str} {i : Nat} {c : Value} {td : TDS} {b₀ : Stmt} {suite : List Stmt} {np pos' : Pos} {hds : List ExceptHandler} {l : List ClD} (hN : X.N.Nodup) (hi : X.N[i]? = some n) (hln : X.env.kindOf n = some .local) (hc : Names X x c)
      (hsu : ∀ (a : Addr) (pn : List (Addr × Obj)), DSs p (X.suite a pn) (fun _ _ _ _ => False) (b₀ :: suite) td) (r : HdsD p X hds l) :
      HdsD p X (.ExceptHandler (some (.Name x np)) (some n) (b₀ :: suite) pos' :: hds) ((c, some i, td) :: l)
section
variable {p : Pr} {X : Cx} {W : WX} {K : PySem.W.Frag} {G H : Hp} {σ : VSt} {δ : DSt}
theorem DR.setO (r : DR K p G σ H δ) (i : Option Nat) {x : Option V} {s : Sl} (h : match s with | .non => True | .val d => ∃ v, x = some v ∧ Rep K G d v | _ => False) : DR K p G (setO i x σ) H (setDO i s δ) := by
  cases i with
  | none => exact r
  | some i => exact r.set h
theorem EndsOk.sub {Gb : Hp} {D : Ends} {Dd : DEnds} (i : Option Nat) (h : EndsOk K p Gb W D Dd) : EndsOk K p Gb (fun _ _ _ _ => False) (endsO i D) (endsDO i Dd) :=
  ⟨fun G σ H δ s r q => h.nx G _ H _ s (r.setO i (s := .non) True.intro) q, fun G σ H δ v d s r rv q => h.rt G _ H _ v d s r rv q, fun G σ H δ s r q => h.bk G _ H _ s (r.setO i (s := .non) True.intro) q, fun G σ H δ s r q => h.ct G _ H _ s (r.setO i (s := .non) True.intro) q, fun _ _ _ _ _ _ _ _ _ _ _ _ q => q, fun G σ H δ a us ds s r g f e rv q => h.ro G _ H _ a us ds s r g f e rv q⟩
/-- the clauses, as they stand below -/
theorem hds_ok : ∀ {hds : List ExceptHandler} {l : List ClD}, HdsD p X hds l → ∃ l' : List ClT, HdsT X hds l' ∧
    ∀ (Gb : Hp) (D0 : Ends) (Dd : DEnds), EndsOk X.K p Gb W D0 Dd → ∀ (G : Hp) (σ : VSt) (H : Hp) (δ : DSt) (c : Str) (fs : List (Str × D)) (d : Addr) (vs : List (Str × V)), Same Gb G → DR X.K p G σ H δ → G d = some (.xd vs) → RepsF X.K G fs vs → dMany X.K Dd l c fs δ → wManyT X.K W D0 l' (.ref (He.ga X.K c)) (some d) σ H := by
  intro hds l h
  have step : ∀ {i : Option Nat} {c : Value} {td : TDS} {ts : Addr → List (Addr × Obj) → TS} {l : List ClD} {l' : List ClT}, (∀ a pn, RefS X.K p (fun _ _ _ _ => False) (ts a pn) td) →
      (∀ (Gb : Hp) (D0 : Ends) (Dd : DEnds), EndsOk X.K p Gb W D0 Dd → ∀ (G : Hp) (σ : VSt) (H : Hp) (δ : DSt) (c : Str) (fs : List (Str × D)) (d : Addr) (vs : List (Str × V)), Same Gb G → DR X.K p G σ H δ → G d = some (.xd vs) → RepsF X.K G fs vs → dMany X.K Dd l c fs δ → wManyT X.K W D0 l' (.ref (He.ga X.K c)) (some d) σ H) →
      ∀ (Gb : Hp) (D0 : Ends) (Dd : DEnds), EndsOk X.K p Gb W D0 Dd → ∀ (G : Hp) (σ : VSt) (H : Hp) (δ : DSt) (cn : Str) (fs : List (Str × D)) (d : Addr) (vs : List (Str × V)), Same Gb G → DR X.K p G σ H δ → G d = some (.xd vs) → RepsF X.K G fs vs → dMany X.K Dd ((c, i, td) :: l) cn fs δ → wManyT X.K W D0 ((c, i, ts) :: l') (.ref (He.ga X.K cn)) (some d) σ H := by
    intro i c td ts l l' hr ih Gb D0 Dd hD G σ H δ cn fs d vs s r hd rf q
    obtain ⟨b, e, q⟩ := q
    refine ⟨b, e, fun hb a oe pn na c1 c2 c3 => ?_, fun hb => ?_⟩
    · rw [if_pos hb] at q
      have y := Ext.laid (K := X.K) r.sub r.bag (o := excHO a oe) na (fun ps z => by unfold excHO at z; cases z)
      have nad : d ≠ a := fun z => by
        have := r.sub _ _ hd
        rw [z, na] at this; cases this
      have R := r.ext y
      refine hr a pn Gb _ _ _ _ _ _ (s.trans y.gg) (R.setO i (x := some (.ref a)) (s := .val (.exc cn fs)) ⟨_, rfl, ?_⟩) q (hD.sub i)
      unfold Rep
      exact ⟨a, oe, d, vs, rfl, upd_same, c1, c2, c3, by rw [upd_ne nad]; exact hd, RepsF.mono y.gg rf⟩
    · rw [if_neg (by rw [hb]; exact Bool.false_ne_true)] at q
      exact ih Gb D0 Dd hD G σ H δ cn fs d vs s r hd rf q
  induction h with
  | nil => exact ⟨[], .nil, fun Gb D0 Dd hD G σ H δ c fs d vs s r hd rf q => hD.xc G σ H δ c fs d vs s r hd rf q⟩
  | cons hc hsu r ih =>
    obtain ⟨l', h1, h2⟩ := ih
    have ch : ∀ a pn, ∃ t : TS, PSs (X.suite a pn) _ t ∧ RefS X.K p (fun _ _ _ _ => False) t _ := fun a pn => (hsu a pn).ex
    exact ⟨_, .cons hc (fun a pn => (Classical.choose_spec (ch a pn)).1) h1, step (fun a pn => (Classical.choose_spec (ch a pn)).2) h2⟩
  | as hN hi hln hc hsu r ih =>
    obtain ⟨l', h1, h2⟩ := ih
    have ch : ∀ a pn, ∃ t : TS, PSs (X.suite a pn) _ t ∧ RefS X.K p (fun _ _ _ _ => False) t _ := fun a pn => (hsu a pn).ex
    exact ⟨_, .as hN hi hln hc (fun a pn => (Classical.choose_spec (ch a pn)).1) h1, step (fun a pn => (Classical.choose_spec (ch a pn)).2) h2⟩
/-- try: body / clauses -/
def yTry (K : PySem.W.Frag) (tb : TDS) (l : List ClD) : TDS := fun Dd δ => tb { Dd with xc := fun c fs δ' => dMany K Dd l c fs δ' } δ
theorem ds_try {body : List Stmt} {h₀ : ExceptHandler} {hds : List ExceptHandler} {l : List ClD} {pos : Pos} {tb : TDS} (hs : X.stack = X.env :: X.outer) (hf : X.env.frame = some X.env.locals) (tk : Takes X W)
    (hb : ∀ (W' : WX) (pn : List (Addr × Obj)) (xe : Value → Shared → Prop), Takes (X.tr pn xe) W' → PassesOwn (model X.prog X.w) X.A X.env xe → DSs p (X.tr pn xe) W' body tb)
    (hh : HdsD p X (h₀ :: hds) l) : DS p X W (.Try body (h₀ :: hds) [] [] pos) (yTry X.K tb l) := by
  obtain ⟨l', h1, h2⟩ := hds_ok (W := W) hh
  have ch : ∀ (W' : WX) (pn : List (Addr × Obj)) (xe : Value → Shared → Prop), ∃ t : TS, Takes (X.tr pn xe) W' → PassesOwn (model X.prog X.w) X.A X.env xe → PSs (X.tr pn xe) body t ∧ RefS X.K p W' t tb := fun W' pn xe => by
    by_cases c : Takes (X.tr pn xe) W' ∧ PassesOwn (model X.prog X.w) X.A X.env xe
    · obtain ⟨t, t1, t2⟩ := hb W' pn xe c.1 c.2
      exact ⟨t, fun _ _ => ⟨t1, t2⟩⟩
    · exact ⟨tNever, fun a b => absurd ⟨a, b⟩ c⟩
  refine ⟨_, ps_tryT (tb := fun W' pn xe => Classical.choose (ch W' pn xe)) hs hf tk (fun W' pn xe a b => (Classical.choose_spec (ch W' pn xe) a b).1) h1, fun Gb G σ H δ D Dd s r q h pn xe a b => ?_⟩
  refine (Classical.choose_spec (ch _ pn xe) a b).2 Gb G σ H δ D _ s r q ⟨h.nx, h.rt, h.bk, h.ct, fun G σ H δ c fs d vs s r hd rf q => h2 Gb D Dd h G σ H δ c fs d vs s r hd rf q, h.ro⟩
end

section
variable {P : Program} {w : World} {K : PySem.W.Frag} {mg : Str → Option Value} {base : Heap}
theorem fnDN {x qual : Str} {st : Stmt} {f : Addr} {fd : FuncData} {N ps : List Str} {k : Nat} {T : TbL} (c : DC) (F : Fun K x qual st f fd) (S : FnScope N ps (defScope st)) (len : ∀ β ds Q E, c β ds Q E → ds.length = ps.length)
    (hbody : ∀ (cdv : Value) (A : Around) (outer : List Env) (s : Shared) (p : Pr) (E : XK), p.b.T = T → p.P = P ∧ p.w = w → RoomH k (A.deeper (envOfC qual (defScope st) s.heap.objs.size f cdv)) →
      ∃ td, DSs p (cxN (L2.CX P w) P w K mg base N qual (defScope st) f cdv A outer s p.H0 E) (fun cls d _ H => E cls d H) (defBody st) td ∧
        ∀ ds Qd Ed, c p.b.a ds Qd Ed → td { nx := fun _ => Qd .non, rt := Qd, xc := fun cn fs _ => Ed cn fs } (startD N.length ds)) :
    FnN P w K mg base (L2.CX P w) (k + 1) f fd ps (spD K T c) := by
  refine okN F S (fun vs H Q E h => ?_) (fun cdv A outer s H vs Q E hr h => ?_)
  · obtain ⟨b, G, ds, Qd, Ed, _, _, _, r, q, _⟩ := h
    rw [← r.length]
    exact len _ _ _ _ q
  · obtain ⟨b, G, ds, Qd, Ed, hT, s1, hb, r, q, k1, k2⟩ := h
    obtain ⟨td, ⟨t, h1, h2⟩, h3⟩ := hbody cdv A outer s ⟨b, H, G, P, w⟩ E hT ⟨rfl, rfl⟩ hr
    refine ⟨t, h1, ?_⟩
    refine h2 G G (L2.start N vs) H (startD N.length ds) _ _ (Same.refl _) (start_DR s1 hb r) (h3 ds Qd Ed q) ⟨fun G' σ' H' δ' _ r' q' => ?_, fun G' σ' H' δ' v d _ r' rv q' => ?_, fun _ _ _ _ _ _ z => z, fun _ _ _ _ _ _ z => z, fun G' σ' H' δ' cn fs d us _ r' hd rf q' => ?_, fun _ _ _ _ _ _ _ _ _ _ _ _ _ z => z.elim⟩
    · exact k1 G' H' _ _ r'.seen (rep_sc rfl) q'
    · exact k1 G' H' v d r'.seen rv q'
    · exact k2 G' H' cn fs d us r'.seen hd rf q'
end
section
variable {p : Pr} {X : Cx} {W : WX} {e : Expr} {es : List Expr} {ts : TDA} {pos : Pos}
theorem d_callN {T : TbL} {c : DC} {k : Nat} {f : Addr} {fd : FuncData} {ps : List Str} {x : Str} {q : Pos} (F : FnN X.prog X.w X.K X.mg X.base (L2.CX X.prog X.w) k f fd ps (spD X.K T c)) (hT : p.b.T = T) (hr : RoomH k X.A) (tk : Takes X W) (hm : X.mg x = some (.ref f)) (hk : PySem.W.keepIn X.K (.ref f) = true) (hb : Binds X.K fd ps [])
    (ha : DA p X W (e :: es) ts) (hg : Gl X x := by rfl) (hdb : (x == ("__debug__" : Str)) = false := by decide) (he : starEach (e :: es) X.env = (false, eval e X.env) :: starEach es X.env := by rfl) (hpl : (backTo pos (starEach es X.env)).any (·.1) = false := by rfl) :
    DE p X W (.Call (.Name x q) (e :: es) [] pos) (xFn p.b.a c ts) := by
  obtain ⟨a, a1, a2⟩ := ha
  refine ⟨_, pe_callN F hr hg hm hk hb (fun σ => passAt tk σ) a1 hdb he hpl, fun G σ H δ Q Qd Ed r q k x => ?_⟩
  refine a2 G σ H δ _ _ Ed r q (fun G1 H1 vs ds e1 r1 q1 => ?_) x
  exact ⟨p.b, G1, ds, Qd, Ed, hT, e1.sub, e1.bag, r1, q1, fun G2 H2 v d e2 r2 q2 => k G2 H2 v d (e1.trans r.at e2) r2 q2, fun G2 H2 cn fs d us e2 hd rf q2 => x G2 H2 cn fs d us (e1.trans r.at e2) hd rf q2⟩
end
end DL

namespace DL
open PySem PySem.Spec PyProof.Rows L2 EX
open L2H (RoomH roomH_of)

structure OkD (P : Program) (w : World) (K : PySem.W.Frag) (mg : Str → Option Value) (base : Heap) (T : TbL) (k : Nat) (x : Str) (ps : List Str) (c : DC) : Prop where
  ex : ∃ fd : FuncData, mg x = some (.ref (He.ga K x)) ∧ PySem.W.keepIn K (.ref (He.ga K x)) = true ∧ Binds K fd ps [] ∧ FnOk P w K mg base (L2.CX P w) k (He.ga K x) fd ps (spD K T c)
structure OkN (P : Program) (w : World) (K : PySem.W.Frag) (mg : Str → Option Value) (base : Heap) (T : TbL) (k : Nat) (x : Str) (ps : List Str) (c : DC) : Prop where
  ex : ∃ fd : FuncData, mg x = some (.ref (He.ga K x)) ∧ PySem.W.keepIn K (.ref (He.ga K x)) = true ∧ Binds K fd ps [] ∧ FnN P w K mg base (L2.CX P w) k (He.ga K x) fd ps (spD K T c)
section
variable {P : Program} {w : World} {K : PySem.W.Frag} {mg : Str → Option Value} {base : Heap} {T : TbL} {j k : Nat} {x : Str} {ps : List Str} {c c' : DC}
theorem OkD.mono (O : OkD P w K mg base T j x ps c) (h : j ≤ k) : OkD P w K mg base T k x ps c := by
  obtain ⟨fd, h1, h2, h3, h4⟩ := O
  exact ⟨fd, h1, h2, h3, h4.mono h⟩
theorem OkN.mono (O : OkN P w K mg base T j x ps c) (h : j ≤ k) : OkN P w K mg base T k x ps c := by
  obtain ⟨fd, h1, h2, h3, h4⟩ := O
  exact ⟨fd, h1, h2, h3, h4.mono h⟩
theorem OkN.ok (O : OkN P w K mg base T k x ps c) : OkD P w K mg base T k x ps c := by
  obtain ⟨fd, h1, h2, h3, h4⟩ := O
  exact ⟨fd, h1, h2, h3, h4.ok⟩
theorem OkD.imp (O : OkD P w K mg base T k x ps c) (h : ∀ β ds Q E, c' β ds Q E → c β ds Q E) : OkD P w K mg base T k x ps c' := by
  obtain ⟨fd, h1, h2, h3, h4⟩ := O
  exact ⟨fd, h1, h2, h3, fnD_imp h4 h⟩
end
section
variable {p : Pr} {X : Cx} {W : WX} {e : Expr} {es : List Expr} {ts : TDA} {pos : Pos} {T : TbL} {k : Nat} {x : Str} {ps : List Str} {c : DC} {q : Pos}
theorem d_callO (O : OkD X.prog X.w X.K X.mg X.base T k x ps c) (hT : p.b.T = T) (hr : Room k X.A) (tk : Takes X W) (ha : DA p X W (e :: es) ts)
    (hg : Gl X x := by rfl) (hdb : (x == ("__debug__" : Str)) = false := by decide) (he : starEach (e :: es) X.env = (false, eval e X.env) :: starEach es X.env := by rfl) (hpl : (backTo pos (starEach es X.env)).any (·.1) = false := by rfl) :
    DE p X W (.Call (.Name x q) (e :: es) [] pos) (xFn p.b.a c ts) := by
  obtain ⟨fd, h1, h2, h3, h4⟩ := O
  exact d_call h4 hT hr tk h1 h2 h3 ha hg hdb he hpl
theorem d_callON (O : OkN X.prog X.w X.K X.mg X.base T k x ps c) (hT : p.b.T = T) (hr : RoomH k X.A) (tk : Takes X W) (ha : DA p X W (e :: es) ts)
    (hg : Gl X x := by rfl) (hdb : (x == ("__debug__" : Str)) = false := by decide) (he : starEach (e :: es) X.env = (false, eval e X.env) :: starEach es X.env := by rfl) (hpl : (backTo pos (starEach es X.env)).any (·.1) = false := by rfl) :
    DE p X W (.Call (.Name x q) (e :: es) [] pos) (xFn p.b.a c ts) := by
  obtain ⟨fd, h1, h2, h3, h4⟩ := O
  exact d_callN h4 hT hr tk h1 h2 h3 ha hg hdb he hpl
end
/-- a def's body, judged -/
def BodyD (P : Program) (w : World) (K : PySem.W.Frag) (mg : Str → Option Value) (base : Heap) (T : TbL) (k : Nat) (qual : Str) (st : Stmt) (f : Addr) (N : List Str) (td : Addr → TDS) : Prop :=
  ∀ (cdv : Value) (A : Around) (outer : List Env) (s : Shared) (p : Pr) (E : XK), p.b.T = T → p.P = P ∧ p.w = w → codeV K f = cdv → Room k (A.deeper (envOfC qual (defScope st) s.heap.objs.size f cdv)) →
    DSs p (cxOf (L2.CX P w) P w K mg base N qual (defScope st) f cdv A outer s p.H0 E) (fun cls d _ H => E cls d H) (defBody st) (td p.b.a)
def BodyN (P : Program) (w : World) (K : PySem.W.Frag) (mg : Str → Option Value) (base : Heap) (T : TbL) (k : Nat) (qual : Str) (st : Stmt) (f : Addr) (N : List Str) (td : Addr → TDS) : Prop :=
  ∀ (cdv : Value) (A : Around) (outer : List Env) (s : Shared) (p : Pr) (E : XK), p.b.T = T → p.P = P ∧ p.w = w → RoomH k (A.deeper (envOfC qual (defScope st) s.heap.objs.size f cdv)) →
    DSs p (cxN (L2.CX P w) P w K mg base N qual (defScope st) f cdv A outer s p.H0 E) (fun cls d _ H => E cls d H) (defBody st) (td p.b.a)
/-- the contract is kept by the reading -/
def Keeps (td : Addr → TDS) (N : List Str) (c : DC) : Prop := ∀ β ds Qd Ed, c β ds Qd Ed → td β { nx := fun _ => Qd .non, rt := Qd, xc := fun cn fs _ => Ed cn fs } (startD N.length ds)
section
variable {P : Program} {w : World} {K : PySem.W.Frag} {mg : Str → Option Value} {base : Heap} {T : TbL} {k : Nat} {x qual : Str} {st : Stmt} {fd : FuncData} {N ps : List Str} {c : DC} {td : Addr → TDS}
theorem okD_of (g : mg x = some (.ref (He.ga K x))) (F : Fun K x qual st (He.ga K x) fd) (b : Binds K fd ps []) (S : FnScope N ps (defScope st)) (B : BodyD P w K mg base T k qual st (He.ga K x) N td) (len : ∀ β ds Q E, c β ds Q E → ds.length = ps.length) (h : Keeps td N c) : OkD P w K mg base T (k + 1) x ps c :=
  ⟨fd, g, F.kp, b, fnD c F S len fun cdv A outer s p E hT hP hcv hr => ⟨_, B cdv A outer s p E hT hP hcv hr, fun ds Qd Ed q => h p.b.a ds Qd Ed q⟩⟩
theorem okN_of (g : mg x = some (.ref (He.ga K x))) (F : Fun K x qual st (He.ga K x) fd) (b : Binds K fd ps []) (S : FnScope N ps (defScope st)) (B : BodyN P w K mg base T k qual st (He.ga K x) N td) (len : ∀ β ds Q E, c β ds Q E → ds.length = ps.length) (h : Keeps td N c) : OkN P w K mg base T (k + 1) x ps c :=
  ⟨fd, g, F.kp, b, fnDN c F S len fun cdv A outer s p E hT hP hr => ⟨_, B cdv A outer s p E hT hP hr, fun ds Qd Ed q => h p.b.a ds Qd Ed q⟩⟩
end

/-- the ways an __init__'s arguments may be given: how many by place, the keywords, the order -/
def shapes : List Str → List (Nat × List Str × List Nat)
  | [] => [(0, [], [])]
  | [a] => [(1, [], [0]), (0, [a], [0])]
  | [a, b] => [(2, [], [0, 1]), (0, [a, b], [0, 1]), (0, [b, a], [1, 0]), (1, [b], [0, 1])]
  | _ => []
structure MkC (P : Program) (w : World) (K : PySem.W.Frag) (mg : Str → Option Value) (base : Heap) (cn code : Str) (ns : List Str) : Prop where
  g : mg cn = some (.ref (He.ga K cn))
  ex : ∃ (fI : Addr) (fd : FuncData), OxC K (He.ga K cn) ∧ PySem.W.findIn K (.ref (He.ga K cn)) "__init__" = some (some (.ref fI)) ∧ PySem.W.typeIn K (.ref fI) = some (.type "function") ∧
    FnOk P w K mg base (L2.CX P w) 1 fI fd ("self" :: ns) (spXI (He.ga K cn) code ns) ∧ ∀ (j m : Nat) (ks : List Str) (pm : List Nat), (shapes ns)[j]? = some (m, ks, pm) → BX fd ns m ks pm
section
variable {p : Pr} {X : Cx} {W : WX} {es : List Expr} {kws : List Keyword} {ks : List Str} {ts : TDA} {pos q : Pos} {cn code : Str} {ns : List Str} {pm : List Nat}
theorem d_mkC (j : Nat) {n : Nat} (M : MkC X.prog X.w X.K X.mg X.base cn code ns) (hr : Room 2 X.A) (ha : DMk p X W pos es kws ks ts) (hj : (shapes ns)[j]? = some (es.length, ks, pm) := by rfl) (hn : es.length + ks.length = n := by rfl)
    (hle : es.length ≤ sizeLine := by decide) (hg : Gl X cn := by rfl) (hdb : (cn == ("__debug__" : Str)) = false := by decide) : DE p X W (.Call (.Name cn q) es kws pos) (xMkx cn code ns pm n ts) := by
  obtain ⟨g, fI, fd, h1, h2, h3, h4, h5⟩ := M
  subst hn
  exact d_mkx ⟨h1, h2, h3, h4⟩ (h5 j _ _ _ hj) hr g ha hle hg hdb
theorem ds_raiseC (S : List Nat) (j : Nat) {n : Nat} {rpos : Pos} (M : MkC X.prog X.w X.K X.mg X.base cn code ns) (hc : X.calm = true) (tk : Takes X W) (hr : Room 2 X.A) (ha : DMk p X W pos es kws ks ts) (hj : (shapes ns)[j]? = some (es.length, ks, pm) := by rfl) (hn : es.length + ks.length = n := by rfl)
    (hle : es.length ≤ sizeLine := by decide) (hg : Gl X cn := by rfl) (hdb : (cn == ("__debug__" : Str)) = false := by decide) : DS p X W (.Raise (some (.Call (.Name cn q) es kws pos)) none rpos) (yRaise S cn code ns pm n ts) := by
  obtain ⟨g, fI, fd, h1, h2, h3, h4, h5⟩ := M
  subst hn
  exact ds_raise S hc tk ⟨h1, h2, h3, h4⟩ (h5 j _ _ _ hj) hr g ha hle hg hdb
end
section
variable {p : Pr} {X : Cx} {W : WX} {e : Expr} {es : List Expr} {kws : List Keyword} {ks : List Str} {ts tk : TDA} {pos : Pos} {n m : Nat}
theorem mk_pos (ha : DA p X W (e :: es) ts) (hn : (e :: es).length = n := by rfl) (he : starEach (e :: es) X.env = (false, eval e X.env) :: starEach es X.env := by rfl) (hpl : (backTo pos (starEach es X.env)).any (·.1) = false := by rfl) : DMk p X W pos (e :: es) [] [] (xLen n ts) := by
  subst hn
  exact dmk_pos ha he hpl
theorem mk_kw (hk : DK p X W kws tk) (hn : ks.length = n := by rfl) (hall : (backToKw pos (keywordEach kws X.env)).all (·.1.isSome) = true := by rfl) (hks : (backToKw pos (keywordEach kws X.env)).filterMap (·.1) = ks := by rfl)
    (hpl : ((backTo pos (starEach [] X.env)).any (·.1) || (backToKw pos (keywordEach kws X.env)).any (·.1.isNone)) = false := by rfl) : DMk p X W pos [] kws ks (xLen n tk) := by
  subst hn
  exact dmk_kw hk hall hks hpl
theorem mk_both (ha : DA p X W (e :: es) ts) (hk : DK p X W kws tk) (hn : (e :: es).length = n := by rfl) (hm : ks.length = m := by rfl) (hall : (backToKw pos (keywordEach kws X.env)).all (·.1.isSome) = true := by rfl) (hks : (backToKw pos (keywordEach kws X.env)).filterMap (·.1) = ks := by rfl)
    (he : starEach (e :: es) X.env = (false, eval e X.env) :: starEach es X.env := by rfl)
    (hpl : ((backTo pos (starEach (e :: es) X.env)).any (·.1) || (backToKw pos (keywordEach kws X.env)).any (·.1.isNone)) = false := by rfl) : DMk p X W pos (e :: es) kws ks (xApp n m ts tk) := by
  subst hn hm
  exact dmk_both ha hk hall hks he hpl
theorem dt_isN {j pos'} {ta : TDE} (h : DE p X W e ta) : DT p X W (.Compare e [.Is] [.Constant .none j pos'] pos) (xTest (xIsN false ta)) := by
  obtain ⟨t, h1, h2⟩ := h
  exact ⟨_, pt_cmp (pc_isN h1) rfl, refTest (refIsN false h2)⟩
theorem dt_notN {j pos'} {ta : TDE} (h : DE p X W e ta) : DT p X W (.Compare e [.IsNot] [.Constant .none j pos'] pos) (xTest (xIsN true ta)) := by
  obtain ⟨t, h1, h2⟩ := h
  exact ⟨_, pt_cmp (pc_notN h1) rfl, refTest (refIsN true h2)⟩
theorem un64 {k : Nat} {A : Around} (r : RoomH k A) : A.units + 64 < cLine := by have := r.un; omega
end
section
variable {P : Program} {w : World} {K : PySem.W.Frag} {mg : Str → Option Value} {base : Heap} {qual : Str} {st : Stmt} {fI : Addr} {fd : FuncData} {cn code f1 f2 : Str} {j : Nat} {p1 p2 p3 p4 p5 p6 p7 p8 q5 q6 q7 q8 : Pos} {ns : List Str}
/-- how the arguments bind, by the def's text -/
def BxT (qual : Str) (st : Stmt) (ns : List Str) (m : Nat) (ks : List Str) (pm : List Nat) : Prop := ∀ (kV doc pmv : Value) (an : Option Addr) (cdv ct u : Value) (us ws : List Value), us.length = m → ws.length = ks.length →
  bindArgs (PySem.W.fnOf "__init__" qual (defArgs st) (defBody st) (defScope st) .none kV doc pmv an cdv ct) ⟨u :: us, ks.zip ws⟩ = pure ((((("self" : Str) :: ns)).zip (u :: pickP pm (us ++ ws))))
theorem bx_of (F : Fun K "__init__" qual st fI fd) {m : Nat} {ks : List Str} {pm : List Nat} (h : BxT qual st ns m ks pm) : BX fd ns m ks pm := by
  obtain ⟨oc, od, kV, doc, pmv, an, cdv, ct, osl, rfl, lk, hcd⟩ := F.ex
  exact ⟨fun s u us ws h1 h2 => BindsTo.of_eq (h kV doc pmv an cdv ct u us ws h1 h2)⟩
variable (g : mg cn = some (.ref (He.ga K cn))) (T : OxC K (He.ga K cn)) (hI : PySem.W.findIn K (.ref (He.ga K cn)) "__init__" = some (some (.ref fI))) (hT : PySem.W.typeIn K (.ref fI) = some (.type "function")) (F : Fun K "__init__" qual st fI fd)
  (hc : PySem.W.findIn K (.ref (He.ga K cn)) "code" = some none)
include g T hI hT F hc
theorem mkc0 (S : FnScope ["self"] ["self"] (defScope st)) (hb : defBody st = body0 code j p1 p2 p3 p4) (hs : (defScope st).names.lookup ("self" : Str) = some .local) (b0 : BxT qual st [] 0 [] []) : MkC P w K mg base cn code [] := by
  refine ⟨g, fI, fd, T, hI, hT, init0 T F S hc hb hs, fun i m ks pm h => ?_⟩
  match i, h with
  | 0, h => cases h; exact bx_of F b0
theorem mkc1 (S : FnScope ["self", f1] ["self", f1] (defScope st)) (hc1 : PySem.W.findIn K (.ref (He.ga K cn)) f1 = some none) (hb : defBody st = body1 code f1 j p1 p2 p3 p4 p5 p6 p7 p8) (hs : (defScope st).names.lookup ("self" : Str) = some .local)
    (hs1 : (defScope st).names.lookup f1 = some .local) (d1 : (f1 == ("__debug__" : Str)) = false) (d1' : (f1 == ("__classdict__" : Str)) = false) (b0 : BxT qual st [f1] 1 [] [0]) (b1 : BxT qual st [f1] 0 [f1] [0]) : MkC P w K mg base cn code [f1] := by
  refine ⟨g, fI, fd, T, hI, hT, init1 T F S hc hc1 hb hs hs1 d1 d1', fun i m ks pm h => ?_⟩
  match i, h with
  | 0, h => cases h; exact bx_of F b0
  | 1, h => cases h; exact bx_of F b1
theorem mkc2 (S : FnScope ["self", f1, f2] ["self", f1, f2] (defScope st)) (hc1 : PySem.W.findIn K (.ref (He.ga K cn)) f1 = some none) (hc2 : PySem.W.findIn K (.ref (He.ga K cn)) f2 = some none) (hb : defBody st = body2 code f1 f2 j p1 p2 p3 p4 p5 p6 p7 p8 q5 q6 q7 q8) (hs : (defScope st).names.lookup ("self" : Str) = some .local)
    (hs1 : (defScope st).names.lookup f1 = some .local) (hs2 : (defScope st).names.lookup f2 = some .local) (d1 : (f1 == ("__debug__" : Str)) = false) (d1' : (f1 == ("__classdict__" : Str)) = false) (d2 : (f2 == ("__debug__" : Str)) = false) (d2' : (f2 == ("__classdict__" : Str)) = false)
    (b0 : BxT qual st [f1, f2] 2 [] [0, 1]) (b1 : BxT qual st [f1, f2] 0 [f1, f2] [0, 1]) (b2 : BxT qual st [f1, f2] 0 [f2, f1] [1, 0]) (b3 : BxT qual st [f1, f2] 1 [f2] [0, 1]) : MkC P w K mg base cn code [f1, f2] := by
  refine ⟨g, fI, fd, T, hI, hT, init2 T F S hc hc1 hc2 hb hs hs1 hs2 d1 d1' d2 d2', fun i m ks pm h => ?_⟩
  match i, h with
  | 0, h => cases h; exact bx_of F b0
  | 1, h => cases h; exact bx_of F b1
  | 2, h => cases h; exact bx_of F b2
  | 3, h => cases h; exact bx_of F b3
end

theorem compD_fm {g : TDG} {tt : TDT} {te : TDE} {δ : DSt} (f : D → Option D) : ∀ (ds : List D) (k : List D → Prop), (∀ d ∈ ds, ∀ (k : Option D → Prop), k (f d) → g d δ fun δ1 => tt δ1 (fun b => if b = true then te δ1 (fun y => k (some y)) (fun _ _ => False) else k none) (fun _ _ => False)) → k (ds.filterMap f) → compD g tt te δ ds k
  | [], k, _, q => q
  | d :: ds, k, h, q => by
    unfold compD
    refine h d List.mem_cons_self (fun o => match o with | some y => compD g tt te δ ds fun ys => k (y :: ys) | none => compD g tt te δ ds k) ?_
    cases e : f d with
    | none =>
      rw [List.filterMap_cons_none e] at q
      exact compD_fm f ds k (fun d hd => h d (List.mem_cons_of_mem _ hd)) q
    | some y =>
      rw [List.filterMap_cons_some e] at q
      exact compD_fm f ds (fun ys => k (y :: ys)) (fun d hd => h d (List.mem_cons_of_mem _ hd)) q
/-- without ifs: each entry some value that R allows -/
theorem compD_rel {g : TDG} {te : TDE} {δ : DSt} (R : D → D → Prop) : ∀ (ds : List D) (k : List D → Prop), (∀ d ∈ ds, ∀ k : D → Prop, (∀ y, R d y → k y) → g d δ fun δ1 => te δ1 k (fun _ _ => False)) → (∀ ys, Paired R ds ys → k ys) → compD g xYes te δ ds k
  | [], k, _, q => q [] .nil
  | d :: ds, k, h, q => by
    unfold compD
    show g d δ fun δ1 => if true = true then te δ1 (fun y => compD g xYes te δ ds fun ys => k (y :: ys)) (fun _ _ => False) else compD g xYes te δ ds k
    simp only [if_true]
    exact h d List.mem_cons_self _ fun y hy => compD_rel R ds (fun ys => k (y :: ys)) (fun d hd => h d (List.mem_cons_of_mem _ hd)) fun ys hys => q (y :: ys) (.cons hy hys)
theorem loopD_inv {g : TDG} {tb : TDS} {Dd : DEnds} (I : DSt → Prop) : ∀ (ds : List D), (∀ d ∈ ds, ∀ δ, I δ → ∀ nx : DSt → Prop, (∀ δ, I δ → nx δ) → g d δ fun δ1 => tb { nx := nx, ct := nx, bk := Dd.nx, rt := Dd.rt, xc := Dd.xc, ro := Dd.ro } δ1) → (∀ δ, I δ → Dd.nx δ) → ∀ δ, I δ → loopD g tb Dd ds δ
  | [], _, q, δ, hI => q δ hI
  | d :: ds, h, q, δ, hI => by
    unfold loopD
    exact h d List.mem_cons_self δ hI _ fun δ h1 => loopD_inv I ds (fun d hd => h d (List.mem_cons_of_mem _ hd)) q δ h1
end DL

namespace LamS2
open PySem PySem.Spec PyProof.Rows L2 LamX
section
variable {X : Cx} {pins : List (Addr × Obj)} {σ : List (Option V)} {H : Hp} {s : Shared}
theorem pe_actS {Eg : XK} {CXg : CXT} {Ng : List Str} {qg : Str} {sg : Scope} {g f c' : Addr} {cdg pm ctv : Value} {params : Arguments} {body : Expr} {scope : Scope} {k i : Nat} {a : Str} {pn : List (Addr × Obj)} {xe : Value → Shared → Prop} {W : WX} {tb : XK → TE} {p1 p2 : Pos}
    (I : Inv X pins σ H s) (L : LamS X.env.scope scope) (hf : s.heap.get? f = some (PySem.W.kla_obj "<lambda>" (X.env.qual ++ "<lambda>") params body scope (cloFrom X.env.cells scope.names []) pm c' ctv)) (hfn : H f = none) (hfr : f ∉ frs X.stack)
    (hbind : bindArgs (PySem.W.kla_fn "<lambda>" (X.env.qual ++ "<lambda>") params body scope (cloFrom X.env.cells scope.names []) pm (.ref c') ctv) ⟨[], []⟩ = pure [])
    (tk : Takes ((cxOf CXg X.prog X.w X.K X.mg X.base Ng qg sg g cdg X.A X.stack s H Eg).tr pn xe) W) (hr : Room (k + 1) (X.A.deeper (envOfC qg sg s.heap.objs.size g cdg)))
    (hbody : ∀ (E : XK) (A : Around) (outer : List Env) (s : Shared) (H : Hp), Room k (A.deeper (lamEnv X scope s.heap.objs.size f c')) → PE (lamCx X A outer s H E scope f c') body (tb E))
    (hN : Ng[i]? = some a) (hv : Vis sg a) (hd : (a == ("__debug__" : Str)) = false := by decide) (hcd : (a == ("__classdict__" : Str)) = false := by decide) :
    PE ((cxOf CXg X.prog X.w X.K X.mg X.base Ng qg sg g cdg X.A X.stack s H Eg).tr pn xe) (.Call (.Name a p1) [] [] p2)
      (fun σZ HZ Q => σZ[i]? = some (some (.ref f)) ∧ HZ c' = some (CodeO c' (X.env.qual ++ "<lambda>")) ∧ tb (WE W σZ) σ HZ Q) := by
  refine ⟨fun pinsZ sZ σZ HZ Q IZ h => ?_⟩
  obtain ⟨hs, hc, ht⟩ := h
  refine wpAny_Call_Name_kw (thn ((pe_var (pos := p1) (i := i) hN hv hd hcd).run pinsZ sZ σZ HZ (fun v H1 => v = .ref f ∧ H1 = HZ) IZ ⟨.ref f, hs, rfl, rfl⟩) fun u s1 ⟨v, H1, I1, r1, q1⟩ => ?_)
  obtain ⟨ev, eH⟩ := q1
  subst ev
  rw [eH] at I1
  obtain rfl : u = Value.ref f := r1
  have of1 : s1.heap.get? f = some (PySem.W.kla_obj "<lambda>" (X.env.qual ++ "<lambda>") params body scope (cloFrom X.env.cells scope.names []) pm c' ctv) := I1.base.keep f _ hf hfn hfr (fun z => nomatch (show f ∈ ([] : List Addr) from z))
  refine PySem.W.callWith_F0 ⟨_, _, _, _, of1⟩ ?_
  have un : Un (frs X.stack) [] H HZ s.heap s1.heap := I1.base
  obtain ⟨⟨oc, vs, t, hoc, hdc, hvc⟩, _, _⟩ := I1.hok c' _ hc
  have rc : codeAny (model X.prog X.w) (X.A.deeper (envOfC qg sg s.heap.objs.size g cdg)) (.call (.ref f) ⟨[], []⟩) (CR (L2.CX X.prog X.w) (envOfC qg sg s.heap.objs.size g cdg :: X.stack) X.prog X.w HZ s1 Q (WE W σZ)) s1 := by
    refine PySem.W.kla_callFunE hr.depth of1 rfl L.co L.gen rfl ⟨c', oc, vs, t, rfl, hoc, hdc, hvc⟩ ?_
    rw [hbind]
    refine wpAny_pure (wpAny_newFunctionEnv (fun y hy => (L.own y hy).2) (fun y hy => absurd hy (by simp)) (fun h₁ hns hsb => ⟨I1.nolimit.fresh _ hsb, ?_⟩) L.kind)
    show codeAny _ _ (.expr body (lamEnv X scope s1.heap.objs.size f c')) _ _
    have kp : ∀ b o, s1.heap.get? b = some o → h₁.get? b = some o := fun b o e => hsb.extBut b o (Nat.ne_of_lt (Heap.lt_size e)) (Heap.get?_push_of_some _ e)
    have J : Inv (lamCx X (X.A.deeper (envOfC qg sg s.heap.objs.size g cdg)) (envOfC qg sg s.heap.objs.size g cdg :: X.stack) s1 HZ (WE W σZ) scope f c') [] σ HZ { s1 with heap := h₁, toks := s1.toks + ([] : List (Str × Value)).length } :=
      lam_start2 I L I1.env0 hr.hd un hns kp
    refine PySem.W.kla_codeExpr (wpAny_mono ((hbody (WE W σZ) _ _ s1 HZ (hr.deeper _)).run [] _ _ HZ Q J ht) (fun v s' hq => ?_) fun e s' hq => hq)
    obtain ⟨w', H', J', rv, q⟩ := hq
    exact ⟨w', H', J'.os, J'.bare, J'.base, J'.hok, rv, q⟩
  refine wpAny_call (codeAny_mono rc fun r s' hq => ?_)
  cases r with
  | error e => exact passAt tk σZ pinsZ HZ s1 e s' I1 hq
  | ok fl =>
    cases fl with
    | ret u => exact I1.after hq
    | next => exact False.elim hq
    | brk => exact False.elim hq
    | cont => exact False.elim hq
end
/-- the def that calls what it got -/
def GivesToS (X : Cx) (Ng : List Str) (x : Str) (sg : Scope) (g : Addr) (cdg : Value) (bg : List Stmt) (a : Str) (q : Str) (TT : (XK → Hp → VK → Prop) → Hp → VK → Prop) (k : Nat) : Prop :=
  ∀ (f c' : Addr) (s : Shared) (H : Hp) (Q : VK) (tl : XK → Hp → VK → Prop), Room k (X.A.deeper (envOfC x sg s.heap.objs.size g cdg)) →
    (∀ (W : WX) (pn : List (Addr × Obj)) (xe : Value → Shared → Prop) (p1 p2 : Pos), Takes ((cxOf C8.CX0 X.prog X.w X.K X.mg X.base Ng x sg g cdg X.A X.stack s H C8.E0).tr pn xe) W →
      PE ((cxOf C8.CX0 X.prog X.w X.K X.mg X.base Ng x sg g cdg X.A X.stack s H C8.E0).tr pn xe) (.Call (.Name a p1) [] [] p2) (fun σZ HZ Q => σZ[0]? = some (some (.ref f)) ∧ HZ c' = some (CodeO c' q) ∧ tl (WE W σZ) HZ Q)) →
    H c' = some (CodeO c' q) → TT tl H Q →
    ∃ t, PSs (cxOf C8.CX0 X.prog X.w X.K X.mg X.base Ng x sg g cdg X.A X.stack s H C8.E0).nox bg t ∧ t { nx := fun _ H' => Q .non H', rt := Q } (L2.start Ng [.ref f]) H
section
variable {X : Cx}
/-- x(lambda: body) -/
theorem pe_lamcallS {T : List (Addr × Str)} {TT : (XK → Hp → VK → Prop) → Hp → VK → Prop} {x a : Str} {g c P : Addr} {k : Nat} {pg : Arguments} {bg : List Stmt} {sg : Scope} {dV kV doc pm cdv ct oc : Value} {an od : Option Addr} {osl : Array (Option Value)} {Ng : List Str}
    {params : Arguments} {body : Expr} {scope : Scope} {t : XK → TE} {p lpos pos : Pos} (hg : Gl X x) (hm : X.mg x = some (.ref g)) (hk : PySem.W.keepIn X.K (.ref g) = true)
    (lk : X.K.lookup g = some ⟨oc, od, .func (PySem.W.fnOf x x pg bg sg dV kV doc pm an cdv ct), osl⟩) (hcg : PySem.W.codeIn X.K cdv x = true) (hb : L2.Binds X.K (PySem.W.fnOf x x pg bg sg dV kV doc pm an cdv ct) [a] []) (Sg : FnScope Ng [a] sg) (hNg : Ng[0]? = some a) (hva : Vis sg a)
    (hG : GivesToS X Ng x sg g cdv bg a (X.env.qual ++ "<lambda>") TT (k + 1))
    (TB : TabB X.base X.mg c P) (hcode : X.env.code = .ref c) (hmT : (P, X.env.qual ++ "<lambda>") ∈ T) (hu : ∀ p ∈ T, p.1 = P → p.2 = X.env.qual ++ "<lambda>") (hr : Room (k + 2) X.A) (L : LamS X.env.scope scope) (hdef : defaultsOf params X.env = ([], []))
    (hbind : ∀ (q : Str) (cl : List (Str × Addr)) (pm cv ctv : Value), bindArgs (PySem.W.kla_fn "<lambda>" q params body scope cl pm cv ctv) ⟨[], []⟩ = pure [])
    (hbody : ∀ (A : Around) (outer : List Env) (s : Shared) (H : Hp) (E : XK) (f c' : Addr), Room k (A.deeper (lamEnv X scope s.heap.objs.size f c')) → PE (lamCx X A outer s H E scope f c') body (t E))
    (hdb : (x == ("__debug__" : Str)) = false := by decide) (hd : (a == ("__debug__" : Str)) = false := by decide) (hcd : (a == ("__classdict__" : Str)) = false := by decide) :
    PE X (.Call (.Name x p) [.Lambda params body scope lpos] [] pos) (tLam T TT t) := by
  refine ⟨fun pins s σ H Q I h => ?_⟩
  obtain ⟨hT, h⟩ := h
  refine wpAny_Call_Name_kw (ld_glob I hg hm ?_ hdb)
  refine PySem.W.callWith_K (h₀ := X.base) I.ok.mod.kin hk ?_ (by rfl) (by rfl)
  show wpAny _ _ (spliced ((false, eval (.Lambda params body scope lpos) X.env) :: backTo pos (starEach [] X.env))) _ _ s
  refine Calls.spliced_cons (lam_make2 I TB hcode hmT hu hT hdef (L.has I.ok) fun f c' pm' ctv H1 s' I1 eN T1 hf hfn hfr hco => ?_)
  refine Calls.spliced_nil ⟨I1.kIn, ?_⟩
  have rc : codeAny (model X.prog X.w) X.A (.call (.ref g) ⟨[.ref f], []⟩) (CR C8.CX0 X.stack X.prog X.w H1 s' Q C8.E0) s' := by
    refine run_ofS (N := Ng) (ps := [a]) (us := [.ref f]) (vs := [.ref f]) lk hcg Sg hr I1.env0 (hb s' [.ref f] I1.kIn rfl) (.cons rfl .nil) rfl fun hr' => ?_
    obtain ⟨t', ht', hq'⟩ := hG f c' s' H1 Q (fun E H' Q' => t E σ H' Q') hr' (fun W pn xe p1 p2 tk => pe_actS (i := 0) I1 L hf hfn hfr (hbind _ _ _ _ _) tk hr' (fun E A outer s H hr2 => hbody A outer s H E f c' hr2) hNg hva hd hcd) hco (h H1 eN T1)
    exact ⟨t', ht'.nox, hq'⟩
  refine wpAny_call (codeAny_mono rc fun r s2 hq => ?_)
  cases r with
  | error e => exact (show False from hq).elim
  | ok fl =>
    cases fl with
    | ret u => exact I1.after hq
    | next => exact False.elim hq
    | brk => exact False.elim hq
    | cont => exact False.elim hq
end
end LamS2

namespace DL
open PySem PySem.Spec PyProof.Rows L2 EX LamX LamS2

/-- a lambda's contract -/
abbrev LC := QD → XD → Prop
/-- what a def makes of a lambda: the bag's address, the lambda, what is wanted -/
abbrev AskC := Addr → LC → QD → Prop
/-- the reading tl keeps the contract c at the state G, H -/
def LamOk (K : PySem.W.Frag) (b : Bag) (G H : Hp) (tl : XK → Hp → VK → Prop) (c : LC) : Prop :=
  ∀ (G' H' : Hp) (E : XK) (Q : VK) (Qd : QD) (Ed : XD), Ext K b G H G' H' → c Qd Ed → (∀ G2 H2 v d, Ext K b G' H' G2 H2 → Rep K G2 d v → Qd d → Q v H2) →
    (∀ G2 H2 cn fs d us, Ext K b G' H' G2 H2 → G2 d = some (.xd us) → RepsF K G2 fs us → Ed cn fs → E (.ref (He.ga K cn)) (some d) H2) → tl E H' Q
def TTd (K : PySem.W.Frag) (T : TbL) (ask : AskC) : (XK → Hp → VK → Prop) → Hp → VK → Prop := fun tl H Q =>
  ∃ (b : Bag) (G : Hp) (c : LC) (Qd : QD), b.T = T ∧ Same G H ∧ BagOk K b G H ∧ LamOk K b G H tl c ∧ ask b.a c Qd ∧ ∀ G' H' v d, Ext K b G H G' H' → Rep K G' d v → Qd d → Q v H'
/-- x(lambda: body) -/
def xLam (β : Addr) (ask : AskC) (tb : TDE) : TDE := fun δ Q _ => ask β (fun Qd Ed => tb δ Qd Ed) Q
section
variable {p : Pr} {X : Cx} {W : WX}
theorem ext_tabs {K : PySem.W.Frag} {b : Bag} {G H H1 : Hp} (s : Same G H) (hb : BagOk K b G H) (eN : ExtN H H1) (T1 : Tabs b.T H1) : Ext K b G H G H1 := by
  have s1 : Same G H1 := fun a o e => eN a o (s a o e) (hb.2.2.1.2 a o e)
  refine ⟨Same.refl _, s1, fun a o _ t h => eN a o h t, fun _ _ _ _ g => g, hb.1, hb.2.1, ⟨T1, hb.2.2.1.2⟩, ?_⟩
  obtain ⟨_, _, _, i, g, s', c, h1, h3⟩ := hb
  exact ⟨i, g, s', c, eN _ _ h1 nt_lst, h3⟩
theorem d_lam {T : TbL} {ask : AskC} {x a : Str} {st : Stmt} {g c P : Addr} {k : Nat} {fd : FuncData} {Ng : List Str} {params : Arguments} {body : Expr} {scope : Scope} {tb : TDE} {q lpos pos : Pos} (hT : p.b.T = T)
    (hm : X.mg x = some (.ref g)) (F : Fun X.K x x st g fd) (hb : Binds X.K fd [a] []) (Sg : FnScope Ng [a] (defScope st)) (hNg : Ng[0]? = some a) (hva : Vis (defScope st) a)
    (hG : ∀ cdv, codeV X.K g = cdv → GivesToS X Ng x (defScope st) g cdv (defBody st) a (X.env.qual ++ "<lambda>") (TTd X.K T ask) (k + 1))
    (TB : TabB X.base X.mg c P) (hcode : X.env.code = .ref c) (hmT : (P, X.env.qual ++ "<lambda>") ∈ T) (hu : ∀ p ∈ T, p.1 = P → p.2 = X.env.qual ++ "<lambda>") (hr : Room (k + 2) X.A) (L : LamS X.env.scope scope) (hdef : defaultsOf params X.env = ([], []))
    (hbind : ∀ (q : Str) (cl : List (Str × Addr)) (pm cv ctv : Value), bindArgs (PySem.W.kla_fn "<lambda>" q params body scope cl pm cv ctv) ⟨[], []⟩ = pure [])
    (hbody : ∀ (A : Around) (outer : List Env) (s : Shared) (H : Hp) (E : XK) (f c' : Addr), Room k (A.deeper (lamEnv X scope s.heap.objs.size f c')) → DE p (lamCx X A outer s H E scope f c') (fun cls d _ H => E cls d H) body tb)
    (hg : Gl X x := by rfl) (hdb : (x == ("__debug__" : Str)) = false := by decide) (hd : (a == ("__debug__" : Str)) = false := by decide) (hcd : (a == ("__classdict__" : Str)) = false := by decide) :
    DE p X W (.Call (.Name x q) [.Lambda params body scope lpos] [] pos) (xLam p.b.a ask tb) := by
  subst hT
  have kp := F.kp
  obtain ⟨oc, od, kV, doc, pm, an, cdv, ct, osl, rfl, lk, hcd'⟩ := F.ex
  refine ⟨_, pe_lamcallS (T := p.b.T) (t := fun E σ H Q => ∀ (A : Around) (outer : List Env) (s : Shared) (H0 : Hp) (f c' : Addr), Room k (A.deeper (lamEnv X scope s.heap.objs.size f c')) → ∃ t', PE (lamCx X A outer s H0 E scope f c') body t' ∧ t' σ H Q)
    hg hm kp lk hcd' hb Sg hNg hva (hG cdv (by unfold codeV; rw [lk] <;> rfl)) TB hcode hmT hu hr L hdef hbind (fun A outer s H0 E f c' hr2 => ⟨fun pins s' σ H Q I h => ?_⟩) hdb hd hcd, fun G σ H δ Q Qd Ed r q k x => ?_⟩
  · obtain ⟨t', h1, h2⟩ := h A outer s H0 f c' hr2
    exact h1.run pins s' σ H Q I h2
  · refine ⟨r.bag.2.2.1.1, fun H1 eN T1 => ?_⟩
    have x1 := ext_tabs r.sub r.bag eN T1
    refine ⟨p.b, G, fun Qd Ed => tb δ Qd Ed, Qd, rfl, x1.sub, x1.bag, fun G' H' E Q' Qd' Ed' e q' k1 k2 => ?_, q, fun G' H' v d e rv q' => k G' H' v d (x1.trans r.at e) rv q'⟩
    intro A outer s H0 f c' hr2
    obtain ⟨t', h1, h2⟩ := (hbody A outer s H0 E f c' hr2).ex
    exact ⟨t', h1, h2 G' σ H' δ Q' Qd' Ed' (r.ext (x1.trans r.at e)) q' (fun G2 H2 v d e2 rv q2 => k1 G2 H2 v d e2 rv q2) (fun G2 H2 cn fs d us e2 hd rf q2 => k2 G2 H2 cn fs d us e2 hd rf q2)⟩
/-- what the def's body is judged in: the lambda is called by the name in slot 0 -/
def xAct (f : Addr) (c : LC) : TDE := fun δ Q E => δ[0]? = some (.val (.adr f)) ∧ c Q E
/-- the def's body as data keeps what is wanted of it -/
theorem gives_of {T : TbL} {ask : AskC} {Ng : List Str} {x a q : Str} {sg : Scope} {g : Addr} {cdg : Value} {bg : List Stmt} {k : Nat} {td : Addr → Addr → LC → TDS}
    (B : ∀ (s : Shared) (H : Hp) (p : Pr) (f : Addr) (c : LC), p.b.T = T → p.H0 = H → Room k (X.A.deeper (envOfC x sg s.heap.objs.size g cdg)) →
      (∀ (W : WX) (pn : List (Addr × Obj)) (xe : Value → Shared → Prop) (p1 p2 : Pos), Takes ((cxOf C8.CX0 X.prog X.w X.K X.mg X.base Ng x sg g cdg X.A X.stack s H C8.E0).tr pn xe) W →
        DE p ((cxOf C8.CX0 X.prog X.w X.K X.mg X.base Ng x sg g cdg X.A X.stack s H C8.E0).tr pn xe) W (.Call (.Name a p1) [] [] p2) (xAct f c)) →
      DSs p (cxOf C8.CX0 X.prog X.w X.K X.mg X.base Ng x sg g cdg X.A X.stack s H C8.E0).nox (fun _ _ _ _ => False) bg (td p.b.a f c))
    (h : ∀ (β f : Addr) (c : LC) (Qd : QD), ask β c Qd → td β f c { nx := fun _ => Qd .non, rt := Qd } (startD Ng.length [.adr f])) : GivesToS X Ng x sg g cdg bg a q (TTd X.K T ask) k := by
  intro f c' s H Q tl hr act hco hTT
  obtain ⟨b, G, c, Qd, hT, s1, hb, hl, hask, k1⟩ := hTT
  have cb : c' ≠ b.a := fun e => by
    obtain ⟨_, _, _, _, _, _, _, h1, _⟩ := hb
    rw [← e, hco] at h1
    cases h1
  have act' : ∀ (W : WX) (pn : List (Addr × Obj)) (xe : Value → Shared → Prop) (p1 p2 : Pos), Takes ((cxOf C8.CX0 X.prog X.w X.K X.mg X.base Ng x sg g cdg X.A X.stack s H C8.E0).tr pn xe) W →
      DE ⟨b, H, G, X.prog, X.w⟩ ((cxOf C8.CX0 X.prog X.w X.K X.mg X.base Ng x sg g cdg X.A X.stack s H C8.E0).tr pn xe) W (.Call (.Name a p1) [] [] p2) (xAct f c) := fun W pn xe p1 p2 tk => by
    refine ⟨_, act W pn xe p1 p2 tk, fun G1 σ1 H1 δ1 Q1 Qd1 Ed1 r1 q1 k2 x2 => ?_⟩
    obtain ⟨z1, z2⟩ := q1
    obtain ⟨v, v1, v2⟩ := r1.slot 0 _ z1
    have v3 : v = V.ref f := by unfold Rep at v2; exact v2
    subst v3
    refine ⟨v1, r1.keep c' _ cb (fun ps z => by unfold CodeO at z; cases z) hco, ?_⟩
    exact hl G1 H1 _ Q1 Qd1 Ed1 r1.seen z2 (fun G2 H2 v d e2 rv q2 => k2 G2 H2 v d e2 rv q2) (fun G2 H2 cn fs d us e2 hd rf q2 => x2 G2 H2 cn fs d us e2 hd rf q2)
  obtain ⟨t, h1, h2⟩ := (B s H ⟨b, H, G, X.prog, X.w⟩ f c hT rfl hr act').ex
  refine ⟨t, h1, h2 G G (L2.start Ng [.ref f]) H (startD Ng.length [.adr f]) _ _ (Same.refl _) (start_DR s1 hb (Reps.cons (rep_sc rfl) Reps.nil)) (h b.a f c Qd hask) ⟨fun G' σ' H' δ' _ r' q' => ?_, fun G' σ' H' δ' v d _ r' rv q' => ?_, fun _ _ _ _ _ _ z => z, fun _ _ _ _ _ _ z => z, fun _ _ _ _ _ _ _ _ _ _ _ _ z => z, fun _ _ _ _ _ _ _ _ _ _ _ _ _ z => z.elim⟩⟩
  · exact k1 G' H' _ _ r'.seen (rep_sc rfl) q'
  · exact k1 G' H' v d r'.seen rv q'
end
end DL

namespace DL
open PySem PySem.Spec PyProof.Rows L2
section
variable {p : Pr} {X : Cx} {W : WX} {K : PySem.W.Frag} {b : Bag} {e1 e2 e3 e : Expr} {es : List Expr} {ta tb tc te : TDE} {ts : TDA} {pos : Pos}
theorem dt_chain {op op' : CmpOp} {r r' : R2} {rd rd' : RD2} (ho : OpR X (compareOp op) r) (ho' : OpR X (compareOp op') r') (hr : RefR X.K p.b r rd) (hr' : RefR X.K p.b r' rd') (ha : DE p X W e1 ta) (hb : DE p X W e2 tb) (hc : DE p X W e3 tc)
    (hm : lastMarks [op, op'] [e2, e3] = false := by rfl) : DT p X W (.Compare e1 [op, op'] [e2, e3] pos) (xTest (xChain rd rd' ta tb tc)) := by
  obtain ⟨t, h1, h2⟩ := ha
  obtain ⟨u, h3, h4⟩ := hb
  obtain ⟨w, h5, h6⟩ := hc
  refine ⟨_, pt_chain ho ho' h1 h3 h5 (hm := hm), refTest (fun G σ H δ Q Qd Ed r q k x => ?_)⟩
  refine h2 G σ H δ _ _ Ed r q (fun G1 H1 v d1 e1 r1 q1 => ?_) x
  have R1 := r.ext e1
  refine h4 G1 σ H1 δ _ _ Ed R1 q1 (fun G2 H2 v2 d2 e2 r2 q2 => ?_) (x.step r.at e1)
  have e12 := e1.trans r.at e2
  refine hr G2 H2 d1 d2 v v2 _ _ e12.sub e12.bag (r1.mono e2.gg) r2 q2 fun G3 H3 z d3 e3 r3 q3 => ?_
  obtain ⟨kk, rfl, q4⟩ := q3
  unfold Rep at r3
  have e13 := e12.trans r.at e3
  refine ⟨kk, r3, ?_⟩
  cases kk with
  | true =>
    rw [if_pos rfl] at q4 ⊢
    refine h6 G3 σ H3 δ _ _ Ed (r.ext e13) q4 (fun G4 H4 v4 d4 e4 r4 q5 => ?_) (x.step r.at e13)
    have e14 := e13.trans r.at e4
    exact hr' G4 H4 d2 d4 v2 v4 _ _ e14.sub e14.bag ((r2.mono e3.gg).mono e4.gg) r4 q5 fun G5 H5 w5 d5 e5 r5 q6 => k G5 H5 w5 d5 (e14.trans r.at e5) r5 q6
  | false =>
    rw [if_neg Bool.false_ne_true] at q4 ⊢
    exact k G3 H3 _ _ e13 (rep_sc rfl) q4

def dInS (neg : Bool) : RD2 := fun x y Q => match x, y with
  | .str w, .str z => ∃ c : Nat, w = ⟨#[c]⟩ ∧ Q (.bl (if neg then !decide (c ∈ z.cps.toList) else decide (c ∈ z.cps.toList)))
  | _, _ => False
theorem r_inS : RefR K b (fun x y H Q => ∃ (c : Nat) (z : Str), x = .str ⟨#[c]⟩ ∧ y = .str z ∧ Q (.bl (decide (c ∈ z.cps.toList))) H) (dInS false) := by
  intro G H x y v u Q Qd s hb rx ry h k
  unfold dInS at h
  split at h
  · rw [rep_str.mp rx, rep_str.mp ry]
    obtain ⟨c, rfl, h⟩ := h
    exact ⟨c, _, rfl, rfl, k G H _ _ (Ext.refl s hb) (rep_sc rfl) h⟩
  · exact h.elim
theorem r_notInS : RefR K b (fun x y H Q => ∃ (c : Nat) (z : Str), x = .str ⟨#[c]⟩ ∧ y = .str z ∧ Q (.bl (!decide (c ∈ z.cps.toList))) H) (dInS true) := by
  intro G H x y v u Q Qd s hb rx ry h k
  unfold dInS at h
  split at h
  · rw [rep_str.mp rx, rep_str.mp ry]
    obtain ⟨c, rfl, h⟩ := h
    exact ⟨c, _, rfl, rfl, k G H _ _ (Ext.refl s hb) (rep_sc rfl) h⟩
  · exact h.elim

def dMax (xs : List D) (Q : QD) : Prop := match xs with
  | [.int i, .int j] => Q (.int (if j > i then j else i))
  | _ => False
theorem reps2 {G : Hp} {x y : D} {vs : List V} (r : Reps K G [x, y] vs) : ∃ v u, vs = [v, u] ∧ Rep K G x v ∧ Rep K G y u := by
  obtain ⟨v, w, rfl, r1, r⟩ := Reps.cons_iff.mp r
  obtain ⟨u, w, rfl, r2, r⟩ := Reps.cons_iff.mp r
  cases Reps.nil_iff.mp r
  exact ⟨v, u, rfl, r1, r2⟩
theorem r_max : RefC K b (fun xs H Q => ∃ i j, xs = [.int i, .int j] ∧ Q (.int (if j > i then j else i)) H) dMax := by
  intro G H xs vs Q Qd s hb r h k
  unfold dMax at h
  split at h
  · obtain ⟨v, u, rfl, r1, r2⟩ := reps2 r
    rw [rep_int.mp r1, rep_int.mp r2]
    exact ⟨_, _, rfl, k G H _ _ (Ext.refl s hb) (rep_sc rfl) h⟩
  · exact h.elim
theorem reps_strs {G : Hp} : ∀ zs : List Str, Reps K G (zs.map D.str) (zs.map V.str)
  | [] => Reps.nil
  | z :: zs => by rw [List.map_cons, List.map_cons]; exact Reps.cons (rep_sc rfl) (reps_strs zs)
def dSplit (x : D) (xs : List D) (Q : QD) : Prop := match x, xs with
  | .str a, [.str c] => (c.length == 0) = false ∧ a.length + 2 ≤ sizeLine ∧ Q (.lst ((Txt.split a c).map D.str))
  | _, _ => False
theorem r_split : RefM K b "str" (fun x xs H Q => ∃ a c, x = .str a ∧ xs = [.str c] ∧ (c.length == 0) = false ∧ a.length + 2 ≤ sizeLine ∧ rNewStrs (Txt.split a c) H Q) dSplit := by
  intro G H x xs v vs Q Qd s hb rx rs h k
  unfold dSplit at h
  split at h
  · obtain ⟨w, rfl, r1⟩ := reps1 rs
    rw [rep_str.mp rx, rep_str.mp r1]
    exact ⟨_, _, rfl, rfl, h.1, h.2.1, fun q hq => k _ _ _ _ (Ext.laid s hb hq) (rep_lst s hq (reps_strs _)) h.2.2⟩
  · exact h.elim
def oInsert (ds args : List D) (k : List D → Prop) : Prop := match args with
  | [.int i, d] => ds.length < sizeLine ∧ 0 ≤ i ∧ i < 2 ^ 63 ∧ k (ds.take i.toNat ++ [d] ++ ds.drop i.toNat)
  | _ => False
theorem r_insert : RefOM K (fun x vs H Q => ∃ (l : Addr) (xs : List V) (i : Int) (y : V), x = .ref l ∧ vs = [.int i, y] ∧ H l = some (.lst xs) ∧ xs.length < sizeLine ∧ 0 ≤ i ∧ i < 2 ^ 63 ∧
    Q .non (upd H l (.lst (xs.take i.toNat ++ [y] ++ xs.drop i.toNat)))) oInsert := by
  intro G H a us ds args vs Q Qd s ha hG r ra h k
  unfold oInsert at h
  split at h
  · obtain ⟨v, u, rfl, r1, r2⟩ := reps2 ra
    rw [rep_int.mp r1]
    exact ⟨a, us, _, u, rfl, rfl, ha, by rw [← r.length]; exact h.1, h.2.1, h.2.2.1, k _ _ _ (((r.take _).append (Reps.cons r2 Reps.nil)).append (r.drop _)) h.2.2.2⟩
  · exact h.elim

/-- what an own class must say for its fields to be read -/
abbrev ObT := List (Str × List Str)
def ObF (K : PySem.W.Frag) (t : ObT) : Prop := ∀ p ∈ t, Cls K (He.ga K p.1) ∧ ∀ f ∈ p.2, NoAttr K (He.ga K p.1) f
def obHas (t : ObT) (c f : Str) : Bool := t.any fun p => p.1 == c && p.2.contains f
theorem ObF.f {t : ObT} (h : ObF K t) {c f : Str} (q : obHas t c f = true) : Cls K (He.ga K c) ∧ NoAttr K (He.ga K c) f := by
  obtain ⟨p, hp, e⟩ := List.any_eq_true.mp q
  obtain ⟨e1, e2⟩ := Bool.and_eq_true_iff.mp e
  rw [← beq_iff_eq.mp e1]
  exact ⟨(h p hp).1, (h p hp).2 f (List.contains_iff_mem.mp e2)⟩
def xFld (t : ObT) (f : Str) (te : TDE) : TDE := fun δ Q E => te δ (fun x => ∃ c fs d, x = .obj c fs ∧ obHas t c f = true ∧ fs.lookup f = some d ∧ Q d) E
theorem d_fld {t : ObT} {f : Str} (T : ObF X.K t) (he : DE p X W e te) (hb : attributeBase e f X.env (eval e X.env) = eval e X.env := by rfl) : DE p X W (.Attribute e f pos) (xFld t f te) := by
  obtain ⟨u, h1, h2⟩ := he
  refine ⟨_, pe_fld h1 hb, fun G σ H δ Q Qd Ed r q k x => ?_⟩
  refine h2 G σ H δ _ _ Ed r q (fun G1 H1 v d e1 r1 q1 => ?_) x
  obtain ⟨c, fs, dd, rfl, hf, hl, q2⟩ := q1
  obtain ⟨oc, fn⟩ := T.f hf
  unfold Rep at r1
  obtain ⟨a, dx, vs, rfl, g1, rf⟩ := r1
  obtain ⟨v, hv, rv⟩ := rf.lookup hl
  exact ⟨a, _, dx, vs, v, rfl, e1.sub _ _ g1, oc, fn, hv, k G1 H1 v dd e1 rv q2⟩
end
end DL

namespace DL
open PySem PySem.Spec PyProof.Rows L2
section
variable {p : Pr} {X : Cx} {W : WX} {K : PySem.W.Frag} {e1 e2 e3 e : Expr} {es : List Expr} {ta tb tc te tv : TDE} {ts : TDA} {pos : Pos}
/-- the list in slot i, at a state -/
theorem own_lst {G H : Hp} {σ : VSt} {δ : DSt} {i : Nat} {ds : List D} (r : DR K p G σ H δ) (h : δ[i]? = some (.own (.lst ds))) : ∃ a us, σ[i]? = some (some (.ref a)) ∧ G a = none ∧ Fr0 p.H0 a ∧ a ≠ p.b.a ∧ H a = some (.lst us) ∧ Reps K G ds us := by
  obtain ⟨a, h1, h2, h3, us, h4, h5⟩ := r.slot i _ h
  exact ⟨a, us, h1, h2, h3, r.nb h3, h4, h5⟩
/-- x[e], x's own list -/
def xIxO (i : Nat) (te : TDE) : TDE := fun δ Q E => ∃ ds, δ[i]? = some (.own (.lst ds)) ∧ te δ (fun y => ∃ j d, y = .int j ∧ atI ds j = some d ∧ Q d) E
theorem d_ixO (i : Nat) {x : Str} {pn : Pos} (hs : PlainIx e2) (hb : DE p X W e2 te) (hN : X.N[i]? = some x := by rfl) (hv : Vis X.env.scope x := by first | exact Or.inl rfl | exact Or.inr (Or.inl rfl) | exact Or.inr (Or.inr rfl)) (hd : (x == ("__debug__" : Str)) = false := by decide) (hcd : (x == ("__classdict__" : Str)) = false := by decide) :
    DE p X W (.Subscript (.Name x pn) e2 pos) (xIxO i te) := by
  obtain ⟨t, h1, h2⟩ := hb
  refine ⟨_, pe_ix ix_seq (pe_var hN hv hd hcd) h1 hs, fun G σ H δ Q Qd Ed r q k x => ?_⟩
  obtain ⟨ds, hi, q⟩ := q
  obtain ⟨a, us, a1, a2, a3, nb, a4, a5⟩ := own_lst r hi
  refine ⟨_, a1, ?_⟩
  refine h2 G σ H δ _ _ Ed r q (fun G1 H1 v y x1 r1 q1 => ?_) x
  obtain ⟨j, d, rfl, hj, q2⟩ := q1
  rw [rep_int.mp r1]
  have m := a5.mono x1.gg
  obtain ⟨w, w1, w2⟩ := atI_rep m hj
  exact .inl ⟨a, us, j, w, rfl, rfl, SqL.of (x1.keep a _ nb nt_lst a4), w1, k G1 H1 w d x1 w2 q2⟩
/-- len(x), x's own list -/
def xLenO (i : Nat) : TDE := fun δ Q _ => ∃ ds, δ[i]? = some (.own (.lst ds)) ∧ Q (.int ds.length)
theorem d_lenO (i : Nat) {x : Str} {pn q : Pos} (hg : Gl X "len") (hm : X.mg "len" = none) (hN : X.N[i]? = some x := by rfl) (hv : Vis X.env.scope x := by first | exact Or.inl rfl | exact Or.inr (Or.inl rfl) | exact Or.inr (Or.inr rfl)) (hd : (x == ("__debug__" : Str)) = false := by decide) (hcd : (x == ("__classdict__" : Str)) = false := by decide)
    (he : starEach [.Name x pn] X.env = (false, eval (.Name x pn) X.env) :: starEach [] X.env := by rfl) : DE p X W (.Call (.Name "len" q) [.Name x pn] [] pos) (xLenO i) := by
  refine ⟨_, pe_callB call_len hg hm (by decide +kernel) (pa_cons (pe_var hN hv hd hcd) pa_nil he) (by decide) (by decide) he (by rfl), fun G σ H δ Q Qd Ed r q k x => ?_⟩
  obtain ⟨ds, hi, q⟩ := q
  obtain ⟨a, us, a1, a2, a3, nb, a4, a5⟩ := own_lst r hi
  refine ⟨_, a1, .ref a, us.length, rfl, .inl ⟨us, SqL.of a4, rfl⟩, ?_⟩
  rw [← a5.length]
  exact k G H _ _ r.refl (rep_sc rfl) q
/-- x[e1] = e2, x's own list: the value first -/
def ySetIx (S : List Nat) (i : Nat) (tv te : TDE) : TDS := fun Dd δ => ∃ ds, δ[i]? = some (.own (.lst ds)) ∧ i ∉ S ∧ tv (frz S δ) (fun d => te (frz S δ) (fun y => ∃ j k, y = .int j ∧ ixN ds.length j = some k ∧
  Dd.nx ((if d.sc = true then δ else frz S δ).set i (.own (.lst (ds.set k d))))) (fun c fs => Dd.xc c fs (frz S δ))) (fun c fs => Dd.xc c fs (frz S δ))
theorem ds_setIx (S : List Nat) (i : Nat) {x : Str} {pn tpos : Pos} (hv' : DE p X W e2 tv) (he : DE p X W e1 te) (hN : X.N[i]? = some x := by rfl) (hv : Vis X.env.scope x := by first | exact Or.inl rfl | exact Or.inr (Or.inl rfl) | exact Or.inr (Or.inr rfl)) (hd : (x == ("__debug__" : Str)) = false := by decide) (hcd : (x == ("__classdict__" : Str)) = false := by decide)
    (ha : ∀ v, assign (.Subscript (.Name x pn) e1 tpos) X.env v = (do
      let ov ← holding [v] (eval (.Name x pn) X.env)
      let iv ← holding [v, ov] (eval e1 X.env)
      standAt tpos
      holding [v, ov, iv] (setItem ov iv v)
      release [v, ov, iv] []) := by intro _; rfl)
    (hs : swapsWithSole [.Subscript (.Name x pn) e1 tpos] e2 pos.line X.env = pure false := by rfl) (hw : swappedStores [.Subscript (.Name x pn) e1 tpos] e2 X.env = pure none := by rfl)
    (h1 : (assignEach [.Subscript (.Name x pn) e1 tpos] X.env).map (·.2) = [assign (.Subscript (.Name x pn) e1 tpos) X.env] := by rfl) : DS p X W (.Assign [.Subscript (.Name x pn) e1 tpos] e2 pos) (ySetIx S i tv te) := by
  obtain ⟨a, a1, a2⟩ := hv'
  obtain ⟨c, c1, c2⟩ := he
  refine ⟨_, ps_asg a1 (pg_sub (pe_var hN hv hd hcd) c1 set_list ha) hs hw h1, fun Gb G σ H δ D' Dd s r q h => ?_⟩
  obtain ⟨ds, hi, hS, q⟩ := q
  obtain ⟨G1, g1, r1⟩ := DR.freeze (S := S) r
  have hi1 : (frz S δ)[i]? = some (.own (.lst ds)) := by rw [frz_get hS]; exact hi
  obtain ⟨l, us, l1, l2, l3, nb, l4, l5⟩ := own_lst r hi
  refine a2 G1 σ H _ _ _ _ r1 q (fun G2 H2 v d e2 rv q2 => ?_) (h.x (s.trans g1) r1)
  have r2 := r1.ext e2
  refine ⟨.ref l, l1, ?_⟩
  refine c2 G2 σ H2 _ _ _ _ r2 q2 (fun G3 H3 iv y e3 rj q3 => ?_) (h.x ((s.trans g1).trans e2.gg) r2)
  obtain ⟨j, k, rfl, hj, q4⟩ := q3
  rw [rep_int.mp rj]
  have l4' : H3 l = some (.lst us) := e3.keep l _ nb nt_lst (e2.keep l _ nb nt_lst l4)
  refine ⟨l, us, j, k, rfl, rfl, l4', by rw [← l5.length]; exact hj, ?_⟩
  by_cases hsc : d.sc = true
  · rw [if_pos hsc] at q4
    have rb := r.backE g1 (e2.trans r1.at e3)
    exact h.nx G σ _ _ s (rb.change (o' := .lst (ds.set k d)) hi l1 ⟨_, upd_same, Reps.set (rep_of_sc hsc rv) k l5⟩) q4
  · rw [if_neg hsc] at q4
    have rx := r2.ext e3
    obtain ⟨l', us', m1, m2, m3, mb, m4, m5⟩ := own_lst rx hi1
    rw [l1] at m1; cases m1
    rw [l4'] at m4; cases m4
    exact h.nx G3 σ _ _ (((s.trans g1).trans e2.gg).trans e3.gg) (rx.change (o' := .lst (ds.set k d)) hi1 l1 ⟨_, upd_same, Reps.set (rv.mono e3.gg) k m5⟩) q4

end
end DL

namespace DL
open PySem PySem.Spec PyProof.Rows L2

abbrev rPl : R2 := rI0 fun i j => .int (i + j)
abbrev rMd : R2 := rI (fun _ j => 0 < j) fun i j => .int (i % j)
abbrev rMu : R2 := rI CMul fun i j => .int (i * j)
abbrev rDv : R2 := rI CDiv fun i j => .int (i / j)
abbrev rPw : R2 := rI CPow fun i j => .int (i ^ j.toNat)
abbrev rIn1 : List V → Hp → VK → Prop := fun xs H Q => (∃ i, xs = [.int i] ∧ Q (.int i) H) ∨ ∃ k, xs = [.bl k] ∧ Q (.int (if k then 1 else 0)) H
section
variable (K : PySem.W.Frag)
abbrev rLn : List V → Hp → VK → Prop := fun xs H Q => ∃ x n, xs = [x] ∧ LenV K x H n ∧ Q (.int n) H
abbrev bI (k : Int) : TE := tOp (rIx K) (tVar 0) (tC (.int k))
abbrev bS (k : Int) (te : TE) : TS := tAsg te (gSub (tVar 0) (tC (.int k)) rSetL)
abbrev tInt (te : TE) : TE := tCB rIn1 (tCons te tNil)
def t_draw : TS :=
  tSeq (bS 4 (tOp rPl (bI K 4) (tC (.int 1))))
  (tSeq (tIfS (tAnd (tTest (tOp rEq (bI K 2) (tC (.int 0)))) (tTest (tOp (rI0 fun i j => .bl (decide (i < j))) (bI K 1) (tCB (rLn K) (tCons (bI K 0) tNil)))))
    (tSeq (tAsg (tOp (rIx K) (bI K 0) (bI K 1)) (gName 2))
      (tSeq (bS 1 (tOp rPl (bI K 1) (tC (.int 1))))
        (tIfS (tTest (tOp (rI0 fun i j => .bl (decide (j ≤ i))) (tVar 2) (tOp rPw (tC (.int 10)) (tC (.int 18)))))
          (bS 2 (tVar 2))
          (bS 3 (tOp rMd (tInt (tOp rPl (tOp rPl (tOp rMu (bI K 3) (tC (.int 69621))) (tOp rMu (tOp rMd (tInt (tVar 2)) (tC (.int 2147483549))) (tC (.int 30103)))) (tC (.int 89)))) (tC (.int 2147483629)))))))
    tNext)
  (tSeq (tIfS (tTest (tOp (rI0 fun i j => .bl (decide (j < i))) (bI K 2) (tC (.int 0))))
    (tSeq (tAsg (tOp rMd (tInt (bI K 2)) (tVar 1)) (gName 3))
      (tSeq (bS 2 (tOp rDv (bI K 2) (tVar 1)))
        (tRet (tVar 3))))
    tNext)
  (tSeq (bS 3 (tOp rMd (tInt (tOp rPl (tOp rPl (tOp rPw (bI K 3) (tC (.int 3))) (tOp rMu (bI K 4) (tC (.int 1299709)))) (tC (.int 60013)))) (tC (.int 2147483629))))
    (tRet (tOp rMd (tInt (tOp rPl (tOp rDv (bI K 3) (tC (.int 97))) (tOp rMu (tOp rMd (tInt (bI K 3)) (tC (.int 7901))) (tC (.int 67))))) (tVar 1))))))
end
section
variable {K : PySem.W.Frag} {b : Bag} {G H : Hp}
def bagH (b : Bag) (H : Hp) (i g s c : Int) : Hp := upd H b.a (.lst [.ref b.L, .int i, .int g, .int s, .int c])
theorem bagH_at {i g s c : Int} : bagH b H i g s c b.a = some (.lst [.ref b.L, .int i, .int g, .int s, .int c]) := upd_same
theorem bagH_upd {i g s c i' g' s' c' : Int} : upd (bagH b H i g s c) b.a (.lst [.ref b.L, .int i', .int g', .int s', .int c']) = bagH b H i' g' s' c' := by unfold bagH; rw [upd_upd]
theorem bag_ext (s0 : Same G H) (hb : BagOk K b G H) {i g s c : Int} (hi : 0 ≤ i) (hg : 0 ≤ g) (hs : 0 ≤ s) (hs' : s < 2147483629) : Ext K b G H G (bagH b H i g s c) := by
  have ch : ∀ o, H b.a = some o → Chg o := fun o z => by
    obtain ⟨_, _, _, _, _, _, _, e, _⟩ := hb
    rw [e] at z; cases z
    exact chg_lst
  refine ⟨Same.refl _, fun a o h => ?_, fun a o n _ h => ?_, fun _ _ _ _ g => g, hb.1, hb.2.1, ⟨tabs_upd hb.2.2.1.1 ch, hb.2.2.1.2⟩, i, g, s, c, bagH_at, hi, hg, hs, hs'⟩
  · unfold bagH; rw [upd_ne (hb.ne (by rw [h]; exact fun z => nomatch z))]; exact s0 _ _ h
  · unfold bagH; rw [upd_ne n]; exact h
theorem bg {σ : VSt} {Q : VK} {k : Int} {v : V} {i g s c : Int} (h0 : σ[0]? = some (some (.ref b.a))) (hv : atI [V.ref b.L, .int i, .int g, .int s, .int c] k = some v) (q : Q v (bagH b H i g s c)) : bI K k σ (bagH b H i g s c) Q :=
  ⟨_, h0, .inl ⟨b.a, _, k, v, rfl, rfl, SqL.of bagH_at, hv, q⟩⟩
theorem bs {σ : VSt} {te : TE} {D : Ends} {k : Int} {i g s c : Int} {i' g' s' c' : Int} {v : V} (j : Nat) (h0 : σ[0]? = some (some (.ref b.a))) (he : ∀ Q : VK, Q v (bagH b H i g s c) → te σ (bagH b H i g s c) Q)
    (hk : ixN 5 k = some j) (hl : [V.ref b.L, .int i, .int g, .int s, .int c].set j v = [V.ref b.L, .int i', .int g', .int s', .int c']) (q : D.nx σ (bagH b H i' g' s' c')) : bS k te D σ (bagH b H i g s c) := by
  refine he _ ⟨_, h0, b.a, _, k, j, rfl, rfl, bagH_at, hk, ?_⟩
  rw [hl, bagH_upd]
  exact q
theorem int1 {σ : VSt} {H : Hp} {te : TE} {n : Int} {Q : VK} (he : ∀ Q : VK, Q (.int n) H → te σ H Q) (q : Q (.int n) H) : tInt te σ H Q := he _ (.inl ⟨n, rfl, q⟩)
theorem iteT {c : Bool} {P R : Prop} (h : c = true) (x : P) : if c = true then P else R := by rw [if_pos h]; exact x
theorem iteF {c : Bool} {P R : Prop} (h : c = false) (x : R) : if c = true then P else R := by rw [if_neg (by rw [h]; exact Bool.false_ne_true)]; exact x
abbrev Nd : List Str := ["bag", "size", "item", "digit"]
def cDraw : DC := fun β ds Q _ => ∃ n : Int, ds = [.adr β, .int n] ∧ 0 < n ∧ n < 1073741824 ∧ ∀ r : Int, 0 ≤ r → r < n → Q (.int r)
theorem draw_pure {T : TbL} {vs : List V} {Q : VK} {E : XK} (h : spD K T cDraw vs H Q E) : t_draw K { nx := fun _ H' => Q .non H', rt := Q } (L2.start Nd vs) H := by
  obtain ⟨b, G, ds, Qd, Ed, _, s0, hb, r, ⟨n, rfl, hn, hn2, hq⟩, k, _⟩ := h
  obtain ⟨v1, w1, rfl, e1, r⟩ := Reps.cons_iff.mp r
  obtain ⟨v2, w2, rfl, e2, r⟩ := Reps.cons_iff.mp r
  cases Reps.nil_iff.mp r
  rw [show v1 = V.ref b.a from by unfold Rep at e1; exact e1, rep_int.mp e2]
  have hb' := hb
  obtain ⟨hG, hL, hT, i, g, s, c, hH, hi, hg, hs, hs'⟩ := hb'
  have hH0 : H = bagH b H i g s c := by
    funext a
    by_cases e : a = b.a
    · subst e; rw [hH, bagH_at]
    · unfold bagH; rw [upd_ne e]
  have fin : ∀ {i g s c r : Int}, 0 ≤ i → 0 ≤ g → 0 ≤ s → s < 2147483629 → 0 ≤ r → r < n → Q (.int r) (bagH b H i g s c) := fun h1 h2 h3 h4 h5 h6 => k _ _ _ _ (bag_ext s0 hb h1 h2 h3 h4) (rep_sc rfl) (hq _ h5 h6)
  have hLs : ∀ {i g s c : Int}, bagH b H i g s c b.L = some (.lst (b.ns.map V.int)) := by
    intro i g s c
    unfold bagH
    rw [upd_ne (hb.ne (by rw [hL]; exact fun z => nomatch z))]
    exact s0 _ _ hL
  unfold t_draw
  rw [hH0]
  -- the count
  refine bs 4 rfl (v := .int (c + 1)) (fun Q q => bg rfl rfl ⟨_, _, rfl, rfl, q⟩) rfl rfl ?_
  -- the state before 'if bag[2] > 0'
  have tail : ∀ {i g s c : Int} {σ : VSt}, σ[0]? = some (some (.ref b.a)) → σ[1]? = some (some (.int n)) → σ.length = 4 → 0 ≤ i → 0 ≤ g → 0 ≤ s → s < 2147483629 →
      (tSeq (tIfS (tTest (tOp (rI0 fun i j => .bl (decide (j < i))) (bI K 2) (tC (.int 0))))
        (tSeq (tAsg (tOp rMd (tInt (bI K 2)) (tVar 1)) (gName 3)) (tSeq (bS 2 (tOp rDv (bI K 2) (tVar 1))) (tRet (tVar 3)))) tNext)
      (tSeq (bS 3 (tOp rMd (tInt (tOp rPl (tOp rPl (tOp rPw (bI K 3) (tC (.int 3))) (tOp rMu (bI K 4) (tC (.int 1299709)))) (tC (.int 60013)))) (tC (.int 2147483629))))
        (tRet (tOp rMd (tInt (tOp rPl (tOp rDv (bI K 3) (tC (.int 97))) (tOp rMu (tOp rMd (tInt (bI K 3)) (tC (.int 7901))) (tC (.int 67))))) (tVar 1))))) { nx := fun _ H' => Q .non H', rt := Q } σ (bagH b H i g s c) := by
    intro i g s c σ h0 h1 h4 hi hg hs hs'
    refine bg h0 rfl ⟨_, _, rfl, rfl, _, rfl, ?_⟩
    by_cases hp : 0 < g
    · refine iteT (decide_eq_true hp) ?_
      refine bg h0 rfl (.inl ⟨_, rfl, _, h1, _, _, rfl, rfl, hn, ?_⟩)
      have g0 : (σ.set 3 (some (V.int (g % n))))[0]? = some (some (.ref b.a)) := by rw [List.getElem?_set_ne (by decide)]; exact h0
      have g1 : (σ.set 3 (some (V.int (g % n))))[1]? = some (some (.int n)) := by rw [List.getElem?_set_ne (by decide)]; exact h1
      have g3 : (σ.set 3 (some (V.int (g % n))))[3]? = some (some (.int (g % n))) := List.getElem?_set_self (by omega)
      refine bs (k := 2) (te := tOp rDv (bI K 2) (tVar 1)) 2 g0 (v := .int (g / n)) (fun Q q => bg g0 rfl ⟨_, g1, _, _, rfl, rfl, ⟨hn, hn2⟩, q⟩) rfl rfl ?_
      exact ⟨_, g3, fin hi (Int.ediv_nonneg (by omega) (by omega)) hs hs' (Int.emod_nonneg _ (by omega)) (Int.emod_lt_of_pos _ hn)⟩
    · refine iteF (decide_eq_false hp) ?_
      have p3 : s.natAbs < 2 ^ 64 := by omega
      refine bs (k := 3) (te := tOp rMd (tInt (tOp rPl (tOp rPl (tOp rPw (bI K 3) (tC (.int 3))) (tOp rMu (bI K 4) (tC (.int 1299709)))) (tC (.int 60013)))) (tC (.int 2147483629))) 3 h0 (v := .int ((s ^ 3 + c * 1299709 + 60013) % 2147483629)) (fun Q q => ?_) rfl rfl ?_
      · refine bg h0 rfl ⟨_, _, rfl, rfl, ⟨by decide, by decide, p3⟩, ?_⟩
        refine bg h0 rfl ⟨_, _, rfl, rfl, .inr ⟨by decide, by decide⟩, ?_⟩
        exact ⟨_, _, rfl, rfl, _, _, rfl, rfl, .inl ⟨_, rfl, _, _, rfl, rfl, (by decide : (0 : Int) < 2147483629), q⟩⟩
      · have m1 : 0 ≤ (s ^ 3 + c * 1299709 + 60013) % 2147483629 := Int.emod_nonneg _ (by decide)
        have m2 : (s ^ 3 + c * 1299709 + 60013) % 2147483629 < 2147483629 := Int.emod_lt_of_pos _ (by decide)
        refine bg h0 rfl ⟨_, _, rfl, rfl, ⟨by decide, by decide⟩, ?_⟩
        refine bg h0 rfl (.inl ⟨_, rfl, _, _, rfl, rfl, (by decide : (0 : Int) < 7901), ?_⟩)
        refine ⟨_, _, rfl, rfl, .inr ⟨by decide, by decide⟩, _, _, rfl, rfl, .inl ⟨_, rfl, _, h1, _, _, rfl, rfl, hn, ?_⟩⟩
        exact fin hi hg m1 m2 (Int.emod_nonneg _ (by omega)) (Int.emod_lt_of_pos _ hn)
  refine bg rfl rfl ⟨by rfl, _, rfl, ?_⟩
  by_cases hg0 : g = 0
  · refine iteT (by rw [hg0]; exact decide_eq_true rfl) ?_
    refine bg rfl rfl (bg rfl rfl ⟨_, _, rfl, .inl ⟨b.ns.map V.int, SqL.of hLs, rfl⟩, _, _, rfl, rfl, _, rfl, ?_⟩)
    by_cases hl : i < ((b.ns.map V.int).length : Nat)
    · refine iteT (decide_eq_true hl) ?_
      obtain ⟨j, rfl⟩ := Int.eq_ofNat_of_zero_le hi
      have hj : j < b.ns.length := by simpa using hl
      have hat : atI (b.ns.map V.int) (j : Int) = some (.int b.ns[j]) := atI_nat (by rw [List.getElem?_map, List.getElem?_eq_getElem hj]; rfl)
      refine bg rfl rfl (bg rfl rfl (.inl ⟨b.L, _, _, _, rfl, rfl, SqL.of hLs, hat, ?_⟩))
      refine bs (k := 1) (te := tOp rPl (bI K 1) (tC (.int 1))) 1 rfl (v := .int ((j : Int) + 1)) (fun Q q => bg rfl rfl ⟨_, _, rfl, rfl, q⟩) rfl rfl ?_
      refine ⟨_, rfl, _, _, rfl, rfl, ⟨by decide, by decide, by decide⟩, _, _, rfl, rfl, _, rfl, ?_⟩
      by_cases hbig : (10 : Int) ^ (18 : Int).toNat ≤ b.ns[j]
      · refine iteT (decide_eq_true hbig) ?_
        refine bs (k := 2) (te := tVar 2) 2 rfl (v := .int b.ns[j]) (fun Q q => ⟨_, rfl, q⟩) rfl rfl ?_
        exact tail rfl rfl rfl (by omega) (Int.le_trans (by decide) hbig) hs hs'
      · refine iteF (decide_eq_false hbig) ?_
        refine bs (k := 3) (te := tOp rMd (tInt (tOp rPl (tOp rPl (tOp rMu (bI K 3) (tC (.int 69621))) (tOp rMu (tOp rMd (tInt (tVar 2)) (tC (.int 2147483549))) (tC (.int 30103)))) (tC (.int 89)))) (tC (.int 2147483629))) 3 rfl (v := .int ((s * 69621 + b.ns[j] % 2147483549 * 30103 + 89) % 2147483629)) (fun Q q => ?_) rfl rfl ?_
        · refine bg rfl rfl ⟨_, _, rfl, rfl, .inr ⟨by decide, by decide⟩, ?_⟩
          refine ⟨_, rfl, .inl ⟨_, rfl, _, _, rfl, rfl, (by decide : (0 : Int) < 2147483549), _, _, rfl, rfl, .inr ⟨by decide, by decide⟩, _, _, rfl, rfl, _, _, rfl, rfl, .inl ⟨_, rfl, _, _, rfl, rfl, (by decide : (0 : Int) < 2147483629), q⟩⟩⟩
        · exact tail rfl rfl rfl (by omega) hg (Int.emod_nonneg _ (by decide)) (Int.emod_lt_of_pos _ (by decide))
    · refine iteF (decide_eq_false hl) ?_
      exact tail rfl rfl rfl hi hg hs hs'
  · have e : decide (V.int g = V.int 0) = false := by
      rw [decide_eq_false_iff_not]
      intro z; injection z with z; exact hg0 z
    refine iteF e (iteF rfl ?_)
    exact tail rfl rfl rfl hi hg hs hs'
end

section
variable (K : PySem.W.Frag)
abbrev sl63 : TE := tSl (rSlL K) (tVar 0) tNoPart (tPart (tC (.int 63)))
abbrev rLs : List V → Hp → VK → Prop := fun xs H Q => ∃ p ys, xs = [.ref p] ∧ (SqL K H p ys ∨ SqT K H p ys) ∧ ∀ l, H l = none → Q (.ref l) (upd H l (.lst ys))
def t_bag : TS :=
  tSeq (tAsg (tC (.int 12049)) (gName 1))
  (tSeq (tFor (iList K (sl63 K)) (gName 2) (tAsg (tOp rMd (tInt (tOp rPl (tOp rPl (tOp rMu (tVar 1) (tC (.int 48271))) (tOp rMd (tInt (tVar 2)) (tC (.int 2147483587)))) (tC (.int 307)))) (tC (.int 2147483629))) (gName 1)))
    (tRet (tLst (tCons (tCB (rLs K) (tCons (sl63 K) tNil)) (tCons (tC (.int 0)) (tCons (tC (.int 0)) (tCons (tVar 1) (tCons (tC (.int 0)) tNil))))))))
end
abbrev Nb : List Str := ["script", "seed", "item"]
/-- the script's part that the bag holds -/
def cut63 (ns : List Int) : List Int := cutD ns none (some 63)
theorem cut63_map (ns : List Int) : cutV (ns.map V.int) none (some 63) = (cut63 ns).map V.int := by
  unfold cutV cut63 cutD
  rw [List.map_take, List.map_drop, List.length_map]
def spBag (K : PySem.W.Frag) : Sp := fun vs H Q _ => ∃ (a : Addr) (ns : List Int), vs = [.ref a] ∧ SqL K H a (ns.map V.int) ∧
  ∀ (β L : Addr) (s : Int) (H' : Hp), H β = none → H L = none → β ≠ L → H' β = some (.lst [.ref L, .int 0, .int 0, .int s, .int 0]) → H' L = some (.lst ((cut63 ns).map V.int)) → (∀ x o, H x = some o → H' x = some o) → 0 ≤ s → s < 2147483629 → Q (.ref β) H'
section
variable {K : PySem.W.Frag} {H : Hp}
theorem sql_upd {a q : Addr} {xs : List V} {o : HO} (h : SqL K H a xs) (n : H q = none) : SqL K (upd H q o) a xs := by
  rcases h with (h | ⟨u, h⟩) | h
  · exact .inl (.inl (by rw [upd_ne (ne_of_none h n)]; exact h))
  · exact .inl (.inr ⟨u, by rw [upd_ne (ne_of_none h n)]; exact h⟩)
  · exact .inr h
theorem bag_pure {vs : List V} {Q : VK} {E : XK} (h : spBag K vs H Q E) : t_bag K { nx := fun _ H' => Q .non H', rt := Q } (L2.start Nb vs) H := by
  obtain ⟨a, ns, rfl, hS, k⟩ := h
  refine ⟨_, rfl, ⟨_, rfl, a, _, rfl, hS, fun q hq => ⟨q, rfl, ⟨_, SqL.of upd_same⟩, ?_⟩⟩⟩
  rw [cut63_map]
  refine ⟨fun i m σ H' => m = (cut63 ns).length - i ∧ i ≤ (cut63 ns).length ∧ H' = upd H q (.lst ((cut63 ns).map V.int)) ∧ ∃ s : Int, 0 ≤ s ∧ s < 2147483629 ∧ σ[0]? = some (some (.ref a)) ∧ σ[1]? = some (some (.int s)) ∧ σ.length = 3,
    ⟨_, rfl, Nat.zero_le _, rfl, 12049, by decide, by decide, rfl, rfl, rfl⟩, ?_⟩
  rintro i m σ _ ⟨rfl, hi, rfl, s, hs1, hs2, h0, h1, h3⟩
  have hL : SqL K (upd H q (.lst ((cut63 ns).map V.int))) q ((cut63 ns).map V.int) := SqL.of upd_same
  by_cases hlt : i < (cut63 ns).length
  · refine .inr ⟨⟨_, V.int (cut63 ns)[i], hL, by rw [List.getElem?_map, List.getElem?_eq_getElem hlt]; rfl⟩, fun σ H' => i + 1 ≤ (cut63 ns).length ∧ H' = upd H q (.lst ((cut63 ns).map V.int)) ∧ ∃ s : Int, 0 ≤ s ∧ s < 2147483629 ∧ σ[0]? = some (some (.ref a)) ∧ σ[1]? = some (some (.int s)) ∧ σ.length = 3,
      fun σ' H' ⟨z1, z2⟩ => ⟨(cut63 ns).length - (i + 1), by omega, rfl, z1, z2⟩, fun x H' y => ?_⟩
    obtain ⟨rfl, hy⟩ := y
    have hx := hy _ hL
    rw [List.getElem?_map, List.getElem?_eq_getElem hlt] at hx
    cases hx
    have g1 : (σ.set 2 (some (V.int (cut63 ns)[i])))[1]? = some (some (.int s)) := by rw [List.getElem?_set_ne (by decide)]; exact h1
    have g2 : (σ.set 2 (some (V.int (cut63 ns)[i])))[2]? = some (some (.int (cut63 ns)[i])) := List.getElem?_set_self (by omega)
    have g0 : (σ.set 2 (some (V.int (cut63 ns)[i])))[0]? = some (some (.ref a)) := by rw [List.getElem?_set_ne (by decide)]; exact h0
    refine ⟨_, g1, _, _, rfl, rfl, .inr ⟨by decide, by decide⟩, _, g2, .inl ⟨_, rfl, _, _, rfl, rfl, (by decide : (0 : Int) < 2147483587), _, _, rfl, rfl, _, _, rfl, rfl, .inl ⟨_, rfl, _, _, rfl, rfl, (by decide : (0 : Int) < 2147483629), ?_⟩⟩⟩
    refine ⟨hlt, rfl, _, Int.emod_nonneg _ (by decide), Int.emod_lt_of_pos _ (by decide), ?_, List.getElem?_set_self (by rw [List.length_set]; omega), by rw [List.length_set, List.length_set]; exact h3⟩
    rw [List.getElem?_set_ne (by decide)]; exact g0
  · refine .inl ⟨⟨_, hL, by rw [List.length_map]; omega⟩, ?_⟩
    refine ⟨_, h0, _, rfl, a, _, rfl, sql_upd hS hq, fun q2 hq2 => ⟨q2, _, rfl, .inl (SqL.of upd_same), fun l hl => ?_⟩⟩
    rw [cut63_map]
    refine ⟨_, h1, by show 5 ≤ sizeLine; rw [sizeLine_eq]; decide, fun β hβ => ?_⟩
    have n1 : ∀ {x : Addr}, upd H q (.lst ((cut63 ns).map V.int)) x = none → H x = none := fun {x} z => by
      by_cases e : x = q
      · rw [e, upd_same] at z; cases z
      · rw [upd_ne e] at z; exact z
    have n2 : ∀ {H : Hp} {o : HO} {q x : Addr}, upd H q o x = none → H x = none ∧ x ≠ q := fun {H o q x} z => by
      by_cases e : x = q
      · rw [e, upd_same] at z; cases z
      · rw [upd_ne e] at z; exact ⟨z, e⟩
    obtain ⟨l1, l2⟩ := n2 hl
    obtain ⟨b1, b2⟩ := n2 hβ
    obtain ⟨b3, b4⟩ := n2 b1
    refine k β l s _ (n1 b3) (n1 l1) b2 upd_same (by rw [upd_ne (Ne.symm b2), upd_same]) (fun x o hx => ?_) hs1 hs2
    have x1 : x ≠ q := ne_of_none hx hq
    have hx1 : upd H q (.lst ((cut63 ns).map V.int)) x = some o := by rw [upd_ne x1]; exact hx
    rw [upd_ne (ne_of_none hx (n1 b3)), upd_ne (ne_of_none hx (n1 l1)), upd_ne (ne_of_none hx1 hq2)]
    exact hx1
end
end DL

namespace DL
open PySem PySem.Spec PyProof.Rows L2
section
variable {K : PySem.W.Frag} {b : Bag} {G H G' H' : Hp}
/-- a thing outside of what stays is changed on both sides -/
theorem Ext.updP (x : Ext K b G H G' H') {P : Addr} {u w : HO} (g : G' P = none) (n : P ≠ b.a) (h : H' P = some w) (c : Chg w) : Ext K b G (upd H P u) G' (upd H' P u) := by
  refine ⟨x.gg, fun a o e => ?_, fun a o na t e => ?_, fun a o e t z => ?_, x.bag.upd n fun o e => by rw [h] at e; cases e; exact c⟩
  · rw [upd_ne (ne_of_none e g)]; exact x.sub a o e
  · by_cases q : a = P
    · rw [q, upd_same] at e ⊢; exact e
    · rw [upd_ne q] at e ⊢; exact x.keep a o na t e
  · by_cases q : a = P
    · rw [q] at z; exact absurd g z
    · rw [upd_ne q] at e; exact x.new a o e t z
/-- a thing that was not there before is changed -/
theorem Ext.updA (x : Ext K b G H G' H') {A : Addr} {u : HO} (g : G' A = none) (n : A ≠ b.a) (f : H A = none) (c : ∀ o, H' A = some o → Chg o) : Ext K b G H G' (upd H' A u) := by
  refine ⟨x.gg, fun a o e => ?_, fun a o na t e => ?_, x.new, x.bag.upd n c⟩
  · rw [upd_ne (ne_of_none e g)]; exact x.sub a o e
  · rw [upd_ne (ne_of_none e f)]; exact x.keep a o na t e
end
theorem erase_map : ∀ (l : List Str) (j : Nat), (l.map V.str).eraseIdx j = (l.eraseIdx j).map V.str
  | [], _ => rfl
  | _ :: _, 0 => rfl
  | x :: l, j + 1 => by
    show V.str x :: (l.map V.str).eraseIdx j = V.str x :: (l.eraseIdx j).map V.str
    rw [erase_map l j]
theorem eraseIdx_perm {α : Type} : ∀ (l : List α) (i : Nat) (x : α), l[i]? = some x → (x :: l.eraseIdx i).Perm l
  | [], i, x, h => by simp at h
  | y :: l, 0, x, h => by cases h; exact .refl _
  | y :: l, i + 1, x, h => by
    have ih := eraseIdx_perm l i x h
    show (x :: y :: l.eraseIdx i).Perm (y :: l)
    exact (List.Perm.swap y x _).trans (ih.cons y)
section
variable {p : Pr} {X : Cx} {W : WX} {tsz : TDA}
/-- the reading: i the pool's slot, ix the name's, any part of the pool in any order -/
def yPopJoin (i ix : Nat) (ti : TDI) : TDS := fun Dd δ => ∃ zs : List Str, δ[i]? = some (.own (.lst (zs.map D.str))) ∧ zs.length < 1073741824 ∧
  ti δ (fun items => items.length ≤ zs.length ∧ items.length < sizeLine ∧ ∀ got rest : List Str, (got ++ rest).Perm zs → got.length = items.length → (got.map (·.length)).sum ≤ 16777216 ∧ Dd.nx ((δ.set i (.own (.lst (rest.map D.str)))).set ix (.val (.str (Txt.join "" got))))) (fun c fs => Dd.xc c fs δ)
/-- the element's reading -/
abbrev tPop (K : PySem.W.Frag) (T : TbL) (i jb : Nat) : TE := tBM K "list" rPopAt (tVar i) (tCons (tCallS (spD K T cDraw) (fun σ => WE W0 σ) (tCons (tVar jb) (tCons (tCB (rLn K) (tCons (tVar i) tNil)) tNil))) tNil)
abbrev rJn (K : PySem.W.Frag) : V → List V → Hp → VK → Prop := fun x xs H Q => ∃ a p, ∃ ys : List Str, x = .str a ∧ xs = [.ref p] ∧ (SqL K H p (ys.map V.str) ∨ SqT K H p (ys.map V.str)) ∧ (ys.map (·.length)).sum + ys.length * a.length ≤ 16777216 ∧ Q (.str (Txt.join a ys)) H
theorem strs_us {K : PySem.W.Frag} {G : Hp} : ∀ {zs : List Str} {us : List V}, Reps K G (zs.map D.str) us → us = zs.map V.str
  | [], us, r => by rw [Reps.nil_iff.mp r]; rfl
  | z :: zs, us, r => by
    rw [List.map_cons] at r
    obtain ⟨v, w, rfl, r1, r2⟩ := Reps.cons_iff.mp r
    rw [rep_str.mp r1, strs_us r2]; rfl
theorem ref_pop {T : TbL} {i jb ix ik : Nat} {wi : TI} {ti : TDI} {K : PySem.W.Frag} (hT : p.b.T = T) (hik : i ≠ ik) (hjk : jb ≠ ik) (hi : RefI K p W wi ti) {Gb G H : Hp} {σ : VSt} {δ : DSt} {D' : Ends} {Dd : DEnds} (s : Same Gb G) (r : DR K p G σ H δ)
    (hb : δ[jb]? = some (.val (.adr p.b.a))) (q : yPopJoin i ix ti Dd δ) (h : EndsOk K p Gb W D' Dd) :
    tBM K "str" (rJn K) (tC (.str "")) (tCons (tLc wi (gName ik) (fun _ H Q => Q true H) (tPop K T i jb) [ik]) tNil) σ H (fun v H1 => D'.nx (σ.set ix (some v)) H1) := by
  obtain ⟨zs, hz, hzl, q⟩ := q
  obtain ⟨P, us, a1, a2, a3, nb, a4, a5⟩ := own_lst r hz
  have eu := strs_us a5
  subst eu
  obtain ⟨vb, vb1, vb2⟩ := r.slot jb _ hb
  have vb3 : vb = V.ref p.b.a := by unfold Rep at vb2; exact vb2
  subst vb3
  refine ⟨rfl, ?_⟩
  refine hi G σ H δ _ _ _ r q (fun G1 H1 J items e1 it q1 => ?_) (h.x s r)
  intro A hA
  obtain ⟨hn, hsz, q1⟩ := q1
  have r1 := r.ext e1
  have hP1 : H1 P = some (.lst (zs.map V.str)) := e1.keep P _ nb nt_lst a4
  obtain ⟨P', us', b1, gP1, _⟩ := own_lst r1 hz
  rw [a1] at b1; cases b1
  have nbA : A ≠ p.b.a := fun z => r1.at (by rw [← z]; exact hA)
  have gA : G1 A = none := r1.sub.free hA
  have PA : P ≠ A := ne_of_none hP1 hA
  have H1eq : upd H1 P (.lst (zs.map V.str)) = H1 := by
    funext c
    by_cases z : c = P
    · rw [z, upd_same, hP1]
    · rw [upd_ne z]
  have hb' : ∀ u, upd H1 P u p.b.a ≠ none := fun u => by rw [upd_ne (Ne.symm nb)]; exact r1.at
  refine ⟨fun i' m H2 => m = items.length - i' ∧ i' ≤ items.length ∧ ∃ (G2 : Hp) (got rest : List Str), Ext K p.b G1 (upd H1 P (.lst (rest.map V.str))) G2 H2 ∧ G2 A = none ∧ G2 P = none ∧ H2 A = some (.lst (got.map V.str)) ∧ H2 P = some (.lst (rest.map V.str)) ∧ (got ++ rest).Perm zs ∧ got.length = i',
    ⟨_, rfl, Nat.zero_le _, G1, [], zs, ?_, gA, gP1, upd_same, by rw [upd_ne PA]; exact hP1, .refl _, rfl⟩, ?_⟩
  · rw [H1eq]
    exact (Ext.refl r1.sub r1.bag).updA gA nbA hA (fun o e => by rw [hA] at e; cases e)
  rintro i' m H2 ⟨rfl, hi', G2, got, rest, x2, gA2, gP2, hA2, hP2, pm, gl⟩
  have ln : got.length + rest.length = zs.length := by rw [← List.length_append]; exact pm.length_eq
  by_cases hlt : i' < items.length
  · refine .inr ⟨it.go G2 H2 i' x2.gg x2.sub hlt, fun H3 => i' + 1 ≤ items.length ∧ ∃ (G2 : Hp) (got rest : List Str), Ext K p.b G1 (upd H1 P (.lst (rest.map V.str))) G2 H3 ∧ G2 A = none ∧ G2 P = none ∧ H3 A = some (.lst (got.map V.str)) ∧ H3 P = some (.lst (rest.map V.str)) ∧ (got ++ rest).Perm zs ∧ got.length = i' + 1,
      fun H' z => ⟨items.length - (i' + 1), by omega, rfl, z.1, z.2⟩, fun y H' hy => ?_⟩
    obtain ⟨G3, d, h3, e3, r3⟩ := it.yld G2 H2 i' y H' x2.gg x2.sub x2.bag hlt hy
    refine ⟨wipe_outs (vs := [ik]) (ix := [ik]) ⟨List.length_set, fun j hj => List.getElem?_set_ne (fun e => hj (by rw [e]; exact List.mem_cons_self))⟩ (fun j h => h), ?_⟩
    have sl : ∀ {j : Nat} {v : V}, j ≠ ik → σ[j]? = some (some v) → ((L2.wipe σ [ik]).set ik (some y))[j]? = some (some v) := fun {j v} nj e => by
      rw [List.getElem?_set_ne (Ne.symm nj), wipe_get, if_neg (by simpa using nj)]; exact e
    have si := sl hik a1
    have sj := sl hjk vb1
    have hP' : H' P = some (.lst (rest.map V.str)) := e3.keep P _ nb nt_lst hP2
    show tPop K T i jb _ H' _
    refine ⟨_, si, .inl ⟨rfl, _, SqL.of hP'⟩, ?_⟩
    refine ⟨_, sj, _, si, .ref P, rest.length, rfl, .inl ⟨_, SqL.of hP', by rw [List.length_map]⟩, ?_⟩
    refine ⟨p.b, G3, [.adr p.b.a, .int rest.length], (fun d => ∃ r : Int, d = .int r ∧ 0 ≤ r ∧ r < rest.length), (fun _ _ => False), hT, e3.sub, e3.bag, Reps.cons (rep_sc rfl) (Reps.cons (rep_sc rfl) Reps.nil), ⟨_, rfl, by omega, by omega, fun r h0 h1 => ⟨r, rfl, h0, h1⟩⟩, fun G4 H4 v d e4 rv hd => ?_, fun _ _ _ _ _ _ _ _ _ z => z.elim⟩
    obtain ⟨rr, rfl, h0, h1⟩ := hd
    rw [rep_int.mp rv]
    obtain ⟨k, rfl⟩ := Int.eq_ofNat_of_zero_le h0
    have hk : k < rest.length := by omega
    obtain ⟨j, s1, s2, s3, s4, s5⟩ := atI_get (atI_nat (xs := rest.map V.str) (j := k) (v := .str rest[k]) (by rw [List.getElem?_map, List.getElem?_eq_getElem hk]; rfl))
    have s6 : rest[j]? = some rest[k] := by
      rw [List.getElem?_map] at s2
      obtain ⟨z, z1, z2⟩ := Option.map_eq_some_iff.mp s2
      injection z2 with z2
      rw [z1, z2]
    have x23 : Ext K p.b G2 H2 G4 H4 := e3.trans x2.bag.at e4
    have x24 := x2.trans (hb' _) x23
    have hP4 : H4 P = some (.lst (rest.map V.str)) := e4.keep P _ nb nt_lst hP'
    have hA4 : H4 A = some (.lst (got.map V.str)) := x23.keep A _ nbA nt_lst hA2
    have gP4 : G4 P = none := by
      cases z : G4 P with
      | none => rfl
      | some o => exact absurd gP2 (x23.new P _ hP2 nt_lst (by rw [z]; exact fun v => nomatch v))
    have gA4 : G4 A = none := by
      cases z : G4 A with
      | none => rfl
      | some o => exact absurd gA2 (x23.new A _ hA2 nt_lst (by rw [z]; exact fun v => nomatch v))
    have l63 := line63
    rw [List.length_map] at s4 s5
    refine ⟨P, rest.map V.str, (k : Int), j, .str rest[k], rfl, rfl, hP4, by omega, ?_, by rw [List.length_map] at s1 ⊢; exact s1, s2, ?_⟩
    · have : rest.length ≤ zs.length := by omega
      have : (rest.length : Int) < 2 ^ 63 := by omega
      omega
    have x5 := x24.updP (u := .lst ((rest.eraseIdx j).map V.str)) gP4 nb hP4 chg_lst
    rw [upd_upd] at x5
    have hA5 : upd H4 P (.lst ((rest.map V.str).eraseIdx j)) A = some (.lst (got.map V.str)) := by rw [upd_ne (Ne.symm PA)]; exact hA4
    have em : (rest.map V.str).eraseIdx j = (rest.eraseIdx j).map V.str := erase_map rest j
    refine ⟨got.map V.str, hA5, by rw [List.length_map]; omega, hlt, G4, got ++ [rest[k]], rest.eraseIdx j, ?_, gA4, gP4, ?_, ?_, ?_, ?_⟩
    · rw [em]
      exact x5.updA gA4 nbA (by rw [upd_ne (Ne.symm PA)]; exact hA) (fun o e => by
        rw [upd_ne (Ne.symm PA), hA4] at e; cases e
        exact chg_lst)
    · rw [upd_same, List.map_append]; rfl
    · rw [upd_ne PA, upd_same, em]
    · rw [List.append_assoc]
      exact (List.Perm.append_left got (eraseIdx_perm rest j _ s6)).trans pm
    · rw [List.length_append, gl]; rfl
  · have e : i' = items.length := by omega
    subst e
    obtain ⟨q2, q3⟩ := q1 got rest pm gl
    refine .inl ⟨it.stop G2 H2 x2.gg x2.sub, "", A, got, rfl, rfl, .inl (SqL.of hA2), ?_, ?_⟩
    · show _ + got.length * 0 ≤ _
      omega
    · have rc := r1.change (o' := .lst (rest.map D.str)) (u := .lst (rest.map V.str)) hz a1 ⟨_, upd_same, reps_strs rest⟩
      exact h.nx G2 _ H2 _ ((s.trans e1.gg).trans x2.gg) ((rc.ext x2).set (s := .val (.str (Txt.join "" got))) ⟨_, rfl, rep_sc rfl⟩) q3
/-- x = ''.join([pool.pop(_law_draw(bag, len(pool))) for k in ..]): hps by the rules of the parts -/
theorem ds_popJoin (i ix jb ik : Nat) {T : TbL} {ti : TDI} {st : Stmt} {tg iter : Expr} (hT : p.b.T = T) (hik : i ≠ ik) (hjk : jb ≠ ik) (hdi : DI p X W tg iter ti)
    (hps : ∀ wi : TI, PI X tg iter wi → PS X st (tAsg (tBM X.K "str" (rJn X.K) (tC (.str "")) (tCons (tLc wi (gName ik) (fun _ H Q => Q true H) (tPop X.K T i jb) [ik]) tNil)) (gName ix))) :
    DS p X W st (fun Dd δ => δ[jb]? = some (.val (.adr p.b.a)) ∧ yPopJoin i ix ti Dd δ) := by
  obtain ⟨wi, w1, w2⟩ := hdi
  exact ⟨_, hps wi w1, fun Gb G σ H δ D' Dd s r q h => ref_pop hT hik hjk w2 s r q.1 q.2 h⟩
end
end DL

namespace DL
open PySem PySem.Spec PyProof.Rows L2 EX
section
variable {X : Cx} {o e : Expr} {es : List Expr} {ta : TE} {t : TA} {C f : Addr} {m : Str} {fd : FuncData} {ps : List Str} {k : Nat} {sp : Sp} {E : VSt → XK} {CX : CXT} {pos apos : Pos}
def tMethS (C : Addr) (m : Str) (sp : Sp) (E : VSt → XK) (ta : TE) (t : TA) : TE := fun σ H Q => ta σ H fun x H1 => ∃ a dx fs, x = .ref a ∧ H1 a = some (.ins C dx fs) ∧ fs.lookup m = none ∧ t σ H1 fun vs H2 => sp (x :: vs) H2 Q (E σ)
theorem pe_methS' {pl : Sem Bool} (he : PE X o ta) (c : Cls X.K C) (hm : Meth X.K C m f) (F : FnOk X.prog X.w X.K X.mg X.base CX k f fd ps sp) (hr : Room k X.A) (hb : Binds X.K fd ps []) (hx : ∀ σ, PassesAt CX X σ (E σ)) (ha : PA X (e :: es) t)
    (hst : starEach (e :: es) X.env = (false, eval e X.env) :: starEach es X.env := by rfl) (hpl : (backTo pos (starEach es X.env)).any (·.1) = false := by rfl)
    (ht : eval (.Call (.Attribute o m apos) (e :: es) [] pos) X.env = (do
      let ov ← eval o X.env
      standAt apos.atName
      let (f, first) ← holding [ov] (getMethod ov m pl)
      callWith pos f first (backTo pos (starEach (e :: es) X.env)) (backToKw pos (keywordEach [] X.env))) := by rfl) :
    PE X (.Call (.Attribute o m apos) (e :: es) [] pos) (tMethS C m sp E ta t) := by
  refine ⟨fun pins s σ H Q I h => ?_⟩
  refine PySem.W.methodCall_KW (pl := pl) (thn (he.run pins s σ H _ I h) fun u s1 ⟨x, H1, I1, rx, a, dx, fs, ex, ea, l, q⟩ => ?_) ht
  subst ex
  obtain rfl : u = Value.ref a := rx
  refine getmeth_ok I1 ea c hm l ?_
  refine PySem.W.callWith_K (first := [.ref a]) (h₀ := X.base) I.ok.mod.kin hm.kp (thn (ha.run pos pins s1 σ H1 _ I1 q) fun us s2 ⟨vs, H2, I2, r, q2⟩ => ⟨I2.kIn, ?_⟩) hst hpl
  exact run_fnS (us := .ref a :: us) (vs := .ref a :: vs) F hr hb (hx σ) I2 (.cons rfl r) q2
theorem pe_methS0' {pl : Sem Bool} (he : PE X o ta) (c : Cls X.K C) (hm : Meth X.K C m f) (F : FnOk X.prog X.w X.K X.mg X.base CX k f fd ps sp) (hr : Room k X.A) (hb : Binds X.K fd ps []) (hx : ∀ σ, PassesAt CX X σ (E σ))
    (ht : eval (.Call (.Attribute o m apos) [] [] pos) X.env = (do
      let ov ← eval o X.env
      standAt apos.atName
      let (f, first) ← holding [ov] (getMethod ov m pl)
      callWith pos f first (backTo pos (starEach [] X.env)) (backToKw pos (keywordEach [] X.env))) := by rfl) :
    PE X (.Call (.Attribute o m apos) [] [] pos) (tMethS C m sp E ta tNil) := by
  refine ⟨fun pins s σ H Q I h => ?_⟩
  refine PySem.W.methodCall_KW (pl := pl) (thn (he.run pins s σ H _ I h) fun u s1 ⟨x, H1, I1, rx, a, dx, fs, ex, ea, l, q⟩ => ?_) ht
  subst ex
  obtain rfl : u = Value.ref a := rx
  refine getmeth_ok I1 ea c hm l ?_
  exact PySem.W.callWith_K0 (first := [.ref a]) I1.kIn hm.kp (run_fnS (us := [.ref a]) (vs := [.ref a]) F hr hb (hx σ) I1 (.cons rfl .nil) q)
end
/-- a method of an own class, with its contract (the receiver is its first argument) -/
structure OkM (P : Program) (w : World) (K : PySem.W.Frag) (mg : Str → Option Value) (base : Heap) (T : TbL) (k : Nat) (cn m : Str) (ps : List Str) (c : DC) : Prop where
  ex : ∃ (f : Addr) (fd : FuncData), Cls K (He.ga K cn) ∧ Meth K (He.ga K cn) m f ∧ Binds K fd ps [] ∧ FnOk P w K mg base (L2.CX P w) k f fd ps (spD K T c)
theorem OkM.mono {P : Program} {w : World} {K : PySem.W.Frag} {mg : Str → Option Value} {base : Heap} {T : TbL} {j k : Nat} {cn m : Str} {ps : List Str} {c : DC} (O : OkM P w K mg base T j cn m ps c) (h : j ≤ k) : OkM P w K mg base T k cn m ps c := by
  obtain ⟨f, fd, h1, h2, h3, h4⟩ := O
  exact ⟨f, fd, h1, h2, h3, h4.mono h⟩
section
variable {p : Pr} {X : Cx} {W : WX} {K : PySem.W.Frag} {o e : Expr} {es : List Expr} {to : TDE} {ts : TDA} {pos apos : Pos} {T : TbL} {k : Nat} {cn m : Str} {ps : List Str} {c : DC}
/-- o.m(..) by the contract: the object's attributes are of other names -/
def xMth (β : Addr) (cn m : Str) (c : DC) (to : TDE) (ts : TDA) : TDE := fun δ Q E => to δ (fun x => ∃ fs, x = .obj cn fs ∧ fs.lookup m = none ∧ ts δ (fun ds => c β (x :: ds) Q E) E) E
theorem ref_mth {t : TE} {u : TA} {sp : Sp} (hsp : sp = spD K T c) (hT : p.b.T = T) (h2 : RefE K p W t to) (h4 : RefA K p W u ts) : RefE K p W (tMethS (He.ga K cn) m sp (fun σ => WE W σ) t u) (xMth p.b.a cn m c to ts) := by
  subst hsp
  intro G σ H δ Q Qd Ed r q k x
  refine h2 G σ H δ _ _ Ed r q (fun G1 H1 v d e1 r1 q1 => ?_) x
  obtain ⟨fs, rfl, hl, q2⟩ := q1
  have r1' := r1
  unfold Rep at r1
  obtain ⟨a, dx, vs, rfl, g1, rf⟩ := r1
  refine ⟨a, dx, vs, rfl, e1.sub _ _ g1, rf.lookup_none hl, ?_⟩
  refine h4 G1 σ H1 δ _ _ Ed (r.ext e1) q2 (fun G2 H2 us ds e2 r2 q3 => ?_) (x.step r.at e1)
  have e12 := e1.trans r.at e2
  exact ⟨p.b, G2, .obj cn fs :: ds, Qd, Ed, hT, e12.sub, e12.bag, Reps.cons (r1'.mono e2.gg) r2, q3, fun G3 H3 v d e3 rv q4 => k G3 H3 v d (e12.trans r.at e3) rv q4, fun G3 H3 cn fs d us e3 hd rf q4 => x G3 H3 cn fs d us (e12.trans r.at e3) hd rf q4⟩
theorem d_mth {pl : Sem Bool} (O : OkM X.prog X.w X.K X.mg X.base T k cn m ps c) (hT : p.b.T = T) (hr : Room k X.A) (tk : Takes X W) (ho : DE p X W o to) (ha : DA p X W (e :: es) ts)
    (hst : starEach (e :: es) X.env = (false, eval e X.env) :: starEach es X.env := by rfl) (hpl : (backTo pos (starEach es X.env)).any (·.1) = false := by rfl)
    (ht : eval (.Call (.Attribute o m apos) (e :: es) [] pos) X.env = (do
      let ov ← eval o X.env
      standAt apos.atName
      let (f, first) ← holding [ov] (getMethod ov m pl)
      callWith pos f first (backTo pos (starEach (e :: es) X.env)) (backToKw pos (keywordEach [] X.env))) := by rfl) :
    DE p X W (.Call (.Attribute o m apos) (e :: es) [] pos) (xMth p.b.a cn m c to ts) := by
  obtain ⟨f, fd, c1, c2, c3, c4⟩ := O
  obtain ⟨t, h1, h2⟩ := ho
  obtain ⟨u, h3, h4⟩ := ha
  exact ⟨_, pe_methS' h1 c1 c2 c4 hr c3 (fun σ => passAt tk σ) h3 hst hpl ht, ref_mth rfl hT h2 h4⟩
theorem d_mth0 {pl : Sem Bool} (O : OkM X.prog X.w X.K X.mg X.base T k cn m ps c) (hT : p.b.T = T) (hr : Room k X.A) (tk : Takes X W) (ho : DE p X W o to)
    (ht : eval (.Call (.Attribute o m apos) [] [] pos) X.env = (do
      let ov ← eval o X.env
      standAt apos.atName
      let (f, first) ← holding [ov] (getMethod ov m pl)
      callWith pos f first (backTo pos (starEach [] X.env)) (backToKw pos (keywordEach [] X.env))) := by rfl) :
    DE p X W (.Call (.Attribute o m apos) [] [] pos) (xMth p.b.a cn m c to xNil) := by
  obtain ⟨f, fd, c1, c2, c3, c4⟩ := O
  obtain ⟨t, h1, h2⟩ := ho
  exact ⟨_, pe_methS0' h1 c1 c2 c4 hr c3 (fun σ => passAt tk σ) ht, ref_mth rfl hT h2 refNil⟩
end
end DL

namespace DL
open PySem PySem.Spec PyProof.Rows L2
def keyD : D → Option Key
  | .int i => some (.inl i)
  | .str s => some (.inr s)
  | _ => none
def valD (kvs : List (Key × D)) (k : Key) : Option D := (kvs.find? fun kv => decide (kv.1 = k)).map (·.2)
def putD (kvs : List (Key × D)) (k : Key) (v : D) : List (Key × D) :=
  if (kvs.any fun kv => decide (kv.1 = k)) = true then kvs.map (fun kv => if kv.1 = k then (kv.1, v) else kv) else kvs ++ [(k, v)]
section
variable {K : PySem.W.Frag} {G H : Hp}
theorem key_rep {d : D} {v : V} {k : Key} (h : keyD d = some k) (r : Rep K G d v) : v = kV k := by
  cases d with
  | int i => cases h; rw [rep_int.mp r]; rfl
  | str s => cases h; rw [rep_str.mp r]; rfl
  | _ => cases h
theorem valD_rep : ∀ {kvs : List (Key × D)} {vs : List (Key × V)} {k : Key}, RepsK K G kvs vs → (valD kvs k = none ∧ valV vs k = none) ∨ ∃ d v, valD kvs k = some d ∧ valV vs k = some v ∧ Rep K G d v
  | [], vs, k, r => by rw [RepsK.nil_iff.mp r]; exact .inl ⟨rfl, rfl⟩
  | p :: kvs, vs, k, r => by
    obtain ⟨v, w, rfl, r1, r2⟩ := RepsK.cons_iff.mp r
    unfold valD valV
    by_cases e : p.1 = k
    · rw [List.find?_cons_of_pos (by simpa using e), List.find?_cons_of_pos (by simpa using e)]
      exact .inr ⟨p.2, v, rfl, rfl, r1⟩
    · rw [List.find?_cons_of_neg (by simpa using e), List.find?_cons_of_neg (by simpa using e)]
      have z := valD_rep (k := k) r2
      unfold valD valV at z
      exact z
variable {p : Pr} {X : Cx} {W : WX} {o i e1 e2 : Expr} {ta tb : TDE} {pos : Pos}
/-- d[k] -/
def xDGet (ta tb : TDE) : TDE := fun δ Q E => ta δ (fun x => tb δ (fun y => ∃ kvs k d, x = .dic kvs ∧ keyD y = some k ∧ valD kvs k = some d ∧ Q d) E) E
theorem d_dget (hu : X.A.units + 64 < cLine) (hs : NoSl i) (ho : DE p X W o ta) (hi : DE p X W i tb) : DE p X W (.Subscript o i pos) (xDGet ta tb) := by
  obtain ⟨t, h1, h2⟩ := ho
  obtain ⟨u, h3, h4⟩ := hi
  refine ⟨_, pe_dget (by omega) h1 h3 hs, fun G σ H δ Q Qd Ed r q k x => ?_⟩
  refine h2 G σ H δ _ _ Ed r q (fun G1 H1 v d1 e1 r1 q1 => ?_) x
  refine h4 G1 σ H1 δ _ _ Ed (r.ext e1) q1 (fun G2 H2 w d2 e2 r2 q2 => ?_) (x.step r.at e1)
  obtain ⟨kvs, kk, d, rfl, hk, hv, q3⟩ := q2
  have e12 := e1.trans r.at e2
  obtain ⟨a, vs, rfl, g1, rk⟩ := rep_dicI.mp (r1.mono e2.gg)
  rw [key_rep hk r2]
  rcases valD_rep (k := kk) rk with ⟨z, _⟩ | ⟨d', v, z1, z2, z3⟩
  · rw [hv] at z; cases z
  · rw [hv] at z1; cases z1
    exact ⟨a, v, rfl, by rw [← z2]; exact DGet.k (e2.sub _ _ g1), k G2 H2 v d e12 z3 q3⟩
/-- k in d, k not in d -/
def xDIn (neg : Bool) (ta tb : TDE) : TDE := fun δ Q E => ta δ (fun y => tb δ (fun x => ∃ kvs k, x = .dic kvs ∧ keyD y = some k ∧ Q (.bl (if neg then !(valD kvs k).isSome else (valD kvs k).isSome))) E) E
theorem valD_some {kvs : List (Key × D)} {vs : List (Key × V)} {k : Key} (r : RepsK K G kvs vs) : (valV vs k).isSome = (valD kvs k).isSome := by
  rcases valD_rep (k := k) r with ⟨z1, z2⟩ | ⟨d, v, z1, z2, _⟩
  · rw [z1, z2]; rfl
  · rw [z1, z2]; rfl
theorem ref_din {t u : TE} (h2 : RefE K p W t ta) (h4 : RefE K p W u tb) : RefE K p W (tDIn t u) (xDIn false ta tb) := by
  intro G σ H δ Q Qd Ed r q k x
  refine h2 G σ H δ _ _ Ed r q (fun G1 H1 v d1 e1 r1 q1 => ?_) x
  refine h4 G1 σ H1 δ _ _ Ed (r.ext e1) q1 (fun G2 H2 w d2 e2 r2 q2 => ?_) (x.step r.at e1)
  obtain ⟨kvs, kk, rfl, hk, q3⟩ := q2
  obtain ⟨a, vs, rfl, g1, rk⟩ := rep_dicI.mp r2
  rw [key_rep hk r1]
  refine ⟨a, valV vs kk, rfl, DGet.k (e2.sub _ _ g1), ?_⟩
  rw [valD_some rk]
  exact k G2 H2 _ _ (e1.trans r.at e2) (rep_sc rfl) q3
theorem ref_dnin {t u : TE} (h2 : RefE K p W t ta) (h4 : RefE K p W u tb) : RefE K p W (tDNotIn t u) (xDIn true ta tb) := by
  intro G σ H δ Q Qd Ed r q k x
  refine h2 G σ H δ _ _ Ed r q (fun G1 H1 v d1 e1 r1 q1 => ?_) x
  refine h4 G1 σ H1 δ _ _ Ed (r.ext e1) q1 (fun G2 H2 w d2 e2 r2 q2 => ?_) (x.step r.at e1)
  obtain ⟨kvs, kk, rfl, hk, q3⟩ := q2
  obtain ⟨a, vs, rfl, g1, rk⟩ := rep_dicI.mp r2
  rw [key_rep hk r1]
  refine ⟨a, valV vs kk, rfl, DGet.k (e2.sub _ _ g1), ?_⟩
  rw [valD_some rk]
  exact k G2 H2 _ _ (e1.trans r.at e2) (rep_sc rfl) q3
theorem d_din (hu : X.A.units + 64 < cLine) (ha : DE p X W e1 ta) (hb : DE p X W e2 tb) (hm : behindInMarks .In e2 = false := by rfl) : DE p X W (.Compare e1 [.In] [e2] pos) (xDIn false ta tb) := by
  obtain ⟨t, h1, h2⟩ := ha
  obtain ⟨u, h3, h4⟩ := hb
  exact ⟨_, pe_cmp (pc_din (by omega) h1 h3) hm, ref_din h2 h4⟩
theorem d_dnotin (hu : X.A.units + 64 < cLine) (ha : DE p X W e1 ta) (hb : DE p X W e2 tb) (hm : behindInMarks .NotIn e2 = false := by rfl) : DE p X W (.Compare e1 [.NotIn] [e2] pos) (xDIn true ta tb) := by
  obtain ⟨t, h1, h2⟩ := ha
  obtain ⟨u, h3, h4⟩ := hb
  exact ⟨_, pe_cmp (pc_dnotin (by omega) h1 h3) hm, ref_dnin h2 h4⟩
theorem dt_din (hu : X.A.units + 64 < cLine) (ha : DE p X W e1 ta) (hb : DE p X W e2 tb) (hm : behindInMarks .In e2 = false := by rfl) : DT p X W (.Compare e1 [.In] [e2] pos) (xTest (xDIn false ta tb)) := by
  obtain ⟨t, h1, h2⟩ := ha
  obtain ⟨u, h3, h4⟩ := hb
  exact ⟨_, pt_cmp (pc_din (by omega) h1 h3) hm, refTest (ref_din h2 h4)⟩
theorem dt_dnotin (hu : X.A.units + 64 < cLine) (ha : DE p X W e1 ta) (hb : DE p X W e2 tb) (hm : behindInMarks .NotIn e2 = false := by rfl) : DT p X W (.Compare e1 [.NotIn] [e2] pos) (xTest (xDIn true ta tb)) := by
  obtain ⟨t, h1, h2⟩ := ha
  obtain ⟨u, h3, h4⟩ := hb
  exact ⟨_, pt_cmp (pc_dnotin (by omega) h1 h3) hm, refTest (ref_dnin h2 h4)⟩
theorem any_rep : ∀ {kvs : List (Key × D)} {vs : List (Key × V)} {k : Key}, RepsK K G kvs vs → (kvs.any fun kv => decide (kv.1 = k)) = vs.any fun kv => decide (kv.1 = k)
  | [], vs, k, r => by rw [RepsK.nil_iff.mp r]; rfl
  | p :: kvs, vs, k, r => by
    obtain ⟨v, w, rfl, r1, r2⟩ := RepsK.cons_iff.mp r
    rw [List.any_cons, List.any_cons, any_rep r2]
theorem map_rep {d : D} {v : V} (hd : Rep K G d v) : ∀ {kvs : List (Key × D)} {vs : List (Key × V)} {k : Key}, RepsK K G kvs vs → RepsK K G (kvs.map (fun kv => if kv.1 = k then (kv.1, d) else kv)) (vs.map (fun kv => if kv.1 = k then (kv.1, v) else kv))
  | [], vs, k, r => by rw [RepsK.nil_iff.mp r]; exact RepsK.nil
  | p :: kvs, vs, k, r => by
    obtain ⟨u, w, rfl, r1, r2⟩ := RepsK.cons_iff.mp r
    rw [List.map_cons, List.map_cons]
    by_cases e : p.1 = k
    · rw [if_pos e, if_pos e]; exact RepsK.cons hd (map_rep hd r2)
    · rw [if_neg e, if_neg e]
      obtain ⟨p1, p2⟩ := p
      exact RepsK.cons r1 (map_rep hd r2)
theorem appK_rep {d : D} {v : V} {k : Key} (hd : Rep K G d v) : ∀ {kvs : List (Key × D)} {vs : List (Key × V)}, RepsK K G kvs vs → RepsK K G (kvs ++ [(k, d)]) (vs ++ [(k, v)])
  | [], vs, r => by rw [RepsK.nil_iff.mp r]; exact RepsK.cons hd RepsK.nil
  | p :: kvs, vs, r => by
    obtain ⟨u, w, rfl, r1, r2⟩ := RepsK.cons_iff.mp r
    obtain ⟨p1, p2⟩ := p
    exact RepsK.cons r1 (appK_rep hd r2)
theorem put_rep {d : D} {v : V} {k : Key} {kvs : List (Key × D)} {vs : List (Key × V)} (r : RepsK K G kvs vs) (hd : Rep K G d v) : RepsK K G (putD kvs k d) (putK vs k v) := by
  unfold putD putK
  rw [any_rep (k := k) r]
  by_cases e : (vs.any fun kv => decide (kv.1 = k)) = true
  · rw [if_pos e, if_pos e]; exact map_rep hd r
  · rw [if_neg e, if_neg e]; exact appK_rep hd r
theorem lenK : ∀ {kvs : List (Key × D)} {vs : List (Key × V)}, RepsK K G kvs vs → kvs.length = vs.length
  | [], vs, r => by rw [RepsK.nil_iff.mp r]; rfl
  | p :: kvs, vs, r => by
    obtain ⟨u, w, rfl, r1, r2⟩ := RepsK.cons_iff.mp r
    rw [List.length_cons, List.length_cons, lenK r2]
theorem own_dic {G H : Hp} {σ : VSt} {δ : DSt} {i : Nat} {kvs : List (Key × D)} (r : DR K p G σ H δ) (h : δ[i]? = some (.own (.dic kvs))) : ∃ a us, σ[i]? = some (some (.ref a)) ∧ G a = none ∧ a ≠ p.b.a ∧ H a = some (.dK us) ∧ RepsK K G kvs us := by
  obtain ⟨a, h1, h2, h3, us, h4, h5⟩ := r.slot i _ h
  exact ⟨a, us, h1, h2, r.nb h3, h4, h5⟩
/-- x[k] = v, x's own dict: the value first -/
def yDPut (S : List Nat) (j : Nat) (tv te : TDE) : TDS := fun Dd δ => ∃ kvs, δ[j]? = some (.own (.dic kvs)) ∧ j ∉ S ∧ tv (frz S δ) (fun d => te (frz S δ) (fun y => ∃ k, keyD y = some k ∧ kvs.length < sizeLine ∧
  Dd.nx ((if d.sc = true then δ else frz S δ).set j (.own (.dic (putD kvs k d))))) (fun c fs => Dd.xc c fs (frz S δ))) (fun c fs => Dd.xc c fs (frz S δ))
theorem ds_dput (S : List Nat) (j : Nat) {x : Str} {pn tpos : Pos} (hu : X.A.units + 64 < cLine) (hv' : DE p X W e2 ta) (he : DE p X W e1 tb) (hN : X.N[j]? = some x := by rfl) (hv : Vis X.env.scope x := by first | exact Or.inl rfl | exact Or.inr (Or.inl rfl) | exact Or.inr (Or.inr rfl)) (hd : (x == ("__debug__" : Str)) = false := by decide) (hcd : (x == ("__classdict__" : Str)) = false := by decide)
    (hs : swapsWith e2 (some (.Subscript (.Name x pn) e1 tpos)) pos.line X.env = pure false := by rfl) : DS p X W (.Assign [.Subscript (.Name x pn) e1 tpos] e2 pos) (yDPut S j ta tb) := by
  obtain ⟨a, a1, a2⟩ := hv'
  obtain ⟨c, c1, c2⟩ := he
  refine ⟨_, ps_dput (by omega) (pe_var hN hv hd hcd) c1 a1 hs, fun Gb G σ H δ D' Dd s r q h => ?_⟩
  obtain ⟨kvs, hi, hS, q⟩ := q
  obtain ⟨G1, g1, r1⟩ := DR.freeze (S := S) r
  have hi1 : (frz S δ)[j]? = some (.own (.dic kvs)) := by rw [frz_get hS]; exact hi
  obtain ⟨l, us, l1, l2, nb, l4, l5⟩ := own_dic r hi
  refine a2 G1 σ H _ _ _ _ r1 q (fun G2 H2 v d e2 rv q2 => ?_) (h.x (s.trans g1) r1)
  have r2 := r1.ext e2
  refine ⟨.ref l, l1, ?_⟩
  refine c2 G2 σ H2 _ _ _ _ r2 q2 (fun G3 H3 iv y e3 rj q3 => ?_) (h.x ((s.trans g1).trans e2.gg) r2)
  obtain ⟨k, hk, hl, q4⟩ := q3
  rw [key_rep hk rj]
  have l4' : H3 l = some (.dK us) := e3.keep l _ nb nt_dK (e2.keep l _ nb nt_dK l4)
  refine ⟨l, _, rfl, .inl ⟨us, k, l4', rfl, by rw [← lenK l5]; exact hl, rfl⟩, ?_⟩
  by_cases hsc : d.sc = true
  · rw [if_pos hsc] at q4
    have rb := r.backE g1 (e2.trans r1.at e3)
    exact h.nx G σ _ _ s (rb.change (o' := .dic (putD kvs k d)) hi l1 ⟨_, upd_same, put_rep l5 (rep_of_sc hsc rv)⟩) q4
  · rw [if_neg hsc] at q4
    have rx := r2.ext e3
    obtain ⟨l', us', m1, m2, mb, m4, m5⟩ := own_dic rx hi1
    rw [l1] at m1; cases m1
    rw [l4'] at m4; cases m4
    exact h.nx G3 σ _ _ (((s.trans g1).trans e2.gg).trans e3.gg) (rx.change (o' := .dic (putD kvs k d)) hi1 l1 ⟨_, upd_same, put_rep m5 (rv.mono e3.gg)⟩) q4
/-- x = {}, the dict x's own -/
def ySetDicO (j : Nat) : TDS := fun Dd δ => Dd.nx (δ.set j (.own (.dic [])))
theorem ds_setDicO (j : Nat) {x : Str} {pl px : Pos} (hN : X.N.Nodup) (hi : X.N[j]? = some x := by rfl) (hx : Loc X.env.scope x := by first | exact .inl rfl | exact .inr rfl) (hs : swapsWith (.Dict [] [] pl) (some (.Name x px)) pos.line X.env = pure false := by rfl)
    (hf : X.fn x = true ∨ X.env.scope.names.lookup x = some .local := by first | exact .inl rfl | exact .inr rfl | assumption) : DS p X W (.Assign [.Name x px] (.Dict [] [] pl) pos) (ySetDicO j) := by
  refine ⟨_, ps_set hN hi hx pe_dnewK hs hf, fun Gb G σ H δ D' Dd s r q h A hA => ?_⟩
  have rb : DR X.K p G σ (upd H A (.dK [])) δ := r.back (fun c o _ _ z => by rw [upd_ne (ne_of_none z hA)]; exact z) (fun c o z => by
    have := r.sub c o z
    rw [upd_ne (ne_of_none this hA)]; exact this) (Same.refl _) (r.bag.new hA)
  exact h.nx G _ _ _ s (rb.setOwn (o := .dic []) (r.sub.free hA) (h0_none r (Fr0.of hA)) ⟨[], upd_same, RepsK.nil⟩ (own_fresh r (Fr0.of hA))) q
end
end DL

namespace DL
open PySem PySem.Spec PyProof.Rows L2 EX
section
variable {K : PySem.W.Frag} {b : Bag}
theorem reps_strI {G : Hp} : ∀ {zs : List Str} {vs : List V}, Reps K G (zs.map D.str) vs → vs = zs.map V.str
  | [], vs, h => by unfold Reps at h; exact h
  | z :: zs, vs, h => by
    rw [List.map_cons] at h
    unfold Reps at h
    obtain ⟨v, r, rfl, h1, h2⟩ := h
    rw [List.map_cons, rep_str.mp h1, reps_strI h2]
def dIndex (x : D) (xs : List D) (Q : QD) : Prop := match x, xs with
  | .lst ds, [.str z] => ∃ (ss : List Str) (j : Nat), ds = ss.map D.str ∧ ss[j]? = some z ∧ (∀ (m : Nat) (y : Str), m < j → ss[m]? = some y → y ≠ z) ∧ Q (.int (j : Nat))
  | _, _ => False
theorem r_index : RefM K b "list" (rIndex K) dIndex := by
  intro G H x xs v vs Q Qd s hb rx rs h k
  unfold dIndex at h
  split at h
  · rename_i ds z
    obtain ⟨ss, j, rfl, hj, hn, q⟩ := h
    obtain ⟨w, rfl, r1⟩ := reps1 rs
    obtain ⟨a, us, rfl, hG, ru⟩ := rep_lstI.mp rx
    have e1 := reps_strI ru
    subst e1
    rw [rep_str.mp r1]
    refine ⟨a, ss.map V.str, .str z, j, .str z, rfl, rfl, ?_, rfl, ?_, ?_, ?_, ?_, k G H _ _ (Ext.refl s hb) (rep_sc rfl) q⟩
    · exact .inl (.inl (s _ _ hG))
    · exact List.all_eq_true.mpr fun y hy => by obtain ⟨z', _, rfl⟩ := List.mem_map.mp hy; rfl
    · rw [List.getElem?_map, hj]; rfl
    · show decide _ = true; simp
    · intro m z' hm hz
      rw [List.getElem?_map] at hz
      obtain ⟨y, hy, rfl⟩ := Option.map_eq_some_iff.mp hz
      have := hn m y hm hy
      show decide _ = false
      simp [this]
  · exact h.elim
end
end DL

namespace DL
open PySem PySem.Spec PyProof.Rows L2 EX
section
variable {X : Cx} {W : WX} {p : Pr} {e : Expr} {ts : TDA} {pos : Pos}
def ySetListO (S : List Nat) (i : Nat) (ts : TDA) : TDS := fun Dd δ => ts (frz S δ) (fun xs => ∃ ds, (xs = [D.lst ds] ∨ xs = [D.tup ds]) ∧ Dd.nx ((frz S δ).set i (.own (.lst ds)))) (fun c fs => Dd.xc c fs (frz S δ))
theorem ds_setListO (S : List Nat) (i : Nat) {x : Str} {pl pc px : Pos} (hN : X.N.Nodup) (hm : X.mg "list" = none) (ha : DA p X W [e] ts) (hi : X.N[i]? = some x := by rfl) (hx : Loc X.env.scope x := by first | exact .inl rfl | exact .inr rfl) (hg : Gl X "list" := by rfl) (hs : swapsWith (.Call (.Name "list" pl) [e] [] pc) (some (.Name x px)) pos.line X.env = pure false := by rfl)
    (he : starEach [e] X.env = (false, eval e X.env) :: starEach [] X.env := by rfl) (hpl : (backTo pc (starEach [] X.env)).any (·.1) = false := by rfl)
    (hf : X.fn x = true ∨ X.env.scope.names.lookup x = some .local := by first | exact .inl rfl | exact .inr rfl | assumption) : DS p X W (.Assign [.Name x px] (.Call (.Name "list" pl) [e] [] pc) pos) (ySetListO S i ts) := by
  obtain ⟨a, a1, a2⟩ := ha
  refine ⟨_, ps_set hN hi hx (pe_callTy call_list_of hg hm (by decide +kernel) a1 (by decide) (by decide) he hpl) hs hf, fun Gb G σ H δ Dm Dd s r q h => ?_⟩
  obtain ⟨G1, g1, r1⟩ := DR.freeze (S := S) r
  refine a2 G1 σ H _ _ _ _ r1 q (fun G2 H2 vs xs e2 r2 q2 => ?_) (h.x (s.trans g1) r1)
  obtain ⟨ds, hd, q3⟩ := q2
  have rx := r1.ext e2
  have fin : ∀ (us : List V), Reps X.K G2 ds us → ∀ A, H2 A = none → Dm.nx (σ.set i (some (.ref A))) (upd H2 A (.lst us)) := fun us ru A hA => by
    have up : ∀ c o, c ≠ p.b.a → NT o → H2 c = some o → upd H2 A (.lst us) c = some o := fun c o _ _ z => by rw [upd_ne (ne_of_none z hA)]; exact z
    have sb : Same G2 (upd H2 A (.lst us)) := fun c o z => by
      have := e2.sub c o z
      rw [upd_ne (ne_of_none this hA)]; exact this
    have bg : BagOk X.K p.b G2 (upd H2 A (.lst us)) := rx.bag.new hA
    have rb : DR X.K p G2 σ (upd H2 A (.lst us)) _ := rx.back up sb (Same.refl _) bg
    exact h.nx G2 _ _ _ ((s.trans g1).trans e2.gg) (rb.setOwn (o := .lst ds) (rx.sub.free hA) (h0_none rx (Fr0.of hA)) ⟨us, upd_same, ru⟩ (own_fresh rx (Fr0.of hA))) q3
  rcases hd with rfl | rfl
  · obtain ⟨v, rfl, rv⟩ := reps1 r2
    obtain ⟨b, us, rfl, c1, c2⟩ := rep_lstI.mp rv
    exact ⟨b, us, rfl, .inl (SqL.of (e2.sub _ _ c1)), fun l hl => fin us c2 l hl⟩
  · obtain ⟨v, rfl, rv⟩ := reps1 r2
    obtain ⟨b, us, rfl, c1, c2⟩ := rep_tupI.mp rv
    exact ⟨b, us, rfl, .inr (sameT e2.sub c1), fun l hl => fin us c2 l hl⟩
end
end DL

namespace DL
open PySem PySem.Spec PyProof.Rows L2 EX
/-- how a def binds m values by place and the keywords ks: pm puts them in the parameters' order -/
structure BKw (fd : FuncData) (ps : List Str) (m : Nat) (ks : List Str) (pm : List Nat) : Prop where
  to : ∀ (s : Shared) (us ws : List Value), us.length = m → ws.length = ks.length → BindsTo s fd ⟨us, ks.zip ws⟩ (ps.zip (pickP pm (us ++ ws)))
structure OkK (P : Program) (w : World) (K : PySem.W.Frag) (mg : Str → Option Value) (base : Heap) (T : TbL) (k : Nat) (x : Str) (ps : List Str) (c : DC) (m : Nat) (ks : List Str) (pm : List Nat) : Prop where
  ex : ∃ fd : FuncData, mg x = some (.ref (He.ga K x)) ∧ PySem.W.keepIn K (.ref (He.ga K x)) = true ∧ BKw fd ps m ks pm ∧ FnOk P w K mg base (L2.CX P w) k (He.ga K x) fd ps (spD K T c)
def xFnK (β : Addr) (c : DC) (pm : List Nat) (ts : TDA) : TDE := fun δ Q E => ts δ (fun ds => c β (pickP pm ds) Q E) E
section
variable {p : Pr} {X : Cx} {W : WX} {es : List Expr} {kws : List Keyword} {ks : List Str} {ts : TDA} {pos : Pos} {T : TbL} {k m : Nat} {x : Str} {ps : List Str} {c : DC} {q : Pos} {pm : List Nat}
theorem d_callKw (O : OkK X.prog X.w X.K X.mg X.base T k x ps c es.length ks pm) (hT : p.b.T = T) (hr : Room k X.A) (tk : Takes X W) (ha : DMk p X W pos es kws ks ts)
    (hg : Gl X x := by rfl) (hdb : (x == ("__debug__" : Str)) = false := by decide) : DE p X W (.Call (.Name x q) es kws pos) (xFnK p.b.a c pm ts) := by
  obtain ⟨fd, hm, hk, hb, F⟩ := O
  obtain ⟨a, a1, a2⟩ := ha
  refine ⟨fun σ H Q => a σ H fun vs H1 => spD X.K T c (pickP pm vs) H1 Q (WE W σ), ⟨fun pins s σ H Q I h => ?_⟩, fun G σ H δ Q Qd Ed r q k x => ?_⟩
  · refine wpAny_Call_Name_kw (ld_glob I hg hm ?_ hdb)
    refine a1.run _ pins s σ H _ _ I hk h fun us ws vs zs H2 s2 hu hw r1 r3 I2 q2 => ?_
    have r2 := pickP_vals (r1.append r3) pm
    refine wpAny_call (codeAny_mono (F.run X.A X.stack s2 H2 ⟨us, ks.zip ws⟩ (pickP pm (us ++ ws)) (pickP pm (vs ++ zs)) Q (WE W σ) hr I2.env0 (hb.to s2 us ws hu hw) r2 q2) fun r s' hq => ?_)
    cases r with
    | error e => exact passAt tk σ pins H2 s2 e s' I2 hq
    | ok fl =>
      cases fl with
      | ret u => exact I2.after hq
      | next => exact False.elim hq
      | brk => exact False.elim hq
      | cont => exact False.elim hq
  · refine a2 G σ H δ _ _ Ed r q (fun G1 H1 vs ds e1 r1 q1 => ?_) x
    exact ⟨p.b, G1, pickP pm ds, Qd, Ed, hT, e1.sub, e1.bag, reps_pick r1 pm, q1, fun G2 H2 v d e2 r2 q2 => k G2 H2 v d (e1.trans r.at e2) r2 q2, fun G2 H2 cn fs d us e2 hd rf q2 => x G2 H2 cn fs d us (e1.trans r.at e2) hd rf q2⟩
end
section
variable {P : Program} {w : World} {K : PySem.W.Frag} {mg : Str → Option Value} {base : Heap} {T : TbL} {j k : Nat} {x qual : Str} {st : Stmt} {fd : FuncData} {N ps : List Str} {c c' : DC} {td : Addr → TDS} {m : Nat} {ks : List Str} {pm : List Nat}
theorem OkK.mono (O : OkK P w K mg base T j x ps c m ks pm) (h : j ≤ k) : OkK P w K mg base T k x ps c m ks pm := by
  obtain ⟨fd, h1, h2, h3, h4⟩ := O
  exact ⟨fd, h1, h2, h3, h4.mono h⟩
/-- the def's keywords, out of its text -/
theorem fun_bkw (F : Fun K x qual st (He.ga K x) fd) (h : ∀ (kV doc pmv : Value) (an : Option Addr) (cdv ct : Value) (us ws : List Value), us.length = m → ws.length = ks.length →
    bindArgs (PySem.W.fnOf x qual (defArgs st) (defBody st) (defScope st) .none kV doc pmv an cdv ct) ⟨us, ks.zip ws⟩ = pure (ps.zip (pickP pm (us ++ ws)))) : BKw fd ps m ks pm := by
  obtain ⟨oc, od, kV, doc, pmv, an, cdv, ct, osl, rfl, lk, hcd⟩ := F.ex
  exact ⟨fun s us ws l1 l2 => .of_eq (h kV doc pmv an cdv ct us ws l1 l2)⟩
theorem okK_of (g : mg x = some (.ref (He.ga K x))) (F : Fun K x qual st (He.ga K x) fd) (b : BKw fd ps m ks pm) (S : FnScope N ps (defScope st)) (B : BodyD P w K mg base T k qual st (He.ga K x) N td) (len : ∀ β ds Q E, c β ds Q E → ds.length = ps.length) (h : Keeps td N c) : OkK P w K mg base T (k + 1) x ps c m ks pm :=
  ⟨fd, g, F.kp, b, fnD c F S len fun cdv A outer s p E hT hP hcv hr => ⟨_, B cdv A outer s p E hT hP hcv hr, fun ds Qd Ed q => h p.b.a ds Qd Ed q⟩⟩
end
end DL

namespace DL
open PySem PySem.Spec PyProof.Rows L2 EX
def putFD (f : Str) (d : D) : List (Str × D) → List (Str × D)
  | [] => [(f, d)]
  | (g, x) :: r => if g = f then (g, d) :: r else (g, x) :: putFD f d r
section
variable {K : PySem.W.Frag} {G H : Hp}
theorem repsF_put {f : Str} {d : D} {v : V} (hd : Rep K G d v) : ∀ {fs : List (Str × D)} {us : List (Str × V)}, RepsF K G fs us → RepsF K G (putFD f d fs) (putF f v us)
  | [], us, h => by rw [RepsF.nil_iff.mp h]; exact RepsF.cons hd RepsF.nil
  | (g, x) :: r, us, h => by
    obtain ⟨u, r', rfl, h1, h2⟩ := RepsF.cons_iff.mp h
    unfold putFD putF
    by_cases e : g = f
    · rw [if_pos e, if_pos e]; exact RepsF.cons hd h2
    · rw [if_neg e, if_neg e]; exact RepsF.cons h1 (repsF_put hd h2)
end
section
variable {p : Pr} {X : Cx} {W : WX} {K : PySem.W.Frag} {e1 e2 e3 e : Expr} {es : List Expr} {ta tb tc te tv : TDE} {ts : TDA} {pos : Pos}
theorem me_at {G H : Hp} {σ : VSt} {δ : DSt} {i : Nat} {a : Addr} {c : Str} {fs : List (Str × D)} (r : DR K p G σ H δ) (h : δ[i]? = some (.me a c fs)) : ∃ dx us, σ[i]? = some (some (.ref a)) ∧ a ≠ p.b.a ∧ H a = some (.ins (He.ga K c) dx us) ∧ RepsF K G fs us := by
  obtain ⟨h1, h2, h3, dx, us, h4, h5⟩ := r.slot i _ h
  exact ⟨dx, us, h1, r.nb h3, h4, h5⟩
/-- self.f, the object under construction in slot i -/
def xFldMe (t : ObT) (i : Nat) (f : Str) : TDE := fun δ Q _ => ∃ a c fs d, δ[i]? = some (.me a c fs) ∧ obHas t c f = true ∧ fs.lookup f = some d ∧ Q d
theorem d_fldMe {t : ObT} (i : Nat) {f x : Str} {pn : Pos} (T : ObF X.K t) (hN : X.N[i]? = some x := by rfl) (hv : Vis X.env.scope x := by first | exact Or.inl rfl | exact Or.inr (Or.inl rfl) | exact Or.inr (Or.inr rfl)) (hd : (x == ("__debug__" : Str)) = false := by decide) (hcd : (x == ("__classdict__" : Str)) = false := by decide)
    (hb : attributeBase (.Name x pn) f X.env (eval (.Name x pn) X.env) = eval (.Name x pn) X.env := by rfl) : DE p X W (.Attribute (.Name x pn) f pos) (xFldMe t i f) := by
  refine ⟨_, pe_fld (pe_var hN hv hd hcd) hb, fun G σ H δ Q Qd Ed r q k x => ?_⟩
  obtain ⟨a, c, fs, d, hi, hf, hl, q⟩ := q
  obtain ⟨dx, us, a1, nb, a2, a3⟩ := me_at r hi
  obtain ⟨v, l1, l2⟩ := a3.lookup hl
  obtain ⟨hC, hA⟩ := T.f hf
  exact ⟨_, a1, a, _, dx, us, v, rfl, a2, hC, hA, l1, k G H v d r.refl l2 q⟩
/-- self.f = e -/
def yFldMe (t : ObT) (S : List Nat) (i : Nat) (f : Str) (te : TDE) : TDS := fun Dd δ => ∃ a c fs, δ[i]? = some (.me a c fs) ∧ i ∉ S ∧ obHas t c f = true ∧ fs.length < 1000 ∧
  te (frz S δ) (fun d => Dd.nx ((if d.sc = true then δ else frz S δ).set i (.me a c (putFD f d fs)))) (fun c fs => Dd.xc c fs (frz S δ))
theorem ds_fldMe {t : ObT} (S : List Nat) (i : Nat) {f x : Str} {pn pos' : Pos} (T : ObF X.K t) (he : DE p X W e te) (hN : X.N[i]? = some x := by rfl) (hv : Vis X.env.scope x := by first | exact Or.inl rfl | exact Or.inr (Or.inl rfl) | exact Or.inr (Or.inr rfl)) (hd : (x == ("__debug__" : Str)) = false := by decide) (hcd : (x == ("__classdict__" : Str)) = false := by decide)
    (hs : swapsWith e (some (.Attribute (.Name x pn) f pos')) pos.line X.env = pure false := by rfl) : DS p X W (.Assign [.Attribute (.Name x pn) f pos'] e pos) (yFldMe t S i f te) := by
  obtain ⟨a, a1, a2⟩ := he
  refine ⟨_, ps_fld (pe_var hN hv hd hcd) a1 hs, fun Gb G σ H δ D' Dd s r q h => ?_⟩
  obtain ⟨ad, c, fs, hi, hS, hf, hz, q⟩ := q
  obtain ⟨G1, g1, r1⟩ := DR.freeze (S := S) r
  have hi1 : (frz S δ)[i]? = some (.me ad c fs) := by rw [frz_get hS]; exact hi
  obtain ⟨hC, hA⟩ := T.f hf
  refine a2 G1 σ H _ _ _ _ r1 q (fun G2 H2 v d e2 rv q2 => ?_) (h.x (s.trans g1) r1)
  by_cases hsc : d.sc = true
  · rw [if_pos hsc] at q2
    have rb := r.backE g1 e2
    obtain ⟨dx, us, b1, nb, b2, b3⟩ := me_at rb hi
    refine ⟨.ref ad, b1, ad, _, dx, us, rfl, b2, hC, hA, by rw [← b3.length]; exact hz, ?_⟩
    exact h.nx G σ _ _ s (rb.changeS (s' := .me ad c (putFD f d fs)) hi rfl b1 fun g0 f0 => ⟨b1, g0, f0, dx, _, upd_same, repsF_put (rep_of_sc hsc rv) b3⟩) q2
  · rw [if_neg hsc] at q2
    have rx := r1.ext e2
    obtain ⟨dx, us, b1, nb, b2, b3⟩ := me_at rx hi1
    refine ⟨.ref ad, b1, ad, _, dx, us, rfl, b2, hC, hA, by rw [← b3.length]; exact hz, ?_⟩
    exact h.nx G2 σ _ _ ((s.trans g1).trans e2.gg) (rx.changeS (s' := .me ad c (putFD f d fs)) hi1 rfl b1 fun g0 f0 => ⟨b1, g0, f0, dx, _, upd_same, repsF_put rv b3⟩) q2
end

/-- an __init__'s contract: the bag's address, the arguments, what is wanted of the fields, of an exception -/
abbrev IC := Addr → List D → (List (Str × D) → Prop) → XD → Prop
/-- the heap in which __init__(self, ..) begins -/
def madeH (K : PySem.W.Frag) (cn : Str) (H : Hp) (x dx : Addr) : Hp := upd (upd H dx (.own x)) x (.ins (He.ga K cn) dx [])
def spI (K : PySem.W.Frag) (T : TbL) (cn : Str) (c : IC) : Sp := fun vs H Q E => ∃ (b : Bag) (G H0 : Hp) (x dx : Addr) (us : List V) (ds : List D) (Qd : List (Str × D) → Prop) (Ed : XD),
  vs = .ref x :: us ∧ H = madeH K cn H0 x dx ∧ H0 x = none ∧ H0 dx = none ∧ dx ≠ x ∧ b.T = T ∧ Same G H0 ∧ BagOk K b G H0 ∧ Reps K G ds us ∧ c b.a ds Qd Ed ∧
  (∀ G' H' fs dx' ws, Ext K b G H0 G' H' → G' x = none → H' x = some (.ins (He.ga K cn) dx' ws) → RepsF K G' fs ws → Qd fs → Q .non H') ∧
  (∀ G' H' cn fs d ws, Ext K b G H0 G' H' → G' d = some (.xd ws) → RepsF K G' fs ws → Ed cn fs → E (.ref (He.ga K cn)) (some d) H')
/-- the start: self under construction -/
def startI (n : Nat) (cn : Str) (x : Addr) (ds : List D) : DSt := .me x cn [] :: (ds.map Sl.val ++ List.replicate (n - 1 - ds.length) .non)
section
variable {K : PySem.W.Frag} {b : Bag} {G H : Hp}
theorem madeH_same {cn : Str} {x dx : Addr} (h1 : H x = none) (h2 : H dx = none) : Same H (madeH K cn H x dx) := fun a o e => by
  unfold madeH
  rw [upd_ne (ne_of_none e h1), upd_ne (ne_of_none e h2)]; exact e
theorem madeH_ext {cn : Str} {x dx : Addr} (s : Same G H) (hb : BagOk K b G H) (h1 : H x = none) (h2 : H dx = none) (ne : dx ≠ x) : Ext K b G H G (madeH K cn H x dx) := by
  have e := madeH_same (K := K) (cn := cn) h1 h2
  refine ⟨Same.refl _, s.trans e, fun a o _ _ h => e _ _ h, fun _ _ _ _ h => h, ?_⟩
  unfold madeH
  exact (hb.new h2).new (by rw [upd_ne (Ne.symm ne)]; exact h1)
theorem start_DRI {P : Program} {w : World} {cn : Str} {x dx : Addr} {N : List Str} {ds : List D} {us : List V} {G1 H1 : Hp} (hb0 : BagOk K b G H) (e1 : Ext K b G H G1 H1) (hx : H x = none) (gx : G1 x = none) (at_ : H1 x = some (.ins (He.ga K cn) dx [])) (r : Reps K G1 ds us) (hn : 1 ≤ N.length) :
    DR K ⟨b, H, G, P, w⟩ G1 (L2.start N (.ref x :: us)) H1 (startI N.length cn x ds) where
  base := e1.gg
  sub := e1.sub
  keep := e1.keep
  new := e1.new
  bag := e1.bag
  bin := hb0.atN
  len := by unfold startI L2.start; simp [r.length]; omega
  slot := fun i sl e => by
    cases i with
    | zero =>
      unfold startI at e
      rw [List.getElem?_cons_zero] at e
      cases e
      exact ⟨by unfold L2.start; simp, gx, Fr0.of hx, dx, [], at_, RepsF.nil⟩
    | succ i =>
      unfold startI at e
      rw [List.getElem?_cons_succ] at e
      by_cases hi : i < ds.length
      · rw [List.getElem?_append_left (by simpa using hi), List.getElem?_map] at e
        cases q : ds[i]? with
        | none => rw [q] at e; cases e
        | some d =>
          rw [q] at e
          cases e
          obtain ⟨v, h1, h2⟩ := r.get q
          refine ⟨v, ?_, h2⟩
          unfold L2.start
          rw [List.map_cons, List.cons_append, List.getElem?_cons_succ, List.getElem?_append_left (by rw [List.length_map, ← r.length]; exact hi), List.getElem?_map, h1]; rfl
      · rw [List.getElem?_append_right (by simpa using hi), List.getElem?_replicate] at e
        split at e
        · cases e; exact True.intro
        · cases e
  dis := fun i j s s' a n e1 e2 m1 m2 => by
    exfalso
    have one : ∀ (i : Nat) (s : Sl), (startI N.length cn x ds)[i]? = some s → s.mine = true → i = 0 := fun i s e m => by
      cases i with
      | zero => rfl
      | succ i =>
        unfold startI at e
        rw [List.getElem?_cons_succ] at e
        by_cases hi : i < ds.length
        · rw [List.getElem?_append_left (by simpa using hi), List.getElem?_map] at e
          cases q : ds[i]? with
          | none => rw [q] at e; cases e
          | some d => rw [q] at e; cases e; cases m
        · rw [List.getElem?_append_right (by simpa using hi), List.getElem?_replicate] at e
          split at e
          · cases e; cases m
          · cases e
    exact n ((one i s e1 m1).trans (one j s' e2 m2).symm)
end
/-- an __init__'s body, judged -/
def BodyI (P : Program) (w : World) (K : PySem.W.Frag) (mg : Str → Option Value) (base : Heap) (T : TbL) (k : Nat) (qual : Str) (st : Stmt) (f : Addr) (N : List Str) (td : Addr → TDS) : Prop :=
  ∀ (cdv : Value) (A : Around) (outer : List Env) (s : Shared) (H : Hp) (p : Pr) (E : XK), p.b.T = T → p.P = P ∧ p.w = w → codeV K f = cdv → Room k (A.deeper (envOfC qual (defScope st) s.heap.objs.size f cdv)) →
    DSs p (cxOf (L2.CX P w) P w K mg base N qual (defScope st) f cdv A outer s H E) (fun cls d _ H => E cls d H) (defBody st) (td p.b.a)
/-- the ends of an __init__ -/
def endsI (x : Addr) (cn : Str) (Qd : List (Str × D) → Prop) (Ed : XD) : DEnds := { nx := fun δ => ∃ fs, δ[0]? = some (.me x cn fs) ∧ Qd fs, rt := fun _ => False, xc := fun cn fs _ => Ed cn fs }
/-- the contract of an __init__(self, *v) is kept by the reading: it gets the tuple of the arguments -/
def KeepsI (td : Addr → TDS) (N : List Str) (cn : Str) (c : IC) : Prop := ∀ β x ds Qd Ed, c β ds Qd Ed → td β (endsI x cn Qd Ed) (startI N.length cn x [.tup ds])
section
variable {P : Program} {w : World} {K : PySem.W.Frag} {mg : Str → Option Value} {base : Heap} {T : TbL} {k : Nat} {cn qual : Str} {st : Stmt} {fI : Addr} {fd : FuncData} {N : List Str} {pv : Str} {c : IC} {td : Addr → TDS}
/-- how an __init__(self, *v) binds -/
def BindStar (qual : Str) (st : Stmt) (pv : Str) : Prop := ∀ (kV doc pm : Value) (an : Option Addr) (cdv ct : Value) (us rest : List Value), us.length = 1 →
  bindArgs (PySem.W.fnOf "__init__" qual (defArgs st) (defBody st) (defScope st) .none kV doc pm an cdv ct) ⟨us ++ rest, []⟩ = (newTuple rest >>= fun t => pure ([("self" : Str)].zip us ++ [(pv, t)]))
theorem fnI_star (F : Fun K "__init__" qual st fI fd) (S : FnScope N ["self", pv] (defScope st)) (hb : BindStar qual st pv) (B : BodyI P w K mg base T k qual st fI N td)
    (len : ∀ β ds Q E, c β ds Q E → ds.length ≤ sizeLine) (h : KeepsI td N cn c) : FnR P w K mg base (L2.CX P w) (k + 1) fI (spI K T cn c) := by
  obtain ⟨oc, od, kV, doc, pm, an, cdv, ct, osl, rfl, lk, hcd⟩ := F.ex
  have S' : FnScope N ((["self"] : List Str) ++ [pv]) (defScope st) := S
  have hN : 1 ≤ N.length := by
    have e := congrArg List.length S.pre
    rw [List.length_take] at e
    have e2 : min 2 N.length = 2 := e
    omega
  have R := StX.fn_star (P := P) (w := w) (mg := mg) (base := base) (k := k) (CX := L2.CX P w) (f := fI) (ps := (["self"] : List Str)) (pv := pv)
    (sp := fun vs H Q E => ∃ (b : Bag) (G H0 : Hp) (x dx pt : Addr) (us : List V) (ds : List D) (Qd : List (Str × D) → Prop) (Ed : XD),
      vs = [.ref x, .ref pt] ∧ H = upd (madeH K cn H0 x dx) pt (.tup us) ∧ madeH K cn H0 x dx pt = none ∧ H0 x = none ∧ H0 dx = none ∧ dx ≠ x ∧ b.T = T ∧ Same G H0 ∧ BagOk K b G H0 ∧ Reps K G ds us ∧ c b.a ds Qd Ed ∧
      (∀ G' H' fs dx' ws, Ext K b G H0 G' H' → G' x = none → H' x = some (.ins (He.ga K cn) dx' ws) → RepsF K G' fs ws → Qd fs → Q .non H') ∧
      (∀ G' H' cn fs d ws, Ext K b G H0 G' H' → G' d = some (.xd ws) → RepsF K G' fs ws → Ed cn fs → E (.ref (He.ga K cn)) (some d) H'))
    lk hcd S' StX.cxUp (fun us rest hl => hb _ _ _ _ _ _ us rest hl) (fun A outer s H vs Q E hr hsp => ?_)
  · refine fun A outer s H us vs Q E hr e0 r hsp => R A outer s H us vs Q E hr e0 r ?_
    obtain ⟨b, G, H0, x, dx, ws, ds, Qd, Ed, rfl, rfl, h1, h2, h3, h4, h5, h6, h7, h8, h9, h10⟩ := hsp
    exact ⟨[.ref x], ws, rfl, rfl, by rw [← h7.length]; exact len _ _ _ _ h8, fun pt hp => ⟨b, G, H0, x, dx, pt, ws, ds, Qd, Ed, rfl, rfl, hp, h1, h2, h3, h4, h5, h6, h7, h8, h9, h10⟩⟩
  · obtain ⟨b, G, H0, x, dx, pt, us, ds, Qd, Ed, rfl, rfl, hp, h1, h2, h3, hT, s1, hb0, r, q, k1, k2⟩ := hsp
    obtain ⟨t, t1, t2⟩ := B cdv A outer s (upd (madeH K cn H0 x dx) pt (.tup us)) ⟨b, H0, G, P, w⟩ E hT ⟨rfl, rfl⟩ (by unfold codeV; rw [lk] <;> rfl) hr
    refine ⟨t, t1, ?_⟩
    have e1 := madeH_ext (cn := cn) s1 hb0 h1 h2 h3
    have e2 : Ext K b G (madeH K cn H0 x dx) (upd G pt (.tup us)) (upd (madeH K cn H0 x dx) pt (.tup us)) := Ext.laid e1.sub e1.bag hp
    have e12 := e1.trans hb0.at e2
    have hx1 : madeH K cn H0 x dx x = some (.ins (He.ga K cn) dx []) := by unfold madeH; rw [upd_same]
    have nx : x ≠ pt := fun e => by rw [← e, hx1] at hp; cases hp
    have gx : upd G pt (.tup us) x = none := by rw [upd_ne nx]; exact s1.free h1
    have r0 : DR K ⟨b, H0, G, P, w⟩ (upd G pt (.tup us)) (L2.start N [.ref x, .ref pt]) (upd (madeH K cn H0 x dx) pt (.tup us)) (startI N.length cn x [.tup ds]) :=
      start_DRI (dx := dx) hb0 e12 h1 gx (by rw [upd_ne nx]; exact hx1) (Reps.cons (rep_tup e1.sub hp r) Reps.nil) hN
    refine t2 _ _ _ _ _ _ (endsI x cn Qd Ed) (Same.refl _) r0 (h b.a x ds Qd Ed q) ⟨fun G' σ' H' δ' _ r' q' => ?_, fun G' σ' H' δ' v d _ r' rv q' => q'.elim, fun _ _ _ _ _ _ z => z, fun _ _ _ _ _ _ z => z, fun G' σ' H' δ' cn fs d us _ r' hd rf q' => ?_, fun _ _ _ _ _ _ _ _ _ _ _ _ _ z => z.elim⟩
    · obtain ⟨fs, f1, f2⟩ := q'
      obtain ⟨m1, m2, m3, dx', ws, m4, m5⟩ := r'.slot 0 _ f1
      exact k1 G' H' fs dx' ws r'.seen m2 m4 m5 f2
    · exact k2 G' H' cn fs d us r'.seen hd rf q'
end
/-- an object that nobody else knows joins what stays -/
theorem ins_join {K : PySem.W.Frag} {b : Bag} {G H G' H' : Hp} {a dx : Addr} {us : List (Str × V)} {cn : Str} {fs : List (Str × D)} (e : Ext K b G H G' H') (hb : ∃ o, H b.a = some o ∧ NT o) (h1 : H' a = some (.ins (He.ga K cn) dx us)) (h2 : RepsF K G' fs us) (h3 : G' a = none) (h4 : Fr0 H a) : Ext K b G H (upd G' a (.ins (He.ga K cn) dx us)) H' ∧ Rep K (upd G' a (.ins (He.ga K cn) dx us)) (.obj cn fs) (.ref a) := by
  have gg : Same G' (upd G' a (.ins (He.ga K cn) dx us)) := fun c o z => by rw [upd_ne (ne_of_none z h3)]; exact z
  refine ⟨⟨e.gg.trans gg, fun c o z => ?_, e.keep, fun c o z t w => ?_, e.bag.g gg ?_ (e.bag.2.2.1.2.upd nt_ins)⟩, ?_⟩
  · by_cases q : c = a
    · rw [q, upd_same] at z; rw [q, h1]; exact z
    · rw [upd_ne q] at z; exact e.sub _ _ z
  · by_cases q : c = a
    · rw [q] at z; exact absurd t (h4 _ z)
    · rw [upd_ne q] at w; exact e.new c o z t w
  · rw [upd_ne (fun q => by
      obtain ⟨o, b1, b2⟩ := hb
      exact h4 o (by rw [← q]; exact b1) b2)]; exact e.bag.1
  · unfold Rep; exact ⟨a, dx, us, rfl, upd_same, h2.mono gg⟩
/-- a class with its maker -/
structure OkI (P : Program) (w : World) (K : PySem.W.Frag) (mg : Str → Option Value) (base : Heap) (T : TbL) (k : Nat) (cn : Str) (c : IC) : Prop where
  ex : ∃ fI : Addr, mg cn = some (.ref (He.ga K cn)) ∧ Mk K (He.ga K cn) fI ∧ FnR P w K mg base (L2.CX P w) k fI (spI K T cn c)
theorem OkI.mono {P : Program} {w : World} {K : PySem.W.Frag} {mg : Str → Option Value} {base : Heap} {T : TbL} {j k : Nat} {cn : Str} {c : IC} (O : OkI P w K mg base T j cn c) (h : j ≤ k) : OkI P w K mg base T k cn c := by
  obtain ⟨f, h1, h2, h3⟩ := O.ex
  exact ⟨f, h1, h2, h3.mono h⟩
section
variable {X : Cx} {CX : CXT} {k i : Nat} {f C : Addr} {sp : Sp} {E : VSt → XK} {x : Str} {e : Expr} {es : List Expr} {t : TA} {p pos : Pos}
def tMakeS (C : Addr) (sp : Sp) (E : VSt → XK) (t : TA) : TE := fun σ H Q => t σ H fun vs H1 => ∀ x dx, H1 x = Option.none → H1 dx = Option.none → dx ≠ x →
  sp (V.ref x :: vs) (upd (upd H1 dx (.own x)) x (.ins C dx [])) (fun v H2 => v = .non ∧ Q (.ref x) H2) (E σ)
theorem run_makeS {pins : List (Addr × Obj)} {σ : VSt} {H : Hp} {s : Shared} {Q : VK} {us : List Value} {vs : List V} (M : Mk X.K C f) (F : FnR X.prog X.w X.K X.mg X.base CX k f sp) (hr : Room (k + 1) X.A) (hx : PassesAt CX X σ (E σ)) (I : Inv X pins σ H s) (r : Vals vs us)
    (h : ∀ x dx, H x = Option.none → H dx = Option.none → dx ≠ x → sp (V.ref x :: vs) (upd (upd H dx (.own x)) x (.ins C dx [])) (fun v H2 => v = .non ∧ Q (.ref x) H2) (E σ)) :
    wpAny (model X.prog X.w) X.A (call (.ref C) us) (EP X pins σ Q) X.xe s := by
  have hq := h (s.heap.objs.size + 1) s.heap.objs.size (I.hok.fresh (Nat.le_succ _)) (I.hok.fresh (Nat.le_refl _)) (Nat.ne_of_lt (Nat.lt_succ_self _))
  have I2 := Inv.made (C := C) I
  have r2 : Vals (V.ref (s.heap.objs.size + 1) :: vs) (Value.ref (s.heap.objs.size + 1) :: us) := .cons rfl r
  refine wpAny_call (make_map (f := f) I.kIn M.makes M.init (beq_iff_eq.mp M.fn) (codeAny_mono (F _ X.stack _ _ (Value.ref (s.heap.objs.size + 1) :: us) _ _ (E σ) (hr.make C us []) (I2.env0.make C us []) r2 hq) fun r s' hq' => ?_))
  cases r with
  | error e => exact hx pins _ _ e s' I2 hq'
  | ok fl =>
    cases fl with
    | ret u =>
      obtain ⟨v, H', I3, rv, ev, q3⟩ := I2.after hq'
      subst ev
      exact ⟨rv, ⟨V.ref (s.heap.objs.size + 1), H', I3, rfl, q3⟩⟩
    | next => exact False.elim hq'
    | brk => exact False.elim hq'
    | cont => exact False.elim hq'
theorem pe_makeS (M : Mk X.K C f) (F : FnR X.prog X.w X.K X.mg X.base CX k f sp) (hr : Room (k + 1) X.A) (hg : Gl X x) (hm : X.mg x = some (.ref C)) (hx : ∀ σ, PassesAt CX X σ (E σ)) (ha : PA X (e :: es) t) (hdb : (x == ("__debug__" : Str)) = false := by decide)
    (he : starEach (e :: es) X.env = (false, eval e X.env) :: starEach es X.env := by rfl) (hpl : (backTo pos (starEach es X.env)).any (·.1) = false := by rfl) : PE X (.Call (.Name x p) (e :: es) [] pos) (tMakeS C sp E t) := by
  refine ⟨fun pins s σ H Q I h => ?_⟩
  refine wpAny_Call_Name_kw (ld_glob I hg hm ?_ hdb)
  refine PySem.W.callWith_K (h₀ := X.base) I.ok.mod.kin M.kp (thn (ha.run pos pins s σ H _ I h) fun us s1 ⟨vs, H1, I1, r, q⟩ => ⟨I1.kIn, ?_⟩) he hpl
  exact run_makeS M F hr (hx σ) I1 r q
end
section
variable {p : Pr} {X : Cx} {W : WX} {e : Expr} {es : List Expr} {ts : TDA} {pos q : Pos} {T : TbL} {k : Nat} {cn : Str} {c : IC}
/-- C(e, ..) -/
def xMk (β : Addr) (cn : Str) (c : IC) (ts : TDA) : TDE := fun δ Q E => ts δ (fun ds => c β ds (fun fs => Q (.obj cn fs)) E) E
theorem ref_mk {K : PySem.W.Frag} {t : TA} {sp : Sp} (hsp : sp = spI K T cn c) (hT : p.b.T = T) (ha : RefA K p W t ts) : RefE K p W (tMakeS (He.ga K cn) sp (fun σ => WE W σ) t) (xMk p.b.a cn c ts) := by
  subst hsp
  intro G σ H δ Q Qd Ed r q k x
  refine ha G σ H δ _ _ Ed r q (fun G1 H1 vs ds e1 r1 q1 => ?_) x
  intro a dx h1 h2 h3
  refine ⟨p.b, G1, H1, a, dx, vs, ds, _, Ed, rfl, rfl, h1, h2, h3, hT, e1.sub, e1.bag, r1, q1, fun G2 H2 fs dx' ws e2 g2 l2 rf qf => ⟨rfl, ?_⟩, fun G2 H2 cn fs d us e2 hd rf qf => x G2 H2 cn fs d us (e1.trans r.at e2) hd rf qf⟩
  have e12 := e1.trans r.at e2
  obtain ⟨e3, r3⟩ := ins_join e2 e1.bag.atN l2 rf g2 (Fr0.of h1)
  exact k _ H2 _ _ (e1.trans r.at e3) r3 qf
theorem d_mk (O : OkI X.prog X.w X.K X.mg X.base T k cn c) (hT : p.b.T = T) (hr : Room (k + 1) X.A) (tk : Takes X W) (ha : DA p X W (e :: es) ts)
    (hg : Gl X cn := by rfl) (hdb : (cn == ("__debug__" : Str)) = false := by decide) (he : starEach (e :: es) X.env = (false, eval e X.env) :: starEach es X.env := by rfl) (hpl : (backTo pos (starEach es X.env)).any (·.1) = false := by rfl) :
    DE p X W (.Call (.Name cn q) (e :: es) [] pos) (xMk p.b.a cn c ts) := by
  obtain ⟨f, h1, M, F⟩ := O.ex
  obtain ⟨t, a1, a2⟩ := ha
  exact ⟨_, pe_makeS M F hr hg h1 (fun σ => passAt tk σ) a1 hdb he hpl, ref_mk rfl hT a2⟩
end
end DL

namespace DL
open PySem PySem.Spec PyProof.Rows L2 EX
/-- the tuple at a, each item in a new pair -/
def IteT (K : PySem.W.Frag) (a : Addr) : It :=
  ⟨fun i H => ∃ (xs : List V) (x : V), SqT K H a xs ∧ xs[i]? = some x, fun i H v H' => ∃ T x, v = .ref T ∧ H T = none ∧ H' = upd H T (.tup [.int (i : Nat), x]) ∧ ∀ xs, SqT K H a xs → xs[i]? = some x, fun i H => ∃ xs : List V, SqT K H a xs ∧ xs.length ≤ i⟩
theorem turn_enumT {P : Program} {w : World} {K : PySem.W.Frag} {elts : List Expr} {kk : Nat} {tpos : Pos} (a e it : Addr) (hai : a ≠ it) (hae : e ≠ a) :
    Turn P w K (.Tuple elts kk tpos) (IteT K a) [e, it] e (fun i h => (∃ old, IsEnum h e it ((i : Nat) : Int) old) ∧ h.IsTupleIter it a i ∧ e ≠ it) where
  mem := by simp
  obj := fun i h st b hb => by
    obtain ⟨⟨old, he⟩, ⟨o, ho, hc, hd⟩, _⟩ := st
    have e' : b = e ∨ b = it := by simpa using hb
    rcases e' with z | z
    · rw [z]; exact ⟨_, he, fun v q => nomatch q⟩
    · rw [z]; exact ⟨o, ho, fun v q => by rw [hd] at q; cases q⟩
  keep := fun i h h' st k => let ⟨⟨old, he⟩, hi, hne⟩ := st; ⟨⟨old, k e (by simp) _ he⟩, hi.at fun o q => k it (by simp) o q, hne⟩
  item := by
    intro X hP hw hK hc i pins s σ H E I hf st hg
    subst hP hw hK
    obtain ⟨⟨old, he⟩, hit, hne⟩ := st
    obtain ⟨xs, x, hq, hx⟩ := hg
    obtain ⟨its, rv, p, hz⟩ := I.tuple hq
    obtain ⟨u, hu, ru⟩ := rv.get hx
    have hel : e < s.heap.objs.size := Heap.lt_size he
    have hil : it < s.heap.objs.size := by obtain ⟨_, q, _⟩ := hit; exact Heap.lt_size q
    have hi : i < its.toArray.size := by
      have := (List.getElem?_eq_some_iff.mp hu).1
      simpa using this
    have D : Draws X.prog X.w X.A.in1 it [it, a] its.toArray.size (fun i v => its.toArray[i]? = some v) (fun i h => h.IsTupleIter it a i ∧ h.IsTuple a its.toArray) := Draws.tuple (by show X.A.handled = none; exact I.ok.hd hc) it a hai its.toArray
    refine wpAny_pyNext_enum_itemD D he ⟨hit, p⟩ hi hne (by simp [hne, hae]) fun x' h' tk hx' ho hit' hT hsz hk => ?_
    have ex : x' = u := by
      have h2 : its.toArray[i]? = some u := by simpa using hu
      rw [hx'] at h2; exact Option.some.inj h2
    subst ex
    refine ⟨_, rfl, wpAny_letOwnedTupleGo_enum (s := { s with heap := h', toks := tk + 1 }) ho fun h'' he' sb => ?_⟩
    have hT2 : h''.get? s.heap.objs.size = some { cls := .type "tuple", data := .seq #[.int i tk, x'] } := (sb.2 _ (Nat.ne_of_gt hel)).trans hT
    have new : ObjOk X.prog X.w (upd H s.heap.objs.size (.tup [.int (i : Nat), x])) h'' s.heap.objs.size (.tup [.int (i : Nat), x]) :=
      ⟨by show 2 ≤ sizeLine; decide, [.int i tk, x'], .cons ⟨_, rfl⟩ (.cons ru .nil), ⟨_, hT2, rfl, _, rfl⟩⟩
    have I1 : Inv X pins σ (upd H s.heap.objs.size (.tup [.int (i : Nat), x])) { s with heap := h'', toks := tk + 1 } :=
      I.turnedNew (ch := [e, it]) (fun b ob hb q => (sb.2 b (fun z => hb (by simp [z]))).trans (hk b ob (fun z => hb (by simp [z])) (fun z => hb (by simp [z])) q)) hf (Nat.le_refl _) new
    refine ⟨.ref s.heap.objs.size, _, I1, rfl, ⟨_, x, rfl, I.hok.fresh (Nat.le_refl _), rfl, fun ys hy => by rw [I.tuple_inj hy hq]; exact hx⟩, ⟨⟨x', ?_⟩, hit'.1.at fun o q => (sb.2 it (Ne.symm hne)).trans q, hne⟩, fun b hb => ?_⟩
    · have e1 : ((i + 1 : Nat) : Int) = (i : Int) + 1 := by omega
      rw [e1]; exact he'
    · have hb' : b < s.heap.objs.size := by
        have e' : b = e ∨ b = it := by simpa using hb
        rcases e' with z | z
        · rw [z]; exact hel
        · rw [z]; exact hil
      rw [upd_ne (Nat.ne_of_lt hb')]
      exact (hf b hb).1
  done := by
    intro X hP hw hK hc i pins s σ H E I hf st hg
    subst hP hw hK
    obtain ⟨⟨old, he⟩, hit, hne⟩ := st
    obtain ⟨xs, hq, hx⟩ := hg
    obtain ⟨its, rv, p, hz⟩ := I.tuple hq
    obtain ⟨f0, f1, f2, f3, f4, f5⟩ := hf it (by simp)
    have hl := rv.length
    have hle : its.toArray.size ≤ i := by simp; omega
    have D : Draws X.prog X.w X.A.in1 it [it, a] i (fun i v => its.toArray[i]? = some v) (fun j h => i ≤ j ∧ h.IsTupleIter it a j ∧ h.IsTuple a its.toArray) := by
      have D0 : Draws X.prog X.w X.A.in1 it [it, a] its.toArray.size (fun i v => its.toArray[i]? = some v) (fun i h => h.IsTupleIter it a i ∧ h.IsTuple a its.toArray) := Draws.tuple (by show X.A.handled = none; exact I.ok.hd hc) it a hai its.toArray
      exact ⟨fun j h st => D0.live j h st.2, fun j h h' st k => ⟨st.1, D0.frame j h h' st.2 k⟩, fun j s Q E hj st hQ => absurd st.1 (Nat.not_le_of_lt hj), fun s Q E st hE => wpAny_nextOf_tuple_end (by show X.A.handled = none; exact I.ok.hd hc) st.2.1 st.2.2 (Array.getElem?_eq_none hle) hE⟩
    exact wpAny_pyNext_enum_endD D he ⟨Nat.le_refl _, hit, p⟩ fun h' eb => ⟨rfl, I.turned (t' := s.toks) (fun b o hb q => eb b o hb q) f0 f1 f3 f4 f5⟩
  self := fun A i s Q E st h => let ⟨⟨_, he⟩, _⟩ := st; wpAny_pyIter_enum he h
set_option maxHeartbeats 1000000 in
theorem meets_enumerate_new1 {v : Value} {o : Obj} {H : Heap → Prop} (B : Begins v o H) :
    Meets (Builtin.«enumerate.__new__» ⟨[.type "enumerate", v], []⟩) (fun _ R s => H s.heap ∧
      R (.ok (.ret (.ref (s.heap.push o).objs.size))) { s with heap := (s.heap.push o).push { cls := .type "enumerate", data := .fields #[.none, .bool false, .ref s.heap.objs.size, rawInt 0, .none, .none] } }) :=
  .of_wp fun prog w A R s h => by
    obtain ⟨hp, g, d, tk, os⟩ := s; obtain ⟨h1, h⟩ := h
    have hsub := sub_enumerate
    have q1 : ∀ {A' : Around} {E : Value → Shared → Prop} {Q : Value → Shared → Prop}, Q (.ref hp.objs.size) ⟨hp.push o, g, d, tk, os⟩ → wpAny (model prog w) A' (pyIter v) Q E ⟨hp, g, d, tk, os⟩ :=
      fun q => B.iter prog w _ _ ⟨hp, g, d, tk, os⟩ _ h1 q
    wp_walk using q1
    refine wpAny_stack_any fun st => wpAny_pure ?_
    split
    · rename_i c _ _ _ _ _
      cases (c == Value.type "enumerate")
      · wp_walk using q1
        exact ⟨_, rfl, h⟩
      · wp_walk using q1
        exact ⟨_, rfl, h⟩
    · wp_walk using q1
      exact ⟨_, rfl, h⟩
theorem call_enumerate_tuple {prog : Program} {w : World} {A : Around} {E : Value → Shared → Prop} {s : Shared} {l : Addr} {items : Array Value} {Q : Value → Shared → Prop} (hL : s.heap.IsTuple l items)
    (h : ∀ h', IsEnum h' (s.heap.objs.size + 1) s.heap.objs.size 0 .none → h'.get? s.heap.objs.size = some { cls := .type "tuple_iterator", data := .fields #[.ref l, .int 0 0] } → h'.objs.size = s.heap.objs.size + 2 →
      (∀ b o, s.heap.get? b = some o → h'.get? b = some o) → Q (.ref (s.heap.objs.size + 1)) { s with heap := h' }) :
    wpAny (model prog w) A (call (.type "enumerate") [.ref l]) Q E s := by
  refine callType_new F.called_enumerate (by decide) (F.typeCall_enumerate_1 _) (F.newCall_enumerate_1 _) (fun obj => F.args_object_init_2 obj _) F.entry_enumerate_new
    (meets_enumerate_new1 (begins_tuple l items)) ⟨hL, ?_⟩
  have hz : (s.heap.push { cls := .type "tuple_iterator", data := .fields #[.ref l, .int 0 0] }).objs.size = s.heap.objs.size + 1 := Heap.size_push ..
  show _ ∧ _
  rw [hz]
  have he : IsEnum ((s.heap.push { cls := .type "tuple_iterator", data := .fields #[.ref l, .int 0 0] }).push
      { cls := .type "enumerate", data := .fields #[.none, .bool false, .ref s.heap.objs.size, rawInt 0, .none, .none] }) (s.heap.objs.size + 1) s.heap.objs.size 0 .none := by
    have := Heap.get?_push_size (s.heap.push { cls := .type "tuple_iterator", data := .fields #[.ref l, .int 0 0] })
      (o := { cls := .type "enumerate", data := .fields #[.none, .bool false, .ref s.heap.objs.size, rawInt 0, .none, .none] }) rfl
    rw [hz] at this; exact this
  refine ⟨⟨_, he, rfl⟩, h _ he (Heap.get?_push_of_some _ (Heap.get?_push_size _ rfl)) (by rw [Heap.size_push, hz]) fun b o x => Heap.get?_push_of_some _ (Heap.get?_push_of_some _ x)⟩
/-- enumerate of a list or a tuple -/
def iEnumA (K : PySem.W.Frag) (ta : TA) : TI := fun σ H R => ta σ H fun vs H1 => ∃ a xs, vs = [.ref a] ∧ ((SqL K H1 a xs ∧ R (Ite K a) H1) ∨ (SqT K H1 a xs ∧ R (IteT K a) H1))
theorem pi_enumA {X : Cx} {e : Expr} {ta : TA} {p pos tpos : Pos} {elts : List Expr} {kk : Nat} (hg : Gl X "enumerate") (hm : X.mg "enumerate" = none) (ha : PA X [e] ta) (hs : starEach [e] X.env = [(false, eval e X.env)] := by rfl) :
    PI X (.Tuple elts kk tpos) (.Call (.Name "enumerate" p) [e] [] pos) (iEnumA X.K ta) := by
  refine ⟨fun pins s σ H R I h => ?_⟩
  refine Call_ (ld_blt I hg hm boot_enumerate (PyProof.Rows.callWith_type1 (thn (ha.run pos pins s σ H _ I h) fun us s1 ⟨vs, H1, I1, r1, q1⟩ => ?_) hs rfl))
  obtain ⟨a, xs, ex, q1⟩ := q1
  subst ex
  cases r1 with
  | cons r rr =>
    cases rr
    cases r
    have fp : ∀ b, b ∈ [s1.heap.objs.size + 1, s1.heap.objs.size] → FpOk X pins H1 b := fun b hb => by
      have e' : b = s1.heap.objs.size + 1 ∨ b = s1.heap.objs.size := by simpa using hb
      have hle : s1.heap.objs.size ≤ b := by
        rcases e' with z | z
        · rw [z]; exact Nat.le_add_right _ _
        · rw [z]; exact Nat.le_refl _
      exact I1.fpOk hle (I1.hok.fresh hle)
    rcases q1 with ⟨hq, q⟩ | ⟨hq, q⟩
    · obtain ⟨its, rv, p', hz⟩ := I1.list hq
      refine call_enumerate_list p'.isList fun h' he hit hsz hk => wpAny_pyIter_enum he ?_
      have I2 : Inv X pins σ H1 { s1 with heap := h' } := I1.kept (t' := s1.toks) hk
      exact ⟨s1.heap.objs.size + 1, [s1.heap.objs.size + 1, s1.heap.objs.size], _, _, H1, rfl, I2, turn_enum a (s1.heap.objs.size + 1) s1.heap.objs.size, ⟨⟨.none, he⟩, hit, Nat.succ_ne_self _⟩, fun b hb => fp b hb, q⟩
    · obtain ⟨its, rv, p', hz⟩ := I1.tuple hq
      have hal : a < s1.heap.objs.size := by obtain ⟨o, e, _⟩ := p'; exact Heap.lt_size e
      refine call_enumerate_tuple (items := its.toArray) p' fun h' he hit hsz hk => wpAny_pyIter_enum he ?_
      have I2 : Inv X pins σ H1 { s1 with heap := h' } := I1.kept (t' := s1.toks) hk
      exact ⟨s1.heap.objs.size + 1, [s1.heap.objs.size + 1, s1.heap.objs.size], _, _, H1, rfl, I2, turn_enumT a (s1.heap.objs.size + 1) s1.heap.objs.size (Nat.ne_of_lt hal) (Nat.ne_of_gt (Nat.lt_succ_of_lt hal)), ⟨⟨.none, he⟩, ⟨_, hit, rfl, rfl⟩, Nat.succ_ne_self _⟩, fun b hb => fp b hb, q⟩
/-- a walk over a list, a tuple or a text -/
def iAny (K : PySem.W.Frag) (tl : TE) : TI := fun σ H R => tl σ H fun v H1 => (∃ a xs, v = .ref a ∧ SqL K H1 a xs ∧ R (Itl K a) H1) ∨ (∃ a xs, v = .ref a ∧ SqT K H1 a xs ∧ R (Itt K a) H1) ∨ ∃ x, v = .str x ∧ R (Its x) H1
theorem pi_any {X : Cx} {tg e : Expr} {te : TE} (he : PE X e te) : PI X tg e (iAny X.K te) := by
  refine ⟨fun pins s σ H R I h => ?_⟩
  refine thn (he.run pins s σ H _ I h) fun v s1 ⟨y, H1, I1, r1, q⟩ => ?_
  rcases q with ⟨a, xs, e, hq, q⟩ | ⟨a, xs, e, hq, q⟩ | ⟨x, ex, q⟩
  · subst e
    cases r1
    obtain ⟨its, rv, p, hz⟩ := I1.list hq
    refine wpAny_pyIter_list p.isList ?_
    refine ⟨s1.heap.objs.size, [s1.heap.objs.size], _, _, H1, rfl, I1.kept (t' := s1.toks) fun b o e => Heap.get?_push_of_some _ e, turn_list a _, ⟨_, Heap.get?_push_size _ rfl, rfl, rfl⟩, fun b hb => ?_, q⟩
    have e : b = s1.heap.objs.size := by simpa using hb
    subst e
    exact I1.fpOk (Nat.le_refl _) (I1.hok.fresh (Nat.le_refl _))
  · subst e
    cases r1
    obtain ⟨its, rv, p, hz⟩ := I1.tuple hq
    refine wpAny_pyIter_tuple (show s1.heap.IsTuple a its.toArray from p) ?_
    refine ⟨s1.heap.objs.size, [s1.heap.objs.size], _, _, H1, rfl, I1.kept (t' := s1.toks) fun b o e => Heap.get?_push_of_some _ e, turn_tuple a _, ⟨_, Heap.get?_push_size _ rfl, rfl, rfl⟩, fun b hb => ?_, q⟩
    have e : b = s1.heap.objs.size := by simpa using hb
    subst e
    exact I1.fpOk (Nat.le_refl _) (I1.hok.fresh (Nat.le_refl _))
  · subst ex
    obtain ⟨t, rfl⟩ := r1
    cases ha : x.cps.all (· < 128)
    · exact wpAny_pyIter_wide ha (pi_one (tk := s1.toks) I1 _ (turn_str _ x t "str_iterator" (.inr rfl)) ⟨_, Heap.get?_push_size _ rfl, rfl, rfl⟩ q)
    · exact wpAny_pyIter_ascii ha (pi_one (tk := s1.toks) I1 _ (turn_str _ x t "str_ascii_iterator" (.inl rfl)) ⟨_, Heap.get?_push_size _ rfl, rfl, rfl⟩ q)
section
variable {p : Pr} {X : Cx} {W : WX} {K : PySem.W.Frag} {b : Bag} {G1 : Hp} {e tg : Expr} {te : TDE} {ts : TDA} {pos : Pos}
theorem iteT_ok {a : Addr} {ds : List D} {vs : List V} (h : SqT K G1 a vs) (r : Reps K G1 ds vs) : ItOk K b G1 (IteT K a) (enumD 0 ds) := by
  have l := r.length
  refine ⟨fun G H i s1 s2 hi => ?_, fun G H s1 s2 => ?_, fun G H i x H' s1 s2 hb hi hy => ?_⟩
  · rw [enumD_len] at hi
    exact ⟨vs, vs[i]'(by rw [← l]; exact hi), sameT s2 (sameT s1 h), by simp [l ▸ hi]⟩
  · rw [enumD_len]
    exact ⟨vs, sameT s2 (sameT s1 h), by rw [l]; exact Nat.le_refl _⟩
  · obtain ⟨T, y, rfl, hn, rfl, hy⟩ := hy
    obtain ⟨d, h1, h2⟩ := r.getV (hy vs (sameT s2 (sameT s1 h)))
    refine ⟨_, _, enumD_get ds 0 i d h1, Ext.laid s2 hb hn, rep_tup s2 hn ?_⟩
    rw [Nat.zero_add]
    exact Reps.cons (rep_sc rfl) (Reps.cons (h2.mono s1) Reps.nil)
/-- the items that a walk over a thing gives -/
def itemsD : D → Option (List D)
  | .lst ds => some ds
  | .tup ds => some ds
  | .str z => some (signsD z)
  | _ => none
def xiAny (te : TDE) : TDI := fun δ R E => te δ (fun d => ∃ ds, itemsD d = some ds ∧ R ds) E
theorem di_any (he : DE p X W e te) : DI p X W tg e (xiAny te) := by
  obtain ⟨t, h1, h2⟩ := he
  refine ⟨_, pi_any h1, fun G σ H δ R Rd Ed r q k x => ?_⟩
  refine h2 G σ H δ _ _ Ed r q (fun G1 H1 v d e1 r1 q1 => ?_) x
  obtain ⟨ds, q1, q2⟩ := q1
  cases d with
  | lst ds =>
    cases q1
    obtain ⟨c, vs, rfl, c1, c2⟩ := rep_lstI.mp r1
    exact .inl ⟨c, vs, rfl, SqL.of (e1.sub _ _ c1), k G1 H1 _ _ e1 (itl_ok c1 c2) q2⟩
  | tup ds =>
    cases q1
    obtain ⟨c, vs, rfl, c1, c2⟩ := rep_tupI.mp r1
    exact .inr (.inl ⟨c, vs, rfl, sameT e1.sub c1, k G1 H1 _ _ e1 (itt_ok c1 c2) q2⟩)
  | str z =>
    cases q1
    rw [rep_str.mp r1]
    exact .inr (.inr ⟨z, rfl, k G1 H1 _ _ e1 (its_ok z) q2⟩)
  | _ => cases q1
def xiEnumA (ts : TDA) : TDI := fun δ R E => ts δ (fun xs => ∃ ds, (xs = [.lst ds] ∨ xs = [.tup ds]) ∧ R (enumD 0 ds)) E
theorem di_enumA {p' tpos : Pos} {elts : List Expr} {kk : Nat} (hg : Gl X "enumerate") (hm : X.mg "enumerate" = none) (ha : DA p X W [e] ts) (hs : starEach [e] X.env = [(false, eval e X.env)] := by rfl) : DI p X W (.Tuple elts kk tpos) (.Call (.Name "enumerate" p') [e] [] pos) (xiEnumA ts) := by
  obtain ⟨a, a1, a2⟩ := ha
  refine ⟨_, pi_enumA hg hm a1 hs, fun G σ H δ R Rd Ed r q k x => ?_⟩
  refine a2 G σ H δ _ _ Ed r q (fun G1 H1 vs ds e1 r1 q1 => ?_) x
  obtain ⟨es, h | h, q1⟩ := q1
  · subst h
    obtain ⟨v, rfl, r2⟩ := reps1 r1
    obtain ⟨c, vs, rfl, c1, c2⟩ := rep_lstI.mp r2
    exact ⟨c, vs, rfl, .inl ⟨SqL.of (e1.sub _ _ c1), k G1 H1 _ _ e1 (ite_ok c1 c2) q1⟩⟩
  · subst h
    obtain ⟨v, rfl, r2⟩ := reps1 r1
    obtain ⟨c, vs, rfl, c1, c2⟩ := rep_tupI.mp r2
    exact ⟨c, vs, rfl, .inr ⟨sameT e1.sub c1, k G1 H1 _ _ e1 (iteT_ok c1 c2) q1⟩⟩
end
end DL

namespace DL
open PySem PySem.Spec PyProof.Rows L2 EX
section
variable {p : Pr} {X : Cx} {W : WX} {K : PySem.W.Frag} {G H : Hp} {σ : VSt} {δ : DSt} {e e1 e2 : Expr} {es : List Expr} {te ta tb : TDE} {ts : TDA} {pos : Pos}
def xDInO (neg : Bool) (j : Nat) (ta : TDE) : TDE := fun δ Q E => ∃ kvs, δ[j]? = some (.own (.dic kvs)) ∧ ta δ (fun y => ∃ k, keyD y = some k ∧ Q (.bl (if neg then !(valD kvs k).isSome else (valD kvs k).isSome))) E
theorem ref_dinO {t : TE} {j : Nat} (h2 : RefE K p W t ta) : RefE K p W (tDIn t (tVar j)) (xDInO false j ta) := by
  intro G σ H δ Q Qd Ed r q k x
  obtain ⟨kvs, hi, q⟩ := q
  refine h2 G σ H δ _ _ Ed r q (fun G1 H1 v d1 e1 r1 q1 => ?_) x
  obtain ⟨kk, hk, q3⟩ := q1
  obtain ⟨a, us, a1, a2, a3, a4, a5⟩ := own_dic (r.ext e1) hi
  rw [key_rep hk r1]
  refine ⟨.ref a, a1, a, valV us kk, rfl, DGet.k a4, ?_⟩
  rw [valD_some a5]
  exact k G1 H1 _ _ e1 (rep_sc rfl) q3
theorem ref_dninO {t : TE} {j : Nat} (h2 : RefE K p W t ta) : RefE K p W (tDNotIn t (tVar j)) (xDInO true j ta) := by
  intro G σ H δ Q Qd Ed r q k x
  obtain ⟨kvs, hi, q⟩ := q
  refine h2 G σ H δ _ _ Ed r q (fun G1 H1 v d1 e1 r1 q1 => ?_) x
  obtain ⟨kk, hk, q3⟩ := q1
  obtain ⟨a, us, a1, a2, a3, a4, a5⟩ := own_dic (r.ext e1) hi
  rw [key_rep hk r1]
  refine ⟨.ref a, a1, a, valV us kk, rfl, DGet.k a4, ?_⟩
  rw [valD_some a5]
  exact k G1 H1 _ _ e1 (rep_sc rfl) q3
section
variable {x : Str} {pn : Pos} (j : Nat)
theorem dt_dinO (hu : X.A.units + 64 < cLine) (ha : DE p X W e1 ta) (hN : X.N[j]? = some x := by rfl) (hv : Vis X.env.scope x := by first | exact Or.inl rfl | exact Or.inr (Or.inl rfl) | exact Or.inr (Or.inr rfl)) (hd : (x == ("__debug__" : Str)) = false := by decide) (hcd : (x == ("__classdict__" : Str)) = false := by decide)
    (hm : behindInMarks .In (.Name x pn) = false := by rfl) : DT p X W (.Compare e1 [.In] [.Name x pn] pos) (xTest (xDInO false j ta)) := by
  obtain ⟨t, h1, h2⟩ := ha
  exact ⟨_, pt_cmp (pc_din (by omega) h1 (pe_var hN hv hd hcd)) hm, refTest (ref_dinO h2)⟩
theorem dt_dnotinO (hu : X.A.units + 64 < cLine) (ha : DE p X W e1 ta) (hN : X.N[j]? = some x := by rfl) (hv : Vis X.env.scope x := by first | exact Or.inl rfl | exact Or.inr (Or.inl rfl) | exact Or.inr (Or.inr rfl)) (hd : (x == ("__debug__" : Str)) = false := by decide) (hcd : (x == ("__classdict__" : Str)) = false := by decide)
    (hm : behindInMarks .NotIn (.Name x pn) = false := by rfl) : DT p X W (.Compare e1 [.NotIn] [.Name x pn] pos) (xTest (xDInO true j ta)) := by
  obtain ⟨t, h1, h2⟩ := ha
  exact ⟨_, pt_cmp (pc_dnotin (by omega) h1 (pe_var hN hv hd hcd)) hm, refTest (ref_dninO h2)⟩
end
def dFmt (d : D) (Q : QD) : Prop := match d with
  | .str z => z.length ≤ sizeLine ∧ Q (.str z)
  | .int i => i.natAbs.log2 < 1920 ∧ Q (.str (toString i))
  | _ => False
def xFmt (te : TDE) : TDE := fun δ Q E => te δ (fun d => dFmt d Q) E
theorem d_fmt (he : DE p X W e te) : DE p X W (.FormattedValue e (-1) none pos) (xFmt te) := by
  obtain ⟨t, h1, h2⟩ := he
  refine ⟨_, pe_fmt h1, fun G σ H δ Q Qd Ed r q k x => ?_⟩
  refine h2 G σ H δ _ _ Ed r q (fun G1 H1 v d e1 r1 q1 => ?_) x
  cases d with
  | str z =>
    rw [rep_str.mp r1]
    exact .inl ⟨z, rfl, q1.1, k G1 H1 _ _ e1 (rep_sc rfl) q1.2⟩
  | int i =>
    rw [rep_int.mp r1]
    exact .inr ⟨i, rfl, q1.1, k G1 H1 _ _ e1 (rep_sc rfl) q1.2⟩
  | _ => exact q1.elim
inductive DJ (p : Pr) (X : Cx) (W : WX) : List Expr → List TDE → Prop
  | nil : DJ p X W [] []
  | cons {e : Expr} {t : TDE} {es : List Expr} {ts : List TDE} (h : DE p X W e t) (r : DJ p X W es ts) : DJ p X W (e :: es) (t :: ts)
def xJs : List TDE → Str → TDE
  | [], acc => fun _ Q _ => Q (.str acc)
  | t :: ts, acc => fun δ Q E => t δ (fun d => ∃ y : Str, d = .str y ∧ (acc ++ y).length ≤ sizeLine ∧ xJs ts (acc ++ y) δ Q E) E
theorem dj_ok {es : List Expr} {ts : List TDE} (h : DJ p X W es ts) : ∃ tv : List TE, PJ X es tv ∧ ∀ (acc : Str) (G : Hp) (σ : VSt) (H : Hp) (δ : DSt) (Q : Str → Hp → Prop) (Qd : QD) (Ed : XD), DR X.K p G σ H δ → xJs ts acc δ Qd Ed →
    (∀ G' H' z, Ext X.K p.b G H G' H' → Qd (.str z) → Q z H') → XOk X.K p.b W G σ H Ed → tJs tv acc σ H Q := by
  induction h with
  | nil => exact ⟨[], .nil, fun acc G σ H δ Q Qd Ed r q k x => k G H acc r.refl q⟩
  | cons h r ih =>
    obtain ⟨t, h1, h2⟩ := h
    obtain ⟨tv, h3, h4⟩ := ih
    refine ⟨t :: tv, .cons h1 h3, fun acc G σ H δ Q Qd Ed r q k x => ?_⟩
    refine h2 G σ H δ _ _ Ed r q (fun G1 H1 v d e1 r1 q1 => ?_) x
    obtain ⟨y, rfl, hz, q2⟩ := q1
    exact ⟨y, rep_str.mp r1, hz, h4 (acc ++ y) G1 σ H1 δ Q Qd Ed (r.ext e1) q2 (fun G2 H2 z e2 q3 => k G2 H2 z (e1.trans r.at e2) q3) (x.step r.at e1)⟩
theorem d_joined {v1 v2 : Expr} {rest : List Expr} {ts : List TDE} (h : DJ p X W (v1 :: v2 :: rest) ts) : DE p X W (.JoinedStr (v1 :: v2 :: rest) pos) (xJs ts Str.empty) := by
  obtain ⟨tv, h1, h2⟩ := dj_ok h
  exact ⟨_, pe_joined h1, fun G σ H δ Q Qd Ed r q k x => h2 Str.empty G σ H δ (fun out H1 => Q (.str out) H1) Qd Ed r q (fun G1 H1 z e1 q1 => k G1 H1 _ _ e1 (rep_sc rfl) q1) x⟩
theorem d_joined1 (he : DE p X W e te) : DE p X W (.JoinedStr [e] pos) te := by
  obtain ⟨t, h1, h2⟩ := he
  exact ⟨_, pe_joined1 h1, h2⟩
end
structure LcG (K : PySem.W.Frag) (b : Bag) (G1 H1 : Hp) (A : Addr) (G H : Hp) (us : List V) (ds : List D) : Prop where
  ext : Ext K b G1 H1 G H
  nG : G A = none
  at_ : H A = some (.lst us)
  reps : Reps K G ds us
section
variable {K : PySem.W.Frag} {b : Bag} {G1 H1 G H G' H' : Hp} {A : Addr} {us : List V} {ds : List D}
theorem LcG.start (s : Same G1 H1) (hb : BagOk K b G1 H1) (hA : H1 A = none) : LcG K b G1 H1 A G1 (upd H1 A (.lst [])) [] [] := by
  have nG : G1 A = none := s.free hA
  refine ⟨⟨Same.refl _, fun c o z => ?_, fun c o n t z => ?_, fun _ _ _ _ z => z, hb.new hA⟩, nG, upd_same, Reps.nil⟩
  · rw [upd_ne (ne_of_none z nG)]; exact s _ _ z
  · rw [upd_ne (ne_of_none z hA)]; exact z
theorem LcG.step (g : LcG K b G1 H1 A G H us ds) (nb : A ≠ b.a) (hb : H1 b.a ≠ none) (e : Ext K b G H G' H') : LcG K b G1 H1 A G' H' us ds := by
  refine ⟨g.ext.trans hb e, ?_, e.keep A _ nb nt_lst g.at_, g.reps.mono e.gg⟩
  cases w : G' A with
  | none => rfl
  | some o => exact absurd g.nG (e.new A _ g.at_ nt_lst (by rw [w]; exact fun v => nomatch v))
theorem LcG.snoc {d : D} {v : V} (g : LcG K b G1 H1 A G H us ds) (nb : A ≠ b.a) (hA : H1 A = none) (r : Rep K G d v) : LcG K b G1 H1 A G (upd H A (.lst (us ++ [v]))) (us ++ [v]) (ds ++ [d]) := by
  refine ⟨⟨g.ext.gg, fun c o z => ?_, fun c o n t z => ?_, g.ext.new, g.ext.bag.upd nb fun o z => by
      rw [g.at_] at z; cases z
      exact chg_lst⟩, g.nG, upd_same, g.reps.snoc r⟩
  · rw [upd_ne (ne_of_none z g.nG)]; exact g.ext.sub _ _ z
  · rw [upd_ne (ne_of_none z hA)]; exact g.ext.keep c o n t z
end
def compD2 (g : TDG) (tt : TDT) (ti1 : TDI) (vs1 : List Nat) (g1 : TDG) (tt1 : TDT) (te : TDE) (δ : DSt) : Nat → List D → (List D → Prop) → Prop
  | _, [], k => k []
  | n, d :: ds, k => g d δ fun δ1 => tt δ1 (fun b => if b = true then ti1 δ1 (fun items => n + items.length ≤ sizeLine ∧ compD g1 tt1 te (wipeD δ1 vs1) items fun ys => compD2 g tt ti1 vs1 g1 tt1 te δ (n + items.length) ds fun zs => k (ys ++ zs)) (fun _ _ => False)
      else compD2 g tt ti1 vs1 g1 tt1 te δ n ds k) (fun _ _ => False)
def xLc2 (vs vs1 : List Nat) (ti : TDI) (g : TDG) (tt : TDT) (ti1 : TDI) (g1 : TDG) (tt1 : TDT) (te : TDE) : DSt → (List D → Prop) → XD → Prop := fun δ Q E => ti δ (fun items => compD2 g tt ti1 vs1 g1 tt1 te (wipeD δ vs) 0 items Q) E
section
variable {p : Pr} {X : Cx} {W : WX} {K : PySem.W.Frag} {G H : Hp} {σ : VSt} {δ : DSt}
theorem item_drop {α : Type} {xs : List α} {i : Nat} {d : α} (hlt : i < xs.length) (h : xs[i]? = some d) : xs.drop i = d :: xs.drop (i + 1) := by
  rw [List.drop_eq_getElem_cons hlt]
  congr 1
  rw [List.getElem?_eq_getElem hlt] at h
  exact Option.some.inj h
theorem noX {b : Bag} {G : Hp} {σ : VSt} {H : Hp} : XOk K b (fun _ _ _ _ => False) G σ H (fun _ _ => False) := fun _ _ _ _ _ _ _ _ _ z => z
/-- a target sets values alone -/
def GdV (gd : TDG) : Prop := ∀ d δ Q, gd d δ Q → gd d δ fun δ' => Q δ' ∧ ∀ (j : Nat) (s : Sl), δ'[j]? = some s → s.mine = true → δ[j]? = some s
def GdsV (gd : TDGs) : Prop := ∀ d δ Q, gd d δ Q → gd d δ fun δ' => Q δ' ∧ ∀ (j : Nat) (s : Sl), δ'[j]? = some s → s.mine = true → δ[j]? = some s
theorem gdv_name (i : Nat) : GdV (zName i) := fun d δ Q q => ⟨q, fun j s h m => by
  by_cases e : i = j
  · subst e
    have hi : i < δ.length := by
      have := (List.getElem?_eq_some_iff.mp h).1
      rwa [List.length_set] at this
    rw [List.getElem?_set_self hi] at h; cases h; cases m
  · rw [List.getElem?_set_ne e] at h; exact h⟩
theorem gdsv_nil : GdsV zNil := fun d δ Q q => ⟨q.1, q.2, fun j s h m => h⟩
/-- readings of targets ask no more than what is asked behind -/
def GdM (gd : TDG) : Prop := ∀ d δ (Q Q' : DSt → Prop), (∀ δ', Q δ' → Q' δ') → gd d δ Q → gd d δ Q'
def GdsM (gd : TDGs) : Prop := ∀ d δ (Q Q' : DSt → Prop), (∀ δ', Q δ' → Q' δ') → gd d δ Q → gd d δ Q'
theorem gdm_name (i : Nat) : GdM (zName i) := fun d δ Q Q' h q => h _ q
theorem gdsm_nil : GdsM zNil := fun d δ Q Q' h q => ⟨q.1, h _ q.2⟩
theorem gdsm_cons {g : TDG} {gs : TDGs} (h1 : GdM g) (h2 : GdsM gs) : GdsM (zCons g gs) := fun ds δ Q Q' h q => by
  cases ds with
  | nil => exact q
  | cons d r => exact h1 _ _ _ _ (fun δ1 q1 => h2 _ _ _ _ h q1) q
theorem gdm_tup {n : Nat} {gs : TDGs} (h2 : GdsM gs) : GdM (zTup n gs) := fun d δ Q Q' h q => by
  cases d with
  | tup ds => exact ⟨q.1, h2 _ _ _ _ h q.2⟩
  | _ => exact q
theorem gdsv_cons {g : TDG} {gs : TDGs} (m1 : GdM g) (h1 : GdV g) (m2 : GdsM gs) (h2 : GdsV gs) : GdsV (zCons g gs) := fun ds δ Q q => by
  cases ds with
  | nil => exact q
  | cons d r => exact m1 _ _ _ _ (fun δ1 ⟨q1, w1⟩ => m2 _ _ _ _ (fun δ2 ⟨q2, w2⟩ => ⟨q2, fun j s h m => w1 j s (w2 j s h m) m⟩) (h2 _ _ _ q1)) (h1 _ _ _ q)
theorem gdv_tup {n : Nat} {gs : TDGs} (h2 : GdsV gs) : GdV (zTup n gs) := fun d δ Q q => by
  cases d with
  | tup ds => exact ⟨q.1, h2 _ _ _ q.2⟩
  | _ => exact q
theorem wipeD_len (δ : DSt) : ∀ vs : List Nat, (wipeD δ vs).length = δ.length
  | [] => rfl
  | i :: r => by
    show ((wipeD δ r).set i .non).length = _
    rw [List.length_set, wipeD_len δ r]
theorem wipeD_at {vs : List Nat} {j : Nat} {s : Sl} (h : j ∈ vs) (e : (wipeD δ vs)[j]? = some s) : s = .non := by
  induction vs with
  | nil => cases h
  | cons i r ih =>
    have e' : ((wipeD δ r).set i .non)[j]? = some s := e
    by_cases q : i = j
    · subst q
      have hi : i < (wipeD δ r).length := by
        have := (List.getElem?_eq_some_iff.mp e').1
        rwa [List.length_set] at this
      rw [List.getElem?_set_self hi] at e'; cases e'; rfl
    · rw [List.getElem?_set_ne q] at e'
      rcases List.mem_cons.mp h with z | z
      · exact absurd z.symm q
      · exact ih z e'
/-- growth, but for the thing at A -/
structure ExtA (K : PySem.W.Frag) (b : Bag) (A : Addr) (G H G' H' : Hp) : Prop where
  gg : Same G G'
  sub : Same G' H'
  keep : ∀ a o, a ≠ b.a → a ≠ A → NT o → H a = some o → H' a = some o
  new : ∀ a o, H a = some o → NT o → G' a ≠ none → G a ≠ none
  bag : BagOk K b G' H'
theorem ExtA.refl {b : Bag} {G1 H1 : Hp} {A : Addr} {us : List V} {ds : List D} (g : LcG K b G1 H1 A G H us ds) : ExtA K b A G H G H := ⟨Same.refl _, g.ext.sub, fun _ _ _ _ _ h => h, fun _ _ _ _ h => h, g.ext.bag⟩
theorem ExtA.step {b : Bag} {A : Addr} {G1 H1 G2 H2 : Hp} (x : ExtA K b A G H G1 H1) (nG : G2 A = none) (y : Ext K b G1 H1 G2 H2) : ExtA K b A G H G2 H2 :=
  ⟨x.gg.trans y.gg, y.sub, fun a o n m t h => y.keep a o n t (x.keep a o n m t h), fun a o h t g => by
    by_cases e : a = b.a
    · exact absurd (by rw [e]; exact y.bag.1) g
    · by_cases e2 : a = A
      · exact absurd (by rw [e2]; exact nG) g
      · exact x.new a o h t (y.new a o (x.keep a o e e2 t h) t g), y.bag⟩
theorem ExtA.upd {b : Bag} {A : Addr} {G0 H0 G1 H1 : Hp} {u : HO} {us : List V} {ds : List D} (x : ExtA K b A G H G1 H1) (g : LcG K b G0 H0 A G1 (L2.upd H1 A u) us ds) : ExtA K b A G H G1 (L2.upd H1 A u) :=
  ⟨x.gg, g.ext.sub, fun a o n m t h => by rw [upd_ne m]; exact x.keep a o n m t h, x.new, g.ext.bag⟩
theorem DR.alt {A : Addr} {G' H' : Hp} (r : DR K p G σ H δ) (h0 : Fr0 p.H0 A) (hn : ∀ (j : Nat) (s : Sl), δ[j]? = some s → s.mine = true → σ[j]? ≠ some (some (.ref A))) (x : ExtA K p.b A G H G' H') : DR K p G' σ H' δ where
  base := r.base.trans x.gg
  sub := x.sub
  keep := fun a o n t h => x.keep a o n (fun e => h0 o (by rw [← e]; exact h) t) t (r.keep a o n t h)
  new := fun a o h t g => by
    by_cases e : a = p.b.a
    · exact absurd (by rw [e]; exact x.bag.1) g
    · exact r.new a o h t (x.new a o (r.keep a o e t h) t g)
  bag := x.bag
  bin := r.bin
  len := r.len
  slot := fun i s e => (r.slot i s e).mono x.gg (fun a u w1 w2 _ h2 => by
    cases z : G' a with
    | none => rfl
    | some u' => exact absurd h2 (x.new a u w1 w2.1 (by rw [z]; exact fun y => nomatch y))) fun a u h3 t hu ⟨_, _, m, ha⟩ => x.keep a u (r.nb h3) (fun z => hn i s e m (by rw [← z]; exact ha)) t hu
  dis := r.dis
theorem ref_lc2 {vs vs1 ix ix1 : List Nat} {wi wi1 : TI} {g g1 : TG} {t t1 : TT} {e : TE} {ti ti1 : TDI} {gd gd1 : TDG} {td td1 : TDT} {ed : TDE} (hv : GdV gd) (hs : ∀ j ∈ ix, j ∈ vs) (hs1 : ∀ j ∈ ix1, j ∈ vs1) (hi : RefI K p W wi ti) (hg : RefG K p ix g gd) (ht : RefT K p W0 t td)
    (hi1 : RefI K p W0 wi1 ti1) (hg1 : RefG K p ix1 g1 gd1) (ht1 : RefT K p W0 t1 td1) (he : RefE K p W0 e ed)
    {Q : VK} {Qd : List D → Prop} {Ed : XD} (r : DR K p G σ H δ) (q : xLc2 vs vs1 ti gd td ti1 gd1 td1 ed δ Qd Ed)
    (k : ∀ G' H' a ds us, Ext K p.b G H G' H' → H' a = some (.lst us) → Reps K G' ds us → G' a = none → Fr0 H a → Qd ds → Q (.ref a) H') (x : XOk K p.b W G σ H Ed) : tLc2 wi g t wi1 g1 t1 e vs vs1 σ H Q := by
  refine hi G σ H δ _ _ Ed r q (fun G1 H1 J items e1 it q1 => ?_) x
  intro A hA
  have r1 := r.ext e1
  have hb1 := r1.at
  have nb : A ≠ p.b.a := fun z => hb1 (by rw [← z]; exact hA)
  have hHA : Fr0 H A := fun o z t => by rw [e1.keep A o nb t z] at hA; cases hA
  refine ⟨fun i m H => m = items.length - i ∧ i ≤ items.length ∧ ∃ G us ds n, LcG K p.b G1 H1 A G H us ds ∧ us.length ≤ n ∧ compD2 gd td ti1 vs1 gd1 td1 ed (wipeD δ vs) n (items.drop i) (fun ys => Qd (ds ++ ys)),
    ⟨_, rfl, Nat.zero_le _, G1, [], [], 0, LcG.start e1.sub e1.bag hA, Nat.le_refl _, q1⟩, ?_⟩
  rintro i m H2 ⟨rfl, hi', G2, us, ds, n, lg2, hl2, q2⟩
  by_cases hlt : i < items.length
  · refine .inr ⟨it.go G2 H2 i lg2.ext.gg lg2.ext.sub hlt, fun H => ∃ G us ds n, LcG K p.b G1 H1 A G H us ds ∧ us.length ≤ n ∧ compD2 gd td ti1 vs1 gd1 td1 ed (wipeD δ vs) n (items.drop (i + 1)) (fun ys => Qd (ds ++ ys)),
      fun H' z => ⟨items.length - (i + 1), by omega, rfl, hlt, z⟩, fun y H' hy => ?_⟩
    obtain ⟨G3, d, h3, e3, r3⟩ := it.yld G2 H2 i y H' lg2.ext.gg lg2.ext.sub lg2.ext.bag hlt hy
    rw [item_drop hlt h3] at q2
    have lg3 := lg2.step nb hb1 e3
    have r3' : DR K p G3 (L2.wipe σ vs) H' (wipeD δ vs) := (r1.ext lg3.ext).wipe vs
    refine hg G3 (L2.wipe σ vs) H' (wipeD δ vs) d y _ _ r3' r3 (hv _ _ _ q2) fun G4 σ4 H4 δ4 s4 r4 k4 n4 o4 ⟨q4, mine4⟩ => ?_
    have lg4 := lg3.step nb hb1 ⟨s4, r4.sub, k4, n4, r4.bag⟩
    refine ⟨wipe_outs o4 hs, ?_⟩
    refine ht G4 σ4 H4 δ4 _ _ _ r4 q4 (fun G5 H5 b e5 q5 => ?_) noX
    have lg5 := lg4.step nb hb1 e5
    have r5 := r4.ext e5
    cases b with
    | false =>
      rw [if_neg Bool.false_ne_true] at q5 ⊢
      exact ⟨G5, us, ds, n, lg5, hl2, q5⟩
    | true =>
      rw [if_pos rfl] at q5 ⊢
      refine hi1 G5 σ4 H5 δ4 _ _ _ r5 q5 (fun G6 H6 J1 items1 e6 it1 q6 => ?_) noX
      obtain ⟨hz, q6⟩ := q6
      have lg6 := lg5.step nb hb1 e6
      have r6 := r5.ext e6
      have hn6 : ∀ (j : Nat) (s : Sl), δ4[j]? = some s → s.mine = true → σ4[j]? ≠ some (some (.ref A)) := fun j s hj m z => by
        have w := mine4 j s hj m
        obtain ⟨ad, wa⟩ := (r3'.slot j s w).ad m
        have nj : j ∉ ix := fun hji => by
          have := wipeD_at (vs := vs) (hs j hji) w
          rw [this] at m; cases m
        rw [o4.2 j nj, wa] at z
        cases z
        have r1w : DR K p G1 (L2.wipe σ vs) H1 (wipeD δ vs) := r1.wipe vs
        obtain ⟨_, _, u, u1, u2⟩ := (r1w.slot j s w).mineN m wa
        rw [hA] at u1; cases u1
      -- the inner loop
      refine ⟨fun j kk H => kk = items1.length - j ∧ j ≤ items1.length ∧ ∃ G us' ds', LcG K p.b G1 H1 A G H us' ds' ∧ ExtA K p.b A G6 H6 G H ∧ us'.length ≤ n + j ∧ compD gd1 td1 ed (wipeD δ4 vs1) (items1.drop j) (fun ys => compD2 gd td ti1 vs1 gd1 td1 ed (wipeD δ vs) (n + items1.length) (items.drop (i + 1)) fun zs => Qd (ds' ++ (ys ++ zs))),
        ⟨_, rfl, Nat.zero_le _, G6, us, ds, lg6, ExtA.refl lg6, hl2, q6⟩, ?_⟩
      rintro j kk H7 ⟨rfl, hj', G7, us', ds', lg7, e67, hl7, q7⟩
      by_cases hjt : j < items1.length
      · refine .inr ⟨it1.go G7 H7 j e67.gg lg7.ext.sub hjt, fun H => ∃ G us' ds', LcG K p.b G1 H1 A G H us' ds' ∧ ExtA K p.b A G6 H6 G H ∧ us'.length ≤ n + (j + 1) ∧ compD gd1 td1 ed (wipeD δ4 vs1) (items1.drop (j + 1)) (fun ys => compD2 gd td ti1 vs1 gd1 td1 ed (wipeD δ vs) (n + items1.length) (items.drop (i + 1)) fun zs => Qd (ds' ++ (ys ++ zs))),
          fun H' z => ⟨items1.length - (j + 1), by omega, rfl, hjt, z⟩, fun y1 H8 hy1 => ?_⟩
        obtain ⟨G8, d1, h8, e8, r8⟩ := it1.yld G7 H7 j y1 H8 e67.gg lg7.ext.sub lg7.ext.bag hjt hy1
        rw [item_drop hjt h8] at q7
        have lg8 := lg7.step nb hb1 e8
        have e68 := e67.step lg8.nG e8
        have r8' : DR K p G8 (L2.wipe σ4 vs1) H8 (wipeD δ4 vs1) := (r6.alt (h0_none r hHA) hn6 e68).wipe vs1
        refine hg1 G8 (L2.wipe σ4 vs1) H8 (wipeD δ4 vs1) d1 y1 _ _ r8' r8 q7 fun G9 σ9 H9 δ9 s9 r9 k9 n9 o9 q9 => ?_
        have e9 : Ext K p.b G8 H8 G9 H9 := ⟨s9, r9.sub, k9, n9, r9.bag⟩
        have lg9 := lg8.step nb hb1 e9
        have e69 := e68.step lg9.nG e9
        refine ⟨wipe_outs o9 hs1, ?_⟩
        refine ht1 G9 σ9 H9 δ9 _ _ _ r9 q9 (fun G10 H10 b1 e10 q10 => ?_) noX
        have lg10 := lg9.step nb hb1 e10
        have e610 := e69.step lg10.nG e10
        cases b1 with
        | false =>
          rw [if_neg Bool.false_ne_true] at q10 ⊢
          exact ⟨G10, us', ds', lg10, e610, by omega, q10⟩
        | true =>
          rw [if_pos rfl] at q10 ⊢
          refine he G10 σ9 H10 δ9 _ _ _ (r9.ext e10) q10 (fun G11 H11 v d11 e11 r11 q11 => ?_) noX
          have lg11 := lg10.step nb hb1 e11
          have lg12 := lg11.snoc nb hA r11
          have e611 := e610.step lg11.nG e11
          refine ⟨us', lg11.at_, by omega, G11, us' ++ [v], ds' ++ [d11], lg12, e611.upd lg12, by rw [List.length_append, List.length_singleton]; omega, ?_⟩
          · have eq : (fun ys => compD2 gd td ti1 vs1 gd1 td1 ed (wipeD δ vs) (n + items1.length) (items.drop (i + 1)) fun zs => Qd (ds' ++ ((d11 :: ys) ++ zs))) = fun ys => compD2 gd td ti1 vs1 gd1 td1 ed (wipeD δ vs) (n + items1.length) (items.drop (i + 1)) fun zs => Qd (ds' ++ [d11] ++ (ys ++ zs)) := by
              funext ys
              congr 1
              funext zs
              rw [List.append_assoc]; rfl
            rw [← eq]
            exact q11
      · have ej : j = items1.length := by omega
        subst ej
        rw [List.drop_length] at q7
        refine .inl ⟨it1.stop G7 H7 e67.gg lg7.ext.sub, G7, us', ds', n + items1.length, lg7, hl7, ?_⟩
        exact q7
  · have e : i = items.length := by omega
    subst e
    rw [List.drop_length] at q2
    have q3 : Qd (ds ++ []) := q2
    rw [List.append_nil] at q3
    exact .inl ⟨it.stop G2 H2 lg2.ext.gg lg2.ext.sub, k G2 H2 A ds us (e1.trans r.at lg2.ext) lg2.at_ lg2.reps lg2.nG hHA q3⟩
end
end DL

namespace DL
open PySem PySem.Spec PyProof.Rows L2 EX
section
variable {p : Pr} {X : Cx} {W : WX} {K : PySem.W.Frag} {G H : Hp} {σ : VSt} {δ : DSt} {elt iter iter1 tg tg1 kx vx : Expr} {ifs ifs1 : List Expr} {scope : Scope} {ix ix1 : List Nat} {ti ti1 : TDI} {g g1 : TDG} {tt tt1 : TDT} {te tk tv : TDE} {pos : Pos}
/-- one reading for all of a block's entries -/
theorem uniI (hi : ∀ (s : Shared) (H : Hp) (C : Addr) (cl : List (Str × Addr)) (fp : List Addr), DI p (X.blk s H scope (compEnvC scope cl C X.env) fp) W0 tg iter ti) :
    ∃ wi : TI, (∀ (s : Shared) (H : Hp) (C : Addr) (cl : List (Str × Addr)) (fp : List Addr), PI (X.blk s H scope (compEnvC scope cl C X.env) fp) tg iter wi) ∧ RefI X.K p W0 wi ti := by
  refine ⟨fun σ H R => ∀ (s : Shared) (H' : Hp) (C : Addr) (cl : List (Str × Addr)) (fp : List Addr), ∃ w, PI (X.blk s H' scope (compEnvC scope cl C X.env) fp) tg iter w ∧ w σ H R, fun s H C cl fp => ⟨fun pins s' σ H' R I h => ?_⟩, ?_⟩
  · obtain ⟨g', h1, h2⟩ := h s H C cl fp
    exact h1.run pins s' σ H' R I h2
  · intro G σ H δ R Rd Ed r q k x s H' C cl fp
    obtain ⟨g', h1, h2⟩ := hi s H' C cl fp
    exact ⟨g', h1, h2 G σ H δ R Rd Ed r q k x⟩
theorem uniG (hg : ∀ (s : Shared) (H : Hp) (C : Addr) (cl : List (Str × Addr)) (fp : List Addr), DG p (X.blk s H scope (compEnvC scope cl C X.env) fp) tg ix g) :
    ∃ gv : TG, (∀ (s : Shared) (H : Hp) (C : Addr) (cl : List (Str × Addr)) (fp : List Addr), PG (X.blk s H scope (compEnvC scope cl C X.env) fp) tg gv) ∧ RefG X.K p ix gv g := by
  refine ⟨fun v σ H Q => ∀ (s : Shared) (H' : Hp) (C : Addr) (cl : List (Str × Addr)) (fp : List Addr), ∃ g, PG (X.blk s H' scope (compEnvC scope cl C X.env) fp) tg g ∧ g v σ H Q, fun s H C cl fp => ⟨fun pins s' σ H' v u Q I r h => ?_⟩, ?_⟩
  · obtain ⟨g', h1, h2⟩ := h s H C cl fp
    exact h1.run pins s' σ H' v u Q I r h2
  · intro G σ H δ d v Q Qd r rv q k s H' C cl fp
    obtain ⟨g', h1, h2⟩ := hg s H' C cl fp
    exact ⟨g', h1, h2 G σ H δ d v Q Qd r rv q k⟩
theorem uniT (ht : ∀ (s : Shared) (H : Hp) (C : Addr) (cl : List (Str × Addr)) (fp : List Addr), DTs p (X.blk s H scope (compEnvC scope cl C X.env) fp) W0 ifs tt) :
    ∃ tv : TT, (∀ (s : Shared) (H : Hp) (C : Addr) (cl : List (Str × Addr)) (fp : List Addr), PTs (X.blk s H scope (compEnvC scope cl C X.env) fp) ifs tv) ∧ RefT X.K p W0 tv tt := by
  refine ⟨fun σ H Q => ∀ (s : Shared) (H' : Hp) (C : Addr) (cl : List (Str × Addr)) (fp : List Addr), ∃ t, PTs (X.blk s H' scope (compEnvC scope cl C X.env) fp) ifs t ∧ t σ H Q, fun s H C cl fp => ⟨fun pins s' σ H' Q I h => ?_⟩, ?_⟩
  · obtain ⟨g', h1, h2⟩ := h s H C cl fp
    exact h1.run pins s' σ H' Q I h2
  · intro G σ H δ Q Qd Ed r q k x s H' C cl fp
    obtain ⟨g', h1, h2⟩ := ht s H' C cl fp
    exact ⟨g', h1, h2 G σ H δ Q Qd Ed r q k x⟩
theorem uniE (he : ∀ (s : Shared) (H : Hp) (C : Addr) (cl : List (Str × Addr)) (fp : List Addr), DE p (X.blk s H scope (compEnvC scope cl C X.env) fp) W0 elt te) :
    ∃ ev : TE, (∀ (s : Shared) (H : Hp) (C : Addr) (cl : List (Str × Addr)) (fp : List Addr), PE (X.blk s H scope (compEnvC scope cl C X.env) fp) elt ev) ∧ RefE X.K p W0 ev te := by
  refine ⟨fun σ H Q => ∀ (s : Shared) (H' : Hp) (C : Addr) (cl : List (Str × Addr)) (fp : List Addr), ∃ t, PE (X.blk s H' scope (compEnvC scope cl C X.env) fp) elt t ∧ t σ H Q, fun s H C cl fp => ⟨fun pins s' σ H' Q I h => ?_⟩, ?_⟩
  · obtain ⟨g', h1, h2⟩ := h s H C cl fp
    exact h1.run pins s' σ H' Q I h2
  · intro G σ H δ Q Qd Ed r q k x s H' C cl fp
    obtain ⟨g', h1, h2⟩ := he s H' C cl fp
    exact ⟨g', h1, h2 G σ H δ Q Qd Ed r q k x⟩
/-- y = [.. for .. for ..] on one line, y a local -/
def ySetLc2 (S : List Nat) (i : Nat) (vs vs1 : List Nat) (ti : TDI) (g : TDG) (tt : TDT) (ti1 : TDI) (g1 : TDG) (tt1 : TDT) (te : TDE) : TDS := fun Dd δ => xLc2 vs vs1 ti g tt ti1 g1 tt1 te (frz S δ) (fun ds => Dd.nx ((frz S δ).set i (.val (.lst ds)))) (fun c fs => Dd.xc c fs (frz S δ))
theorem ds_setLc2 (S : List Nat) (i : Nat) (own : List (Str × Nat)) (vs1 : List Nat) {y : Str} {py spos : Pos} (hsub : ∀ j ∈ ix, j ∈ own.map (·.2)) (hsub1 : ∀ j ∈ ix1, j ∈ vs1) (hv1 : ∀ i ∈ vs1, i ∈ own.map (·.2)) (hc : X.calm = true) (hN : X.N.Nodup) (ok : BlkOk X.N X.env.scope scope own) (hv : GdV g) (hi : DI p X W tg iter ti)
    (hg : ∀ (s : Shared) (H : Hp) (C : Addr) (cl : List (Str × Addr)) (fp : List Addr), DG p (X.blk s H scope (compEnvC scope cl C X.env) fp) tg ix g)
    (ht : ∀ (s : Shared) (H : Hp) (C : Addr) (cl : List (Str × Addr)) (fp : List Addr), DTs p (X.blk s H scope (compEnvC scope cl C X.env) fp) W0 ifs tt)
    (hi1 : ∀ (s : Shared) (H : Hp) (C : Addr) (cl : List (Str × Addr)) (fp : List Addr), DI p (X.blk s H scope (compEnvC scope cl C X.env) fp) W0 tg1 iter1 ti1)
    (hg1 : ∀ (s : Shared) (H : Hp) (C : Addr) (cl : List (Str × Addr)) (fp : List Addr), DG p (X.blk s H scope (compEnvC scope cl C X.env) fp) tg1 ix1 g1)
    (ht1 : ∀ (s : Shared) (H : Hp) (C : Addr) (cl : List (Str × Addr)) (fp : List Addr), DTs p (X.blk s H scope (compEnvC scope cl C X.env) fp) W0 ifs1 tt1)
    (he : ∀ (s : Shared) (H : Hp) (C : Addr) (cl : List (Str × Addr)) (fp : List Addr), DE p (X.blk s H scope (compEnvC scope cl C X.env) fp) W0 elt te)
    (hsw : swapsWith (.ListComp elt [⟨tg, iter, ifs, 0⟩, ⟨tg1, iter1, ifs1, 0⟩] scope pos) (some (.Name y py)) spos.line X.env = pure true) (hy : X.N[i]? = some y := by rfl) (hyl : X.env.scope.names.lookup y = some .local := by rfl)
    (hs : ∀ x, foldedSetIterable iter X.env x = pure x := by intro _; rfl) (hs1 : ∀ env x, foldedSetIterable iter1 env x = pure x := by intro _ _; rfl) : DS p X W (.Assign [.Name y py] (.ListComp elt [⟨tg, iter, ifs, 0⟩, ⟨tg1, iter1, ifs1, 0⟩] scope pos) spos) (ySetLc2 S i (own.map (·.2)) vs1 ti g tt ti1 g1 tt1 te) := by
  obtain ⟨wi, w1, w2⟩ := hi
  obtain ⟨gv, g1', g2'⟩ := uniG hg
  obtain ⟨tv', t1', t2'⟩ := uniT ht
  obtain ⟨wi1, w1', w2'⟩ := uniI hi1
  obtain ⟨gv1, g3', g4'⟩ := uniG hg1
  obtain ⟨tv1, t3', t4'⟩ := uniT ht1
  obtain ⟨ev, e1', e2'⟩ := uniE he
  refine ⟨_, ps_setLc2 (i := i) hc hN hy hyl hsw w1 ok hv1 g1' t1' w1' g3' t3' e1' hs hs1, fun Gb G σ H δ D Dd s r q h => ?_⟩
  obtain ⟨G1, s1, r1⟩ := DR.freeze (S := S) r
  show tLc2 wi gv tv' wi1 gv1 tv1 ev (own.map (·.2)) vs1 σ H (fun x H1 => gName i x σ H1 D.nx)
  refine ref_lc2 hv hsub hsub1 w2 g2' t2' w2' g4' t4' e2' r1 q (fun G' H' a ds us e h1 h2 h3 h4 q' => ?_) (h.x (s.trans s1) r1)
  obtain ⟨e', r'⟩ := lst_join e r1.bag.atN h1 h2 h3 h4
  exact h.nx _ _ H' _ ((s.trans s1).trans e'.gg) ((r1.ext e').set (s := .val (.lst ds)) ⟨.ref a, rfl, r'⟩) q'
/-- .. as a value -/
def xLc2E (vs vs1 : List Nat) (ti : TDI) (g : TDG) (tt : TDT) (ti1 : TDI) (g1 : TDG) (tt1 : TDT) (te : TDE) : TDE := fun δ Q E => xLc2 vs vs1 ti g tt ti1 g1 tt1 te δ (fun ds => Q (.lst ds)) E
theorem d_lc2 (own : List (Str × Nat)) (vs1 : List Nat) (hsub : ∀ j ∈ ix, j ∈ own.map (·.2)) (hsub1 : ∀ j ∈ ix1, j ∈ vs1) (hv1 : ∀ i ∈ vs1, i ∈ own.map (·.2)) (hc : X.calm = true) (hN : X.N.Nodup) (ok : BlkOk X.N X.env.scope scope own) (hv : GdV g) (hi : DI p X W tg iter ti)
    (hg : ∀ (s : Shared) (H : Hp) (C : Addr) (cl : List (Str × Addr)) (fp : List Addr), DG p (X.blk s H scope (compEnvC scope cl C X.env) fp) tg ix g)
    (ht : ∀ (s : Shared) (H : Hp) (C : Addr) (cl : List (Str × Addr)) (fp : List Addr), DTs p (X.blk s H scope (compEnvC scope cl C X.env) fp) W0 ifs tt)
    (hi1 : ∀ (s : Shared) (H : Hp) (C : Addr) (cl : List (Str × Addr)) (fp : List Addr), DI p (X.blk s H scope (compEnvC scope cl C X.env) fp) W0 tg1 iter1 ti1)
    (hg1 : ∀ (s : Shared) (H : Hp) (C : Addr) (cl : List (Str × Addr)) (fp : List Addr), DG p (X.blk s H scope (compEnvC scope cl C X.env) fp) tg1 ix1 g1)
    (ht1 : ∀ (s : Shared) (H : Hp) (C : Addr) (cl : List (Str × Addr)) (fp : List Addr), DTs p (X.blk s H scope (compEnvC scope cl C X.env) fp) W0 ifs1 tt1)
    (he : ∀ (s : Shared) (H : Hp) (C : Addr) (cl : List (Str × Addr)) (fp : List Addr), DE p (X.blk s H scope (compEnvC scope cl C X.env) fp) W0 elt te)
    (hs : ∀ x, foldedSetIterable iter X.env x = pure x := by intro _; rfl) (hs1 : ∀ env x, foldedSetIterable iter1 env x = pure x := by intro _ _; rfl) : DE p X W (.ListComp elt [⟨tg, iter, ifs, 0⟩, ⟨tg1, iter1, ifs1, 0⟩] scope pos) (xLc2E (own.map (·.2)) vs1 ti g tt ti1 g1 tt1 te) := by
  obtain ⟨wi, w1, w2⟩ := hi
  obtain ⟨gv, g1', g2'⟩ := uniG hg
  obtain ⟨tv', t1', t2'⟩ := uniT ht
  obtain ⟨wi1, w1', w2'⟩ := uniI hi1
  obtain ⟨gv1, g3', g4'⟩ := uniG hg1
  obtain ⟨tv1, t3', t4'⟩ := uniT ht1
  obtain ⟨ev, e1', e2'⟩ := uniE he
  refine ⟨_, pe_lc2 hc hN w1 ok hv1 g1' t1' w1' g3' t3' e1' hs hs1, fun G σ H δ Q Qd Ed r q k x => ?_⟩
  refine ref_lc2 hv hsub hsub1 w2 g2' t2' w2' g4' t4' e2' r q (fun G' H' a ds us e h1 h2 h3 h4 q' => ?_) x
  obtain ⟨e', r'⟩ := lst_join e r.bag.atN h1 h2 h3 h4
  exact k _ H' _ _ e' r' q'
def compDc (g : TDG) (tt : TDT) (tk tv : TDE) (δ : DSt) : List (Key × D) → List D → (List (Key × D) → Prop) → Prop
  | acc, [], k => k acc
  | acc, d :: ds, k => g d δ fun δ1 => tt δ1 (fun b => if b = true then tk δ1 (fun y => tv δ1 (fun z => ∃ kk, keyD y = some kk ∧ compDc g tt tk tv δ (putD acc kk z) ds k) (fun _ _ => False)) (fun _ _ => False) else compDc g tt tk tv δ acc ds k) (fun _ _ => False)
def xDc (vs : List Nat) (ti : TDI) (g : TDG) (tt : TDT) (tk tv : TDE) : TDE := fun δ Q E => ti δ (fun items => items.length ≤ sizeLine ∧ compDc g tt tk tv (wipeD δ vs) [] items (fun kvs => Q (.dic kvs))) E
structure DcG (K : PySem.W.Frag) (b : Bag) (G1 H1 : Hp) (A : Addr) (G H : Hp) (us : List (Key × V)) (ds : List (Key × D)) : Prop where
  ext : Ext K b G1 H1 G H
  nG : G A = none
  at_ : H A = some (.dK us)
  reps : RepsK K G ds us
theorem DcG.start {b : Bag} {G1 H1 : Hp} {A : Addr} (s : Same G1 H1) (hb : BagOk K b G1 H1) (hA : H1 A = none) : DcG K b G1 H1 A G1 (upd H1 A (.dK [])) [] [] := by
  have nG : G1 A = none := s.free hA
  refine ⟨⟨Same.refl _, fun c o z => ?_, fun c o n t z => ?_, fun _ _ _ _ z => z, hb.new hA⟩, nG, upd_same, RepsK.nil⟩
  · rw [upd_ne (ne_of_none z nG)]; exact s _ _ z
  · rw [upd_ne (ne_of_none z hA)]; exact z
theorem DcG.step {b : Bag} {G1 H1 G' H' : Hp} {A : Addr} {us : List (Key × V)} {ds : List (Key × D)} (g : DcG K b G1 H1 A G H us ds) (nb : A ≠ b.a) (hb : H1 b.a ≠ none) (e : Ext K b G H G' H') : DcG K b G1 H1 A G' H' us ds := by
  refine ⟨g.ext.trans hb e, ?_, e.keep A _ nb nt_dK g.at_, g.reps.mono e.gg⟩
  cases w : G' A with
  | none => rfl
  | some o => exact absurd g.nG (e.new A _ g.at_ nt_dK (by rw [w]; exact fun v => nomatch v))
theorem DcG.put {b : Bag} {G1 H1 : Hp} {A : Addr} {us : List (Key × V)} {ds : List (Key × D)} {d : D} {v : V} {k : Key} (g : DcG K b G1 H1 A G H us ds) (nb : A ≠ b.a) (hA : H1 A = none) (r : Rep K G d v) : DcG K b G1 H1 A G (upd H A (.dK (putK us k v))) (putK us k v) (putD ds k d) := by
  refine ⟨⟨g.ext.gg, fun c o z => ?_, fun c o n t z => ?_, g.ext.new, g.ext.bag.upd nb fun o z => by
      rw [g.at_] at z; cases z
      exact chg_dK⟩, g.nG, upd_same, put_rep g.reps r⟩
  · rw [upd_ne (ne_of_none z g.nG)]; exact g.ext.sub _ _ z
  · rw [upd_ne (ne_of_none z hA)]; exact g.ext.keep c o n t z
theorem putD_len (kvs : List (Key × D)) (k : Key) (d : D) : (putD kvs k d).length ≤ kvs.length + 1 := by
  unfold putD
  split
  · rw [List.length_map]; omega
  · rw [List.length_append]; exact Nat.le_refl _
theorem ref_dc {vs ix : List Nat} {wi : TI} {gg : TG} {t : TT} {ek ev : TE} (hs : ∀ j ∈ ix, j ∈ vs) (hi : RefI K p W wi ti) (hg : RefG K p ix gg g) (ht : RefT K p W0 t tt) (hk : RefE K p W0 ek tk) (he : RefE K p W0 ev tv) : RefE K p W (tDc wi gg t ek ev vs) (xDc vs ti g tt tk tv) := by
  intro G σ H δ Q Qd Ed r q k x
  refine hi G σ H δ _ _ Ed r q (fun G1 H1 J items e1 it q1 => ?_) x
  intro A hA
  obtain ⟨hz, q1⟩ := q1
  have r1 := r.ext e1
  have hb1 := r1.at
  have nb : A ≠ p.b.a := fun z => hb1 (by rw [← z]; exact hA)
  have hHA : Fr0 H A := fun o z t => by rw [e1.keep A o nb t z] at hA; cases hA
  refine ⟨fun i m H => m = items.length - i ∧ i ≤ items.length ∧ ∃ G us ds, DcG K p.b G1 H1 A G H us ds ∧ us.length ≤ i ∧ compDc g tt tk tv (wipeD δ vs) ds (items.drop i) (fun kvs => Qd (.dic kvs)),
    ⟨_, rfl, Nat.zero_le _, G1, [], [], DcG.start e1.sub e1.bag hA, Nat.le_refl _, q1⟩, ?_⟩
  rintro i m H2 ⟨rfl, hi', G2, us, ds, lg2, hl2, q2⟩
  by_cases hlt : i < items.length
  · refine .inr ⟨it.go G2 H2 i lg2.ext.gg lg2.ext.sub hlt, fun H => ∃ G us ds, DcG K p.b G1 H1 A G H us ds ∧ us.length ≤ i + 1 ∧ compDc g tt tk tv (wipeD δ vs) ds (items.drop (i + 1)) (fun kvs => Qd (.dic kvs)),
      fun H' z => ⟨items.length - (i + 1), by omega, rfl, hlt, z⟩, fun y H' hy => ?_⟩
    obtain ⟨G3, d, h3, e3, r3⟩ := it.yld G2 H2 i y H' lg2.ext.gg lg2.ext.sub lg2.ext.bag hlt hy
    rw [item_drop hlt h3] at q2
    have lg3 := lg2.step nb hb1 e3
    have r3' : DR K p G3 (L2.wipe σ vs) H' (wipeD δ vs) := (r1.ext lg3.ext).wipe vs
    refine hg G3 (L2.wipe σ vs) H' (wipeD δ vs) d y _ _ r3' r3 q2 fun G4 σ4 H4 δ4 s4 r4 k4 n4 o4 q4 => ?_
    have lg4 := lg3.step nb hb1 ⟨s4, r4.sub, k4, n4, r4.bag⟩
    refine ⟨wipe_outs o4 hs, ?_⟩
    refine ht G4 σ4 H4 δ4 _ _ _ r4 q4 (fun G5 H5 b e5 q5 => ?_) noX
    have lg5 := lg4.step nb hb1 e5
    cases b with
    | false =>
      rw [if_neg Bool.false_ne_true] at q5 ⊢
      exact ⟨G5, us, ds, lg5, Nat.le_succ_of_le hl2, q5⟩
    | true =>
      rw [if_pos rfl] at q5 ⊢
      have r5 := r4.ext e5
      refine hk G5 σ4 H5 δ4 _ _ _ r5 q5 (fun G6 H6 y6 d6 e6 rk6 q6 => ?_) noX
      have lg6 := lg5.step nb hb1 e6
      refine he G6 σ4 H6 δ4 _ _ _ (r5.ext e6) q6 (fun G7 H7 z7 d7 e7 rv7 q7 => ?_) noX
      obtain ⟨kk, hkk, q8⟩ := q7
      have lg7 := lg6.step nb hb1 e7
      refine ⟨us, kk, key_rep hkk rk6, lg7.at_, by omega, G7, _, _, lg7.put nb hA rv7, ?_, q8⟩
      have l1 := lenK lg7.reps
      have l2 := lenK (put_rep (k := kk) lg7.reps rv7)
      have l3 := putD_len ds kk d7
      omega
  · have e : i = items.length := by omega
    subst e
    rw [List.drop_length] at q2
    refine .inl ⟨it.stop G2 H2 lg2.ext.gg lg2.ext.sub, ?_⟩
    -- the dict joins what stays
    have gg' : Same G2 (upd G2 A (.dK us)) := fun c o z => by rw [upd_ne (ne_of_none z lg2.nG)]; exact z
    have e02 := e1.trans r.at lg2.ext
    have ej : Ext K p.b G H (upd G2 A (.dK us)) H2 := by
      refine ⟨e02.gg.trans gg', fun c o z => ?_, e02.keep, fun c o z t w => ?_, e02.bag.g gg' ?_ (e02.bag.2.2.1.2.upd nt_dK)⟩
      · by_cases q : c = A
        · rw [q, upd_same] at z; rw [q, lg2.at_]; exact z
        · rw [upd_ne q] at z; exact e02.sub _ _ z
      · by_cases q : c = A
        · rw [q] at z; exact absurd t (hHA _ z)
        · rw [upd_ne q] at w; exact e02.new c o z t w
      · rw [upd_ne (Ne.symm nb)]; exact e02.bag.1
    exact k _ H2 _ _ ej (rep_dicI.mpr ⟨A, us, rfl, upd_same, by
      exact lg2.reps.mono gg'⟩) q2
theorem d_dc (own : List (Str × Nat)) (hsub : ∀ j ∈ ix, j ∈ own.map (·.2)) (hc : X.calm = true) (hN : X.N.Nodup) (ok : BlkOk X.N X.env.scope scope own) (hi : DI p X W tg iter ti)
    (hg : ∀ (s : Shared) (H : Hp) (C : Addr) (cl : List (Str × Addr)) (fp : List Addr), DG p (X.blk s H scope (compEnvC scope cl C X.env) fp) tg ix g)
    (ht : ∀ (s : Shared) (H : Hp) (C : Addr) (cl : List (Str × Addr)) (fp : List Addr), DTs p (X.blk s H scope (compEnvC scope cl C X.env) fp) W0 ifs tt)
    (hk : ∀ (s : Shared) (H : Hp) (C : Addr) (cl : List (Str × Addr)) (fp : List Addr), DE p (X.blk s H scope (compEnvC scope cl C X.env) fp) W0 kx tk)
    (he : ∀ (s : Shared) (H : Hp) (C : Addr) (cl : List (Str × Addr)) (fp : List Addr), DE p (X.blk s H scope (compEnvC scope cl C X.env) fp) W0 vx tv)
    (hs : ∀ x, foldedSetIterable iter X.env x = pure x := by intro _; rfl) : DE p X W (.DictComp kx vx [⟨tg, iter, ifs, 0⟩] scope pos) (xDc (own.map (·.2)) ti g tt tk tv) := by
  obtain ⟨wi, w1, w2⟩ := hi
  obtain ⟨gv, g1', g2'⟩ := uniG hg
  obtain ⟨tv', t1', t2'⟩ := uniT ht
  obtain ⟨ek, e1', e2'⟩ := uniE hk
  obtain ⟨ev, e3', e4'⟩ := uniE he
  exact ⟨_, pe_dc hc hN w1 ok g1' t1' e1' e3' hs, ref_dc hsub w2 g2' t2' e2' e4'⟩
end
end DL

namespace DL
open PySem PySem.Spec PyProof.Rows L2 EX
/-- a reading of an expression that gives a new list -/
abbrev TDO' := DSt → (List D → Prop) → XD → Prop
def RefEO (K : PySem.W.Frag) (p : Pr) (W : WX) (t : TE) (td : TDO') : Prop :=
  ∀ (G : Hp) (σ : VSt) (H : Hp) (δ : DSt) (Q : VK) (Qd : List D → Prop) (Ed : XD), DR K p G σ H δ → td δ Qd Ed →
    (∀ G' H' a us es, Ext K p.b G H G' H' → G' a = none → Fr0 H a → H' a = some (.lst us) → Reps K G' es us → Qd es → Q (.ref a) H') → XOk K p.b W G σ H Ed → t σ H Q
structure DEO (p : Pr) (X : Cx) (W : WX) (e : Expr) (td : TDO') : Prop where
  ex : ∃ t : TE, PE X e t ∧ RefEO X.K p W t td
def xO (td : TDO') : TDE := fun δ Q E => td δ (fun es => Q (.lst es)) E
/-- a list that is new at a, of what is represented -/
theorem ext_new {K : PySem.W.Frag} {b : Bag} {G H : Hp} {a : Addr} {o : HO} (s : Same G H) (hb : BagOk K b G H) (h : H a = none) : Ext K b G H G (upd H a o) := by
  refine ⟨Same.refl _, fun c u z => ?_, fun c u _ _ z => ?_, fun _ _ _ _ z => z, hb.new h⟩
  · have := s c u z
    rw [upd_ne (ne_of_none this h)]; exact this
  · rw [upd_ne (ne_of_none z h)]; exact z
section
variable {p : Pr} {X : Cx} {W : WX} {K : PySem.W.Frag} {Gb G H : Hp} {σ : VSt} {δ : DSt} {e : Expr} {es : List Expr} {te : TDE} {ts : TDA} {td : TDO'} {pos : Pos}
theorem DEO.d (h : DEO p X W e td) : DE p X W e (xO td) := by
  obtain ⟨t, h1, h2⟩ := h
  refine ⟨t, h1, fun G σ H δ Q Qd Ed r q k x => ?_⟩
  refine h2 G σ H δ Q _ Ed r q (fun G' H' a us es e g f l rs q' => ?_) x
  obtain ⟨e', r'⟩ := lst_join e r.bag.atN l rs g f
  exact k _ H' _ _ e' r' q'
def oLst (ts : TDA) : TDO' := fun δ Q E => ts δ (fun xs => xs.length ≤ sizeLine ∧ Q xs) E
theorem deo_lst (h : DA p X W es ts) : DEO p X W (.List es pos) (oLst ts) := by
  obtain ⟨t, h1, h2⟩ := h
  refine ⟨_, pe_lst h1, fun G σ H δ Q Qd Ed r q k x => ?_⟩
  refine h2 G σ H δ _ _ Ed r q (fun G1 H1 vs ds e1 r1 q1 => ?_) x
  refine ⟨by rw [← r1.length]; exact q1.1, fun a hn => ?_⟩
  have e2 := ext_new (K := X.K) (o := .lst vs) e1.sub e1.bag hn
  have nb : a ≠ p.b.a := fun z => e1.bag.at (by rw [← z]; exact hn)
  exact k G1 _ a vs ds (e1.trans r.at e2) (e1.sub.free hn) (fun o z t => by rw [e1.keep a o nb t z] at hn; cases hn) upd_same r1 q1.2
section
variable {elt iter tg : Expr} {ifs : List Expr} {scope : Scope} {ix : List Nat} {ti : TDI} {g : TDG} {tt : TDT}
theorem deo_lc (own : List (Str × Nat)) (hsub : ∀ j ∈ ix, j ∈ own.map (·.2)) (hc : X.calm = true) (hN : X.N.Nodup) (ok : BlkOk X.N X.env.scope scope own) (hi : DI p X W tg iter ti)
    (hg : ∀ (s : Shared) (H : Hp) (C : Addr) (cl : List (Str × Addr)) (fp : List Addr), DG p (X.blk s H scope (compEnvC scope cl C X.env) fp) tg ix g)
    (ht : ∀ (s : Shared) (H : Hp) (C : Addr) (cl : List (Str × Addr)) (fp : List Addr), DTs p (X.blk s H scope (compEnvC scope cl C X.env) fp) W0 ifs tt)
    (he : ∀ (s : Shared) (H : Hp) (C : Addr) (cl : List (Str × Addr)) (fp : List Addr), DE p (X.blk s H scope (compEnvC scope cl C X.env) fp) W0 elt te)
    (hs : ∀ x, foldedSetIterable iter X.env x = pure x := by intro _; rfl) : DEO p X W (.ListComp elt [⟨tg, iter, ifs, 0⟩] scope pos) (xLc (own.map (·.2)) ti g tt te) := by
  obtain ⟨wi, gv, tv, ev, a1, a2, a3, a4, b1, b2, b3, b4⟩ := lc_parts hi hg ht he
  exact ⟨_, pe_lc hc hN a1 ok a2 a3 a4 hs, fun G σ H δ Q Qd Ed r q k x => ref_lc hsub b1 b2 b3 b4 r q (fun G' H' a ds us e h1 h2 h3 h4 q' => k G' H' a us ds e h3 h4 h1 h2 q') x⟩
end
/-- a contract of a def that returns a new list -/
abbrev OC := Addr → List D → (List D → Prop) → XD → Prop
def spO (K : PySem.W.Frag) (T : TbL) (c : OC) : Sp := fun vs H Q E => ∃ (b : Bag) (G : Hp) (ds : List D) (Qd : List D → Prop) (Ed : XD), b.T = T ∧ Same G H ∧ BagOk K b G H ∧ Reps K G ds vs ∧ c b.a ds Qd Ed ∧
  (∀ G' H' a us es, Ext K b G H G' H' → G' a = none → Fr0 H a → H' a = some (.lst us) → Reps K G' es us → Qd es → Q (.ref a) H') ∧ (∀ G' H' cn fs d us, Ext K b G H G' H' → G' d = some (.xd us) → RepsF K G' fs us → Ed cn fs → E (.ref (He.ga K cn)) (some d) H')
def OC.d (c : OC) : DC := fun β ds Q E => c β ds (fun es => Q (.lst es)) E
theorem lst_joinB {b : Bag} {a : Addr} {us : List V} {ds : List D} {G' H' : Hp} (e : Ext K b G H G' H') (hb : ∃ o, H b.a = some o ∧ NT o) (h1 : H' a = some (.lst us)) (h2 : Reps K G' ds us) (h3 : G' a = none) (h4 : Fr0 H a) : Ext K b G H (upd G' a (.lst us)) H' ∧ Rep K (upd G' a (.lst us)) (.lst ds) (.ref a) := by
  have gg : Same G' (upd G' a (.lst us)) := fun c o z => by rw [upd_ne (ne_of_none z h3)]; exact z
  refine ⟨⟨e.gg.trans gg, fun c o z => ?_, e.keep, fun c o z t w => ?_, e.bag.g gg ?_ (e.bag.2.2.1.2.upd nt_lst)⟩, ?_⟩
  · by_cases q : c = a
    · rw [q, upd_same] at z; rw [q, h1]; exact z
    · rw [upd_ne q] at z; exact e.sub _ _ z
  · by_cases q : c = a
    · rw [q] at z; exact absurd t (h4 _ z)
    · rw [upd_ne q] at w; exact e.new c o z t w
  · rw [upd_ne (fun q => by
      obtain ⟨o, b1, b2⟩ := hb
      exact h4 o (by rw [← q]; exact b1) b2)]; exact e.bag.1
  · exact rep_lstI.mpr ⟨a, us, rfl, upd_same, h2.mono gg⟩
theorem spO_d {T : TbL} {c : OC} {vs : List V} {H : Hp} {Q : VK} {E : XK} (h : spD K T c.d vs H Q E) : spO K T c vs H Q E := by
  obtain ⟨b, G, ds, Qd, Ed, h0, h1, h2, h3, h4, h5, h6⟩ := h
  refine ⟨b, G, ds, _, Ed, h0, h1, h2, h3, h4, fun G' H' a us es e g f l rs q' => ?_, h6⟩
  obtain ⟨e', r'⟩ := lst_joinB e h2.atN l rs g f
  exact h5 _ H' _ _ e' r' q'
structure OkO (P : Program) (w : World) (K : PySem.W.Frag) (mg : Str → Option Value) (base : Heap) (T : TbL) (k : Nat) (x : Str) (ps : List Str) (c : OC) : Prop where
  ex : ∃ fd : FuncData, mg x = some (.ref (He.ga K x)) ∧ PySem.W.keepIn K (.ref (He.ga K x)) = true ∧ Binds K fd ps [] ∧ FnOk P w K mg base (L2.CX P w) k (He.ga K x) fd ps (spO K T c)
end
section
variable {P : Program} {w : World} {K : PySem.W.Frag} {mg : Str → Option Value} {base : Heap} {T : TbL} {j k : Nat} {x qual : Str} {st : Stmt} {fd : FuncData} {N ps : List Str} {c : OC} {td : Addr → TDS}
theorem OkO.mono (O : OkO P w K mg base T j x ps c) (h : j ≤ k) : OkO P w K mg base T k x ps c := by
  obtain ⟨fd, h1, h2, h3, h4⟩ := O.ex
  exact ⟨fd, h1, h2, h3, h4.mono h⟩
theorem OkO.d (O : OkO P w K mg base T k x ps c) : OkD P w K mg base T k x ps c.d := by
  obtain ⟨fd, h1, h2, h3, h4⟩ := O.ex
  exact ⟨fd, h1, h2, h3, h4.imp fun vs H Q E h => spO_d h⟩
/-- the contract of a def that returns new lists is kept by the reading -/
def KeepsO (td : Addr → TDS) (N : List Str) (c : OC) : Prop := ∀ β ds Qd Ed, c β ds Qd Ed → td β { nx := fun _ => False, rt := fun _ => False, xc := fun cn fs _ => Ed cn fs, ro := Qd } (startD N.length ds)
theorem fnO (F : Fun K x qual st (He.ga K x) fd) (S : FnScope N ps (defScope st)) (B : BodyD P w K mg base T k qual st (He.ga K x) N td) (len : ∀ β ds Q E, c β ds Q E → ds.length = ps.length) (h : KeepsO td N c) : FnOk P w K mg base (L2.CX P w) (k + 1) (He.ga K x) fd ps (spO K T c) := by
  refine okXc F S (fun vs H Q E h => ?_) (fun cdv A outer s H vs Q E hcv hr h' => ?_)
  · obtain ⟨b, G, ds, Qd, Ed, _, _, _, r, q, _⟩ := h
    rw [← r.length]
    exact len _ _ _ _ q
  · obtain ⟨b, G, ds, Qd, Ed, hT, s1, hb, r, q, k1, k2⟩ := h'
    obtain ⟨t, h1, h2⟩ := B cdv A outer s ⟨b, H, G, P, w⟩ E hT ⟨rfl, rfl⟩ hcv hr
    refine ⟨t, h1, ?_⟩
    refine h2 G G (L2.start N vs) H (startD N.length ds) _ _ (Same.refl _) (start_DR s1 hb r) (h b.a ds Qd Ed q) ⟨fun _ _ _ _ _ _ z => z.elim, fun _ _ _ _ _ _ _ _ _ z => z.elim, fun _ _ _ _ _ _ z => z, fun _ _ _ _ _ _ z => z, fun G' σ' H' δ' cn fs d us _ r' hd rf q' => ?_, fun G' σ' H' δ' a us es _ r' g f l rs q' => ?_⟩
    · exact k2 G' H' cn fs d us r'.seen hd rf q'
    · exact k1 G' H' a us es r'.seen g f l rs q'
theorem okO_of (g : mg x = some (.ref (He.ga K x))) (F : Fun K x qual st (He.ga K x) fd) (b : Binds K fd ps []) (S : FnScope N ps (defScope st)) (B : BodyD P w K mg base T k qual st (He.ga K x) N td) (len : ∀ β ds Q E, c β ds Q E → ds.length = ps.length) (h : KeepsO td N c) : OkO P w K mg base T (k + 1) x ps c :=
  ⟨fd, g, F.kp, b, fnO F S B len h⟩
end
section
variable {p : Pr} {X : Cx} {W : WX} {K : PySem.W.Frag} {Gb G H : Hp} {σ : VSt} {δ : DSt} {e : Expr} {es : List Expr} {te : TDE} {ts : TDA} {td : TDO'} {pos : Pos}
def oFn (β : Addr) (c : OC) (ts : TDA) : TDO' := fun δ Q E => ts δ (fun ds => c β ds Q E) E
theorem deo_call {T : TbL} {k : Nat} {x : Str} {ps : List Str} {c : OC} {q : Pos} (O : OkO X.prog X.w X.K X.mg X.base T k x ps c) (hT : p.b.T = T) (hr : Room k X.A) (tk : Takes X W) (ha : DA p X W (e :: es) ts)
    (hg : Gl X x := by rfl) (hdb : (x == ("__debug__" : Str)) = false := by decide) (he : starEach (e :: es) X.env = (false, eval e X.env) :: starEach es X.env := by rfl) (hpl : (backTo pos (starEach es X.env)).any (·.1) = false := by rfl) :
    DEO p X W (.Call (.Name x q) (e :: es) [] pos) (oFn p.b.a c ts) := by
  obtain ⟨fd, hm, hk, hb, F⟩ := O.ex
  obtain ⟨a, a1, a2⟩ := ha
  refine ⟨_, pe_callS F hr hg hm hk hb (fun σ => passAt tk σ) a1 hdb he hpl, fun G σ H δ Q Qd Ed r q k x => ?_⟩
  refine a2 G σ H δ _ _ Ed r q (fun G1 H1 vs ds e1 r1 q1 => ?_) x
  have fr : ∀ a, Fr0 H1 a → Fr0 H a := fun a f o z t => by
    have nb : a ≠ p.b.a := fun z => by
      obtain ⟨o, b1, b2⟩ := e1.bag.atN
      exact f o (by rw [z]; exact b1) b2
    exact f o (e1.keep a o nb t z) t
  exact ⟨p.b, G1, ds, Qd, Ed, hT, e1.sub, e1.bag, r1, q1, fun G2 H2 a us es e2 g f l rs q2 => k G2 H2 a us es (e1.trans r.at e2) g (fr a f) l rs q2, fun G2 H2 cn fs d us e2 hd rf q2 => x G2 H2 cn fs d us (e1.trans r.at e2) hd rf q2⟩
/-- x = e, the new list x's own -/
def ySetO (S : List Nat) (i : Nat) (td : TDO') : TDS := fun Dd δ => td (frz S δ) (fun ds => Dd.nx ((frz S δ).set i (.own (.lst ds)))) (fun c fs => Dd.xc c fs (frz S δ))
theorem ds_setO (S : List Nat) (i : Nat) {x : Str} {px : Pos} (hN : X.N.Nodup) (he : DEO p X W e td) (hi : X.N[i]? = some x := by rfl) (hx : Loc X.env.scope x := by first | exact .inl rfl | exact .inr rfl) (hs : swapsWith e (some (.Name x px)) pos.line X.env = pure false := by rfl)
    (hf : X.fn x = true ∨ X.env.scope.names.lookup x = some .local := by first | exact .inl rfl | exact .inr rfl | assumption) : DS p X W (.Assign [.Name x px] e pos) (ySetO S i td) := by
  obtain ⟨a, a1, a2⟩ := he
  refine ⟨_, ps_set hN hi hx a1 hs hf, fun Gb G σ H δ D Dd s r q h => ?_⟩
  obtain ⟨G1, g1, r1⟩ := DR.freeze (S := S) r
  refine a2 G1 σ H _ _ _ _ r1 q (fun G2 H2 a us ds e2 g f l rs q2 => ?_) (h.x (s.trans g1) r1)
  have rx := r1.ext e2
  exact h.nx G2 _ _ _ ((s.trans g1).trans e2.gg) (rx.setOwn (o := .lst ds) g (h0_none r1 f) ⟨us, l, rs⟩ (own_fresh r1 f)) q2
/-- return e, the new list the caller's own -/
def yRetO (S : List Nat) (td : TDO') : TDS := fun Dd δ => td (frz S δ) Dd.ro (fun c fs => Dd.xc c fs (frz S δ))
theorem ds_retO (S : List Nat) (he : DEO p X W e td) : DS p X W (.Return (some e) pos) (yRetO S td) := by
  obtain ⟨a, a1, a2⟩ := he
  refine ⟨_, ps_ret a1, fun Gb G σ H δ D Dd s r q h => ?_⟩
  obtain ⟨G1, g1, r1⟩ := DR.freeze (S := S) r
  refine a2 G1 σ H _ _ _ _ r1 q (fun G2 H2 a us ds e2 g f l rs q2 => ?_) (h.x (s.trans g1) r1)
  exact h.ro G2 σ H2 _ a us ds ((s.trans g1).trans e2.gg) (r1.ext e2) g (h0_none r1 f) l rs q2
/-- return x, x a list of its own -/
def yRetV (i : Nat) : TDS := fun Dd δ => ∃ ds, δ[i]? = some (.own (.lst ds)) ∧ Dd.ro ds
theorem ds_retV (i : Nat) {x : Str} {pn : Pos} (hN : X.N[i]? = some x := by rfl) (hv : Vis X.env.scope x := by first | exact Or.inl rfl | exact Or.inr (Or.inl rfl) | exact Or.inr (Or.inr rfl)) (hd : (x == ("__debug__" : Str)) = false := by decide) (hcd : (x == ("__classdict__" : Str)) = false := by decide) :
    DS p X W (.Return (some (.Name x pn)) pos) (yRetV i) := by
  refine ⟨_, ps_ret (pe_var hN hv hd hcd), fun Gb G σ H δ D Dd s r q h => ?_⟩
  obtain ⟨ds, hi, q⟩ := q
  obtain ⟨a, us, a1, a2, a3, nb, a4, a5⟩ := own_lst r hi
  exact ⟨.ref a, a1, h.ro G σ H δ a us ds s r a2 a3 a4 a5 q⟩
def yOM0 (i : Nat) (rd : List D → List D → (List D → Prop) → Prop) : TDS := fun Dd δ => ∃ ds, δ[i]? = some (.own (.lst ds)) ∧ rd ds [] fun ds' => Dd.nx (δ.set i (.own (.lst ds')))
theorem ds_om0 {id : String} {name x : Str} {apos cpos pn : Pos} {r : V → List V → Hp → VK → Prop} {rd : List D → List D → (List D → Prop) → Prop} (i : Nat) (slot : Slot "list" name id) (hty : typeOf (.builtin id) = pure (.type "method_descriptor")) (hm : MtR X id r) (hr : RefOM X.K r rd)
    (hN : X.N[i]? = some x := by rfl) (hv : Vis X.env.scope x := by first | exact Or.inl rfl | exact Or.inr (Or.inl rfl) | exact Or.inr (Or.inr rfl)) (hd : (x == ("__debug__" : Str)) = false := by decide) (hcd : (x == ("__classdict__" : Str)) = false := by decide)
    (hbase : attributeBase (.Name x pn) name X.env (eval (.Name x pn) X.env) = eval (.Name x pn) X.env := by rfl) (hline : (apos.endLine == cpos.line) = true := by rfl)
    (hsw : swapsWith (.Call (.Attribute (.Name x pn) name apos) [] [] cpos) none pos.line X.env = pure false := by rfl) : DS p X W (.Expr (.Call (.Attribute (.Name x pn) name apos) [] [] cpos) pos) (yOM0 i rd) := by
  refine ⟨_, ps_expr (pe_bm0 PySem.F.plainAttrs_list slot hty hm (pe_var hN hv hd hcd) hbase hline) hsw, fun Gb G σ H δ D Dd s rr q h' => ?_⟩
  obtain ⟨ds, hi, q⟩ := q
  obtain ⟨a, us, a1, a2, a3, nb, a4, a5⟩ := own_lst rr hi
  refine ⟨.ref a, a1, .inl ⟨rfl, us, SqL.of a4⟩, ?_⟩
  exact hr G H a us ds [] [] _ _ rr.sub a4 a2 a5 Reps.nil q fun us' ds' v ru q3 => h'.nx G σ _ _ s (rr.change (o' := .lst ds') hi a1 ⟨us', upd_same, ru⟩) q3
def oReverse (ds args : List D) (k : List D → Prop) : Prop := args = [] ∧ k ds.reverse
theorem r_reverse : RefOM K rReverse oReverse := by
  intro G H a us ds args vs Q Qd s ha hG r ra h k
  obtain ⟨rfl, h⟩ := h
  rw [Reps.nil_iff.mp ra]
  exact ⟨a, us, rfl, rfl, ha, k _ _ _ r.reverse h⟩
def dInA (neg : Bool) : RD2 := fun x y Q => match y with
  | .lst ds => (flatD x = true ∧ ds.all flatD = true ∧ Q (.bl (if neg then !inD x ds else inD x ds))) ∨ ∃ d es, x.py = some d ∧ D.pys ds = some es ∧ SeqAt.shaped d = true ∧ SeqAt.shaped (.list es) = true ∧ Q (.bl (if neg then !es.any (fun z => PyData.eqv z d) else es.any fun z => PyData.eqv z d))
  | .tup ds => flatD x = true ∧ ds.all flatD = true ∧ Q (.bl (if neg then !inD x ds else inD x ds))
  | .str z => ∃ c : Nat, x = .str ⟨#[c]⟩ ∧ Q (.bl (if neg then !decide (c ∈ z.cps.toList) else decide (c ∈ z.cps.toList)))
  | _ => False
def rInA (K : PySem.W.Frag) : R2 := fun x y H Q => rIn K false x y H Q ∨ (rInD K x y H Q ∨ (fun x y H Q => ∃ (c : Nat) (z : Str), x = V.str ⟨#[c]⟩ ∧ y = .str z ∧ Q (.bl (decide (c ∈ z.cps.toList))) H) x y H Q)
def rNotInA (K : PySem.W.Frag) : R2 := fun x y H Q => rIn K true x y H Q ∨ (rNotInD K x y H Q ∨ (fun x y H Q => ∃ (c : Nat) (z : Str), x = V.str ⟨#[c]⟩ ∧ y = .str z ∧ Q (.bl (!decide (c ∈ z.cps.toList))) H) x y H Q)
variable {b : Bag} {e1 e2 : Expr} {ta tb : TDE}
theorem o_in (hu : X.A.units + 65 < cLine) : OpR X (compareOp .In) (rInA X.K) := OpR.or op_in_seq (OpR.or (op_inD hu) op_in_sign)
theorem o_notin (hu : X.A.units + 65 < cLine) : OpR X (compareOp .NotIn) (rNotInA X.K) := OpR.or op_notIn_seq (OpR.or (op_notInD hu) op_notIn_sign)
theorem r_inA : RefR K b (rInA K) (dInA false) := by
  intro G H x y v u Q Qd s hb rx ry h k
  cases y with
  | lst ds =>
    rcases h with h | ⟨d, es, h1, h2, h3, h4, h5⟩
    · exact .inl (r_in false G H x (.lst ds) v u Q Qd s hb rx ry h k)
    · obtain ⟨c, vs, rfl, c1, c2⟩ := rep_lstI.mp ry
      refine .inr (.inl ⟨d, es, dp_of s rx h1, dp_of s ry (by unfold D.py; rw [h2]; rfl), h3, h4, ?_⟩)
      exact k G H _ _ (Ext.refl s hb) (rep_sc rfl) h5
  | tup ds => exact .inl (r_in false G H x (.tup ds) v u Q Qd s hb rx ry h k)
  | str z =>
    obtain ⟨c, rfl, q⟩ := h
    rw [rep_str.mp rx, rep_str.mp ry]
    exact .inr (.inr ⟨c, z, rfl, rfl, k G H _ _ (Ext.refl s hb) (rep_sc rfl) q⟩)
  | _ => exact h.elim
theorem r_notInA : RefR K b (rNotInA K) (dInA true) := by
  intro G H x y v u Q Qd s hb rx ry h k
  cases y with
  | lst ds =>
    rcases h with h | ⟨d, es, h1, h2, h3, h4, h5⟩
    · exact .inl (r_in true G H x (.lst ds) v u Q Qd s hb rx ry h k)
    · obtain ⟨c, vs, rfl, c1, c2⟩ := rep_lstI.mp ry
      refine .inr (.inl ⟨d, es, dp_of s rx h1, dp_of s ry (by unfold D.py; rw [h2]; rfl), h3, h4, ?_⟩)
      exact k G H _ _ (Ext.refl s hb) (rep_sc rfl) h5
  | tup ds => exact .inl (r_in true G H x (.tup ds) v u Q Qd s hb rx ry h k)
  | str z =>
    obtain ⟨c, rfl, q⟩ := h
    rw [rep_str.mp rx, rep_str.mp ry]
    exact .inr (.inr ⟨c, z, rfl, rfl, k G H _ _ (Ext.refl s hb) (rep_sc rfl) q⟩)
  | _ => exact h.elim
theorem d_in (hu : X.A.units + 65 < cLine) (ha : DE p X W e1 ta) (hb : DE p X W e2 tb) (hm : behindInMarks .In e2 = false := by rfl) : DE p X W (.Compare e1 [.In] [e2] pos) (xOp (dInA false) ta tb) := d_cmp (o_in hu) r_inA hm ha hb
theorem d_notin (hu : X.A.units + 65 < cLine) (ha : DE p X W e1 ta) (hb : DE p X W e2 tb) (hm : behindInMarks .NotIn e2 = false := by rfl) : DE p X W (.Compare e1 [.NotIn] [e2] pos) (xOp (dInA true) ta tb) := d_cmp (o_notin hu) r_notInA hm ha hb
theorem dt_in (hu : X.A.units + 65 < cLine) (ha : DE p X W e1 ta) (hb : DE p X W e2 tb) (hm : behindInMarks .In e2 = false := by rfl) : DT p X W (.Compare e1 [.In] [e2] pos) (xTest (xOp (dInA false) ta tb)) := dt_cmp (o_in hu) r_inA hm ha hb
theorem dt_notin (hu : X.A.units + 65 < cLine) (ha : DE p X W e1 ta) (hb : DE p X W e2 tb) (hm : behindInMarks .NotIn e2 = false := by rfl) : DT p X W (.Compare e1 [.NotIn] [e2] pos) (xTest (xOp (dInA true) ta tb)) := dt_cmp (o_notin hu) r_notInA hm ha hb
end
end DL

namespace DL
open PySem PySem.Spec PyProof.Rows L2 EX
section
variable {p : Pr} {X : Cx} {W : WX} {K : PySem.W.Frag} {G H : Hp} {σ : VSt} {δ : DSt} {e e2 : Expr} {te tb : TDE} {x : Str} {pn pos : Pos} (i : Nat)
/-- x + e, x an own list -/
def xCatO (i : Nat) (tb : TDE) : TDE := fun δ Q E => ∃ ds, δ[i]? = some (.own (.lst ds)) ∧ tb δ (fun y => ∃ es, y = .lst es ∧ ds.length + es.length ≤ sizeLine ∧ Q (.lst (ds ++ es))) E
theorem d_catO (hb : DE p X W e2 tb) (hN : X.N[i]? = some x := by rfl) (hv : Vis X.env.scope x := by first | exact Or.inl rfl | exact Or.inr (Or.inl rfl) | exact Or.inr (Or.inr rfl)) (hd : (x == ("__debug__" : Str)) = false := by decide) (hcd : (x == ("__classdict__" : Str)) = false := by decide) :
    DE p X W (.BinOp (.Name x pn) .Add e2 pos) (xCatO i tb) := by
  obtain ⟨t, h1, h2⟩ := hb
  refine ⟨_, pe_op op_cat (pe_var hN hv hd hcd) h1, fun G σ H δ Q Qd Ed r q k x => ?_⟩
  obtain ⟨ds, hi, q⟩ := q
  obtain ⟨a, us, a1, a2, a3, nb, a4, a5⟩ := own_lst r hi
  refine ⟨_, a1, ?_⟩
  refine h2 G σ H δ _ _ Ed r q (fun G1 H1 v y x1 r1 q1 => ?_) x
  obtain ⟨es, rfl, hz, q2⟩ := q1
  obtain ⟨b, vs, rfl, c1, c2⟩ := rep_lstI.mp r1
  refine ⟨a, b, us, vs, rfl, rfl, x1.keep a _ nb nt_lst a4, x1.sub _ _ c1, by rw [← a5.length, ← c2.length]; exact hz, fun P hP => ?_⟩
  exact k _ _ _ _ (x1.trans r.at (Ext.laid x1.sub x1.bag hP)) (rep_lst x1.sub hP ((a5.mono x1.gg).append c2)) q2
/-- x[lo:hi], x an own list -/
def xSlO (i : Nat) (tl th : TDO) : TDE := fun δ Q E => ∃ ds, δ[i]? = some (.own (.lst ds)) ∧ tl δ (fun lo => th δ (fun hi => Q (.lst (cutD ds lo hi))) E) E
theorem d_sliceO {lo hi : Option Expr} {p2 : Pos} {tl th : TDO} (hl : DO' p X W lo tl) (hh : DO' p X W hi th) (hN : X.N[i]? = some x := by rfl) (hv : Vis X.env.scope x := by first | exact Or.inl rfl | exact Or.inr (Or.inl rfl) | exact Or.inr (Or.inr rfl)) (hd : (x == ("__debug__" : Str)) = false := by decide) (hcd : (x == ("__classdict__" : Str)) = false := by decide) :
    DE p X W (.Subscript (.Name x pn) (.Slice lo hi none p2) pos) (xSlO i tl th) := by
  obtain ⟨u, h3, h4⟩ := hl
  obtain ⟨w, h5, h6⟩ := hh
  refine ⟨_, pe_slice sl_list (pe_var hN hv hd hcd) h3 h5, fun G σ H δ Q Qd Ed r q k x => ?_⟩
  obtain ⟨ds, hi', q⟩ := q
  obtain ⟨a, us, a1, a2, a3, nb, a4, a5⟩ := own_lst r hi'
  refine ⟨_, a1, ?_⟩
  refine h4 G σ H δ _ _ Ed r q (fun G2 H2 lo e2 q2 => ?_) x
  refine h6 G2 σ H2 δ _ _ Ed (r.ext e2) q2 (fun G3 H3 hi e3 q3 => ?_) (x.step r.at e2)
  have e13 := e2.trans r.at e3
  exact ⟨a, us, rfl, SqL.of (e13.keep a _ nb nt_lst a4), fun P hP => k _ _ _ _ (e13.trans r.at (Ext.laid e13.sub e13.bag hP)) (rep_lst e13.sub hP (cut_rep (a5.mono e13.gg) _ _)) q3⟩
/-- tuple(x), x an own list -/
def xTupO (i : Nat) : TDE := fun δ Q _ => ∃ ds, δ[i]? = some (.own (.lst ds)) ∧ Q (.tup ds)
theorem d_tupleO {q : Pos} (hg : Gl X "tuple") (hm : X.mg "tuple" = none) (hN : X.N[i]? = some x := by rfl) (hv : Vis X.env.scope x := by first | exact Or.inl rfl | exact Or.inr (Or.inl rfl) | exact Or.inr (Or.inr rfl)) (hd : (x == ("__debug__" : Str)) = false := by decide) (hcd : (x == ("__classdict__" : Str)) = false := by decide)
    (he : starEach [.Name x pn] X.env = (false, eval (.Name x pn) X.env) :: starEach [] X.env := by rfl) : DE p X W (.Call (.Name "tuple" q) [.Name x pn] [] pos) (xTupO i) := by
  refine ⟨_, pe_callTy call_tuple_of hg hm (by decide +kernel) (pa_cons (pe_var hN hv hd hcd) pa_nil he) (by decide) (by decide) he (by rfl), fun G σ H δ Q Qd Ed r q k x => ?_⟩
  obtain ⟨ds, hi, q⟩ := q
  obtain ⟨a, us, a1, a2, a3, nb, a4, a5⟩ := own_lst r hi
  refine ⟨_, a1, a, us, rfl, .inl ⟨SqL.of a4, fun P hP => ?_⟩⟩
  exact k _ _ _ _ (Ext.laid r.sub r.bag hP) (rep_tup r.sub hP a5) q
/-- list(x), x an own list -/
def xLstO (i : Nat) : TDE := fun δ Q _ => ∃ ds, δ[i]? = some (.own (.lst ds)) ∧ Q (.lst ds)
theorem d_listO {q : Pos} (hg : Gl X "list") (hm : X.mg "list" = none) (hN : X.N[i]? = some x := by rfl) (hv : Vis X.env.scope x := by first | exact Or.inl rfl | exact Or.inr (Or.inl rfl) | exact Or.inr (Or.inr rfl)) (hd : (x == ("__debug__" : Str)) = false := by decide) (hcd : (x == ("__classdict__" : Str)) = false := by decide)
    (he : starEach [.Name x pn] X.env = (false, eval (.Name x pn) X.env) :: starEach [] X.env := by rfl) : DE p X W (.Call (.Name "list" q) [.Name x pn] [] pos) (xLstO i) := by
  refine ⟨_, pe_callTy call_list_of hg hm (by decide +kernel) (pa_cons (pe_var hN hv hd hcd) pa_nil he) (by decide) (by decide) he (by rfl), fun G σ H δ Q Qd Ed r q k x => ?_⟩
  obtain ⟨ds, hi, q⟩ := q
  obtain ⟨a, us, a1, a2, a3, nb, a4, a5⟩ := own_lst r hi
  refine ⟨_, a1, a, us, rfl, .inl (SqL.of a4), fun P hP => ?_⟩
  exact k _ _ _ _ (Ext.laid r.sub r.bag hP) (rep_lst r.sub hP a5) q
/-- - e -/
def xNeg (ta : TDE) : TDE := fun δ Q E => ta δ (fun x => ∃ j, x = .int j ∧ Q (.int (-j))) E
theorem d_neg (ha : DE p X W e te) : DE p X W (.UnaryOp .USub e pos) (xNeg te) := by
  obtain ⟨t, h1, h2⟩ := ha
  refine ⟨_, pe_un un_neg h1, fun G σ H δ Q Qd Ed r q k x => ?_⟩
  refine h2 G σ H δ _ _ Ed r q (fun G1 H1 v d e1 r1 q1 => ?_) x
  obtain ⟨j, rfl, q2⟩ := q1
  exact ⟨j, rep_int.mp r1, k G1 H1 _ _ e1 (rep_sc rfl) q2⟩
/-- a if c else b, as a test -/
def xIfT (tc ta tb : TDT) : TDT := fun δ Q E => tc δ (fun k => if k = true then ta δ Q E else tb δ Q E) E
theorem dt_ifT {c a b : Expr} {tc ta' tb' : TDT} (hc : DT p X W c tc) (ha : DT p X W a ta') (hb : DT p X W b tb') : DT p X W (.IfExp c a b pos) (xIfT tc ta' tb') := by
  obtain ⟨t, h1, h2⟩ := hc
  obtain ⟨u, h3, h4⟩ := ha
  obtain ⟨w, h5, h6⟩ := hb
  refine ⟨fun σ H Q => t σ H fun k H1 => if k = true then u σ H1 Q else w σ H1 Q, ⟨fun pins s σ H Q I h => ?_⟩, fun G σ H δ Q Qd Ed r q k x => ?_⟩
  · rw [arm_isTrue_IfExp]
    refine wpAny_bind (thn (h1.run pins s σ H _ I h) fun k s1 ⟨H1, I1, q1⟩ => ?_)
    cases k with
    | true =>
      rw [if_pos rfl] at q1 ⊢
      exact h3.run pins s1 σ H1 _ I1 q1
    | false =>
      rw [if_neg Bool.false_ne_true] at q1 ⊢
      exact h5.run pins s1 σ H1 _ I1 q1
  · refine h2 G σ H δ _ _ Ed r q (fun G1 H1 kk e1 q1 => ?_) x
    cases kk with
    | true =>
      rw [if_pos rfl] at q1 ⊢
      exact h4 G1 σ H1 δ _ _ Ed (r.ext e1) q1 (fun G2 H2 b e2 q2 => k G2 H2 b (e1.trans r.at e2) q2) (x.step r.at e1)
    | false =>
      rw [if_neg Bool.false_ne_true] at q1 ⊢
      exact h6 G1 σ H1 δ _ _ Ed (r.ext e1) q1 (fun G2 H2 b e2 q2 => k G2 H2 b (e1.trans r.at e2) q2) (x.step r.at e1)
/-- x, y = a, b, both plain locals -/
def yPar (S : List Nat) (i j : Nat) (ts : TDA) : TDS := fun Dd δ => ts (frz S δ) (fun xs => ∃ d e, xs = [d, e] ∧ Dd.nx (((frz S δ).set i (.val d)).set j (.val e))) (fun c fs => Dd.xc c fs (frz S δ))
theorem ds_par (S : List Nat) (i j : Nat) {x y : Str} {a b : Expr} {px py pt : Pos} {kt k2 : Nat} {pt2 : Pos} {ts : TDA} (hc : X.calm = true) (hN : X.N.Nodup) (ha : DA p X W [a, b] ts) (hij : i ≠ j) (hi : X.N[i]? = some x := by rfl) (hj : X.N[j]? = some y := by rfl)
    (hx : X.env.scope.names.lookup x = some .local := by rfl) (hy : X.env.scope.names.lookup y = some .local := by rfl)
    (hw : swappedStores [.Tuple [.Name x px, .Name y py] kt pt] (.Tuple [a, b] k2 pt2) X.env = pure (some [x, y]) := by rfl)
    (hs : swapsWithSole [.Tuple [.Name x px, .Name y py] kt pt] (.Tuple [a, b] k2 pt2) pos.line X.env = pure false := by rfl) : DS p X W (.Assign [.Tuple [.Name x px, .Name y py] kt pt] (.Tuple [a, b] k2 pt2) pos) (yPar S i j ts) := by
  obtain ⟨t, a1, a2⟩ := ha
  refine ⟨_, ps_par hc hN hi hj hij hx hy a1 hw hs, fun Gb G σ H δ D' Dd s r q h => ?_⟩
  obtain ⟨G1, g1, r1⟩ := DR.freeze (S := S) r
  refine a2 G1 σ H _ _ _ _ r1 q (fun G2 H2 vs ds e2 rv q2 => ?_) (h.x (s.trans g1) r1)
  obtain ⟨d, e, rfl, q3⟩ := q2
  obtain ⟨v, u, rfl, rv1, rv2⟩ := reps2 rv
  exact ⟨v, u, rfl, h.nx G2 _ _ _ ((s.trans g1).trans e2.gg) (((r1.ext e2).set (s := .val d) ⟨v, rfl, rv1⟩).set (s := .val e) ⟨u, rfl, rv2⟩) q3⟩
/-- d[k], d an own dict -/
def xDGetO (i : Nat) (tb : TDE) : TDE := fun δ Q E => ∃ kvs, δ[i]? = some (.own (.dic kvs)) ∧ tb δ (fun y => ∃ k d, keyD y = some k ∧ valD kvs k = some d ∧ Q d) E
theorem d_dgetO (hu : X.A.units + 64 < cLine) (hs : NoSl e) (hi : DE p X W e tb) (hN : X.N[i]? = some x := by rfl) (hv : Vis X.env.scope x := by first | exact Or.inl rfl | exact Or.inr (Or.inl rfl) | exact Or.inr (Or.inr rfl)) (hd : (x == ("__debug__" : Str)) = false := by decide) (hcd : (x == ("__classdict__" : Str)) = false := by decide) :
    DE p X W (.Subscript (.Name x pn) e pos) (xDGetO i tb) := by
  obtain ⟨u, h3, h4⟩ := hi
  refine ⟨_, pe_dget (by omega) (pe_var hN hv hd hcd) h3 hs, fun G σ H δ Q Qd Ed r q k x => ?_⟩
  obtain ⟨kvs, hi', q⟩ := q
  obtain ⟨a, us, a1, a2, a3, a4, a5⟩ := own_dic r hi'
  refine ⟨_, a1, ?_⟩
  refine h4 G σ H δ _ _ Ed r q (fun G1 H1 v y x1 r1 q1 => ?_) x
  obtain ⟨kk, d, hk, hv, q3⟩ := q1
  rw [key_rep hk r1]
  rcases valD_rep (k := kk) (a5.mono x1.gg) with ⟨z, _⟩ | ⟨d', v, z1, z2, z3⟩
  · rw [hv] at z; cases z
  · rw [hv] at z1; cases z1
    exact ⟨a, v, rfl, by rw [← z2]; exact DGet.k (x1.keep a _ a3 nt_dK a4), k G1 H1 v d x1 z3 q3⟩
end
end DL

namespace DL
open PySem PySem.Spec PyProof.Rows L2 EX
section
variable {P : Program} {w : World} {K : PySem.W.Frag} {mg : Str → Option Value} {base : Heap} {T : TbL} {k m : Nat} {cn x qual : Str} {st : Stmt} {f : Addr} {fd : FuncData} {N ps : List Str} {c : DC} {o : OC} {td : Addr → TDS} {ks : List Str} {pm : List Nat}
theorem okM_of (hC : Cls K (He.ga K cn)) (hM : Meth K (He.ga K cn) x f) (F : Fun K x qual st f fd) (b : Binds K fd ps []) (S : FnScope N ps (defScope st)) (B : BodyD P w K mg base T k qual st f N td) (len : ∀ β ds Q E, c β ds Q E → ds.length = ps.length) (h : Keeps td N c) : OkM P w K mg base T (k + 1) cn x ps c :=
  ⟨f, fd, hC, hM, b, fnD c F S len fun cdv A outer s p E hT hP hcv hr => ⟨_, B cdv A outer s p E hT hP hcv hr, fun ds Qd Ed q => h p.b.a ds Qd Ed q⟩⟩
theorem okKO_of (g : mg x = some (.ref (He.ga K x))) (F : Fun K x qual st (He.ga K x) fd) (b : BKw fd ps m ks pm) (S : FnScope N ps (defScope st)) (B : BodyD P w K mg base T k qual st (He.ga K x) N td) (len : ∀ β ds Q E, o β ds Q E → ds.length = ps.length) (h : KeepsO td N o) : OkK P w K mg base T (k + 1) x ps o.d m ks pm :=
  ⟨fd, g, F.kp, b, (fnO F S B len h).imp fun vs H Q E h => spO_d h⟩
end
end DL

namespace EX
open PySem PySem.Spec PyProof.Rows L2
def memK (ks : List Key) (k : Key) : Bool := ks.any fun x => decide (x = k)
theorem memK_iff {ks : List Key} {k : Key} : memK ks k = true ↔ k ∈ ks := by
  unfold memK
  rw [List.any_eq_true]
  constructor
  · rintro ⟨x, h1, h2⟩
    rw [← of_decide_eq_true h2]; exact h1
  · intro h
    exact ⟨k, h, decide_eq_true rfl⟩
def stepD (σ : List Key) (v : Key) : List Key := if memK σ v = true then σ else σ ++ [v]
/-- the different ones, as they are met -/
def metK (ks : List Key) : List Key := ks.foldl stepD []
theorem metK_snoc (ks : List Key) (k : Key) : metK (ks ++ [k]) = stepD (metK ks) k := by unfold metK; rw [List.foldl_append]; rfl
theorem metK_mem (ks : List Key) : ∀ k, k ∈ metK ks ↔ k ∈ ks := by
  have go : ∀ (ks : List Key) (σ : List Key) (k : Key), k ∈ ks.foldl stepD σ ↔ k ∈ σ ∨ k ∈ ks := by
    intro ks
    induction ks with
    | nil => intro σ k; simp
    | cons a r ih =>
      intro σ k
      rw [List.foldl_cons, ih]
      unfold stepD
      by_cases h : memK σ a = true
      · rw [if_pos h]
        rw [memK_iff] at h
        constructor
        · rintro (x | x)
          · exact .inl x
          · exact .inr (List.mem_cons_of_mem _ x)
        · rintro (x | x)
          · exact .inl x
          · rcases List.mem_cons.mp x with rfl | x
            · exact .inl h
            · exact .inr x
      · rw [if_neg h]
        simp [or_assoc]
  intro k
  unfold metK
  rw [go]; simp
theorem metK_len (ks : List Key) : (metK ks).length ≤ ks.length := by
  have go : ∀ (ks : List Key) (σ : List Key), (ks.foldl stepD σ).length ≤ σ.length + ks.length := by
    intro ks
    induction ks with
    | nil => intro σ; simp
    | cons a r ih =>
      intro σ
      rw [List.foldl_cons]
      have := ih (stepD σ a)
      have h2 : (stepD σ a).length ≤ σ.length + 1 := by
        unfold stepD; split
        · omega
        · rw [List.length_append]; exact Nat.le_refl _
      rw [List.length_cons]; omega
  have := go ks []
  simpa [metK] using this
section
variable {prog : Program} {w : World} {A : Around} {R : Result → Shared → Prop} {I : Addr} {fp wr : List Addr} {G : Array GenState → Array GenState → Prop} {n : Nat} {P : Nat → Value → Prop} {St : Nat → Shared → Prop}
theorem setOf_congr {h : Heap} {a : Addr} {S S' : Key → Bool} {n n' : Nat} (hS : h.SetOf (mixKind prog w) a S n) (e : ∀ k, S k = S' k) (en : n = n') : h.SetOf (mixKind prog w) a S' n' := by
  have : S = S' := funext e
  subst this; subst en; exact hS
theorem loopK (W : WalksS prog w A.in1 I fp wr G n P St) (S : Addr) (hSf : S ∉ fp) (ks : List Key) (hn : ks.length = n) (hval : ∀ i v, P i v → ∃ k, ks[i]? = some k ∧ RelV (kV k) v) (hb : n + 1 < scanBound) :
    ∀ (m i : Nat) (s : Shared), n - i = m → i ≤ n → St i s →
      s.heap.SetOf (mixKind prog w) S (fun k' => memK (metK (ks.take i)) k') (metK (ks.take i)).length →
      (∀ s', Moved (S :: wr) G s s' → s'.heap.SetOf (mixKind prog w) S (fun k' => memK (metK ks) k') (metK ks).length → R (.ok (.ret .none)) s') →
      codeAny (model prog w) A (.builtin "set.update.loop" ⟨[.ref S, .ref I], []⟩) R s := by
  have hSw : S ∉ wr := fun h => hSf (W.sub _ h)
  have hsub : ∀ b ∈ wr, b ∈ S :: wr := fun b hb => List.mem_cons_of_mem _ hb
  intro m
  induction m with
  | zero =>
    intro i s hk hi hst hS hR
    have hin : i = n := by omega
    subst hin
    have ht : ks.take i = ks := by rw [← hn]; exact List.take_length
    rw [ht] at hS
    refine codeAny_builtin PyProof.Rows.F.entry_set_update_loop ?_
    rw [Around.under_plainId PyProof.Rows.F.plain_set_update_loop _]
    show wpAny _ A.in1 (pyNext (.ref I) >>= _) _ _ s
    refine wpAny_bind (W.done s _ _ hst fun s' hm => ?_)
    show wpAny _ A.in1 (ret Value.none) _ _ s'
    exact wpAny_pure (hR s' (hm.mono hsub) (by
      obtain ⟨o, es, ep, t, ho, rest⟩ := hS
      exact ⟨o, es, ep, t, hm.heap S _ hSw ho, rest⟩))
  | succ m ih =>
    intro i s hk hi hst hS hR
    have hlt : i < n := by omega
    refine codeAny_builtin PyProof.Rows.F.entry_set_update_loop ?_
    rw [Around.under_plainId PyProof.Rows.F.plain_set_update_loop _]
    show wpAny _ A.in1 (pyNext (.ref I) >>= _) _ _ s
    refine wpAny_bind (W.item i s _ _ hlt hst fun v s' hP hst' hm => ?_)
    obtain ⟨k, hki, rk⟩ := hval i v hP
    have hS' : s'.heap.SetOf (mixKind prog w) S (fun k' => memK (metK (ks.take i)) k') (metK (ks.take i)).length := by
      obtain ⟨o, es, ep, tb, ho, rest⟩ := hS
      exact ⟨o, es, ep, tb, hm.heap S _ hSw ho, rest⟩
    have his : (mixKind prog w).is k v = true := by
      cases k with
      | inl i => obtain ⟨t, rfl⟩ := (show ∃ t, v = Value.int i t from rk); exact keyIs_int i t
      | inr x => obtain ⟨t, rfl⟩ := (show ∃ t, v = Value.str x t from rk); exact keyIs_str x t
    show wpAny _ A.in1 (holding [v] (setAdd S v) >>= _) _ _ s'
    refine wpAny_bind (wpAny_holding ?_)
    unfold setAdd
    refine wpAny_holding ?_
    refine wpAny_bind ((mixKind prog w).pyHash (k := k) his ?_)
    have hroom : (metK (ks.take i)).length + 1 < scanBound := by
      have := metK_len (ks.take i)
      rw [List.length_take] at this
      omega
    refine wpAny_setAddHashed_of (knd := mixKind prog w) (s := { s' with toks := s'.toks + 1 }) his (key_scan rk) hS' hroom fun h' hsb hS2 => ?_
    have htk : ks.take (i + 1) = ks.take i ++ [k] := by rw [List.take_add_one, hki]; rfl
    have hSi : h'.SetOf (mixKind prog w) S (fun k' => memK (metK (ks.take (i + 1))) k') (metK (ks.take (i + 1))).length := by
      refine setOf_congr hS2 (fun k' => ?_) ?_
      · rw [htk, metK_snoc]
        unfold stepD
        by_cases hm : memK (metK (ks.take i)) k = true
        · rw [if_pos hm]
          by_cases e : k' = k
          · rw [e]; simp [hm]
          · simp [e]
        · rw [if_neg hm]
          show _ = memK (metK (ks.take i) ++ [k]) k'
          unfold memK
          rw [List.any_append]
          congr 1
          by_cases e : k' = k
          · simp [e]
          · simp [e, Ne.symm e]
      · rw [htk, metK_snoc]
        unfold stepD
        by_cases hm : memK (metK (ks.take i)) k = true
        · rw [if_pos hm, if_pos hm]
        · rw [if_neg hm, if_neg hm, List.length_append]; rfl
    refine wpAny_pure ⟨plainId_quiet PyProof.Rows.F.plain_set_update_loop _, ih (i + 1) _ (by omega) hlt (W.frame _ s' _ _ hst' (Nat.le_succ _) fun b hb o e => ?_) hSi fun s'' hm'' hS'' => ?_⟩
    · rw [hsb.2 b (fun h : b = S => hSf (by rw [← h]; exact hb))]; exact e
    · refine hR s'' (Moved.trans W.gtrans ((hm.mono hsub).then_heap (Nat.le_succ _) fun b o hb e => ?_) hm'') hS''
      rw [hsb.2 b (fun h : b = S => hb (by rw [h]; exact List.mem_cons_self))]; exact e
end
section
variable {prog : Program} {w : World} {A : Around} {E : Value → Shared → Prop} {s : Shared}
set_option maxHeartbeats 3200000 in
theorem call_set_text {x : Str} {t : Tok} {ks : List Key} {Q : Value → Shared → Prop}
    (hh : A.handled = none) (hn : ks.length = x.cps.size) (hi : ∀ (i : Nat) (v : Value), SignAt x i v → ∃ k : Key, ks[i]? = some k ∧ RelV (kV k) v) (hb : ks.length + 1 < scanBound)
    (h : ∀ (h' : Heap) (tk : Nat), h'.SetOf (mixKind prog w) s.heap.objs.size (fun k' => memK (metK ks) k') (metK ks).length →
      (∀ b o, b < s.heap.objs.size → s.heap.get? b = some o → h'.get? b = some o) → Q (.ref s.heap.objs.size) { s with heap := h', toks := tk }) :
    wpAny (model prog w) A (call (.type "set") [.str x t]) Q E s := by
  obtain ⟨c, tl, hmro⟩ := PySem.F.called_set.mro
  have hmade := PySem.F.called_set.made
  have hsub := PySem.F.called_set.sub
  refine wpAny_call (codeAny_of_tree ?_)
  show wpAny _ _ (callAny (.type "set") _) _ _ _
  refine wpAny_pure ⟨Code.quiet_builtin _ (by decide +kernel), codeAny_builtin PySem.F.entry_type_call ?_⟩
  rw [Around.under_plain (weight_type_call_type "set" [.str x t] []) rfl]
  have h1 := PySem.F.called_set.notType
  have h2 := PySem.F.called_set.canCreate
  have hct := PySem.F.typeCall_set_1 (.str x t)
  repeat (any_goals (first | assumption | wp_step))
  refine codeAny_mono (code_set_new_1 (.str x t) (E := E) (Q₁ := fun obj s₁ => ∃ led : Bool, obj = .ref s.heap.objs.size ∧ s₁ = { s with heap := s.heap.push { cls := .type "set", dict := none, data := .set #[] 0 (.fresh 0 0 led) } }) fun led => ⟨led, rfl, rfl⟩) fun r s₁ hr => ?_
  cases r with
  | error e => exact hr
  | ok fl =>
    cases fl with
    | ret obj =>
      obtain ⟨led, rfl, rfl⟩ := hr
      have hS : (s.heap.push { cls := .type "set", dict := none, data := .set #[] 0 (.fresh 0 0 led) }).get? s.heap.objs.size = some { cls := .type "set", dict := none, data := .set #[] 0 (.fresh 0 0 led) } := Heap.get?_push_size _ rfl
      have hT : Shared.TypeIs { s with heap := s.heap.push { cls := .type "set", dict := none, data := .set #[] 0 (.fresh 0 0 led) } } (.ref s.heap.objs.size) "set" := ⟨_, hS, rfl⟩
      have hli := PySem.F.called_set.init.lookup
      have hbi := PySem.F.called_set.init.bind (.ref s.heap.objs.size)
      repeat (any_goals (first | assumption | wp_step))
      refine codeAny_mono (codeAny_call_builtin (R := wants (fun r s₂ => r = .none ∧ ∃ h' tk, s₂ = { s with heap := h', toks := tk } ∧
          h'.SetOf (mixKind prog w) s.heap.objs.size (fun k' => memK (metK ks) k') (metK ks).length ∧
          (∀ b o, b < s.heap.objs.size → s.heap.get? b = some o → h'.get? b = some o)) E) PySem.F.called_set.init.plain PySem.F.entry_set_init (check_set_init_1 hT ?_)) fun r₂ s₂ hr₂ => ?_
      · have hsls := PySem.F.sub_str_set
        have hslf := PySem.F.sub_str_frozenset
        have hne : (Value.type "str" == Value.type "dict") = false := by decide
        unfold Builtin.«set.__init__» noKeywords Builtin.Frozenset.updateFrom
        generalize hPI : pyIter = PI
        wp_walk
        subst hPI
        refine wpAny_pyIter_strU ?_
        refine wpAny_bind (wpAny_runValue ?_)
        have hh3 : A.in1.in1.in1.handled = none := by simp [hh]
        have hSf : s.heap.objs.size ∉ [(s.heap.push { cls := .type "set", dict := none, data := .set #[] 0 (.fresh 0 0 led) }).objs.size] := by
          rw [Heap.size_push]; simp only [List.mem_singleton]
          exact Nat.ne_of_lt (Nat.lt_succ_self _)
        have hWk : Walks prog w A.in1.in1.in1 (s.heap.push { cls := .type "set", dict := none, data := .set #[] 0 (.fresh 0 0 led) }).objs.size [(s.heap.push { cls := .type "set", dict := none, data := .set #[] 0 (.fresh 0 0 led) }).objs.size] [(s.heap.push { cls := .type "set", dict := none, data := .set #[] 0 (.fresh 0 0 led) }).objs.size] x.cps.size (SignAt x) (fun i h => h.IsStrIter (s.heap.push { cls := .type "set", dict := none, data := .set #[] 0 (.fresh 0 0 led) }).objs.size (strIterType x) x t i) := by
          unfold strIterType
          by_cases ha : x.cps.all (· < 128) = true
          · rw [if_pos ha]; exact Walks.strAscii hh3 _ x t
          · rw [if_neg ha]; exact Walks.strWide hh3 _ x t
        have hget : ((s.heap.push { cls := .type "set", dict := none, data := .set #[] 0 (.fresh 0 0 led) }).push { cls := .type (strIterType x), data := .fields #[.str x t, .int 0 0] }).get? s.heap.objs.size
              = some { cls := .type "set", dict := none, data := .set #[] 0 (.fresh 0 0 led) } := Heap.get?_push_of_some _ hS
        have hS0 : ((s.heap.push { cls := .type "set", dict := none, data := .set #[] 0 (.fresh 0 0 led) }).push { cls := .type (strIterType x), data := .fields #[.str x t, .int 0 0] }).SetOf (mixKind prog w) s.heap.objs.size (fun k' => memK (metK (ks.take 0)) k') (metK (ks.take 0)).length :=
          ⟨_, #[], 0, .fresh 0 0 led, hget, ⟨rfl, rfl, rfl⟩, rfl, fun e he => by simp at he, fun k => by simp [metK, memK], by unfold scanBound; simp, by rfl, rfl⟩
        refine loopK hWk.toS s.heap.objs.size hSf ks hn hi (by rw [← hn]; exact hb) (x.cps.size - 0) 0 _ (by omega) (Nat.zero_le _) ⟨_, Heap.get?_push_size _ rfl, rfl, rfl⟩ hS0 fun s' hm hS' => ?_
        · obtain ⟨h', g', d', tk', os'⟩ := s'
          have eg : g' = s.gens := hm.gens
          have ed : d' = s.drawn := hm.drawn
          have eo : os' = s.os := hm.os
          subst eg; subst ed; subst eo
          show wpAny _ _ _ _ _ _
          refine wpAny_pure ?_
          show wpAny _ _ (ret Value.none) _ _ _
          refine wpAny_pure ⟨rfl, h', tk', rfl, hS', fun b o hb e => ?_⟩
          have hb1 : b ≠ s.heap.objs.size := Nat.ne_of_lt hb
          have hb2 : b ≠ (s.heap.push { cls := .type "set", dict := none, data := .set #[] 0 (.fresh 0 0 led) }).objs.size := by
            rw [Heap.size_push]; exact Nat.ne_of_lt (Nat.lt_succ_of_lt hb)
          exact hm.heap b o (by simp only [List.mem_cons, List.mem_singleton, List.not_mem_nil, or_false, not_or]; exact ⟨hb1, hb2⟩) (Heap.get?_push_of_some _ (Heap.get?_push_of_some _ e))
      · cases r₂ with
        | error e => exact hr₂
        | ok fl₂ =>
          cases fl₂ with
          | ret r =>
            obtain ⟨rfl, h', tk, rfl, hS', hk'⟩ := hr₂
            repeat (any_goals (first | assumption | wp_step))
            exact h _ _ hS' hk'
          | _ => exact hr₂.elim
    | _ => exact hr.elim
end
/-- the signs of a text, as keys -/
def signsK (z : Str) : List Key := z.cps.toList.map fun c => Sum.inr ⟨#[c]⟩
def tLenSetS (ta : TE) : TE := fun σ H Q => ta σ H fun x H1 => ∃ z : Str, x = .str z ∧ z.length + 1 < scanBound ∧ Q (.int ((metK (signsK z)).length : Nat)) H1
theorem pe_lenSetS {X : Cx} {a : Expr} {ta : TE} {p p2 q pos : Pos} (hg : Gl X "len") (hm : X.mg "len" = none) (hg2 : Gl X "set") (hm2 : X.mg "set" = none) (ha : PE X a ta) (hc : X.calm = true := by rfl)
    (na : starEach [a] X.env = (false, eval a X.env) :: starEach [] X.env := by rfl) : PE X (.Call (.Name "len" p) [.Call (.Name "set" p2) [a] [] q] [] pos) (tLenSetS ta) := by
  refine ⟨fun pins s σ H Q I h => ?_⟩
  refine Call_ (ld_blt I hg hm boot_len ?_)
  refine PyProof.Rows.callWith_builtin1 (PyProof.Rows.args_cons ?_ rfl) rfl rfl
  refine Call_ (ld_blt I hg2 hm2 boot_set ?_)
  refine PyProof.Rows.callWith_type1 (PyProof.Rows.args_cons (thn (ha.run pins s σ H _ I h) fun v s1 ⟨x, H1, I1, r1, q1⟩ => PyProof.Rows.args_nil ?_) na) na rfl
  obtain ⟨z, rfl, hz, q1⟩ := q1
  obtain ⟨t, rfl⟩ := r1
  refine call_set_text (ks := signsK z) (I1.ok.hd hc) (by unfold signsK; simp) (fun i v hv => ?_) (by unfold signsK; simpa [Str.length] using hz) fun h' tk hS hk => ?_
  · obtain ⟨c, u, h1, rfl⟩ := hv
    refine ⟨.inr ⟨#[c]⟩, ?_, ⟨u, rfl⟩⟩
    unfold signsK
    rw [List.getElem?_map]
    have : z.cps.toList[i]? = some c := by rw [Array.getElem?_toList]; exact h1
    rw [this]; rfl
  · refine PyProof.Rows.args_nil ?_
    obtain ⟨o, es, ep, t, ho, hex, hd, _, _, hs, hf, hn⟩ := hS
    have I2 : Inv X pins σ H1 { s1 with heap := h', toks := tk } := I1.kept fun b o e => hk b o (Heap.lt_size e) e
    exact call_len_set ho hex hd hf (by unfold scanBound at hs; omega) ⟨.int (metK (signsK z)).length, H1, I2.tok _, ⟨_, by rw [hn]⟩, q1⟩
end EX

namespace EX
open PySem PySem.Spec PyProof.Rows L2 PySem.W
mutual
/-- the value is the nested key -/
def NK (K : PySem.W.Frag) (H : Hp) : NestedKey → V → Prop
  | .none, v => v = .non
  | .num i, v => v = .int i
  | .text x, v => v = .str x
  | .tup ks, v => ∃ a vs, v = .ref a ∧ SqT K H a vs ∧ NKs K H ks vs
def NKs (K : PySem.W.Frag) (H : Hp) : List NestedKey → List V → Prop
  | [], vs => vs = []
  | k :: ks, vs => ∃ v r, vs = v :: r ∧ NK K H k v ∧ NKs K H ks r
end
section
variable {X : Cx} {pins : List (Addr × Obj)} {σ : List (Option V)} {H : Hp} {s : Shared}
mutual
theorem nk_is (I : Inv X pins σ H s) : ∀ (k : NestedKey) (v : V) (u : Value), NK X.K H k v → RelV v u → NestedIs s.heap k u
  | .none, v, u, h, r => by
    unfold NK at h; subst h
    cases r; exact .none
  | .num i, v, u, h, r => by
    unfold NK at h; subst h
    obtain ⟨t, rfl⟩ := r
    exact .int i t
  | .text x, v, u, h, r => by
    unfold NK at h; subst h
    obtain ⟨t, rfl⟩ := r
    exact .text x t
  | .tup ks, v, u, h, r => by
    unfold NK at h
    obtain ⟨a, vs, rfl, h1, h2⟩ := h
    cases r
    obtain ⟨its, rv, ⟨o, e1, e2, n, e3⟩, hz⟩ := I.tuple h1
    exact .tup e1 e2 e3 (nks_is I ks vs its h2 rv)
theorem nks_is (I : Inv X pins σ H s) : ∀ (ks : List NestedKey) (vs : List V) (us : List Value), NKs X.K H ks vs → Vals vs us → NestedAll s.heap ks us
  | [], vs, us, h, r => by
    unfold NKs at h; subst h
    cases r; exact .nil
  | k :: ks, vs, us, h, r => by
    unfold NKs at h
    obtain ⟨v, w, rfl, h1, h2⟩ := h
    cases r with
    | cons r1 r2 => exact .cons (nk_is I k v _ h1 r1) (nks_is I ks w _ h2 r2)
end
mutual
theorem nk_reads (I : Inv X pins σ H s) : ∀ (k : NestedKey) (v : V) (u : Value), NK X.K H k v → RelV v u → Reads s.heap u k.data []
  | .none, v, u, h, r => by
    unfold NK at h; subst h
    cases r; exact .none
  | .num i, v, u, h, r => by
    unfold NK at h; subst h
    obtain ⟨t, rfl⟩ := r
    exact .int i t
  | .text x, v, u, h, r => by
    unfold NK at h; subst h
    obtain ⟨t, rfl⟩ := r
    exact .str x t
  | .tup ks, v, u, h, r => by
    unfold NK at h
    obtain ⟨a, vs, rfl, h1, h2⟩ := h
    cases r
    obtain ⟨its, rv, ⟨o, e1, e2, n, e3⟩, hz⟩ := I.tuple h1
    exact .tuple e1 e2 e3 (nks_reads I ks vs its h2 rv)
theorem nks_reads (I : Inv X pins σ H s) : ∀ (ks : List NestedKey) (vs : List V) (us : List Value), NKs X.K H ks vs → Vals vs us → ReadsAll s.heap us (NestedKey.datas ks) []
  | [], vs, us, h, r => by
    unfold NKs at h; subst h
    cases r; exact .nil
  | k :: ks, vs, us, h, r => by
    unfold NKs at h
    obtain ⟨v, w, rfl, h1, h2⟩ := h
    cases r with
    | cons r1 r2 => exact .cons (as := []) (bs := []) (nk_reads I k v _ h1 r1) (nks_reads I ks w _ h2 r2)
end
/-- the keys of a dict's entries stand -/
def NdK (K : PySem.W.Frag) (H : Hp) (xs : List (NestedKey × Addr × Value)) : Prop := ∀ x ∈ xs, NK K H x.1 (.ref x.2.1) ∧ x.1.depth ≤ 8
theorem nd_dict {a : Addr} {xs : List (NestedKey × Addr × Value)} (I : Inv X pins σ H s) (hD : H a = some (DL.NdO X.prog X.w a xs)) (hk : NdK X.K H xs) : s.heap.DictOfH (nestedKind X.prog X.w) a xs := by
  obtain ⟨⟨o, es, ep, h1, h2, h3, h4, h5⟩, _⟩ := I.hok a _ hD
  exact ⟨o, es, ep, h1, h2, h3, h4, fun x hx => ⟨nk_is I _ _ _ (hk x hx).1 rfl, (hk x hx).2⟩, h5⟩
theorem nd_ok {P : Program} {w : World} {H' : Hp} {h' : Heap} {a : Addr} {xs : List (NestedKey × Addr × Value)} (d : h'.DictOfH (nestedKind P w) a xs) : ObjOk P w H' h' a (DL.NdO P w a xs) := by
  obtain ⟨o, es, ep, h1, h2, h3, h4, _, h5⟩ := d
  exact ⟨⟨o, es, ep, h1, h2, h3, h4, h5⟩, ⟨o, h1⟩, fun g1 g2 ⟨o, es, ep, z1, z⟩ k => ⟨o, es, ep, k _ z1, z⟩⟩
theorem nd_start {h : Heap} {P : Program} {w : World} {H' : Hp} : ObjOk P w H' (h.push { cls := .type "dict", data := .dict #[] }) h.objs.size (DL.NdO P w h.objs.size []) := nd_ok (Heap.DictOfH.new h)
/-- d[k] = v -/
theorem nd_set {E : Value → Shared → Prop} {D b : Addr} {xs : List (NestedKey × Addr × Value)} {k : NestedKey} {r : Value} {Q : Unit → Shared → Prop} (hu : X.A.units + 64 < cLine) (I : Inv X pins σ H s) (hD : H D = some (DL.NdO X.prog X.w D xs)) (hk : NdK X.K H xs) (hz : xs.length < sizeLine)
    (nk : NK X.K H k (.ref b)) (hd : k.depth ≤ 8) (h : ∀ s', Inv X pins σ (upd H D (DL.NdO X.prog X.w D (storedH xs k b r))) s' → Q () s') : wpAny (model X.prog X.w) X.A (dictSet D (.ref b) r) Q E s := by
  refine wpAny_dictSet_heap (knd := nestedKind X.prog X.w) (hsz := Nat.le_of_lt hz) (show X.A.units + 8 < cLine by omega) (⟨nk_is I _ _ _ nk rfl, hd⟩ : (nestedKind X.prog X.w).is s.heap k b) (nd_dict I hD hk) fun h' dd hs => h _ ?_
  exact I.write (x := D) (e := D) (by rw [hD]; exact True.intro) (.inl rfl) (fun b q hb z => (hs.2 b hb).trans z) (let ⟨q, _, _, hq, _⟩ := dd; ⟨q, hq⟩) (nd_ok dd)
theorem nd_setItem {E : Value → Shared → Prop} {D b : Addr} {xs : List (NestedKey × Addr × Value)} {k : NestedKey} {r : Value} {Q : Unit → Shared → Prop} (hu : X.A.units + 64 < cLine) (I : Inv X pins σ H s) (hD : H D = some (DL.NdO X.prog X.w D xs)) (hk : NdK X.K H xs) (hz : xs.length < sizeLine)
    (nk : NK X.K H k (.ref b)) (hd : k.depth ≤ 8) (h : ∀ s', Inv X pins σ (upd H D (DL.NdO X.prog X.w D (storedH xs k b r))) s' → Q () s') : wpAny (model X.prog X.w) X.A (setItem (.ref D) (.ref b) r) Q E s := by
  refine wpAny_setItem_heap (knd := nestedKind X.prog X.w) (hsz := Nat.le_of_lt hz) (show X.A.in1.units + 8 < cLine by show X.A.units + 1 + 8 < cLine; omega) (⟨nk_is I _ _ _ nk rfl, hd⟩ : (nestedKind X.prog X.w).is s.heap k b) (nd_dict I hD hk) fun h' dd hs => h _ ?_
  exact I.write (x := D) (e := D) (by rw [hD]; exact True.intro) (.inl rfl) (fun b q hb z => (hs.2 b hb).trans z) (let ⟨q, _, _, hq, _⟩ := dd; ⟨q, hq⟩) (nd_ok dd)
end
section
variable {X : Cx} {o i : Expr} {td ti tv : TE} {pos pos' : Pos}
/-- d[k] -/
def tNGet (K : PySem.W.Frag) (P : Program) (w : World) (td ti : TE) : TE := fun σ H Q => td σ H fun x H1 => ti σ H1 fun y H2 => ∃ a xs k b ka val v, x = .ref a ∧ y = .ref b ∧ H2 a = some (DL.NdO P w a xs) ∧ NdK K H2 xs ∧ NK K H2 k (.ref b) ∧ k.depth ≤ 8 ∧ atKey xs k = some (ka, val) ∧ RelV v val ∧ Q v H2
theorem pe_nget (hu : X.A.units + 64 < cLine) (ho : PE X o td) (hi : PE X i ti) (hs : NoSl i) : PE X (.Subscript o i pos) (tNGet X.K X.prog X.w td ti) := by
  refine ⟨fun pins s σ H Q I h => ?_⟩
  refine subD_of PySem.F.slot_dict_getitem.lookup hs (thn (ho.run pins s σ H _ I h) fun u s1 ⟨x, H1, I1, rx, q1⟩ => thn (hi.run pins s1 σ H1 _ I1 q1) fun iv s2 ⟨y, H2, I2, ry, a, xs, k, b, ka, val, v, ex, ey, hD, hk, nk, hd, hv, rv, q2⟩ => ?_)
  subst ex ey
  obtain rfl : u = Value.ref a := rx
  obtain rfl : iv = Value.ref b := ry
  have dd := nd_dict I2 hD hk
  exact ⟨dd.typeIs, wpAny_getItem_heap (knd := nestedKind X.prog X.w) (show X.A.in1.units + 8 < cLine by show X.A.units + 1 + 8 < cLine; omega) (⟨nk_is I2 _ _ _ nk rfl, hd⟩ : (nestedKind X.prog X.w).is s2.heap k b) dd hv ⟨v, H2, I2.tok _, rv, q2⟩⟩
/-- k in d, k not in d -/
def tNIn (K : PySem.W.Frag) (P : Program) (w : World) (neg : Bool) (ti td : TE) : TE := fun σ H Q => ti σ H fun y H1 => td σ H1 fun x H2 => ∃ a xs k b, x = .ref a ∧ y = .ref b ∧ (a == sysModules) = false ∧ H2 a = some (DL.NdO P w a xs) ∧ NdK K H2 xs ∧ NK K H2 k (.ref b) ∧ k.depth ≤ 8 ∧ Q (.bl (if neg then !(atKey xs k).isSome else (atKey xs k).isSome)) H2
theorem pc_nin (hu : X.A.units + 64 < cLine) (hi : PE X i ti) (ho : PE X o td) : PC X .In i o (tNIn X.K X.prog X.w false ti td) := by
  refine ⟨fun pins s σ H Q I h => ?_⟩
  refine thn (hi.run pins s σ H _ I h) fun iv s1 ⟨y, H1, I1, ry, q1⟩ => thn (ho.run pins s1 σ H1 _ I1 q1) fun u s2 ⟨x, H2, I2, rx, a, xs, k, b, ex, ey, hs, hD, hk, nk, hd, q2⟩ => ?_
  subst ex ey
  obtain rfl : u = Value.ref a := rx
  obtain rfl : iv = Value.ref b := ry
  exact wpAny_in_heap (knd := nestedKind X.prog X.w) (show X.A.in1.units + 8 < cLine by show X.A.units + 1 + 8 < cLine; omega) (⟨nk_is I2 _ _ _ nk rfl, hd⟩ : (nestedKind X.prog X.w).is s2.heap k b) hs (nd_dict I2 hD hk) ⟨V.bl (atKey xs k).isSome, H2, I2.tok _, rfl, by simpa using q2⟩
theorem pc_nnotin (hu : X.A.units + 64 < cLine) (hi : PE X i ti) (ho : PE X o td) : PC X .NotIn i o (tNIn X.K X.prog X.w true ti td) := by
  refine ⟨fun pins s σ H Q I h => ?_⟩
  refine thn (hi.run pins s σ H _ I h) fun iv s1 ⟨y, H1, I1, ry, q1⟩ => thn (ho.run pins s1 σ H1 _ I1 q1) fun u s2 ⟨x, H2, I2, rx, a, xs, k, b, ex, ey, hs, hD, hk, nk, hd, q2⟩ => ?_
  subst ex ey
  obtain rfl : u = Value.ref a := rx
  obtain rfl : iv = Value.ref b := ry
  show wpAny (model X.prog X.w) X.A ((do return Value.bool (!(← contains (.ref a) (.ref b)))) : Sem Value) _ _ _
  exact wpAny_bind (wpAny_contains_heap (knd := nestedKind X.prog X.w) (show X.A.in1.units + 8 < cLine by show X.A.units + 1 + 8 < cLine; omega) (⟨nk_is I2 _ _ _ nk rfl, hd⟩ : (nestedKind X.prog X.w).is s2.heap k b) hs (nd_dict I2 hD hk) (wpAny_pure ⟨V.bl (!(atKey xs k).isSome), H2, I2.tok _, rfl, by simpa using q2⟩))
/-- d[k] = v -/
def sNPut (K : PySem.W.Frag) (P : Program) (w : World) (td ti tv : TE) : TS := fun D σ H => tv σ H fun v H1 => td σ H1 fun x H2 => ti σ H2 fun y H3 => ∃ a xs k b, x = .ref a ∧ y = .ref b ∧ H3 a = some (DL.NdO P w a xs) ∧ NdK K H3 xs ∧ xs.length < sizeLine ∧ NK K H3 k (.ref b) ∧ k.depth ≤ 8 ∧ ∀ r, RelV v r → D.nx σ (upd H3 a (DL.NdO P w a (storedH xs k b r)))
theorem ps_nput {value : Expr} (hu : X.A.units + 64 < cLine) (ho : PE X o td) (hi : PE X i ti) (hv : PE X value tv) (hs : swapsWith value (some (.Subscript o i pos')) pos.line X.env = pure false) :
    PS X (.Assign [.Subscript o i pos'] value pos) (sNPut X.K X.prog X.w td ti tv) := by
  refine ⟨fun pins s σ H D I h => ?_⟩
  refine wpAny_Assign_Subscript (thn (hv.run pins s σ H _ I h) fun r s1 ⟨v, H1, I1, rv, q1⟩ => thn (ho.run pins s1 σ H1 _ I1 q1) fun u s2 ⟨x, H2, I2, rx, q2⟩ => thn (hi.run pins s2 σ H2 _ I2 q2) fun iv s3 ⟨y, H3, I3, ry, a, xs, k, b, ex, ey, hD, hk, hz, nk, hd, q3⟩ => ?_) hs
  subst ex ey
  obtain rfl : u = Value.ref a := rx
  obtain rfl : iv = Value.ref b := ry
  exact nd_setItem hu I3 hD hk hz nk hd fun s4 I4 => ⟨σ, _, I4, q3 r rv⟩
theorem nd_src {prog : Program} {w : World} {d : Addr} {xs : List (NestedKey × Addr × Value)} {es : Array DictEntry} {ep : Nat} (lo : (d == sysModules) = false) (he : es.toList = xs.map (entryOfKey (nestedKind prog w))) :
    PySem.W.KdlSrc prog w "dict" d d xs.length (fun i v => ∃ y, xs[i]? = some y ∧ v = .ref y.2.1) (fun h => h.DictRaw d es ep) where
  type := fun _ hm => hm.typeIs
  there := fun h ⟨o, e, _⟩ => ⟨Heap.lt_size e, Heap.lt_size e⟩
  keep := fun _ _ hm hk => hm.at fun o e => hk d (.inl rfl) o e
  notList := by decide
  notTuple := by decide
  hint := fun _ _ _ _ hm hq => PySem.W.kdl_hint_dict hm.typeIs hq
  iter := fun A s hh hm => by
    have hlt : d < s.heap.objs.size := by obtain ⟨o, e, _⟩ := hm; exact Heap.lt_size e
    have hsz : es.size = xs.length := by rw [← Array.length_toList, he, List.length_map]
    refine ⟨_, fun i h => h.IsKeyIter s.heap.objs.size d i es.size ep ∧ h.DictRaw d es ep, (fun _ _ hq => wpAny_pyIter_dict_raw lo hm hq), ?_, ?_⟩
    · rw [← hsz]
      exact Walks.keysH hh _ d (Nat.ne_of_lt hlt) es ep (xs := xs) fun i hi => by
        have e1 : es.toList[i]? = some es[i] := by rw [Array.getElem?_toList]; simp [hi]
        rw [he, List.getElem?_map] at e1
        cases q : xs[i]? with
        | none => rw [q] at e1; cases e1
        | some y =>
          rw [q] at e1
          have e2 := Option.some.inj e1
          exact ⟨y, rfl, by rw [← e2]; rfl, by rw [← e2]; rfl⟩
    · exact ⟨⟨_, Heap.get?_push_size _ rfl, rfl, rfl⟩, hm.at fun o e => Heap.get?_push_of_some _ e⟩
theorem each_vals {ys : List (NestedKey × Addr × Value)} : ∀ {zs : List (NestedKey × Addr × Value)} {out : List Value}, EachIs (fun (v : Value) (x : NestedKey × Addr × Value) => v = .ref x.2.1 ∧ x ∈ ys) out zs → Vals (zs.map fun x => V.ref x.2.1) out
  | _, _, .nil => .nil
  | _, _, .cons h t => .cons (by rw [h.1]; rfl) (each_vals t)
/-- sorted(d): the keys by their order -/
def rSortedN (K : PySem.W.Frag) (P : Program) (w : World) : List V → Hp → VK → Prop := fun vs H Q => ∃ (a : Addr) (xs : List (NestedKey × Addr × Value)), vs = [V.ref a] ∧ (a == sysModules) = false ∧ H a = some (DL.NdO P w a xs) ∧ NdK K H xs ∧ xs.length ≤ sizeLine ∧
  AllAlike (xs.map fun x => x.1.data) ∧ Sortable (xs.map fun x => x.1.data) ∧ (∀ x ∈ xs, x.1.data.depth ≤ 8) ∧ ∀ p, H p = none → Q (.ref p) (upd H p (.lst ((xs.mergeSort (dataLe false fun x => x.1.data)).map fun x => V.ref x.2.1)))
theorem cr_sortedN {X : Cx} (hc : X.calm = true) (hu : X.A.units + 64 < cLine) : CallR X (.builtin "sorted") (rSortedN X.K X.prog X.w) := by
  intro pins s σ H xs us Q I r q
  obtain ⟨a, es, ex, lo, hD, hk, hz, hal, hso, hdp, q⟩ := q
  subst ex
  obtain ⟨u, eu, rx⟩ := vals1 r
  subst eu
  cases rx
  obtain ⟨⟨o, ens, ep, h1, h2, h3, h4, h5⟩, _⟩ := I.hok a _ hD
  have hraw : s.heap.DictRaw a ens ep := ⟨o, h1, h2, h3⟩
  refine Calls.call_function_entry PyProof.Rows.kind_sorted PyProof.Rows.plain_sorted PyProof.Rows.entry_sorted (PyProof.Rows.args_sorted1 _) ?_
  unfold Builtin.«sorted»
  refine wpAny_bind (m := checkCount "sorted" 1 1 _) (wpAny_pure ?_)
  refine wpAny_bind (PySem.W.kdu_collect (A := X.A.in1) (nd_src lo h4) (I.ok.hd hc) hraw hz fun h' tk acc hkp hacc => ?_)
  have hal2 : acc.toList.length = es.length := by rw [Array.length_toList, hacc.1]
  have I1 : Inv X pins σ H { s with heap := h', toks := tk } := I.kept hkp
  have each : EachIs (fun (v : Value) (x : NestedKey × Addr × Value) => v = .ref x.2.1 ∧ x ∈ es) acc.toList es := by
    refine EachIs.of_zip hal2 fun p hp => ?_
    obtain ⟨i, hi⟩ := List.mem_iff_getElem?.mp hp
    rw [List.getElem?_zip_eq_some] at hi
    obtain ⟨y, e1, e2⟩ := hacc.2 i p.1 (by rw [← Array.getElem?_toList]; exact hi.1)
    rw [hi.2] at e1
    obtain rfl := Option.some.inj e1
    exact ⟨e2, List.mem_of_getElem? hi.2⟩
  refine wpAny_bind (wpAny_newList ?_ (by rw [hal2]; exact hz))
  have hoL : (h'.push (seqObj "list" acc.toList.toArray 0)).get? h'.objs.size = some (seqObj "list" acc.toList.toArray 0) := Heap.get?_push_size _ rfl
  show wpAny _ _ _ _ _ { s with heap := h'.push (seqObj "list" acc.toList.toArray 0), toks := tk }
  have I2 : Inv X pins σ H { s with heap := h'.push (seqObj "list" acc.toList.toArray 0), toks := tk } := I1.kept fun b o e => Heap.get?_push_of_some _ e
  refine wpAny_bind (wpAny_holding (list_sort_data (s := { s with heap := h'.push (seqObj "list" acc.toList.toArray 0), toks := tk }) (enc := fun x : NestedKey × Addr × Value => x.1.data) hoL each (each.mono fun v b ⟨e, hb⟩ => ⟨[], by subst e; exact nk_reads I2 _ _ _ (hk b hb).1 rfl, by simp⟩) hal hso hz (fun b hb => by
    have := hdp b hb
    show X.A.units + 1 + 1 + _ < cLine
    omega) fun out ho eo => ?_))
  obtain ⟨e', he'⟩ := PyProof.Rows.sortedHeap_at (vs := acc.toList) (out := List.toArray out) hoL
  have hlen : ((es.mergeSort (dataLe false fun x : NestedKey × Addr × Value => x.1.data)).map fun x => V.ref x.2.1).length ≤ sizeLine := by
    rw [List.length_map, List.length_mergeSort]
    exact hz
  refine wpAny_pure ⟨_, rfl, .ref h'.objs.size, upd H h'.objs.size (.lst ((es.mergeSort (dataLe false fun x => x.1.data)).map fun x => V.ref x.2.1)), I1.laid (t' := tk) (fun b u e => ?_) (Nat.le_refl _)
    (show ObjOk X.prog X.w _ _ _ (.lst _) from ⟨hlen, out, e', each_vals eo, he'⟩), rfl, q _ (I1.hok.fresh (Nat.le_refl _))⟩
  have hb : b < h'.objs.size := Heap.lt_size e
  rw [PyProof.Rows.sortedHeap_old (Nat.ne_of_lt hb) (by rw [size_push']; exact Nat.lt_succ_of_lt hb)]
  exact Heap.get?_push_of_some _ e
end
end EX

namespace EX
open PySem PySem.Spec PyProof.Rows L2
section
variable {X : Cx}
/-- {k: v for target in iter if ..}, the keys tuples -/
def tNdc (K : PySem.W.Frag) (P : Program) (w : World) (wi : TI) (g : TG) (tt : TT) (tk tv : TE) (vs : List Nat) : TE := fun σ H Q => wi σ H fun J H1 => ∀ D, H1 D = none → (D == sysModules) = false → ∃ W : Nat → Nat → Hp → Prop, (∃ m, W 0 m (upd H1 D (DL.NdO P w D []))) ∧ ∀ i m H, W i m H →
  (J.stop i H ∧ Q (.ref D) H) ∨ (J.go i H ∧ ∃ Nx : Hp → Prop, (∀ H', Nx H' → ∃ m', m' < m ∧ W (i + 1) m' H') ∧ ∀ x H', J.yld i H x H' → g x (wipe σ vs) H' fun σ2 H2 => wipe σ2 vs = wipe σ vs ∧ tt σ2 H2 fun b H3 =>
    if b = true then tk σ2 H3 fun y H4 => tv σ2 H4 fun z H5 => ∃ xs k b, y = .ref b ∧ H5 D = some (DL.NdO P w D xs) ∧ NdK K H5 xs ∧ xs.length < sizeLine ∧ NK K H5 k (.ref b) ∧ k.depth ≤ 8 ∧ ∀ r, RelV z r → Nx (upd H5 D (DL.NdO P w D (storedH xs k b r))) else Nx H3)
theorem ndc_core {pins : List (Addr × Obj)} {s : Shared} {σ : L2.St} {H : Hp} {Q : VK} {kx vx tg iter : Expr} {ifs : List Expr} {scope : Scope} {own : List (Str × Nat)} {pos pos' : Pos} {wi : TI} {g : TG} {tt : TT} {tk tv : TE} {use : Option (Value → Sem Unit)} {Qf : Value → Shared → Prop}
    (hu : X.A.units + 64 < cLine) (hc : X.calm = true) (hN : X.N.Nodup) (I : Inv X pins σ H s) (hi : PI X tg iter wi) (ok : BlkOk X.N X.env.scope scope own)
    (hg : ∀ (s : Shared) (H : Hp) (C : Addr) (cl : List (Str × Addr)) (fp : List Addr), PG (X.blk s H scope (compEnvC scope cl C X.env) fp) tg g) (ht : ∀ (s : Shared) (H : Hp) (C : Addr) (cl : List (Str × Addr)) (fp : List Addr), PTs (X.blk s H scope (compEnvC scope cl C X.env) fp) ifs tt)
    (hk : ∀ (s : Shared) (H : Hp) (C : Addr) (cl : List (Str × Addr)) (fp : List Addr), PE (X.blk s H scope (compEnvC scope cl C X.env) fp) kx tk)
    (he : ∀ (s : Shared) (H : Hp) (C : Addr) (cl : List (Str × Addr)) (fp : List Addr), PE (X.blk s H scope (compEnvC scope cl C X.env) fp) vx tv) (hs : ∀ x, foldedSetIterable iter X.env x = pure x)
    (h : tNdc X.K X.prog X.w wi g tt tk tv (own.map (·.2)) σ H Q)
    (hRR : ∀ D C s' m H', Inv X pins σ H' s' → Q (.ref D) H' → s'.heap.Ns C m → FpOk X pins H' C → compPost (model X.prog X.w) X.A X.xe use Qf (.ref D) C (.ok .next) s') :
    wpAny (model X.prog X.w) X.A (comprehension (.DictComp kx vx [⟨tg, iter, ifs, 0⟩] scope pos) scope X.env pos' newDict false (eval iter X.env) use) Qf X.xe s := by
  have hfree : ∀ y ∈ scope.names, y.2 = .free → ∃ c, X.env.cells.lookup y.1 = some c := fun y hy e => by
    rcases ok.free y hy e with k | k
    · exact I.ok.has _ (.inl k)
    · exact I.ok.has _ (.inr k)
  refine wpAny_comprehension_free (use := use) rfl hs (closure_ok hfree) ok.kind (fun y hy e => by rw [ok.uniq y hy, e])
    (thn (hi.run pins s σ H _ I h) fun xv s1 hx => thn hx fun itv s2 h2 => ?_)
  obtain ⟨it, fp, tn, J, H2, e, I2, T, st2, f2, q⟩ := h2
  subst e
  refine wpAny_newObj_type (newEnv_comp ?_)
  generalize hD : s2.heap.objs.size = D
  have hDn : H2 D = none := I2.hok.fresh (Nat.le_of_eq hD)
  obtain ⟨W, ⟨m0, w0⟩, turn⟩ := q D hDn (beq_eq_false_iff_ne.mpr fun e => by have z := I2.big; rw [hD, e] at z; exact Nat.lt_irrefl _ z)
  -- the new list
  generalize hs3 : ({ s2 with heap := s2.heap.push { cls := .type "dict", data := .dict #[] } } : Shared) = s3
  have I3 : Inv X pins σ (upd H2 D (DL.NdO X.prog X.w D [])) s3 := by
    rw [← hs3]
    refine I2.laid (t' := s2.toks) (fun b o e => Heap.get?_push_of_some _ e) (Nat.le_of_eq hD) ?_
    rw [← hD]
    exact nd_start
  have h3 : s3.heap = s2.heap.push { cls := .type "dict", data := .dict #[] } := by rw [← hs3]
  have sz : ∀ b ∈ fp, b < s2.heap.objs.size := fun b hb => by
    obtain ⟨o, e, _⟩ := T.obj _ _ st2 b hb
    exact Heap.lt_size e
  have f3 : ∀ b ∈ fp, FpOk X pins (upd H2 D (DL.NdO X.prog X.w D [])) b ∧ b < s3.heap.objs.size := fun b hb => by
    have hlt := sz b hb
    refine ⟨⟨?_, (f2 b hb).2⟩, by rw [h3, Heap.size_push]; exact Nat.lt_succ_of_lt hlt⟩
    rw [upd_ne (by rw [← hD]; exact Nat.ne_of_lt hlt)]
    exact (f2 b hb).1
  have st3 : tn 0 s3.heap := T.keep _ _ _ st2 fun b _ o e => by rw [h3]; exact Heap.get?_push_of_some _ e
  have I4 := block_start I3 ok hN f3
  have pg := hg s3 (upd H2 D (DL.NdO X.prog X.w D [])) s3.heap.objs.size (cellsFrom (s3.heap.objs.size + 1) scope.names (cloFrom X.env.cells scope.names [])) fp
  have pt := ht s3 (upd H2 D (DL.NdO X.prog X.w D [])) s3.heap.objs.size (cellsFrom (s3.heap.objs.size + 1) scope.names (cloFrom X.env.cells scope.names [])) fp
  have pk := hk s3 (upd H2 D (DL.NdO X.prog X.w D [])) s3.heap.objs.size (cellsFrom (s3.heap.objs.size + 1) scope.names (cloFrom X.env.cells scope.names [])) fp
  have pe := he s3 (upd H2 D (DL.NdO X.prog X.w D [])) s3.heap.objs.size (cellsFrom (s3.heap.objs.size + 1) scope.names (cloFrom X.env.cells scope.names [])) fp
  show codeAny _ _ (.compStart (.DictComp kx vx [⟨tg, iter, ifs, 0⟩] scope pos) 0 (.ref it) (.ref D) (compEnvC scope (cellsFrom (s3.heap.objs.size + 1) scope.names (cloFrom X.env.cells scope.names [])) s3.heap.objs.size X.env)) (compPost (model X.prog X.w) X.A X.xe use Qf (.ref D) s3.heap.objs.size) { s3 with heap := pushCells (s3.heap.push { cls := .type "dict", data := .dict #[] }) scope.names }
  have nfp : ∀ b ∈ fp, (upd H2 D (DL.NdO X.prog X.w D [])) b = none := fun b hb => (f3 b hb).1.1
  generalize hce : compEnvC scope (cellsFrom (s3.heap.objs.size + 1) scope.names (cloFrom X.env.cells scope.names [])) s3.heap.objs.size X.env = ce at I4 pg pt pk pe ⊢
  have cL : ce.locals = s3.heap.objs.size := by subst hce; rfl
  generalize hH3 : upd H2 D (DL.NdO X.prog X.w D []) = H3 at I3 I4 pg pt pk pe w0 nfp f3
  generalize hs4 : ({ s3 with heap := pushCells (s3.heap.push { cls := .type "dict", data := .dict #[] }) scope.names } : Shared) = s4 at I4 ⊢
  have st4 : tn 0 s4.heap := T.keep _ _ _ st3 fun b _ o e => by rw [← hs4]; exact pushCells_keeps _ _ _ _ (Heap.get?_push_of_some _ e)
  have stat : ∀ {σ' : L2.St} {H' : Hp} {s' : Shared}, Inv (X.blk s3 H3 scope ce fp) [] σ' H' s' → (∀ b ∈ fp, H' b = none) → ∀ b ∈ fp, FpOk (X.blk s3 H3 scope ce fp) [] H' b := fun {σ' H' s'} I' hn b hb =>
    ⟨hn b hb, (I'.ok.exf b hb).1, I'.ok.exfs b hb, .inl hb, fun x c e => (I'.ok.exf b hb).2 x c e, fun p hp => absurd (show p ∈ ([] : List (Addr × Obj)) ++ [] from hp) (by simp)⟩
  have loop : codeAny (model X.prog X.w) X.A (.compLoop (.DictComp kx vx [⟨tg, iter, ifs, 0⟩] scope pos) 0 (.ref it) (.ref D) ce) (compPost (model X.prog X.w) X.A X.xe use Qf (.ref D) s3.heap.objs.size) s4 := by
    refine compLoop_anyD (fun n s' => ∃ i H', Inv (X.blk s3 H3 scope ce fp) [] (wipe σ (own.map (·.2))) H' s' ∧ tn i s'.heap ∧ (∀ b ∈ fp, H' b = none) ∧ W i n H') ?_ m0 ⟨0, H3, I4, st4, nfp, w0⟩
    rintro n s5 ⟨i, H5, I5, st5, n5, w5⟩
    rcases turn i n H5 w5 with ⟨stop, qq⟩ | ⟨go, Nx, hNx, step⟩
    · have td := T.done (X.blk s3 H3 scope ce fp) rfl rfl rfl hc i [] s5 _ H5 (fun _ _ => False) I5 (stat I5 n5) st5 stop
      refine thnF td fun r s6 ⟨hr, I6⟩ => ?_
      subst hr
      -- back in the def's context
      have I7 : Inv X pins σ H5 s6 := I3.call' (ch := fp) I6.os I6.base I6.hok I6.bare fun b hb => ⟨(f3 b hb).1.2.2.2.1, (f3 b hb).1.2.1, (f3 b hb).1.2.2.2.2.1, (f3 b hb).1.2.2.2.2.2⟩
      have nC : H5 s3.heap.objs.size = none := by
        have z : H5 ce.locals = none := I6.free
        rw [cL] at z
        exact z
      obtain ⟨m, hn, _⟩ := I6.loc
      have hn : s6.heap.Ns ce.locals m := hn
      rw [cL] at hn
      exact hRR D s3.heap.objs.size s6 m H5 I7 qq hn (I3.fpOk (Nat.le_refl _) nC)
    · have ti := T.item (X.blk s3 H3 scope ce fp) rfl rfl rfl hc i [] s5 _ H5 (fun _ _ => False) I5 (stat I5 n5) st5 go
      refine thnF ti fun r s6 ⟨u, hr, h6⟩ => ?_
      subst hr
      refine thnF h6 fun _ s7 ⟨x, H7, I7, r7, y7, st7, n7⟩ => ?_
      have I7' := I7.pinned (stat I7 n7) (T.obj _ _ st7)
      refine thnF (pg.run _ s7 _ H7 x u _ I7' r7 (step x H7 y7)) fun _ s8 ⟨σ8, H8, I8, hw8, q8⟩ => ?_
      refine thnF (pt.run _ s8 σ8 H8 _ I8 q8) fun b s9 ⟨H9, I9, q9⟩ => ?_
      -- the turn's end
      have fin : ∀ {s' : Shared} {H' : Hp}, Inv (X.blk s3 H3 scope ce fp) ([] ++ pinsAt fp s7.heap) σ8 H' s' → Nx H' → ∃ m, m < n ∧ ∃ i H', Inv (X.blk s3 H3 scope ce fp) [] (wipe σ (own.map (·.2))) H' s' ∧ tn i s'.heap ∧ (∀ b ∈ fp, H' b = none) ∧ W i m H' := fun {s' H'} I' nx => by
        obtain ⟨m', hm, w'⟩ := hNx H' nx
        have pin' : ∀ b ∈ fp, ∀ o, s7.heap.get? b = some o → s'.heap.get? b = some o ∧ H' b = none := fun b hb o e =>
          let z := I'.pin (b, o) (List.mem_append_right _ (List.mem_append_right _ (mem_pinsAt hb e)))
          ⟨z.1, z.2.1⟩
        have hl : (wipe σ (own.map (·.2))).length = σ8.length := by rw [← hw8, wipe_length]
        refine ⟨m', hm, i + 1, H', (I'.unpinned (pins := [])).weak hl (fun j v e => ?_), T.keep _ _ _ st7 fun b hb o e => (pin' b hb o e).1, fun b hb => ?_, w'⟩
        · rw [← hw8] at e
          exact (wipe_some e).1
        · obtain ⟨o, e, _⟩ := T.obj _ _ st7 b hb
          exact (pin' b hb o e).2
      cases b with
      | false =>
        simp only [Bool.false_eq_true, if_false] at q9 ⊢
        exact fin I9 q9
      | true =>
        simp only [if_true] at q9 ⊢
        refine thnF (pk.run _ s9 σ8 H9 _ I9 q9) fun z s10 ⟨yk, H10, I10, r10, q10⟩ => ?_
        refine thnF (pe.run _ s10 σ8 H10 _ I10 q10) fun z2 s11 ⟨yv, H11, I11, r11, kvs, k, kb, ek, hD11, hk11, hz11, nk11, hd11, nx⟩ => ?_
        subst ek
        obtain rfl : z = Value.ref kb := r10
        exact nd_set (X := X.blk s3 H3 scope ce fp) hu I11 hD11 hk11 hz11 nk11 hd11 fun s12 I12 => fin I12 (nx z2 r11)
  exact codeAny_compStart_dict loop (T.self X.A 0 _ _ _ st4 loop)
/-- as a value -/
theorem pe_ndc {kx vx tg iter : Expr} {ifs : List Expr} {scope : Scope} {own : List (Str × Nat)} {pos : Pos} {wi : TI} {g : TG} {tt : TT} {tk tv : TE} (hu : X.A.units + 64 < cLine) (hc : X.calm = true) (hN : X.N.Nodup) (hi : PI X tg iter wi) (ok : BlkOk X.N X.env.scope scope own)
    (hg : ∀ (s : Shared) (H : Hp) (C : Addr) (cl : List (Str × Addr)) (fp : List Addr), PG (X.blk s H scope (compEnvC scope cl C X.env) fp) tg g) (ht : ∀ (s : Shared) (H : Hp) (C : Addr) (cl : List (Str × Addr)) (fp : List Addr), PTs (X.blk s H scope (compEnvC scope cl C X.env) fp) ifs tt)
    (hk : ∀ (s : Shared) (H : Hp) (C : Addr) (cl : List (Str × Addr)) (fp : List Addr), PE (X.blk s H scope (compEnvC scope cl C X.env) fp) kx tk)
    (he : ∀ (s : Shared) (H : Hp) (C : Addr) (cl : List (Str × Addr)) (fp : List Addr), PE (X.blk s H scope (compEnvC scope cl C X.env) fp) vx tv) (hs : ∀ x, foldedSetIterable iter X.env x = pure x := by intro _; rfl) :
    PE X (.DictComp kx vx [⟨tg, iter, ifs, 0⟩] scope pos) (tNdc X.K X.prog X.w wi g tt tk tv (own.map (·.2))) := by
  refine ⟨fun pins s σ H Q I h => ?_⟩
  rw [arm_eval_DictComp]
  refine ndc_core hu hc hN I hi ok hg ht hk he hs h fun D C s' m H' I' q hn f => ⟨m, hn, fun h'' sb => ?_⟩
  obtain ⟨f0, f1, f2, f3, f4, f5⟩ := f
  exact ⟨.ref D, H', I'.turned (t' := s'.toks) (fun b o hb e => (sb.2 b hb).trans e) f0 f1 f3 f4 f5, rfl, q⟩
end
end EX

namespace DL
open PySem PySem.Spec PyProof.Rows L2 EX PySem.W
/-- d[k] = v -/
def putN (kvs : List (NestedKey × D)) (k : NestedKey) (d : D) : List (NestedKey × D) :=
  if (kvs.any fun x => decide (x.1 = k)) = true then kvs.map (fun x => if x.1 = k then (x.1, d) else x) else kvs ++ [(k, d)]
def valN (kvs : List (NestedKey × D)) (k : NestedKey) : Option D := (kvs.find? fun x => decide (x.1 = k)).map (·.2)
theorem putN_len (kvs : List (NestedKey × D)) (k : NestedKey) (d : D) : (putN kvs k d).length ≤ kvs.length + 1 := by
  unfold putN
  split
  · rw [List.length_map]; omega
  · rw [List.length_append]; exact Nat.le_refl _
section
variable {K : PySem.W.Frag} {G H : Hp}
mutual
theorem rep_nk (e : Same G H) : ∀ (k : NestedKey) (v : V), Rep K G (nkD k) v → NK K H k v
  | .none, v, h => by unfold nkD Rep at h; unfold NK; exact h
  | .num i, v, h => by unfold nkD Rep at h; unfold NK; exact h
  | .text x, v, h => by unfold nkD Rep at h; unfold NK; exact h
  | .tup ks, v, h => by
    unfold nkD Rep at h
    obtain ⟨a, vs, h1, h2, h3⟩ := h
    unfold NK
    exact ⟨a, vs, h1, sameT e h2, reps_nk e ks vs h3⟩
theorem reps_nk (e : Same G H) : ∀ (ks : List NestedKey) (vs : List V), Reps K G (nkD.go ks) vs → NKs K H ks vs
  | [], vs, h => by unfold nkD.go Reps at h; unfold NKs; exact h
  | k :: ks, vs, h => by
    unfold nkD.go Reps at h
    obtain ⟨v, r, h1, h2, h3⟩ := h
    unfold NKs
    exact ⟨v, r, h1, rep_nk e k v h2, reps_nk e ks r h3⟩
end
variable {kvs : List (NestedKey × D)} {xs : List (NestedKey × Addr × Value)}
theorem nde_k (e : Same G H) : ∀ {kvs : List (NestedKey × D)} {xs : List (NestedKey × Addr × Value)}, Paired (NdE K G) kvs xs → NdK K H xs
  | _, _, .nil, x, hx => by cases hx
  | _, _, .cons h t, x, hx => by
    rcases List.mem_cons.mp hx with rfl | hx
    · exact ⟨rep_nk e _ _ h.2.2.1, h.2.1⟩
    · exact nde_k e t x hx
theorem nde_any {k : NestedKey} : ∀ {kvs : List (NestedKey × D)} {xs : List (NestedKey × Addr × Value)}, Paired (NdE K G) kvs xs → (kvs.any fun x => decide (x.1 = k)) = (atKey xs k).isSome
  | _, _, .nil => rfl
  | _, _, .cons (a := a) (b := b) h t => by
    have ih := nde_any (k := k) t
    rw [List.any_cons, ih]
    unfold atKey
    rw [List.find?_cons, h.1]
    by_cases q : b.1 = k
    · simp [q]
    · simp [q]
theorem nde_get {k : NestedKey} {d : D} : ∀ {kvs : List (NestedKey × D)} {xs : List (NestedKey × Addr × Value)}, Paired (NdE K G) kvs xs → valN kvs k = some d → ∃ ka val v, atKey xs k = some (ka, val) ∧ Rep K G d v ∧ RelV v val
  | _, _, .nil, e => by simp [valN] at e
  | _, _, .cons (a := a) (b := b) h t, e => by
    unfold valN at e
    unfold atKey
    rw [List.find?_cons] at e ⊢
    rw [h.1] at e
    by_cases q : b.1 = k
    · simp [q] at e ⊢
      subst e
      obtain ⟨v, h4, h5⟩ := h.2.2.2
      exact ⟨_, _, rfl, v, h4, h5⟩
    · simp only [q, decide_false] at e ⊢
      exact nde_get t e
theorem nde_map {k : NestedKey} {d : D} {v : V} {r : Value} (hd : Rep K G d v) (hr : RelV v r) : ∀ {kvs : List (NestedKey × D)} {xs : List (NestedKey × Addr × Value)}, Paired (NdE K G) kvs xs → Paired (NdE K G) (kvs.map (fun x => if x.1 = k then (x.1, d) else x)) (xs.map (putAt k r))
  | _, _, .nil => .nil
  | _, _, .cons (a := a) (b := b) h t => by
    rw [List.map_cons, List.map_cons]
    refine .cons ?_ (nde_map hd hr t)
    unfold putAt
    rw [h.1]
    by_cases q : b.1 = k
    · simp only [q, if_true]
      exact ⟨rfl, by have := h.2.1; rw [q] at this; exact this, by have := h.2.2.1; rw [q] at this; exact this, v, hd, hr⟩
    · rw [if_neg q, if_neg q]
      exact h
theorem nde_put {k : NestedKey} {b : Addr} {d : D} {v : V} {r : Value} (p : Paired (NdE K G) kvs xs) (hk : k.depth ≤ 8) (hb : Rep K G (nkD k) (.ref b)) (hd : Rep K G d v) (hr : RelV v r) : Paired (NdE K G) (putN kvs k d) (storedH xs k b r) := by
  unfold putN storedH
  rw [nde_any p]
  by_cases q : (atKey xs k).isSome = true
  · rw [if_pos q, if_pos q]
    exact nde_map hd hr p
  · rw [if_neg q, if_neg q]
    exact p.snoc ⟨rfl, hk, hb, v, hd, hr⟩
theorem nde_mono {G' : Hp} (e : Same G G') (h : Paired (NdE K G) kvs xs) : Paired (NdE K G') kvs xs := Paired.mapP h fun _ _ x => x.mono e
theorem nde_each : ∀ {kvs : List (NestedKey × D)} {xs : List (NestedKey × Addr × Value)}, Paired (NdE K G) kvs xs → EachIs (fun (y : NestedKey × Addr × Value) (x : NestedKey × D) => x.1 = y.1 ∧ Rep K G (nkD x.1) (.ref y.2.1)) xs kvs
  | _, _, .nil => .nil
  | _, _, .cons h t => .cons ⟨h.1, by rw [h.1]; exact h.2.2.1⟩ (nde_each t)
theorem nde_datas : ∀ {kvs : List (NestedKey × D)} {xs : List (NestedKey × Addr × Value)}, Paired (NdE K G) kvs xs → (xs.map fun x => x.1.data) = kvs.map fun x => x.1.data
  | _, _, .nil => rfl
  | _, _, .cons h t => by rw [List.map_cons, List.map_cons, nde_datas t, h.1]
theorem each_reps : ∀ {ys : List (NestedKey × Addr × Value)} {zs : List (NestedKey × D)}, EachIs (fun (y : NestedKey × Addr × Value) (x : NestedKey × D) => x.1 = y.1 ∧ Rep K G (nkD x.1) (.ref y.2.1)) ys zs → Reps K G (zs.map fun x => nkD x.1) (ys.map fun x => V.ref x.2.1)
  | _, _, .nil => Reps.nil
  | _, _, .cons h t => Reps.cons h.2 (each_reps t)
/-- the keys in order -/
def sortN (kvs : List (NestedKey × D)) : List (NestedKey × D) := kvs.mergeSort (dataLe false fun x => x.1.data)
theorem nde_sort (p : Paired (NdE K G) kvs xs) : Reps K G ((sortN kvs).map fun x => nkD x.1) ((xs.mergeSort (dataLe false fun x => x.1.data)).map fun x => V.ref x.2.1) := by
  refine each_reps (sort_each (nde_each p) fun a ha b hb => ?_)
  have h1 := (nde_each p).zip a ha
  have h2 := (nde_each p).zip b hb
  unfold dataLe
  show sortLe _ _ _ a.1 b.1 = sortLe _ _ _ a.2 b.2
  unfold sortLe
  dsimp only
  rw [h1.1, h2.1]
end
section
variable {p : Pr} {X : Cx} {W : WX} {K : PySem.W.Frag} {G H : Hp} {σ : VSt} {δ : DSt} {ix : List Nat} {e e1 e2 tg iter kx vx : Expr} {ifs : List Expr} {scope : Scope} {ti : TDI} {g : TDG} {tt : TDT} {tk tv te ta tb : TDE} {x : Str} {pn pos spos : Pos}
theorem own_ndic {i : Nat} {kvs : List (NestedKey × D)} (r : DR K p G σ H δ) (h : δ[i]? = some (.own (.ndic kvs))) : ∃ a xs, σ[i]? = some (some (.ref a)) ∧ G a = none ∧ a ≠ p.b.a ∧ (a == sysModules) = false ∧ H a = some (NdO p.P p.w a xs) ∧ Paired (NdE K G) kvs xs := by
  obtain ⟨a, h1, h2, h3, lo, xs, h4, h5⟩ := r.slot i _ h
  exact ⟨a, xs, h1, h2, r.nb h3, lo, h4, h5⟩
/-- {k: v for ..}, the keys tuples -/
def compNdc (g : TDG) (tt : TDT) (tk tv : TDE) (δ : DSt) : List (NestedKey × D) → List D → (List (NestedKey × D) → Prop) → Prop
  | acc, [], k => k acc
  | acc, d :: ds, k => g d δ fun δ1 => tt δ1 (fun b => if b = true then tk δ1 (fun y => tv δ1 (fun z => ∃ ks, y = nkD (.tup ks) ∧ (NestedKey.tup ks).depth ≤ 8 ∧ compNdc g tt tk tv δ (putN acc (.tup ks) z) ds k) (fun _ _ => False)) (fun _ _ => False) else compNdc g tt tk tv δ acc ds k) (fun _ _ => False)
structure NcG (K : PySem.W.Frag) (P : Program) (w : World) (b : Bag) (G1 H1 : Hp) (A : Addr) (G H : Hp) (us : List (NestedKey × Addr × Value)) (ds : List (NestedKey × D)) : Prop where
  ext : Ext K b G1 H1 G H
  nG : G A = none
  at_ : H A = some (NdO P w A us)
  reps : Paired (NdE K G) ds us
theorem NcG.start {P : Program} {w : World} {b : Bag} {G1 H1 : Hp} {A : Addr} (s : Same G1 H1) (hb : BagOk K b G1 H1) (hA : H1 A = none) : NcG K P w b G1 H1 A G1 (upd H1 A (NdO P w A [])) [] [] := by
  have nG : G1 A = none := s.free hA
  refine ⟨⟨Same.refl _, fun c o z => ?_, fun c o n t z => ?_, fun _ _ _ _ z => z, hb.new hA⟩, nG, upd_same, .nil⟩
  · rw [upd_ne (ne_of_none z nG)]; exact s _ _ z
  · rw [upd_ne (ne_of_none z hA)]; exact z
theorem NcG.step {P : Program} {w : World} {b : Bag} {G1 H1 G' H' : Hp} {A : Addr} {us : List (NestedKey × Addr × Value)} {ds : List (NestedKey × D)} (g : NcG K P w b G1 H1 A G H us ds) (nb : A ≠ b.a) (hb : H1 b.a ≠ none) (e : Ext K b G H G' H') : NcG K P w b G1 H1 A G' H' us ds := by
  refine ⟨g.ext.trans hb e, ?_, e.keep A _ nb nt_ext g.at_, nde_mono e.gg g.reps⟩
  cases w : G' A with
  | none => rfl
  | some o => exact absurd g.nG (e.new A _ g.at_ nt_ext (by rw [w]; exact fun v => nomatch v))
theorem NcG.put {P : Program} {w : World} {b : Bag} {G1 H1 : Hp} {A ka : Addr} {us : List (NestedKey × Addr × Value)} {ds : List (NestedKey × D)} {d : D} {v : V} {r : Value} {k : NestedKey} (g : NcG K P w b G1 H1 A G H us ds) (nb : A ≠ b.a) (hA : H1 A = none) (hk : k.depth ≤ 8) (hb : Rep K G (nkD k) (.ref ka)) (rd : Rep K G d v) (rv : RelV v r) :
    NcG K P w b G1 H1 A G (upd H A (NdO P w A (storedH us k ka r))) (storedH us k ka r) (putN ds k d) := by
  refine ⟨⟨g.ext.gg, fun c o z => ?_, fun c o n t z => ?_, g.ext.new, g.ext.bag.upd nb fun o z => by
      rw [g.at_] at z; cases z
      exact chg_nd⟩, g.nG, upd_same, nde_put g.reps hk hb rd rv⟩
  · rw [upd_ne (ne_of_none z g.nG)]; exact g.ext.sub _ _ z
  · rw [upd_ne (ne_of_none z hA)]; exact g.ext.keep c o n t z
/-- y = {k: v for ..}, the dict y's own -/
def ySetNdc (S : List Nat) (i : Nat) (vs : List Nat) (ti : TDI) (g : TDG) (tt : TDT) (tk tv : TDE) : TDS := fun Dd δ => ti (frz S δ) (fun items => items.length < sizeLine ∧ compNdc g tt tk tv (wipeD (frz S δ) vs) [] items (fun kvs => Dd.nx ((frz S δ).set i (.own (.ndic kvs))))) (fun c fs => Dd.xc c fs (frz S δ))
theorem ds_setNdc (S : List Nat) (i : Nat) (own : List (Str × Nat)) {y : Str} {py : Pos} (hsub : ∀ j ∈ ix, j ∈ own.map (·.2)) (hc : X.calm = true) (hN : X.N.Nodup) (ok : BlkOk X.N X.env.scope scope own) (hi : DI p X W tg iter ti)
    (hg : ∀ (s : Shared) (H : Hp) (C : Addr) (cl : List (Str × Addr)) (fp : List Addr), DG p (X.blk s H scope (compEnvC scope cl C X.env) fp) tg ix g)
    (ht : ∀ (s : Shared) (H : Hp) (C : Addr) (cl : List (Str × Addr)) (fp : List Addr), DTs p (X.blk s H scope (compEnvC scope cl C X.env) fp) W0 ifs tt)
    (hk : ∀ (s : Shared) (H : Hp) (C : Addr) (cl : List (Str × Addr)) (fp : List Addr), DE p (X.blk s H scope (compEnvC scope cl C X.env) fp) W0 kx tk)
    (he : ∀ (s : Shared) (H : Hp) (C : Addr) (cl : List (Str × Addr)) (fp : List Addr), DE p (X.blk s H scope (compEnvC scope cl C X.env) fp) W0 vx tv)
    (hP1 : p.P = X.prog) (hP2 : p.w = X.w) (hu : X.A.units + 64 < cLine)
    (hy : X.N[i]? = some y := by rfl) (hyl : Loc X.env.scope y := by first | exact .inl rfl | exact .inr rfl) (hsw : swapsWith (.DictComp kx vx [⟨tg, iter, ifs, 0⟩] scope pos) (some (.Name y py)) spos.line X.env = pure false := by rfl)
    (hf : X.fn y = true ∨ X.env.scope.names.lookup y = some .local := by first | exact .inl rfl | exact .inr rfl | assumption)
    (hs : ∀ x, foldedSetIterable iter X.env x = pure x := by intro _; rfl) : DS p X W (.Assign [.Name y py] (.DictComp kx vx [⟨tg, iter, ifs, 0⟩] scope pos) spos) (ySetNdc S i (own.map (·.2)) ti g tt tk tv) := by
  obtain ⟨wi, w1, w2⟩ := hi
  obtain ⟨gv, g1', g2'⟩ := uniG hg
  obtain ⟨tv', t1', t2'⟩ := uniT ht
  obtain ⟨ek, e1', e2'⟩ := uniE hk
  obtain ⟨ev, e3', e4'⟩ := uniE he
  refine ⟨_, ps_set hN hy hyl (pe_ndc hu hc hN w1 ok g1' t1' e1' e3' hs) hsw hf, fun Gb G σ H δ D Dd s r q h => ?_⟩
  obtain ⟨Gf, sf, rf⟩ := DR.freeze (S := S) r
  refine w2 Gf σ H _ _ _ _ rf q (fun G1 H1 J items x1 it q1 => ?_) (h.x (s.trans sf) rf)
  intro A hA lo
  obtain ⟨hz, q1⟩ := q1
  have r1 := rf.ext x1
  have hb1 := r1.at
  have nb : A ≠ p.b.a := fun z => hb1 (by rw [← z]; exact hA)
  refine ⟨fun i' m H => m = items.length - i' ∧ i' ≤ items.length ∧ ∃ G us ds, NcG X.K X.prog X.w p.b G1 H1 A G H us ds ∧ us.length ≤ i' ∧ compNdc g tt tk tv (wipeD (frz S δ) (own.map (·.2))) ds (items.drop i') (fun kvs => Dd.nx ((frz S δ).set i (.own (.ndic kvs)))),
    ⟨_, rfl, Nat.zero_le _, G1, [], [], NcG.start x1.sub x1.bag hA, Nat.le_refl _, q1⟩, ?_⟩
  rintro i' m H2 ⟨rfl, hi', G2, us, ds, lg2, hl2, q2⟩
  by_cases hlt : i' < items.length
  · refine .inr ⟨it.go G2 H2 i' lg2.ext.gg lg2.ext.sub hlt, fun H => ∃ G us ds, NcG X.K X.prog X.w p.b G1 H1 A G H us ds ∧ us.length ≤ i' + 1 ∧ compNdc g tt tk tv (wipeD (frz S δ) (own.map (·.2))) ds (items.drop (i' + 1)) (fun kvs => Dd.nx ((frz S δ).set i (.own (.ndic kvs)))),
      fun H' z => ⟨items.length - (i' + 1), by omega, rfl, hlt, z⟩, fun y H' hy => ?_⟩
    obtain ⟨G3, d, h3, e3, r3⟩ := it.yld G2 H2 i' y H' lg2.ext.gg lg2.ext.sub lg2.ext.bag hlt hy
    rw [item_drop hlt h3] at q2
    unfold compNdc at q2
    have lg3 := lg2.step nb hb1 e3
    have r3' : DR X.K p G3 (L2.wipe σ (own.map (·.2))) H' (wipeD (frz S δ) (own.map (·.2))) := (r1.ext lg3.ext).wipe _
    refine g2' G3 (L2.wipe σ (own.map (·.2))) H' (wipeD (frz S δ) (own.map (·.2))) d y _ _ r3' r3 q2 fun G4 σ4 H4 δ4 s4 r4 k4 n4 o4 q4 => ?_
    have lg4 := lg3.step nb hb1 ⟨s4, r4.sub, k4, n4, r4.bag⟩
    refine ⟨wipe_outs o4 hsub, ?_⟩
    refine t2' G4 σ4 H4 δ4 _ _ _ r4 q4 (fun G5 H5 b e5 q5 => ?_) noX
    have lg5 := lg4.step nb hb1 e5
    cases b with
    | false =>
      rw [if_neg Bool.false_ne_true] at q5 ⊢
      exact ⟨G5, us, ds, lg5, Nat.le_succ_of_le hl2, q5⟩
    | true =>
      rw [if_pos rfl] at q5 ⊢
      have r5 := r4.ext e5
      refine e2' G5 σ4 H5 δ4 _ _ _ r5 q5 (fun G6 H6 y6 d6 e6 rk6 q6 => ?_) noX
      have lg6 := lg5.step nb hb1 e6
      refine e4' G6 σ4 H6 δ4 _ _ _ (r5.ext e6) q6 (fun G7 H7 z7 d7 e7 rv7 q7 => ?_) noX
      obtain ⟨ks, rfl, hd, q8⟩ := q7
      have lg7 := lg6.step nb hb1 e7
      have rk7 : Rep X.K G7 (nkD (.tup ks)) y6 := rk6.mono e7.gg
      obtain ⟨ka, hka⟩ : ∃ ka, y6 = .ref ka := by
        unfold nkD Rep at rk7
        obtain ⟨a, _, z, _⟩ := rk7
        exact ⟨a, z⟩
      subst hka
      refine ⟨us, .tup ks, ka, rfl, lg7.at_, nde_k lg7.ext.sub lg7.reps, by omega, rep_nk lg7.ext.sub _ _ rk7, hd, fun r hr => ⟨G7, _, _, lg7.put nb hA hd rk7 rv7 hr, ?_, q8⟩⟩
      have l1 := lg7.reps.length
      have l2 := (nde_put (k := .tup ks) lg7.reps hd rk7 rv7 hr).length
      have l3 := putN_len ds (.tup ks) d7
      omega
  · have e : i' = items.length := by omega
    subst e
    rw [List.drop_length] at q2
    refine .inl ⟨it.stop G2 H2 lg2.ext.gg lg2.ext.sub, ?_⟩
    have rx := r1.ext lg2.ext
    exact h.nx G2 _ _ _ (((s.trans sf).trans x1.gg).trans lg2.ext.gg) (rx.setOwn (o := .ndic ds) lg2.nG (h0_none r1 (Fr0.of hA)) ⟨lo, us, by rw [hP1, hP2]; exact lg2.at_, lg2.reps⟩ (own_fresh r1 (Fr0.of hA))) q2
variable (i : Nat)
/-- d[k], d an own dict with tuple keys -/
def xNGetO (i : Nat) (tb : TDE) : TDE := fun δ Q E => ∃ kvs, δ[i]? = some (.own (.ndic kvs)) ∧ tb δ (fun y => ∃ ks d, y = nkD (.tup ks) ∧ (NestedKey.tup ks).depth ≤ 8 ∧ valN kvs (.tup ks) = some d ∧ Q d) E
theorem d_ngetO (hP1 : p.P = X.prog) (hP2 : p.w = X.w) (hu : X.A.units + 64 < cLine) (hs : NoSl e) (hi : DE p X W e tb) (hN : X.N[i]? = some x := by rfl) (hv : Vis X.env.scope x := by first | exact Or.inl rfl | exact Or.inr (Or.inl rfl) | exact Or.inr (Or.inr rfl)) (hd : (x == ("__debug__" : Str)) = false := by decide) (hcd : (x == ("__classdict__" : Str)) = false := by decide) :
    DE p X W (.Subscript (.Name x pn) e pos) (xNGetO i tb) := by
  obtain ⟨u, h3, h4⟩ := hi
  refine ⟨_, pe_nget hu (pe_var hN hv hd hcd) h3 hs, fun G σ H δ Q Qd Ed r q k x => ?_⟩
  obtain ⟨kvs, hi', q⟩ := q
  obtain ⟨a, xs, a1, a2, a3, lo, a4, a5⟩ := own_ndic r hi'
  rw [hP1, hP2] at a4
  refine ⟨_, a1, ?_⟩
  refine h4 G σ H δ _ _ Ed r q (fun G1 H1 v y x1 r1 q1 => ?_) x
  obtain ⟨ks, d, rfl, hdp, hv, q3⟩ := q1
  obtain ⟨ka, hka⟩ : ∃ ka, v = .ref ka := by
    have r1' := r1
    unfold nkD Rep at r1'
    obtain ⟨a, _, z, _⟩ := r1'
    exact ⟨a, z⟩
  subst hka
  have a6 := nde_mono x1.gg a5
  obtain ⟨kb, val, v', z1, z2, z3⟩ := nde_get a6 hv
  exact ⟨a, xs, .tup ks, ka, kb, val, v', rfl, rfl, x1.keep a _ a3 nt_ext a4, nde_k x1.sub a6, rep_nk x1.sub _ _ r1, hdp, z1, z3, k G1 H1 v' d x1 z2 q3⟩
/-- sorted(d), d an own dict with tuple keys -/
def xNSorted (i : Nat) : TDE := fun δ Q _ => ∃ kvs, δ[i]? = some (.own (.ndic kvs)) ∧ kvs.length ≤ sizeLine ∧ AllAlike (kvs.map fun x => x.1.data) ∧ Sortable (kvs.map fun x => x.1.data) ∧ (∀ x ∈ kvs, x.1.data.depth ≤ 8) ∧ Q (.lst ((sortN kvs).map fun x => nkD x.1))
theorem d_nsorted {q : Pos} (hP1 : p.P = X.prog) (hP2 : p.w = X.w) (hg : Gl X "sorted") (hm : X.mg "sorted" = none) (hu : X.A.units + 64 < cLine) (hc : X.calm = true) (hN : X.N[i]? = some x := by rfl) (hv : Vis X.env.scope x := by first | exact Or.inl rfl | exact Or.inr (Or.inl rfl) | exact Or.inr (Or.inr rfl)) (hd : (x == ("__debug__" : Str)) = false := by decide) (hcd : (x == ("__classdict__" : Str)) = false := by decide)
    (he : starEach [.Name x pn] X.env = (false, eval (.Name x pn) X.env) :: starEach [] X.env := by rfl) : DE p X W (.Call (.Name "sorted" q) [.Name x pn] [] pos) (xNSorted i) := by
  refine ⟨_, pe_callB (cr_sortedN hc hu) hg hm (by decide +kernel) (pa_cons (pe_var hN hv hd hcd) pa_nil he) (by decide) (by decide) he (by rfl), fun G σ H δ Q Qd Ed r q k x => ?_⟩
  obtain ⟨kvs, hi, hz, hal, hso, hdp, q⟩ := q
  obtain ⟨a, xs, a1, a2, a3, lo, a4, a5⟩ := own_ndic r hi
  rw [hP1, hP2] at a4
  have eL := a5.length
  refine ⟨_, a1, a, xs, rfl, lo, a4, nde_k r.sub a5, by omega, by rw [nde_datas a5]; exact hal, by rw [nde_datas a5]; exact hso, fun y hy => ?_, fun P hP => ?_⟩
  · have : y.1.data ∈ xs.map fun x => x.1.data := List.mem_map.mpr ⟨y, hy, rfl⟩
    rw [nde_datas a5] at this
    obtain ⟨z, hz1, hz2⟩ := List.mem_map.mp this
    have hz2 : z.1.data = y.1.data := hz2
    rw [← hz2]
    exact hdp z hz1
  · exact k _ _ _ _ (Ext.laid r.sub r.bag hP) (rep_lst r.sub hP (nde_sort a5)) q
/-- len(set(e)), e a text -/
def xLenSet (ta : TDE) : TDE := fun δ Q E => ta δ (fun d => ∃ z : Str, d = .str z ∧ z.length + 1 < scanBound ∧ Q (.int ((metK (signsK z)).length : Nat))) E
theorem d_lenSetS {q q2 pos2 : Pos} (hg : Gl X "len") (hm : X.mg "len" = none) (hg2 : Gl X "set") (hm2 : X.mg "set" = none) (ha : DE p X W e ta) (hc : X.calm = true := by rfl)
    (na : starEach [e] X.env = (false, eval e X.env) :: starEach [] X.env := by rfl) : DE p X W (.Call (.Name "len" q) [.Call (.Name "set" q2) [e] [] pos2] [] pos) (xLenSet ta) := by
  obtain ⟨t, h1, h2⟩ := ha
  refine ⟨_, pe_lenSetS hg hm hg2 hm2 h1 hc na, fun G σ H δ Q Qd Ed r q k x => ?_⟩
  refine h2 G σ H δ _ _ Ed r q (fun G1 H1 v d e1 r1 q1 => ?_) x
  obtain ⟨z, rfl, hz, q2⟩ := q1
  exact ⟨z, rep_str.mp r1, hz, k G1 H1 _ _ e1 (rep_sc rfl) q2⟩
end
end DL

namespace L2
open PySem PySem.Spec PyProof.Rows
abbrev Cx.blkE (X : Cx) (s : Shared) (H : Hp) (scope : Scope) (cenv : Env) (fp : List Addr) (xe : Value → Shared → Prop) : Cx := { X.blk s H scope cenv fp with xe := xe }
theorem Cx.Ok.xe {X : Cx} {xe : Value → Shared → Prop} (o : X.Ok) : ({ X with xe := xe } : Cx).Ok := by
  obtain ⟨h1, h2, h3, h4, h5, h6, h7, h8, h9, h10, h11, h12, h13, h14, h15, h16, h17, h18⟩ := o
  exact ⟨h1, h2, h3, h4, h5, h6, h7, h8, h9, h10, h11, h12, h13, h14, h15, h16, h17, h18⟩
theorem Inv.xe {X : Cx} {xe : Value → Shared → Prop} {pins : List (Addr × Obj)} {σ : List (Option V)} {H : Hp} {s : Shared} (I : Inv X pins σ H s) : Inv { X with xe := xe } pins σ H s :=
  ⟨I.ok.xe, I.os, I.bare, I.base, I.loc, I.cell, I.free, I.freeC, I.pin, I.hok, I.len⟩
end L2
namespace EX
open PySem PySem.Spec PyProof.Rows L2
/-- an exception out of a call, in the air of a block -/
def XEF (X : Cx) (W : WX) (u : Value) (s' : Shared) : Prop :=
  ∃ (a : Addr) (B : Heap) (sI : Shared) (pins : List (Addr × Obj)) (σ : List (Option V)) (H : Hp) (cls : Value) (d : Option Addr),
    u = .ref a ∧ Inv X pins σ H sI ∧ (∀ b o, sI.heap.get? b = some o → b ∉ frs X.stack → B.get? b = some o) ∧ sI.heap.UpToSlots s'.heap ∧
      HandSPX.FlyingZ B X.stack a (Zc cls d) s'.heap ∧ H a = none ∧ s'.os = sI.os ∧ AllBare s'.gens ∧ W cls d σ H
def TakesF (X : Cx) (W : WX) : Prop := ∀ u s', XEF X W u s' → X.xe u s'
theorem XEF.of_call {X : Cx} {W : WX} {E : XK} {pins : List (Addr × Obj)} {σ : List (Option V)} {H : Hp} {s s' : Shared} (I : Inv X pins σ H s) (hW : ∀ cls d H', E cls d H' → W cls d σ H') {u : Value} (c : L2.CX X.prog X.w X.stack H s E u s') : XEF X W u s' := by
  obtain ⟨a, B, H', cls, d, rfl, fl, hok, ub, na, os, ag, hE⟩ := c
  obtain ⟨G, g1, g2⟩ := restrict s'.heap fun b => (B.get? b).isSome || decide (b ∈ frs X.stack)
  have st : B.StaysIn s'.heap := fl.1
  have gB : ∀ b o, B.get? b = some o → G.get? b = some o := fun b o e => by
    rw [g1 b (by simp [e])]
    exact st b o e
  have gF : ∀ b, b ∈ frs X.stack → G.get? b = s'.heap.get? b := fun b hb => g1 b (by simp [hb])
  have og : ∀ b o, G.get? b = some o → s'.heap.get? b = some o ∧ ((B.get? b).isSome = true ∨ b ∈ frs X.stack) := fun b o e => by
    cases q : ((B.get? b).isSome || decide (b ∈ frs X.stack)) with
    | false => rw [g2 b q] at e; cases e
    | true =>
      rw [g1 b q] at e
      exact ⟨e, by simpa [Bool.or_eq_true] using q⟩
  refine ⟨a, B, { s with heap := G, gens := s'.gens, drawn := s'.drawn, toks := s'.toks }, pins, σ, H', cls, d, rfl, ?_, fun b o e hb => ?_, Heap.UpToSlots.of_keeps fun b o e => (og b o e).1, fl, na, os, ag, hW _ _ _ hE⟩
  · refine I.call (ch := []) ⟨fun b o e n hb _ => gB b o (ub.keep b o e n hb), fun b o e n hb _ => ?_, fun b o e n _ => ub.free b o e n, fun b o e _ => ?_, ub.tups, ub.frzs, ub.tbls⟩ (hok.kept gB) ag (fun _ z => nomatch z)
    · obtain ⟨sl, q⟩ := ub.slot b o e hb
      exact ⟨sl, by rw [gF b hb]; exact q⟩
    · by_cases hb : b ∈ frs X.stack
      · obtain ⟨sl, q⟩ := ub.slot b o e hb
        exact ⟨_, by rw [gF b hb]; exact q⟩
      · obtain ⟨o', q⟩ := ub.there b o e hb
        exact ⟨o', gB b o' q⟩
  · obtain ⟨e', h⟩ := og b o e
    rcases h with h | h
    · obtain ⟨o', q⟩ := Option.isSome_iff_exists.mp h
      have z := st b o' q
      rw [e'] at z; cases z
      exact q
    · exact absurd h hb
theorem passAtF {X : Cx} {W : WX} (tk : TakesF X W) (σ : List (Option V)) : PassesAt (L2.CX X.prog X.w) X σ (WE W σ) := fun _ _ _ e s' I c => tk e s' (XEF.of_call I (fun _ _ _ h => h) c)
section
variable {X : Cx}
theorem lc_coreX {pins : List (Addr × Obj)} {s : Shared} {σ : L2.St} {H : Hp} {Q : VK} {elt tg iter : Expr} {ifs : List Expr} {scope : Scope} {own : List (Str × Nat)} {pos pos' : Pos} {wi : TI} {g : TG} {tt : TT} {te : WX → TE} {W : WX} {use : Option (Value → Sem Unit)} {Qf : Value → Shared → Prop}
    (tk : Takes X W) (hsx : X.stack = X.env :: X.outer) (hfx : X.env.frame = some X.env.locals) (hc : X.calm = true) (hN : X.N.Nodup) (I : Inv X pins σ H s) (hi : PI X tg iter wi) (ok : BlkOk X.N X.env.scope scope own)
    (hg : ∀ (s : Shared) (H : Hp) (C : Addr) (cl : List (Str × Addr)) (fp : List Addr), PG (X.blk s H scope (compEnvC scope cl C X.env) fp) tg g) (ht : ∀ (s : Shared) (H : Hp) (C : Addr) (cl : List (Str × Addr)) (fp : List Addr), PTs (X.blk s H scope (compEnvC scope cl C X.env) fp) ifs tt)
    (he : ∀ (s : Shared) (H : Hp) (C : Addr) (cl : List (Str × Addr)) (fp : List Addr) (xe : Value → Shared → Prop) (W' : WX), TakesF (X.blkE s H scope (compEnvC scope cl C X.env) fp xe) W' → PE (X.blkE s H scope (compEnvC scope cl C X.env) fp xe) elt (te W')) (hs : ∀ x, foldedSetIterable iter X.env x = pure x)
    (h : tLc wi g tt (te (fun cls d _ H' => W cls d σ H')) (own.map (·.2)) σ H Q)
    (hRR : ∀ D (ce : Env) s' m H', Inv X pins σ H' s' → Q (.ref D) H' → s'.heap.Ns ce.locals m → FpOk X pins H' ce.locals → compEnds (model X.prog X.w) X.A X.xe use Qf (.ref D) ce (.ok .next) s') :
    wpAny (model X.prog X.w) X.A (comprehension (.ListComp elt [⟨tg, iter, ifs, 0⟩] scope pos) scope X.env pos' (newList []) false (eval iter X.env) use) Qf X.xe s := by
  have hfree : ∀ y ∈ scope.names, y.2 = .free → ∃ c, X.env.cells.lookup y.1 = some c := fun y hy e => by
    rcases ok.free y hy e with k | k
    · exact I.ok.has _ (.inl k)
    · exact I.ok.has _ (.inr k)
  refine comprehension_at (use := use) rfl hs (closure_ok hfree) ok.kind (fun y hy e => by rw [ok.uniq y hy, e])
    (thn (hi.run pins s σ H _ I h) fun xv s1 hx => thn hx fun itv s2 h2 => ?_)
  obtain ⟨it, fp, tn, J, H2, e, I2, T, st2, f2, q⟩ := h2
  subst e
  refine wpAny_newObj_type (newEnv_comp ?_) (by show 0 ≤ sizeLine; decide)
  generalize hD : s2.heap.objs.size = D
  have hDn : H2 D = none := I2.hok.fresh (Nat.le_of_eq hD)
  obtain ⟨Wm, ⟨m0, w0⟩, turn⟩ := q D hDn
  -- the new list
  generalize hs3 : ({ s2 with heap := s2.heap.push { cls := .type "list", data := .seq ([] : List Value).toArray } } : Shared) = s3
  have I3 : Inv X pins σ (upd H2 D (.lst [])) s3 := by
    rw [← hs3]
    refine I2.laid (t' := s2.toks) (fun b o e => Heap.get?_push_of_some _ e) (Nat.le_of_eq hD) ⟨Nat.zero_le _, [], 0, .nil, ?_⟩
    rw [← hD]
    exact Heap.get?_push_size _ rfl
  have h3 : s3.heap = s2.heap.push { cls := .type "list", data := .seq ([] : List Value).toArray } := by rw [← hs3]
  have sz : ∀ b ∈ fp, b < s2.heap.objs.size := fun b hb => by
    obtain ⟨o, e, _⟩ := T.obj _ _ st2 b hb
    exact Heap.lt_size e
  have f3 : ∀ b ∈ fp, FpOk X pins (upd H2 D (.lst [])) b ∧ b < s3.heap.objs.size := fun b hb => by
    have hlt := sz b hb
    refine ⟨⟨?_, (f2 b hb).2⟩, by rw [h3, Heap.size_push]; exact Nat.lt_succ_of_lt hlt⟩
    rw [upd_ne (by rw [← hD]; exact Nat.ne_of_lt hlt)]
    exact (f2 b hb).1
  have st3 : tn 0 s3.heap := T.keep _ _ _ st2 fun b _ o e => by rw [h3]; exact Heap.get?_push_of_some _ e
  have I4 := block_start I3 ok hN f3
  have pg := hg s3 (upd H2 D (.lst [])) s3.heap.objs.size (cellsFrom (s3.heap.objs.size + 1) scope.names (cloFrom X.env.cells scope.names [])) fp
  have pt := ht s3 (upd H2 D (.lst [])) s3.heap.objs.size (cellsFrom (s3.heap.objs.size + 1) scope.names (cloFrom X.env.cells scope.names [])) fp
  have pe := he s3 (upd H2 D (.lst [])) s3.heap.objs.size (cellsFrom (s3.heap.objs.size + 1) scope.names (cloFrom X.env.cells scope.names [])) fp
  show codeAny _ _ (.compStart (.ListComp elt [⟨tg, iter, ifs, 0⟩] scope pos) 0 (.ref it) (.ref D) (compEnvC scope (cellsFrom (s3.heap.objs.size + 1) scope.names (cloFrom X.env.cells scope.names [])) s3.heap.objs.size X.env)) (compEnds (model X.prog X.w) X.A X.xe use Qf (.ref D) (compEnvC scope (cellsFrom (s3.heap.objs.size + 1) scope.names (cloFrom X.env.cells scope.names [])) s3.heap.objs.size X.env)) { s3 with heap := pushCells (s3.heap.push { cls := .type "dict", data := .dict #[] }) scope.names }
  have nfp : ∀ b ∈ fp, (upd H2 D (.lst [])) b = none := fun b hb => (f3 b hb).1.1
  generalize hce : compEnvC scope (cellsFrom (s3.heap.objs.size + 1) scope.names (cloFrom X.env.cells scope.names [])) s3.heap.objs.size X.env = ce at I4 pg pt pe ⊢
  have cL : ce.locals = s3.heap.objs.size := by subst hce; rfl
  have cF : ce.frame = X.env.frame := by subst hce; rfl
  generalize hH3 : upd H2 D (.lst []) = H3 at I3 I4 pg pt pe w0 nfp f3
  generalize hs4 : ({ s3 with heap := pushCells (s3.heap.push { cls := .type "dict", data := .dict #[] }) scope.names } : Shared) = s4 at I4 ⊢
  have st4 : tn 0 s4.heap := T.keep _ _ _ st3 fun b _ o e => by rw [← hs4]; exact pushCells_keeps _ _ _ _ (Heap.get?_push_of_some _ e)
  have stat : ∀ {σ' : L2.St} {H' : Hp} {s' : Shared}, Inv (X.blk s3 H3 scope ce fp) [] σ' H' s' → (∀ b ∈ fp, H' b = none) → ∀ b ∈ fp, FpOk (X.blk s3 H3 scope ce fp) [] H' b := fun {σ' H' s'} I' hn b hb =>
    ⟨hn b hb, (I'.ok.exf b hb).1, I'.ok.exfs b hb, .inl hb, fun x c e => (I'.ok.exf b hb).2 x c e, fun p hp => absurd (show p ∈ ([] : List (Addr × Obj)) ++ [] from hp) (by simp)⟩
  have tkB : TakesF (X.blkE s3 H3 scope ce fp (notedBy (model X.prog X.w) X.A ce fun e s' => compEnds (model X.prog X.w) X.A X.xe use Qf (.ref D) ce (.error e) s')) (fun cls d _ H' => W cls d σ H') := by
    rintro u s' ⟨a, B, sI, pins', σ', H', cls, d, rfl, I', nb, up, fl, na, os, ag, w⟩
    obtain ⟨B', b1, b2⟩ := restrict B fun b => decide (b ≠ s3.heap.objs.size)
    obtain ⟨G, g1, g2⟩ := restrict sI.heap fun b => decide (b ≠ s3.heap.objs.size)
    have oB : ∀ b o, B'.get? b = some o → b ≠ s3.heap.objs.size ∧ B.get? b = some o := fun b o e => by
      by_cases q : b = s3.heap.objs.size
      · rw [b2 b (by simp [q])] at e; cases e
      · rw [b1 b (by simp [q])] at e; exact ⟨q, e⟩
    have oG : ∀ b o, G.get? b = some o → b ≠ s3.heap.objs.size ∧ sI.heap.get? b = some o := fun b o e => by
      by_cases q : b = s3.heap.objs.size
      · rw [g2 b (by simp [q])] at e; cases e
      · rw [g1 b (by simp [q])] at e; exact ⟨q, e⟩
    have nB : ∀ b, B.get? b = none → B'.get? b = none := fun b e => by
      cases q : B'.get? b with
      | none => rfl
      | some o => rw [(oB b o q).2] at e; cases e
    have BC : B'.get? ce.locals = none := by rw [cL]; exact b2 _ (by simp)
    obtain ⟨fl1, fl2, fl3, fl4⟩ := fl
    have fl' : HandSPX.FlyingZ B' (X.env :: X.outer) a (Zc cls d) s'.heap := by
      refine ⟨fun b o e => fl1 b o (oB b o e).2, nB _ fl2, ?_, ?_⟩
      · rw [← hsx]
        exact funFrames_none fl3 fun b hb => nB _ (fl3.mem hb).1
      · obtain ⟨oe, vs, T, oT, ts, he, hz, hd, h1, hnT, hTe, hT, hdT, h3⟩ := fl4
        exact ⟨oe, vs, T, oT, ts, he, hz, hd, h1, nB _ hnT, hTe, hT, hdT, h3⟩
    have hfr : X.A.frames = some (X.env :: X.outer) := by rw [I3.ok.frames, hsx]
    have HC : H' s3.heap.objs.size = none := by
      have z : H' ce.locals = none := I'.free
      rw [cL] at z; exact z
    have lt3 : ∀ {b : Addr} {o : Obj}, s3.heap.get? b = some o → G.get? b = sI.heap.get? b := fun {b o} e => g1 b (by simp [Nat.ne_of_lt (Heap.lt_size e)])
    have IX : Inv X pins σ H' { sI with heap := G } := by
      have ub := I'.base
      refine I3.call' (ch := fp) I'.os ⟨fun b o e n hb hx => (lt3 e).trans (ub.keep b o e n hb hx), fun b o e n hb hx => ?_, ub.free, fun b o e hx => ?_, ub.tups, ub.frzs, ub.tbls⟩ (fun b o q => (I'.hok b o q).stay (fun c v hc r => ?_) (fun _ r => r) fun _ _ r => r) I'.bare fun b hb => ⟨(f3 b hb).1.2.2.2.1, (f3 b hb).1.2.1, (f3 b hb).1.2.2.2.2.1, (f3 b hb).1.2.2.2.2.2⟩
      · obtain ⟨sl, q⟩ := ub.slot b o e n hb hx
        exact ⟨sl, (lt3 e).trans q⟩
      · obtain ⟨o', q⟩ := ub.there b o e hx
        exact ⟨o', (lt3 e).trans q⟩
      · refine (g1 c ?_).trans r
        have : c ≠ s3.heap.objs.size := fun z => by
          rcases hc with hc | hc
          · rw [← hc, z, HC] at q; cases q
          · rw [z, HC] at hc; cases hc
        simp [this]
    obtain ⟨m, hn, _⟩ := I'.loc
    have hn : sI.heap.Ns ce.locals m := hn
    have hn1 : s'.heap.Ns ce.locals m := hn.upToSlots fun b o e hnf => up b o e hnf
    show wpAny (model X.prog X.w) X.A (noteFrame (.ref a) ce) _ _ s'
    rw [noteFrame_env _ cF]
    refine HandSPX.looks_onZ Zc.steady hfr hfx fl' fun h' hH up' => ?_
    have hn2 : h'.Ns ce.locals m := hn1.upToSlots fun b o e hnf => up' b o e hnf
    have key : CompFails (model X.prog X.w) X.A X.xe ce (.ref a) { s' with heap := h' } := by
      refine ⟨m, hn2, fun h₂ m₂ hn₂ hs₂ => ?_⟩
      obtain ⟨c1, c2, c3, oe, vs, T, oT, ts, he, hz, hd, h1, hnT, hTe, hT, hdT, h3⟩ := hH
      have nC : ∀ {b : Addr} {o : Obj} {ws : Array Value}, h'.get? b = some o → o.data = .fields ws → b ≠ ce.locals := fun {b o ws} e1 e2 z => by
        obtain ⟨oL, es, ep, hoL, hdL, _⟩ := hn2
        rw [z, hoL] at e1; cases e1
        rw [hdL] at e2; cases e2
      have x1 : B'.StaysIn h₂ := fun b o hb => (hs₂.2 b fun q => by rw [q, BC] at hb; cases hb).trans (c1 b o hb)
      have x2 : h₂.FunFrames B' (X.env :: X.outer) := Heap.FunFrames.sameBut hs₂ hn₂ c3
      have e1 : h₂.get? a = some oe := (hs₂.2 a (nC he hd)).trans he
      have x3 : HandSPX.TracedZ h₂ B' a (Zc cls d) (rawInt X.env.locals) := ⟨oe, vs, T, oT, ts, e1, hz, hd, h1, hnT, hTe, (hs₂.2 T (nC hT hdT)).trans hT, hdT, h3⟩
      unfold PySem.passOn
      refine wpAny_bind (wpAny_field e1 hd h1 ?_)
      rw [if_neg (show ¬ ((Value.ref T == Value.none) = true) from by simp)]
      rw [cF, hfx]
      refine wpAny_bind (HandSPX.setFlight_anyZ x1 x2 x3 fun h₃ k1 k2 k3 k4 => ?_)
      refine wpAny_throw ?_
      refine tk _ _ ⟨a, B', { sI with heap := G }, pins, σ, H', cls, d, rfl, IX, fun b o e hb => ?_, fun b o e hnf => ?_, .inr (.inr ⟨k1, c2, by rw [hsx]; exact k2, k3⟩), na, os, ag, w⟩
      · obtain ⟨z1, z2⟩ := oG b o e
        exact (b1 b (by simp [z1])).trans (nb b o z2 hb)
      · obtain ⟨z1, z2⟩ := oG b o e
        obtain ⟨sl1, w1⟩ := up b o z2 hnf
        obtain ⟨sl2, w2⟩ := up' b _ w1 hnf
        obtain ⟨sl3, w3⟩ := k4 b _ ((hs₂.2 b (by rw [cL]; exact z1)).trans w2) hnf
        exact ⟨sl3, w3⟩
    cases use <;> exact key
  have pe := pe _ _ tkB
  have loop : codeAny (model X.prog X.w) X.A (.compLoop (.ListComp elt [⟨tg, iter, ifs, 0⟩] scope pos) 0 (.ref it) (.ref D) ce) (compEnds (model X.prog X.w) X.A X.xe use Qf (.ref D) ce) s4 := by
    refine compLoop_any (fun n s' => ∃ i H', Inv (X.blk s3 H3 scope ce fp) [] (wipe σ (own.map (·.2))) H' s' ∧ tn i s'.heap ∧ (∀ b ∈ fp, H' b = none) ∧ Wm i n H') ?_ m0 ⟨0, H3, I4, st4, nfp, w0⟩
    rintro n s5 ⟨i, H5, I5, st5, n5, w5⟩
    rcases turn i n H5 w5 with ⟨stop, qq⟩ | ⟨go, Nx, hNx, step⟩
    · have td := T.done (X.blk s3 H3 scope ce fp) rfl rfl rfl hc i [] s5 _ H5 (fun _ _ => False) I5 (stat I5 n5) st5 stop
      refine thnF td fun r s6 ⟨hr, I6⟩ => ?_
      subst hr
      -- back in the def's context
      have I7 : Inv X pins σ H5 s6 := I3.call' (ch := fp) I6.os I6.base I6.hok I6.bare fun b hb => ⟨(f3 b hb).1.2.2.2.1, (f3 b hb).1.2.1, (f3 b hb).1.2.2.2.2.1, (f3 b hb).1.2.2.2.2.2⟩
      have nC : H5 s3.heap.objs.size = none := by
        have z : H5 ce.locals = none := I6.free
        rw [cL] at z
        exact z
      obtain ⟨m, hn, _⟩ := I6.loc
      have hn : s6.heap.Ns ce.locals m := hn
      exact hRR D ce s6 m H5 I7 qq hn (by rw [cL]; exact I3.fpOk (Nat.le_refl _) nC)
    · have ti := T.item (X.blk s3 H3 scope ce fp) rfl rfl rfl hc i [] s5 _ H5 (fun _ _ => False) I5 (stat I5 n5) st5 go
      refine thnF ti fun r s6 ⟨u, hr, h6⟩ => ?_
      subst hr
      refine thnF h6 fun _ s7 ⟨x, H7, I7, r7, y7, st7, n7⟩ => ?_
      have I7' := I7.pinned (stat I7 n7) (T.obj _ _ st7)
      refine thnF (pg.run _ s7 _ H7 x u _ I7' r7 (step x H7 y7)) fun _ s8 ⟨σ8, H8, I8, hw8, q8⟩ => ?_
      refine thnF (pt.run _ s8 σ8 H8 _ I8 q8) fun b s9 ⟨H9, I9, q9⟩ => ?_
      -- the turn's end
      have fin : ∀ {s' : Shared} {H' : Hp}, Inv (X.blk s3 H3 scope ce fp) ([] ++ pinsAt fp s7.heap) σ8 H' s' → Nx H' → ∃ m, m < n ∧ ∃ i H', Inv (X.blk s3 H3 scope ce fp) [] (wipe σ (own.map (·.2))) H' s' ∧ tn i s'.heap ∧ (∀ b ∈ fp, H' b = none) ∧ Wm i m H' := fun {s' H'} I' nx => by
        obtain ⟨m', hm, w'⟩ := hNx H' nx
        have pin' : ∀ b ∈ fp, ∀ o, s7.heap.get? b = some o → s'.heap.get? b = some o ∧ H' b = none := fun b hb o e =>
          let z := I'.pin (b, o) (List.mem_append_right _ (List.mem_append_right _ (mem_pinsAt hb e)))
          ⟨z.1, z.2.1⟩
        have hl : (wipe σ (own.map (·.2))).length = σ8.length := by rw [← hw8, wipe_length]
        refine ⟨m', hm, i + 1, H', (I'.unpinned (pins := [])).weak hl (fun j v e => ?_), T.keep _ _ _ st7 fun b hb o e => (pin' b hb o e).1, fun b hb => ?_, w'⟩
        · rw [← hw8] at e
          exact (wipe_some e).1
        · obtain ⟨o, e, _⟩ := T.obj _ _ st7 b hb
          exact (pin' b hb o e).2
      cases b with
      | false =>
        simp only [Bool.false_eq_true, if_false] at q9 ⊢
        exact fin I9 q9
      | true =>
        simp only [if_true] at q9 ⊢
        refine wpAny_mono (pe.run _ s9 σ8 H9 _ I9.xe q9) (fun z s10 ⟨yv, H10, I10, r10, acc, hD10, hz10, nx⟩ => ?_) fun _ _ z => z
        exact app_ok (X := X.blk s3 H3 scope ce fp) I10.xe hD10 hz10 r10 fun s11 I11 => fin I11 nx
  exact codeAny_compStart_list loop (T.self X.A 0 _ _ _ st4 loop)

/-- as a value -/
theorem pe_lcX {elt tg iter : Expr} {ifs : List Expr} {scope : Scope} {own : List (Str × Nat)} {pos : Pos} {wi : TI} {g : TG} {tt : TT} {te : WX → TE} {W : WX} (tk : Takes X W) (hsx : X.stack = X.env :: X.outer) (hfx : X.env.frame = some X.env.locals) (hc : X.calm = true) (hN : X.N.Nodup) (hi : PI X tg iter wi) (ok : BlkOk X.N X.env.scope scope own)
    (hg : ∀ (s : Shared) (H : Hp) (C : Addr) (cl : List (Str × Addr)) (fp : List Addr), PG (X.blk s H scope (compEnvC scope cl C X.env) fp) tg g) (ht : ∀ (s : Shared) (H : Hp) (C : Addr) (cl : List (Str × Addr)) (fp : List Addr), PTs (X.blk s H scope (compEnvC scope cl C X.env) fp) ifs tt)
    (he : ∀ (s : Shared) (H : Hp) (C : Addr) (cl : List (Str × Addr)) (fp : List Addr) (xe : Value → Shared → Prop) (W' : WX), TakesF (X.blkE s H scope (compEnvC scope cl C X.env) fp xe) W' → PE (X.blkE s H scope (compEnvC scope cl C X.env) fp xe) elt (te W')) (hs : ∀ x, foldedSetIterable iter X.env x = pure x := by intro _; rfl) :
    PE X (.ListComp elt [⟨tg, iter, ifs, 0⟩] scope pos) (fun σ H Q => tLc wi g tt (te (fun cls d _ H' => W cls d σ H')) (own.map (·.2)) σ H Q) := by
  refine ⟨fun pins s σ H Q I h => ?_⟩
  rw [eval_ListComp]
  refine lc_coreX tk hsx hfx hc hN I hi ok hg ht he hs h fun D ce s' m H' I' q hn f => ⟨m, hn, fun h'' sb => ?_⟩
  obtain ⟨f0, f1, f2, f3, f4, f5⟩ := f
  exact ⟨.ref D, H', I'.turned (t' := s'.toks) (fun b o hb e => (sb.2 b hb).trans e) f0 f1 f3 f4 f5, rfl, q⟩
end
end EX

namespace DL
open PySem PySem.Spec PyProof.Rows L2 EX
/-- what is walked, in a block -/
structure ItOkE (K : PySem.W.Frag) (b : Bag) (G1 H1 : Hp) (J : It) (items : List D) : Prop where
  go : ∀ G H i, Ext K b G1 H1 G H → i < items.length → J.go i H
  stop : ∀ G H, Ext K b G1 H1 G H → J.stop items.length H
  yld : ∀ G H i x H', Ext K b G1 H1 G H → i < items.length → J.yld i H x H' → ∃ G' d, items[i]? = some d ∧ Ext K b G H G' H' ∧ Rep K G' d x
theorem ItOk.e {K : PySem.W.Frag} {b : Bag} {G1 H1 : Hp} {J : It} {items : List D} (h : ItOk K b G1 J items) : ItOkE K b G1 H1 J items :=
  ⟨fun G H i e hi => h.go G H i e.gg e.sub hi, fun G H e => h.stop G H e.gg e.sub, fun G H i x H' e hi hy => h.yld G H i x H' e.gg e.sub e.bag hi hy⟩
def RefIE (K : PySem.W.Frag) (p : Pr) (W : WX) (wi : TI) (ti : TDI) : Prop :=
  ∀ (G : Hp) (σ : VSt) (H : Hp) (δ : DSt) (R : It → Hp → Prop) (Rd : List D → Prop) (Ed : XD), DR K p G σ H δ → ti δ Rd Ed →
    (∀ G' H' J items, Ext K p.b G H G' H' → ItOkE K p.b G' H' J items → Rd items → R J H') → XOk K p.b W G σ H Ed → wi σ H R
structure DIE (p : Pr) (X : Cx) (W : WX) (tg iter : Expr) (ti : TDI) : Prop where
  ex : ∃ wi : TI, PI X tg iter wi ∧ RefIE X.K p W wi ti
theorem DI.e {p : Pr} {X : Cx} {W : WX} {tg iter : Expr} {ti : TDI} (h : DI p X W tg iter ti) : DIE p X W tg iter ti := by
  obtain ⟨wi, h1, h2⟩ := h
  exact ⟨wi, h1, fun G σ H δ R Rd Ed r q k x => h2 G σ H δ R Rd Ed r q (fun G' H' J items e it q' => k G' H' J items e it.e q') x⟩
section
variable {p : Pr} {X : Cx} {W : WX} {K : PySem.W.Frag} {Gb G H : Hp} {σ : VSt} {δ : DSt} {e : Expr} {es : List Expr} {te ta : TDE} {ts : TDA} {td : TDO'} {pos : Pos}
/-- over a name's own list -/
def xiOwn (i : Nat) : TDI := fun δ R _ => ∃ ds, δ[i]? = some (.own (.lst ds)) ∧ R ds
theorem die_own (i : Nat) {tg : Expr} {x : Str} {pn : Pos} (hN : X.N[i]? = some x := by rfl) (hv : Vis X.env.scope x := by first | exact Or.inl rfl | exact Or.inr (Or.inl rfl) | exact Or.inr (Or.inr rfl)) (hd : (x == ("__debug__" : Str)) = false := by decide) (hcd : (x == ("__classdict__" : Str)) = false := by decide) :
    DIE p X W tg (.Name x pn) (xiOwn i) := by
  refine ⟨_, pi_list (pe_var hN hv hd hcd), fun G σ H δ R Rd Ed r q k x => ?_⟩
  obtain ⟨ds, hi, q⟩ := q
  obtain ⟨a, us, a1, a2, a3, nb, a4, a5⟩ := own_lst r hi
  refine ⟨_, a1, a, rfl, ⟨us, SqL.of a4⟩, k G H _ _ r.refl ?_ q⟩
  have l := a5.length
  have kp : ∀ G' H', Ext X.K p.b G H G' H' → SqL X.K H' a us := fun G' H' e => SqL.of (e.keep a _ nb nt_lst a4)
  refine ⟨fun G' H' i e hi => ?_, fun G' H' e => ?_, fun G' H' i x H2 e hi hy => ?_⟩
  · exact ⟨us, us[i]'(by rw [← l]; exact hi), kp _ _ e, by simp [l ▸ hi]⟩
  · exact ⟨us, kp _ _ e, by rw [l]; exact Nat.le_refl _⟩
  · obtain ⟨rfl, hy⟩ := hy
    obtain ⟨d, h1, h2⟩ := a5.getV (hy us (kp _ _ e))
    exact ⟨G', d, h1, Ext.refl e.sub e.bag, h2.mono e.gg⟩
def compDX (g : TDG) (tt : TDT) (te : TDE) (δ : DSt) : List D → (List D → Prop) → XD → Prop
  | [], k, _ => k []
  | d :: ds, k, E => g d δ fun δ1 => tt δ1 (fun b => if b = true then te δ1 (fun y => compDX g tt te δ ds (fun ys => k (y :: ys)) E) E else compDX g tt te δ ds k E) (fun _ _ => False)
theorem compD_X {g : TDG} {tt : TDT} {te : TDE} {δ : DSt} : ∀ {items : List D} {k : List D → Prop}, compD g tt te δ items k = compDX g tt te δ items k (fun _ _ => False)
  | [], k => rfl
  | d :: ds, k => by
    unfold compD compDX
    congr; funext δ1; congr; funext b
    congr
    · funext y
      exact compD_X
    · exact compD_X
theorem ref_lcX {vs ix : List Nat} {wi : TI} {g : TG} {t : TT} {e : TE} {ti : TDI} {gd : TDG} {td : TDT} {ed : TDE} (hs : ∀ j ∈ ix, j ∈ vs) (hi : RefIE K p W wi ti) (hg : RefG K p ix g gd) (ht : RefT K p W0 t td) {Wb : WX} (he : RefE K p Wb e ed)
    {Q : VK} {Qd : List D → Prop} {Ed Ee : XD} (r : DR K p G σ H δ) (q : ti δ (fun items => items.length ≤ sizeLine ∧ compDX gd td ed (wipeD δ vs) items Qd Ee) Ed)
    (k : ∀ G' H' a ds us, Ext K p.b G H G' H' → H' a = some (.lst us) → Reps K G' ds us → G' a = none → Fr0 H a → Qd ds → Q (.ref a) H') (x : XOk K p.b W G σ H Ed) (xe : ∀ G' H' σ', Ext K p.b G H G' H' → XOk K p.b Wb G' σ' H' Ee) : tLc wi g t e vs σ H Q := by
  refine hi G σ H δ _ _ Ed r q (fun G1 H1 J items e1 it q1 => ?_) x
  intro A hA
  obtain ⟨hz, q1⟩ := q1
  have r1 := r.ext e1
  have nb : A ≠ p.b.a := fun z => r1.at (by rw [← z]; exact hA)
  have hHA : Fr0 H A := fun o z t => by rw [e1.keep A o nb t z] at hA; cases hA
  refine ⟨fun i m H => m = items.length - i ∧ i ≤ items.length ∧ ∃ G us ds, LcG K p.b G1 H1 A G H us ds ∧ us.length ≤ i ∧ compDX gd td ed (wipeD δ vs) (items.drop i) (fun ys => Qd (ds ++ ys)) Ee,
    ⟨_, rfl, Nat.zero_le _, G1, [], [], LcG.start e1.sub e1.bag hA, Nat.le_refl _, q1⟩, ?_⟩
  rintro i m H2 ⟨rfl, hi', G2, us, ds, lg2, hl2, q2⟩
  by_cases hlt : i < items.length
  · refine .inr ⟨it.go G2 H2 i lg2.ext hlt, fun H => ∃ G us ds, LcG K p.b G1 H1 A G H us ds ∧ us.length ≤ i + 1 ∧ compDX gd td ed (wipeD δ vs) (items.drop (i + 1)) (fun ys => Qd (ds ++ ys)) Ee,
      fun H' z => ⟨items.length - (i + 1), by omega, rfl, hlt, z⟩, fun y H' hy => ?_⟩
    obtain ⟨G3, d, h3, e3, r3⟩ := it.yld G2 H2 i y H' lg2.ext hlt hy
    rw [item_drop hlt h3] at q2
    unfold compDX at q2
    have lg3 := lg2.step nb r1.at e3
    have r3' : DR K p G3 (L2.wipe σ vs) H' (wipeD δ vs) := (r1.ext lg3.ext).wipe vs
    refine hg G3 (L2.wipe σ vs) H' (wipeD δ vs) d y _ _ r3' r3 q2 fun G4 σ4 H4 δ4 s4 r4 k4 n4 o4 q4 => ?_
    have lg4 := lg3.step nb r1.at ⟨s4, r4.sub, k4, n4, r4.bag⟩
    refine ⟨wipe_outs o4 hs, ?_⟩
    refine ht G4 σ4 H4 δ4 _ _ _ r4 q4 (fun G5 H5 b e5 q5 => ?_) noX
    have lg5 := lg4.step nb r1.at e5
    cases b with
    | false =>
      rw [if_neg Bool.false_ne_true] at q5 ⊢
      exact ⟨G5, us, ds, lg5, Nat.le_succ_of_le hl2, q5⟩
    | true =>
      rw [if_pos rfl] at q5 ⊢
      refine he G5 σ4 H5 δ4 _ _ _ (r4.ext e5) q5 (fun G6 H6 v d6 e6 r6 q6 => ?_) (xe _ _ _ (e1.trans r.at lg5.ext))
      have lg6 := lg5.step nb r1.at e6
      refine ⟨us, lg6.at_, by omega, G6, us ++ [v], ds ++ [d6], lg6.snoc nb hA r6, ?_, ?_⟩
      · rw [List.length_append, List.length_singleton]; omega
      · have eq : (fun ys => Qd (ds ++ (d6 :: ys))) = fun ys => Qd (ds ++ [d6] ++ ys) := by
          funext ys
          rw [List.append_assoc]; rfl
        rw [← eq]
        exact q6
  · have e : i = items.length := by omega
    subst e
    rw [List.drop_length] at q2
    have q3 : Qd (ds ++ []) := q2
    rw [List.append_nil] at q3
    exact .inl ⟨it.stop G2 H2 lg2.ext, k G2 H2 A ds us (e1.trans r.at lg2.ext) lg2.at_ lg2.reps lg2.nG hHA q3⟩
section
variable {elt iter tg : Expr} {ifs : List Expr} {scope : Scope} {ix : List Nat} {ti : TDI} {g : TDG} {tt : TDT}
theorem uniEX (he : ∀ (s : Shared) (H : Hp) (C : Addr) (cl : List (Str × Addr)) (fp : List Addr) (xe : Value → Shared → Prop) (W' : WX), TakesF (X.blkE s H scope (compEnvC scope cl C X.env) fp xe) W' → DE p (X.blkE s H scope (compEnvC scope cl C X.env) fp xe) W' elt te) :
    ∃ ev : WX → TE, (∀ (s : Shared) (H : Hp) (C : Addr) (cl : List (Str × Addr)) (fp : List Addr) (xe : Value → Shared → Prop) (W' : WX), TakesF (X.blkE s H scope (compEnvC scope cl C X.env) fp xe) W' → PE (X.blkE s H scope (compEnvC scope cl C X.env) fp xe) elt (ev W')) ∧ ∀ W', RefE X.K p W' (ev W') te := by
  refine ⟨fun W' σ H Q => ∀ (s : Shared) (H' : Hp) (C : Addr) (cl : List (Str × Addr)) (fp : List Addr) (xe : Value → Shared → Prop), ∃ t, (TakesF (X.blkE s H' scope (compEnvC scope cl C X.env) fp xe) W' → PE (X.blkE s H' scope (compEnvC scope cl C X.env) fp xe) elt t) ∧ t σ H Q, fun s H C cl fp xe W' tk => ⟨fun pins s' σ H' Q I h => ?_⟩, ?_⟩
  · obtain ⟨g', h1, h2⟩ := h s H C cl fp xe
    exact (h1 tk).run pins s' σ H' Q I h2
  · intro W' G σ H δ Q Qd Ed r q k x s H' C cl fp xe
    by_cases tk : TakesF (X.blkE s H' scope (compEnvC scope cl C X.env) fp xe) W'
    · obtain ⟨t, h1, h2⟩ := he s H' C cl fp xe W' tk
      exact ⟨t, fun _ => h1, h2 G σ H δ Q Qd Ed r q k x⟩
    · exact ⟨fun _ _ _ => True, fun z => absurd z tk, trivial⟩
/-- [elt for ..], the element may raise -/
def xLcX (vs : List Nat) (ti : TDI) (g : TDG) (tt : TDT) (te : TDE) : TDE := fun δ Q E => ti δ (fun items => items.length ≤ sizeLine ∧ compDX g tt te (wipeD δ vs) items (fun ds => Q (.lst ds)) E) E
theorem d_lcX (own : List (Str × Nat)) (hsub : ∀ j ∈ ix, j ∈ own.map (·.2)) (tk : Takes X W) (hsx : X.stack = X.env :: X.outer) (hfx : X.env.frame = some X.env.locals) (hc : X.calm = true) (hN : X.N.Nodup) (ok : BlkOk X.N X.env.scope scope own) (hi : DIE p X W tg iter ti)
    (hg : ∀ (s : Shared) (H : Hp) (C : Addr) (cl : List (Str × Addr)) (fp : List Addr), DG p (X.blk s H scope (compEnvC scope cl C X.env) fp) tg ix g)
    (ht : ∀ (s : Shared) (H : Hp) (C : Addr) (cl : List (Str × Addr)) (fp : List Addr), DTs p (X.blk s H scope (compEnvC scope cl C X.env) fp) W0 ifs tt)
    (he : ∀ (s : Shared) (H : Hp) (C : Addr) (cl : List (Str × Addr)) (fp : List Addr) (xe : Value → Shared → Prop) (W' : WX), TakesF (X.blkE s H scope (compEnvC scope cl C X.env) fp xe) W' → DE p (X.blkE s H scope (compEnvC scope cl C X.env) fp xe) W' elt te)
    (hs : ∀ x, foldedSetIterable iter X.env x = pure x := by intro _; rfl) : DE p X W (.ListComp elt [⟨tg, iter, ifs, 0⟩] scope pos) (xLcX (own.map (·.2)) ti g tt te) := by
  obtain ⟨wi, w1, w2⟩ := hi
  obtain ⟨gv, g1', g2'⟩ := uniG hg
  obtain ⟨tv', t1', t2'⟩ := uniT ht
  obtain ⟨ev, e1', e2'⟩ := uniEX he
  refine ⟨_, pe_lcX tk hsx hfx hc hN w1 ok g1' t1' e1' hs, fun G σ H δ Q Qd Ed r q k x => ?_⟩
  refine ref_lcX hsub w2 g2' t2' (e2' _) r q (fun G' H' a ds us e h1 h2 h3 h4 q' => ?_) x (fun G1 H1 σ1 e1 G' H' c fs d vs y hd rf qe => x G' H' c fs d vs (e1.trans r.at y) hd rf qe)
  obtain ⟨e', r'⟩ := lst_join e r.bag.atN h1 h2 h3 h4
  exact k _ H' _ _ e' r' q'
/-- [elt for .. in x ..], x a name's own list, say; nothing is raised -/
theorem d_lcE (own : List (Str × Nat)) (hsub : ∀ j ∈ ix, j ∈ own.map (·.2)) (hc : X.calm = true) (hN : X.N.Nodup) (ok : BlkOk X.N X.env.scope scope own) (hi : DIE p X W tg iter ti)
    (hg : ∀ (s : Shared) (H : Hp) (C : Addr) (cl : List (Str × Addr)) (fp : List Addr), DG p (X.blk s H scope (compEnvC scope cl C X.env) fp) tg ix g)
    (ht : ∀ (s : Shared) (H : Hp) (C : Addr) (cl : List (Str × Addr)) (fp : List Addr), DTs p (X.blk s H scope (compEnvC scope cl C X.env) fp) W0 ifs tt)
    (he : ∀ (s : Shared) (H : Hp) (C : Addr) (cl : List (Str × Addr)) (fp : List Addr), DE p (X.blk s H scope (compEnvC scope cl C X.env) fp) W0 elt te)
    (hs : ∀ x, foldedSetIterable iter X.env x = pure x := by intro _; rfl) : DE p X W (.ListComp elt [⟨tg, iter, ifs, 0⟩] scope pos) (xLcE (own.map (·.2)) ti g tt te) := by
  obtain ⟨wi, w1, w2⟩ := hi
  obtain ⟨gv, g1', g2'⟩ := uniG hg
  obtain ⟨tv', t1', t2'⟩ := uniT ht
  obtain ⟨ev, e1', e2'⟩ := uniE he
  refine ⟨_, pe_lc hc hN w1 ok g1' t1' e1' hs, fun G σ H δ Q Qd Ed r q k x => ?_⟩
  unfold xLcE xLc at q
  simp only [compD_X] at q
  refine ref_lcX (Ee := fun _ _ => False) hsub w2 g2' t2' e2' r q (fun G' H' a ds us e h1 h2 h3 h4 q' => ?_) x (fun _ _ _ _ => noX)
  obtain ⟨e', r'⟩ := lst_join e r.bag.atN h1 h2 h3 h4
  exact k _ H' _ _ e' r' q'
end
/-- a call in such an element -/
theorem d_callOF {T : TbL} {c : DC} {k : Nat} {ps : List Str} {x : Str} {q : Pos} (O : OkD X.prog X.w X.K X.mg X.base T k x ps c) (hT : p.b.T = T) (hr : Room k X.A) (tk : TakesF X W) (ha : DA p X W (e :: es) ts)
    (hg : Gl X x := by rfl) (hdb : (x == ("__debug__" : Str)) = false := by decide) (he : starEach (e :: es) X.env = (false, eval e X.env) :: starEach es X.env := by rfl) (hpl : (backTo pos (starEach es X.env)).any (·.1) = false := by rfl) :
    DE p X W (.Call (.Name x q) (e :: es) [] pos) (xFn p.b.a c ts) := by
  obtain ⟨fd, hm, hk, hb, F⟩ := O
  obtain ⟨a, a1, a2⟩ := ha
  refine ⟨_, pe_callS F hr hg hm hk hb (fun σ => passAtF tk σ) a1 hdb he hpl, fun G σ H δ Q Qd Ed r q k x => ?_⟩
  refine a2 G σ H δ _ _ Ed r q (fun G1 H1 vs ds e1 r1 q1 => ?_) x
  exact ⟨p.b, G1, ds, Qd, Ed, hT, e1.sub, e1.bag, r1, q1, fun G2 H2 v d e2 r2 q2 => k G2 H2 v d (e1.trans r.at e2) r2 q2, fun G2 H2 cn fs d us e2 hd rf q2 => x G2 H2 cn fs d us (e1.trans r.at e2) hd rf q2⟩
def oSl (tb : TDE) (tl th : TDO) : TDO' := fun δ Q E => tb δ (fun d => tl δ (fun lo => th δ (fun hi => ∃ ds, d = .lst ds ∧ Q (cutD ds lo hi)) E) E) E
theorem deo_slice {lo hi : Option Expr} {p2 : Pos} {tl th : TDO} (ha : DE p X W e ta) (hl : DO' p X W lo tl) (hh : DO' p X W hi th) : DEO p X W (.Subscript e (.Slice lo hi none p2) pos) (oSl ta tl th) := by
  obtain ⟨t, h1, h2⟩ := ha
  obtain ⟨u, h3, h4⟩ := hl
  obtain ⟨w, h5, h6⟩ := hh
  refine ⟨_, pe_slice sl_list h1 h3 h5, fun G σ H δ Q Qd Ed r q k x => ?_⟩
  refine h2 G σ H δ _ _ Ed r q (fun G1 H1 v d1 e1 r1 q1 => ?_) x
  refine h4 G1 σ H1 δ _ _ Ed (r.ext e1) q1 (fun G2 H2 lo e2 q2 => ?_) (x.step r.at e1)
  have e12 := e1.trans r.at e2
  refine h6 G2 σ H2 δ _ _ Ed (r.ext e12) q2 (fun G3 H3 hi e3 q3 => ?_) (x.step r.at e12)
  have e13 := e12.trans r.at e3
  obtain ⟨ds, rfl, q4⟩ := q3
  have r3 := (r1.mono e2.gg).mono e3.gg
  obtain ⟨a, vs, rfl, c1, c2⟩ := rep_lstI.mp r3
  refine ⟨a, vs, rfl, SqL.of (e13.sub _ _ c1), fun P hP => ?_⟩
  have en := ext_new (K := X.K) (o := .lst (cutV vs lo hi)) e13.sub e13.bag hP
  have nb : P ≠ p.b.a := fun z => e13.bag.at (by rw [← z]; exact hP)
  exact k G3 _ P _ _ (e13.trans r.at en) (e13.sub.free hP) (fun o z t => by rw [e13.keep P o nb t z] at hP; cases hP) upd_same (cut_rep c2 lo hi) q4
end
/-- x = ''.join([pool.pop(_law_draw(bag, len(pool))) for k in ..]) -/
def yPJ (i ix jb : Nat) (β : Addr) (ti : TDI) : TDS := fun Dd δ => δ[jb]? = some (.val (.adr β)) ∧ yPopJoin i ix ti Dd δ
end DL

namespace DL
open PySem PySem.Spec PyProof.Rows L2 EX PySem.W
section
variable {p : Pr} {X : Cx} {W : WX} {K : PySem.W.Frag} {b : Bag} {e1 e2 : Expr} {ta tb : TDE} {pos : Pos}
def rCmpN (K : PySem.W.Frag) (f : PyData → PyData → Bool) : R2 := fun x y H Q => ∃ k l, NK K H k x ∧ NK K H l y ∧ alike k.data l.data = true ∧ k.data ≠ .none ∧ k.data.depth ≤ 8 ∧ Q (.bl (f k.data l.data)) H
theorem op_ltN (hu : X.A.units + 64 < cLine) : OpR X (compareOp .Lt) (rCmpN X.K fun x y => dataLt x y) := by
  intro pins s σ H x y v u Q I rx ry h
  obtain ⟨k, l, h1, h2, h3, h4, h5, q⟩ := h
  exact lt_data (nk_reads I _ _ _ h1 rx) (nk_reads I _ _ _ h2 ry) h3 h4 (by omega) ⟨V.bl _, H, I, rfl, q⟩
theorem op_gtN (hu : X.A.units + 64 < cLine) : OpR X (compareOp .Gt) (rCmpN X.K fun x y => dataLt y x) := by
  intro pins s σ H x y v u Q I rx ry h
  obtain ⟨k, l, h1, h2, h3, h4, h5, q⟩ := h
  exact gt_data (nk_reads I _ _ _ h1 rx) (nk_reads I _ _ _ h2 ry) h3 h4 (by omega) ⟨V.bl _, H, I, rfl, q⟩
def dCmpN (f : PyData → PyData → Bool) : RD2 := fun x y Q => ∃ ks ls, x = nkD (.tup ks) ∧ y = nkD (.tup ls) ∧ alike (NestedKey.tup ks).data (NestedKey.tup ls).data = true ∧ (NestedKey.tup ks).data.depth ≤ 8 ∧ Q (.bl (f (NestedKey.tup ks).data (NestedKey.tup ls).data))
abbrev dLtN : RD2 := dCmpN fun x y => dataLt x y
abbrev dGtN : RD2 := dCmpN fun x y => dataLt y x
theorem tup_ne (ks : List NestedKey) : (NestedKey.tup ks).data ≠ .none := by
  unfold NestedKey.data
  exact fun z => nomatch z
theorem r_cmpN {f : PyData → PyData → Bool} : RefR K b (rCmpN K f) (dCmpN f) := by
  intro G H x y v u Q Qd s hb rx ry h k
  obtain ⟨ks, ls, rfl, rfl, h3, h5, q⟩ := h
  exact ⟨.tup ks, .tup ls, rep_nk s _ _ rx, rep_nk s _ _ ry, h3, tup_ne ks, h5, k G H _ _ (Ext.refl s hb) (rep_sc rfl) q⟩
theorem d_ltN (hu : X.A.units + 64 < cLine) (ha : DE p X W e1 ta) (hb : DE p X W e2 tb) : DE p X W (.Compare e1 [.Lt] [e2] pos) (xOp dLtN ta tb) := d_cmp (op_ltN hu) r_cmpN (nomark _) ha hb
theorem dt_ltN (hu : X.A.units + 64 < cLine) (ha : DE p X W e1 ta) (hb : DE p X W e2 tb) : DT p X W (.Compare e1 [.Lt] [e2] pos) (xTest (xOp dLtN ta tb)) := dt_cmp (op_ltN hu) r_cmpN (nomark _) ha hb
theorem d_gtN (hu : X.A.units + 64 < cLine) (ha : DE p X W e1 ta) (hb : DE p X W e2 tb) : DE p X W (.Compare e1 [.Gt] [e2] pos) (xOp dGtN ta tb) := d_cmp (op_gtN hu) r_cmpN (nomark _) ha hb
theorem dt_gtN (hu : X.A.units + 64 < cLine) (ha : DE p X W e1 ta) (hb : DE p X W e2 tb) : DT p X W (.Compare e1 [.Gt] [e2] pos) (xTest (xOp dGtN ta tb)) := dt_cmp (op_gtN hu) r_cmpN (nomark _) ha hb
end
end DL

namespace DL
open PySem PySem.Spec PyProof.Rows L2 EX
section
variable {X : Cx} {K : PySem.W.Frag} {b : Bag}
def rListA (K : PySem.W.Frag) : List V → Hp → VK → Prop := fun xs H Q => (∃ p ys, xs = [V.ref p] ∧ (SqL K H p ys ∨ SqT K H p ys) ∧ ∀ l, H l = none → Q (.ref l) (upd H l (.lst ys))) ∨
  ∃ z : Str, xs = [.str z] ∧ z.length ≤ sizeLine ∧ ∀ l, H l = none → Q (.ref l) (upd H l (.lst (z.cps.toList.map fun c => V.str ⟨#[c]⟩)))
theorem call_listA (hc : X.calm = true) : CallR X (.type "list") (rListA X.K) := by
  intro pins s σ H xs us Q I r h
  rcases h with h | ⟨z, rfl, hz, q⟩
  · exact call_list_of pins s σ H xs us Q I r h
  · obtain ⟨u, rfl, ru⟩ := vals1 r
    obtain ⟨t, rfl⟩ := ru
    refine call_list_str (I.ok.hd hc) z t (hn := hz) fun h' tk acc' c' hk hS hacc => ?_
    have l1 : acc'.toList.length = z.cps.size := by rw [Array.length_toList]; exact hacc.1
    have rv : Vals (z.cps.toList.map fun c => V.str ⟨#[c]⟩) acc'.toList := by
      refine vals_of_idx _ _ (by rw [List.length_map, l1, Array.length_toList]) fun j v hj => ?_
      obtain ⟨c, u, e1, e2⟩ := hacc.2 j v (by rw [← Array.getElem?_toList]; exact hj)
      refine ⟨.str ⟨#[c]⟩, by rw [List.getElem?_map, Array.getElem?_toList, e1]; rfl, ?_⟩
      rw [e2]; exact ⟨u, rfl⟩
    refine ⟨.ref s.heap.objs.size, upd H s.heap.objs.size (.lst (z.cps.toList.map fun c => V.str ⟨#[c]⟩)), I.laid (t' := tk) (fun b o e => hk b o e) (Nat.le_refl _)
      (show ObjOk X.prog X.w _ _ _ (.lst _) from ⟨by rw [List.length_map, Array.length_toList]; exact hz, acc'.toList, c', rv, by simpa using hS⟩), rfl, q _ (I.hok.fresh (Nat.le_refl _))⟩
def dListA (xs : List D) (Q : QD) : Prop := match xs with
  | [.lst ds] => Q (.lst ds)
  | [.tup ds] => Q (.lst ds)
  | [.str z] => z.length ≤ sizeLine ∧ Q (.lst (signsD z))
  | _ => False
theorem reps_signs {G : Hp} : ∀ cs : List Nat, Reps K G (cs.map fun c => D.str ⟨#[c]⟩) (cs.map fun c => V.str ⟨#[c]⟩)
  | [] => Reps.nil
  | c :: cs => Reps.cons (rep_sc rfl) (reps_signs cs)
theorem r_listA : RefC K b (rListA K) dListA := by
  intro G H xs vs Q Qd s hb rs h k
  unfold dListA at h
  split at h
  · exact .inl (r_list G H _ vs Q Qd s hb rs h k)
  · exact .inl (r_list G H _ vs Q Qd s hb rs h k)
  · obtain ⟨v, rfl, r⟩ := reps1 rs
    rw [rep_str.mp r]
    exact .inr ⟨_, rfl, h.1, fun l hl => k _ _ _ _ (Ext.laid s hb hl) (rep_lst s hl (reps_signs _)) h.2⟩
  · exact h.elim
end
end DL

namespace PL
open PySem TL L2
theorem cutS_nat (z : Str) (lo hi : Nat) : tl (cutS z (some (lo : Int)) (some (hi : Int))) = ((tl z).drop lo).take (hi - lo) := by
  unfold cutS
  rw [HT.sIx_nat, HT.sIx_nat]
  show ((tl z).drop (min lo z.length)).take (min hi z.length - min lo z.length) = _
  have hl : z.length = (tl z).length := len_tl z
  by_cases h : lo ≤ z.length
  · rw [Nat.min_eq_left h]
    by_cases h2 : hi ≤ z.length
    · rw [Nat.min_eq_left h2]
    · rw [Nat.min_eq_right (by omega)]
      rw [List.take_of_length_le (by rw [List.length_drop]; omega), List.take_of_length_le (by rw [List.length_drop]; omega)]
  · rw [Nat.min_eq_right (by omega : z.length ≤ lo), List.drop_of_length_le (by omega : (tl z).length ≤ z.length), List.drop_of_length_le (by omega : (tl z).length ≤ lo)]
    simp
theorem cutS_to (z : Str) (hi : Nat) : tl (cutS z none (some (hi : Int))) = (tl z).take hi := by
  unfold cutS
  rw [HT.sIx_nat]
  show ((tl z).drop 0).take (min hi z.length - 0) = _
  have hl : z.length = (tl z).length := len_tl z
  rw [List.drop_zero, Nat.sub_zero]
  by_cases h : hi ≤ z.length
  · rw [Nat.min_eq_left h]
  · rw [Nat.min_eq_right (by omega), List.take_of_length_le (by omega), List.take_of_length_le (by omega)]
theorem cutS_from (z : Str) (lo : Nat) : tl (cutS z (some (lo : Int)) none) = (tl z).drop lo := by
  unfold cutS
  rw [HT.sIx_nat]
  show ((tl z).drop (min lo z.length)).take (z.length - min lo z.length) = _
  have hl : z.length = (tl z).length := len_tl z
  by_cases h : lo ≤ z.length
  · rw [Nat.min_eq_left h, List.take_of_length_le (by rw [List.length_drop]; omega)]
  · rw [Nat.min_eq_right (by omega : z.length ≤ lo), List.drop_of_length_le (by omega : (tl z).length ≤ z.length), List.drop_of_length_le (by omega : (tl z).length ≤ lo)]
    simp
theorem cutS_short (z : Str) (lo hi : Option Int) : (cutS z lo hi).length ≤ z.length := cutS_length z lo hi
theorem jl_cons (c : Nat) (p : List Nat) (r : List (List Nat)) (h : r ≠ []) : joinL [c] (p :: r) = p ++ c :: joinL [c] r := by
  cases r with
  | nil => exact absurd rfl h
  | cons q r => rfl
theorem jl_len {c w : Nat} : ∀ {ps : List (List Nat)}, ps ≠ [] → (∀ p ∈ ps, p.length = w) → (joinL [c] ps).length + 1 = ps.length * (w + 1)
  | [], h, _ => absurd rfl h
  | [p], _, hw => by
    show p.length + 1 = 1 * (w + 1)
    rw [hw p (by simp)]; omega
  | p :: q :: r, _, hw => by
    rw [jl_cons c p (q :: r) (by simp)]
    have ih := jl_len (c := c) (w := w) (ps := q :: r) (by simp) fun x hx => hw x (List.mem_cons_of_mem _ hx)
    rw [List.length_append, List.length_cons, hw p (by simp)]
    rw [List.length_cons (as := q :: r), Nat.add_mul, Nat.one_mul]
    omega
theorem jl_drop {c w : Nat} : ∀ {ps : List (List Nat)} (k : Nat), (∀ p ∈ ps, p.length = w) → k < ps.length → (joinL [c] ps).drop (k * (w + 1)) = joinL [c] (ps.drop k)
  | ps, 0, _, _ => by simp
  | [], k + 1, _, h => by simp at h
  | [p], k + 1, _, h => by simp at h
  | p :: q :: r, k + 1, hw, h => by
    rw [jl_cons c p (q :: r) (by simp), List.drop_succ_cons]
    have e : (k + 1) * (w + 1) = p.length + (1 + k * (w + 1)) := by rw [hw p (by simp), Nat.add_mul, Nat.one_mul]; omega
    rw [e, ← List.drop_drop, List.drop_left, ← List.drop_drop]
    show (joinL [c] (q :: r)).drop (k * (w + 1)) = _
    exact jl_drop k (fun x hx => hw x (List.mem_cons_of_mem _ hx)) (by simpa using h)
theorem jl_take {c w : Nat} {ps : List (List Nat)} (h : ps ≠ []) (hw : ∀ p ∈ ps, p.length = w) : some ((joinL [c] ps).take w) = ps.head? := by
  match ps, h with
  | [p], _ =>
    show some (p.take w) = some p
    rw [List.take_of_length_le (by rw [hw p (by simp)]; exact Nat.le_refl _)]
  | p :: q :: r, _ =>
    rw [jl_cons c p (q :: r) (by simp), ← hw p (by simp), List.take_left]; rfl
theorem jl_sep {c w : Nat} {ps : List (List Nat)} (h : ps ≠ []) (hw : ∀ p ∈ ps, p.length = w) : ((joinL [c] ps).drop w).take 1 = [] ∨ ((joinL [c] ps).drop w).take 1 = [c] := by
  match ps, h with
  | [p], _ =>
    left
    show (p.drop w).take 1 = []
    rw [List.drop_of_length_le (by rw [hw p (by simp)]; exact Nat.le_refl _)]; rfl
  | p :: q :: r, _ =>
    right
    rw [jl_cons c p (q :: r) (by simp), ← hw p (by simp), List.drop_left]; rfl
/-- the parts of a text by their places -/
def chunk (w : Nat) (t : List Nat) (k : Nat) : List Nat := (t.drop (k * (w + 1))).take w
theorem range_shift {α : Type} (n : Nat) (f : Nat → α) : (List.range (n + 1)).map f = f 0 :: (List.range n).map fun k => f (k + 1) := by
  rw [List.range_succ_eq_map, List.map_cons, List.map_map]; rfl
theorem chunk_join {c w : Nat} : ∀ (n : Nat) (t : List Nat), t.length + 1 = (n + 1) * (w + 1) → (∀ k, k < n + 1 → (t.drop (k * (w + 1) + w)).take 1 = [] ∨ (t.drop (k * (w + 1) + w)).take 1 = [c]) → t = joinL [c] ((List.range (n + 1)).map (chunk w t))
  | 0, t, hl, hs => by
    show t = (t.drop (0 * (w + 1))).take w
    rw [Nat.zero_mul, List.drop_zero, List.take_of_length_le (by omega)]
  | n + 1, t, hl, hs => by
    rw [range_shift, jl_cons c _ _ (by simp)]
    have hl2 : t.length + 1 = (n + 1) * (w + 1) + (w + 1) := by rw [hl]; rw [Nat.succ_mul]
    have hm : (n + 1) * (w + 1) = n * (w + 1) + (w + 1) := by rw [Nat.succ_mul]
    have h0 := hs 0 (by omega)
    rw [Nat.zero_mul, Nat.zero_add] at h0
    have e1 : t.drop w = c :: t.drop (w + 1) := by
      have hlt : w < t.length := by omega
      rcases h0 with h0 | h0
      · rw [List.drop_eq_getElem_cons hlt, List.take_succ_cons] at h0
        cases h0
      · rw [List.drop_eq_getElem_cons hlt, List.take_succ_cons, List.take_zero] at h0
        rw [List.drop_eq_getElem_cons hlt, (List.cons.inj h0).1]
    have ih := chunk_join (c := c) (w := w) n (t.drop (w + 1)) (by rw [List.length_drop]; omega) fun k hk => by
      have := hs (k + 1) (by omega)
      rw [List.drop_drop]
      rw [show w + 1 + (k * (w + 1) + w) = (k + 1) * (w + 1) + w from by rw [Nat.succ_mul]; omega]
      exact this
    have e2 : ((List.range (n + 1)).map fun k => chunk w t (k + 1)) = (List.range (n + 1)).map (chunk w (t.drop (w + 1))) := by
      apply List.map_congr_left
      intro k _
      unfold chunk
      rw [List.drop_drop, show w + 1 + k * (w + 1) = (k + 1) * (w + 1) from by rw [Nat.succ_mul]; omega]
    rw [e2, ← ih]
    unfold chunk
    rw [Nat.zero_mul, List.drop_zero, ← e1]
    exact (List.take_append_drop w t).symm
abbrev dot : Str := "."
abbrev blank : Str := " "
abbrev dash : Str := "-"
theorem tl_dot : tl dot = [46] := by decide +kernel
theorem tl_blank : tl blank = [32] := by decide +kernel
theorem tl_dash : tl dash = [45] := by decide +kernel
theorem tl_empty : tl ("" : Str) = [] := by decide +kernel
/-- what the code's read_run and the law's _law_read answer -/
def readV (mine : List Str) (text : Str) : Option (List Str) :=
  if text = dash then some [] else if (Txt.split text dot).all (fun w => decide (w ∈ mine)) = true then some (Txt.split text dot) else none
/-- the letters: words of one width, without the signs . and blank -/
structure Mine (w : Nat) (mine : List Str) : Prop where
  pos : 1 ≤ w
  wide : w ≤ 4
  ne : mine ≠ []
  few : mine.length ≤ 16
  nd : mine.Nodup
  len : ∀ x ∈ mine, x.length = w
  sg : ∀ x ∈ mine, ∀ c ∈ tl x, (48 ≤ c ∧ c ≤ 57) ∨ (97 ≤ c ∧ c ≤ 122)
section
variable {w : Nat} {mine : List Str} (M : Mine w mine)
theorem Mine.tlen (M : Mine w mine) {x : Str} (h : x ∈ mine) : (tl x).length = w := by rw [← len_tl]; exact M.len x h
theorem Mine.free (M : Mine w mine) {x : Str} (h : x ∈ mine) {c : Nat} (hc : c < 48 ∨ (57 < c ∧ c < 97) ∨ 122 < c) : c ∉ tl x := fun hm => by
  have := M.sg x h c hm
  omega
/-- the word at place k of the text, and the sign behind it -/
def wordAt (w : Nat) (text : Str) (k : Nat) : Str := cutS text (some ((k * (w + 1) : Nat) : Int)) (some ((k * (w + 1) + w : Nat) : Int))
def signAt (w : Nat) (text : Str) (k : Nat) : Str := cutS text (some ((k * (w + 1) + w : Nat) : Int)) (some ((k * (w + 1) + w + 1 : Nat) : Int))
theorem wordAt_tl (w : Nat) (text : Str) (k : Nat) : tl (wordAt w text k) = chunk w (tl text) k := by
  unfold wordAt chunk
  rw [cutS_nat]; congr 1; omega
theorem signAt_tl (w : Nat) (text : Str) (k : Nat) : tl (signAt w text k) = ((tl text).drop (k * (w + 1) + w)).take 1 := by
  unfold signAt
  rw [cutS_nat]; congr 1; omega
theorem split_back {ws : List Str} (M : Mine w mine) (hne : ws ≠ []) (h : ∀ x ∈ ws, x ∈ mine) : Txt.split (Txt.join dot ws) dot = ws :=
  split_join (y := dot) (s := 46) (S := []) tl_dot (by decide +kernel) hne fun p hp => M.free (h p hp) (by omega)
theorem read_some {text : Str} {ws : List Str} (M : Mine w mine) (hd : text ≠ dash) (h : readV mine text = some ws) : ws ≠ [] ∧ (∀ x ∈ ws, x ∈ mine) ∧ tl text = joinL [46] (ws.map tl) := by
  unfold readV at h
  rw [if_neg hd] at h
  split at h
  · rename_i q
    have e := Option.some.inj h
    subst e
    refine ⟨fun z => ?_, fun x hx => ?_, ?_⟩
    · have := PyProof.Rows.split_pos text dot
      rw [z] at this; exact absurd this (by decide)
    · exact of_decide_eq_true (List.all_eq_true.mp q x hx)
    · have := StrLaws.join_split text dot
      rw [← tl_dot, ← tl_join dot, this]
  · cases h
theorem read_of {text : Str} {ws : List Str} (M : Mine w mine) (hne : ws ≠ []) (h : ∀ x ∈ ws, x ∈ mine) (e : tl text = joinL [46] (ws.map tl)) : readV mine text = some ws := by
  have et : text = Txt.join dot ws := by
    rw [join_eq]
    exact ext_tl (by rw [tl_join dot, tl_dot]; exact e)
  have hs : Txt.split text dot = ws := by rw [et]; exact split_back M hne h
  have hd : text ≠ dash := fun z => by
    have h1 : Txt.split dash dot = [dash] := by decide +kernel
    rw [z, h1] at hs
    have := h dash (by rw [← hs]; exact List.mem_singleton.mpr rfl)
    have := M.sg _ this 45 (by rw [tl_dash]; simp)
    omega
  unfold readV
  rw [if_neg hd, hs, if_pos (List.all_eq_true.mpr fun x hx => decide_eq_true (h x hx))]
theorem read_div {text : Str} {ws : List Str} (M : Mine w mine) (hd : text ≠ dash) (h : readV mine text = some ws) : text.length + 1 = ws.length * (w + 1) := by
  obtain ⟨h1, h2, h3⟩ := read_some M hd h
  rw [len_tl, h3]
  rw [jl_len (w := w) (by simpa using h1) fun p hp => by
    obtain ⟨x, hx, rfl⟩ := List.mem_map.mp hp
    exact M.tlen (h2 x hx)]
  rw [List.length_map]
/-- read: every word a letter, every sign behind one a point, or none -/
theorem read_good {text : Str} {n : Nat} (M : Mine w mine) (hl : text.length + 1 = n * (w + 1)) (h : ∀ k, k < n → wordAt w text k ∈ mine ∧ (signAt w text k = ("" : Str) ∨ signAt w text k = dot)) : readV mine text = some ((List.range n).map (wordAt w text)) := by
  obtain ⟨m, rfl⟩ : ∃ m, n = m + 1 := ⟨n - 1, by
    rcases n with _ | n
    · rw [Nat.zero_mul] at hl; omega
    · rfl⟩
  refine read_of M (by simp) (fun x hx => ?_) ?_
  · obtain ⟨k, hk, rfl⟩ := List.mem_map.mp hx
    exact (h k (List.mem_range.mp hk)).1
  · have e : ((List.range (m + 1)).map (wordAt w text)).map tl = (List.range (m + 1)).map (chunk w (tl text)) := by
      rw [List.map_map]
      exact List.map_congr_left fun k _ => wordAt_tl w text k
    rw [e]
    refine chunk_join m (tl text) (by rw [← len_tl]; exact hl) fun k hk => ?_
    rw [← signAt_tl]
    rcases (h k hk).2 with z | z
    · left; rw [z]; exact tl_empty
    · right; rw [z]; exact tl_dot
theorem read_parts {text : Str} {ws : List Str} (M : Mine w mine) (hd : text ≠ dash) (h : readV mine text = some ws) : ∀ k, k < ws.length → wordAt w text k ∈ mine ∧ (signAt w text k = ("" : Str) ∨ signAt w text k = dot) := by
  obtain ⟨h1, h2, h3⟩ := read_some M hd h
  intro k hk
  have hw : ∀ p ∈ ws.map tl, p.length = w := fun p hp => by
    obtain ⟨x, hx, rfl⟩ := List.mem_map.mp hp
    exact M.tlen (h2 x hx)
  have hw' : ∀ p ∈ (ws.map tl).drop k, p.length = w := fun p hp => hw p (List.mem_of_mem_drop hp)
  have hne : (ws.map tl).drop k ≠ [] := fun z => by
    have := congrArg List.length z
    simp at this; omega
  have hd2 : (tl text).drop (k * (w + 1)) = joinL [46] ((ws.map tl).drop k) := by
    rw [h3]; exact jl_drop k hw (by simpa using hk)
  constructor
  · have e1 : some (tl (wordAt w text k)) = some (tl ws[k]) := by
      rw [wordAt_tl]
      unfold chunk
      rw [hd2, jl_take hne hw', List.head?_drop]
      simp [hk]
    rw [ext_tl (Option.some.inj e1)]
    exact h2 _ (List.getElem_mem hk)
  · have e2 : tl (signAt w text k) = ((joinL [46] ((ws.map tl).drop k)).drop w).take 1 := by
      rw [signAt_tl, ← List.drop_drop, hd2]
    rcases jl_sep hne hw' with z | z
    · left; exact ext_tl (by rw [e2, z, tl_empty])
    · right; exact ext_tl (by rw [e2, z, tl_dot])
end
end PL

namespace PL
open PySem PySem.W DL
section
variable {α : Type}
/-- two lists in strict order with the same members -/
theorem strict_eq {lt : α → α → Prop} (irr : ∀ a, ¬ lt a a) (asy : ∀ a b, lt a b → ¬ lt b a) : ∀ {xs ys : List α}, xs.Pairwise lt → ys.Pairwise lt → (∀ x, x ∈ xs ↔ x ∈ ys) → xs = ys
  | [], [], _, _, _ => rfl
  | [], y :: ys, _, _, h => absurd ((h y).mpr (by simp)) (by simp)
  | x :: xs, [], _, _, h => absurd ((h x).mp (by simp)) (by simp)
  | x :: xs, y :: ys, hx, hy, h => by
    rw [List.pairwise_cons] at hx hy
    have e : x = y := by
      rcases List.mem_cons.mp ((h x).mp (by simp)) with e | e
      · exact e
      · rcases List.mem_cons.mp ((h y).mpr (by simp)) with e' | e'
        · exact e'.symm
        · exact absurd (hx.1 y e') (asy _ _ (hy.1 x e))
    subst e
    rw [strict_eq irr asy hx.2 hy.2 fun z => ?_]
    constructor
    · intro hz
      rcases List.mem_cons.mp ((h z).mp (List.mem_cons_of_mem _ hz)) with e | e
      · subst e; exact absurd (hx.1 z hz) (irr z)
      · exact e
    · intro hz
      rcases List.mem_cons.mp ((h z).mpr (List.mem_cons_of_mem _ hz)) with e | e
      · subst e; exact absurd (hy.1 z hz) (irr z)
      · exact e
/-- the law's step: the word at its place, unless it stands there -/
def insB [DecidableEq α] (lt : α → α → Bool) (told : List α) (x : α) : List α :=
  let n := (told.filter fun y => lt y x).length
  if (told.drop n).take 1 = [x] then told else told.insertIdx n x
theorem insB_ok [DecidableEq α] {lt : α → α → Bool} {V : α → Prop} (irr : ∀ a, lt a a = false) (tr : ∀ a b c, lt a b = true → lt b c = true → lt a c = true) (tri : ∀ a b, V a → V b → lt a b = false → lt b a = false → a = b) {told : List α} {x : α}
    (hs : told.Pairwise fun a b => lt a b = true) (hv : ∀ y ∈ told, V y) (hx : V x) : (insB lt told x).Pairwise (fun a b => lt a b = true) ∧ ∀ z, z ∈ insB lt told x ↔ z = x ∨ z ∈ told := by
  -- the part before x, the rest
  have sp : ∀ (told : List α), told.Pairwise (fun a b => lt a b = true) → ∃ A B, told = A ++ B ∧ (told.filter fun y => lt y x) = A ∧ (∀ y ∈ A, lt y x = true) ∧ ∀ y ∈ B, lt y x = false := by
    intro told
    induction told with
    | nil => intro _; exact ⟨[], [], rfl, rfl, by simp, by simp⟩
    | cons y r ih =>
      intro hs
      rw [List.pairwise_cons] at hs
      obtain ⟨A, B, e1, e2, e3, e4⟩ := ih hs.2
      cases q : lt y x with
      | true =>
        refine ⟨y :: A, B, by rw [e1]; rfl, by rw [List.filter_cons_of_pos (by simpa using q), e2], fun z hz => ?_, e4⟩
        rcases List.mem_cons.mp hz with rfl | hz
        · exact q
        · exact e3 z hz
      | false =>
        have hB : ∀ z ∈ r, lt z x = false := fun z hz => by
          cases w : lt z x with
          | false => rfl
          | true => rw [tr y z x (hs.1 z hz) w] at q; cases q
        refine ⟨[], y :: r, rfl, ?_, by simp, fun z hz => ?_⟩
        · rw [List.filter_cons_of_neg (by simp [q])]
          rw [List.filter_eq_nil_iff]
          intro z hz; simp [hB z hz]
        · rcases List.mem_cons.mp hz with rfl | hz
          · exact q
          · exact hB z hz
  obtain ⟨A, B, e1, e2, e3, e4⟩ := sp told hs
  unfold insB
  rw [e2]
  dsimp only
  have dB : told.drop A.length = B := by rw [e1, List.drop_left]
  rw [dB]
  by_cases q : B.take 1 = [x]
  · rw [if_pos q]
    refine ⟨hs, fun z => ⟨.inr, ?_⟩⟩
    rintro (rfl | h)
    · rw [e1]
      refine List.mem_append_right _ (List.mem_of_mem_take (i := 1) ?_)
      rw [q]; simp
    · exact h
  · rw [if_neg q]
    have ei : told.insertIdx A.length x = A ++ x :: B := by
      rw [e1]
      clear e1 e2 e3 dB sp
      induction A with
      | nil => rfl
      | cons a A ih =>
        show (a :: (A ++ B)).insertIdx (A.length + 1) x = _
        rw [List.insertIdx_succ_cons, ih]; rfl
    rw [ei]
    rw [e1, List.pairwise_append] at hs
    have lB : ∀ y ∈ B, lt x y = true := by
      cases B with
      | nil => simp
      | cons b B =>
        have hb : lt x b = true := by
          cases w : lt x b with
          | true => rfl
          | false =>
            exfalso
            refine q ?_
            rw [tri x b hx (hv b (by rw [e1]; simp)) w (e4 b (by simp))]; rfl
        intro y hy
        rcases List.mem_cons.mp hy with rfl | hy
        · exact hb
        · exact tr _ _ _ hb ((List.pairwise_cons.mp hs.2.1).1 y hy)
    constructor
    · rw [List.pairwise_append]
      refine ⟨hs.1, List.pairwise_cons.mpr ⟨lB, hs.2.1⟩, fun a ha b hb => ?_⟩
      rcases List.mem_cons.mp hb with rfl | hb
      · exact e3 a ha
      · exact hs.2.2 a ha b hb
    · intro z
      rw [e1, List.mem_append, List.mem_append, List.mem_cons]
      constructor
      · rintro (h | h | h)
        · exact .inr (.inl h)
        · exact .inl h
        · exact .inr (.inr h)
      · rintro (h | h | h)
        · exact .inr (.inl h)
        · exact .inl h
        · exact .inr (.inr h)
/-- what the law's _law_told gives -/
def toldB [DecidableEq α] (lt : α → α → Bool) (xs : List α) : List α := xs.foldl (insB lt) []
theorem toldB_ok [DecidableEq α] {lt : α → α → Bool} {V : α → Prop} (irr : ∀ a, lt a a = false) (tr : ∀ a b c, lt a b = true → lt b c = true → lt a c = true) (tri : ∀ a b, V a → V b → lt a b = false → lt b a = false → a = b) {xs : List α} (hv : ∀ y ∈ xs, V y) :
    (toldB lt xs).Pairwise (fun a b => lt a b = true) ∧ ∀ z, z ∈ toldB lt xs ↔ z ∈ xs := by
  have go : ∀ (xs told : List α), (∀ y ∈ xs, V y) → (∀ y ∈ told, V y) → told.Pairwise (fun a b => lt a b = true) → (xs.foldl (insB lt) told).Pairwise (fun a b => lt a b = true) ∧ ∀ z, z ∈ xs.foldl (insB lt) told ↔ z ∈ told ∨ z ∈ xs := by
    intro xs
    induction xs with
    | nil => intro told _ _ h; exact ⟨h, fun z => by simp⟩
    | cons x xs ih =>
      intro told h1 h2 h3
      obtain ⟨a1, a2⟩ := insB_ok irr tr tri h3 h2 (h1 x (by simp))
      obtain ⟨b1, b2⟩ := ih (insB lt told x) (fun y hy => h1 y (List.mem_cons_of_mem _ hy)) (fun y hy => by
        rcases (a2 y).mp hy with rfl | hy
        · exact h1 _ (by simp)
        · exact h2 y hy) a1
      refine ⟨b1, fun z => ?_⟩
      rw [List.foldl_cons, b2, a2, List.mem_cons]
      constructor
      · rintro ((h | h) | h)
        · exact .inr (.inl h)
        · exact .inl h
        · exact .inr (.inr h)
      · rintro (h | h | h)
        · exact .inl (.inr h)
        · exact .inl (.inl h)
        · exact .inr h
  have := go xs [] hv (by simp) .nil
  exact ⟨this.1, fun z => by rw [show toldB lt xs = xs.foldl (insB lt) [] from rfl, this.2]; simp⟩
end
end PL

namespace PL
open PySem PySem.W DL TL
abbrev Rn := List Str
def runD (r : Rn) : D := .tup (r.map D.str)
def idx (mine : List Str) (x : Str) : Nat := mine.idxOf x
def kap (mine : List Str) (r : Rn) : List Int := (r.length : Int) :: r.map fun x => ((idx mine x : Nat) : Int)
def keyN (mine : List Str) (r : Rn) : List NestedKey := [.num r.length, .tup (r.map fun x => .num ((idx mine x : Nat) : Int))]
def keyD' (mine : List Str) (r : Rn) : D := .tup [.int r.length, .tup (r.map fun x => .int ((idx mine x : Nat) : Int))]
def aheadB (mine : List Str) (a b : Rn) : Bool := decide (kap mine a < kap mine b)
/-- the run's letters are letters -/
def Ok (mine : List Str) (r : Rn) : Prop := ∀ x ∈ r, x ∈ mine
theorem goD {α : Type} (f : α → Int) : ∀ r : List α, nkD.go (r.map fun x => NestedKey.num (f x)) = r.map fun x => D.int (f x)
  | [] => rfl
  | x :: r => by
    show nkD (.num (f x)) :: nkD.go (r.map fun x => NestedKey.num (f x)) = _
    rw [goD f r]; rfl
theorem keyD_n (mine : List Str) (r : Rn) : nkD (.tup (keyN mine r)) = keyD' mine r := by
  show D.tup [.int r.length, .tup (nkD.go (r.map fun x => NestedKey.num ((idx mine x : Nat) : Int)))] = _
  rw [goD fun x => ((idx mine x : Nat) : Int)]; rfl
theorem datas_num {α : Type} (f : α → Int) : ∀ r : List α, NestedKey.datas (r.map fun x => NestedKey.num (f x)) = (r.map f).map PyData.int
  | [] => rfl
  | x :: r => by
    show NestedKey.data (.num (f x)) :: NestedKey.datas (r.map fun x => NestedKey.num (f x)) = _
    rw [datas_num f r]; rfl
theorem key_data (mine : List Str) (r : Rn) : (NestedKey.tup (keyN mine r)).data = .tuple [.int r.length, .tuple ((r.map fun x => ((idx mine x : Nat) : Int)).map PyData.int)] := by
  show PyData.tuple [.int r.length, .tuple (NestedKey.datas (r.map fun x => NestedKey.num ((idx mine x : Nat) : Int)))] = _
  rw [datas_num fun x => ((idx mine x : Nat) : Int)]
theorem alike_ints : ∀ xs ys : List Int, alikeAll (xs.map PyData.int) (ys.map PyData.int) = true
  | [], ys => by cases ys <;> simp [alikeAll]
  | x :: xs, [] => by simp [alikeAll]
  | x :: xs, y :: ys => by
    simp only [List.map_cons, alikeAll, alike_ints xs ys, alike]; rfl
theorem eqv_ints : ∀ xs ys : List Int, PyData.eqvAll (xs.map PyData.int) (ys.map PyData.int) = decide (xs = ys)
  | [], [] => by simp [PyData.eqvAll]
  | [], y :: ys => by simp [PyData.eqvAll]
  | x :: xs, [] => by simp [PyData.eqvAll]
  | x :: xs, y :: ys => by
    rw [List.map_cons, List.map_cons]
    simp only [PyData.eqvAll, PyData.eqv, eqv_ints xs ys]
    by_cases h : x = y
    · subst h; simp
    · simp [h]
theorem key_alike (mine : List Str) (a b : Rn) : alike (NestedKey.tup (keyN mine a)).data (NestedKey.tup (keyN mine b)).data = true := by
  rw [key_data, key_data]
  simp only [alike, alikeAll, alike_ints]; rfl
theorem depth_ints : ∀ xs : List Int, PyData.depthAll (xs.map PyData.int) = 0
  | [] => by simp [PyData.depthAll]
  | x :: xs => by simp [PyData.depthAll, PyData.depth, depth_ints xs]
theorem key_depth (mine : List Str) (r : Rn) : (NestedKey.tup (keyN mine r)).data.depth ≤ 8 := by
  rw [key_data]
  simp only [PyData.depth, PyData.depthAll, depth_ints]
  omega
theorem depth_nums {α : Type} (f : α → Int) : ∀ r : List α, NestedKey.depthAll (r.map fun x => NestedKey.num (f x)) = 0
  | [] => by simp [NestedKey.depthAll]
  | x :: r => by simp [NestedKey.depthAll, NestedKey.depth, depth_nums f r]
theorem key_ndepth (mine : List Str) (r : Rn) : (NestedKey.tup (keyN mine r)).depth ≤ 8 := by
  unfold keyN
  simp only [NestedKey.depth, NestedKey.depthAll, depth_nums]
  omega
theorem key_lt (mine : List Str) (a b : Rn) : dataLt (NestedKey.tup (keyN mine a)).data (NestedKey.tup (keyN mine b)).data = aheadB mine a b := by
  rw [key_data, key_data, dataLt_pair (by simp [alike]) (by unfold alike; exact alike_ints _ _)]
  unfold aheadB kap
  simp only [PyData.eqv, eqv_ints, dataLt_int]
  rw [dataLt_tuple]
  show (if ((a.length : Int) == (b.length : Int)) = true then (if decide _ = true then false else rowLt _ _) else _) = _
  rw [dataLt_ints]
  by_cases h : (a.length : Int) = (b.length : Int)
  · rw [if_pos (by simp [h])]
    by_cases h2 : (a.map fun x => ((idx mine x : Nat) : Int)) = b.map fun x => ((idx mine x : Nat) : Int)
    · rw [if_pos (by simp [h2]), h, h2]
      simp [List.lt_irrefl]
    · rw [if_neg (by simp [h2])]
      congr 1
      rw [List.cons_lt_cons_iff]
      simp [h]
  · rw [if_neg (by simp [h])]
    congr 1
    rw [List.cons_lt_cons_iff]
    simp [h]
section
variable {w : Nat} {mine : List Str}
theorem idx_inj {x y : Str} (hx : x ∈ mine) (hy : y ∈ mine) (e : idx mine x = idx mine y) : x = y := by
  have h1 : idx mine x < mine.length := List.idxOf_lt_length_of_mem hx
  have h2 : idx mine y < mine.length := List.idxOf_lt_length_of_mem hy
  have e1 : mine[idx mine x] = x := List.getElem_idxOf h1
  have e2 : mine[idx mine y] = y := List.getElem_idxOf h2
  rw [← e1, ← e2]
  simp [e]
theorem map_idx_inj : ∀ {a b : Rn}, Ok mine a → Ok mine b → (a.map fun x => ((idx mine x : Nat) : Int)) = (b.map fun x => ((idx mine x : Nat) : Int)) → a = b
  | [], [], _, _, _ => rfl
  | [], _ :: _, _, _, e => by simp at e
  | _ :: _, [], _, _, e => by simp at e
  | x :: a, y :: b, h1, h2, e => by
    rw [List.map_cons, List.map_cons] at e
    obtain ⟨e1, e2⟩ := List.cons.inj e
    rw [idx_inj (h1 x (by simp)) (h2 y (by simp)) (Int.ofNat.inj e1), map_idx_inj (fun z hz => h1 z (List.mem_cons_of_mem _ hz)) (fun z hz => h2 z (List.mem_cons_of_mem _ hz)) e2]
theorem kap_inj {a b : Rn} (h1 : Ok mine a) (h2 : Ok mine b) (e : kap mine a = kap mine b) : a = b := map_idx_inj h1 h2 (List.cons.inj e).2
theorem ah_irr (a : Rn) : aheadB mine a a = false := by unfold aheadB; simp [List.lt_irrefl]
theorem ah_tr (a b c : Rn) (h1 : aheadB mine a b = true) (h2 : aheadB mine b c = true) : aheadB mine a c = true := by
  unfold aheadB at *
  exact decide_eq_true (List.lt_trans (of_decide_eq_true h1) (of_decide_eq_true h2))
theorem ah_tri (a b : Rn) (h1 : Ok mine a) (h2 : Ok mine b) (e1 : aheadB mine a b = false) (e2 : aheadB mine b a = false) : a = b := by
  unfold aheadB at e1 e2
  exact kap_inj h1 h2 (List.le_antisymm (List.not_lt.mp (of_decide_eq_false e2)) (List.not_lt.mp (of_decide_eq_false e1)))
/-- what told_lot answers for runs that are all well -/
def toldV (mine : List Str) (runs : List Rn) : List Rn := toldB (aheadB mine) runs
theorem toldV_ok {runs : List Rn} (h : ∀ r ∈ runs, Ok mine r) : (toldV mine runs).Pairwise (fun a b => aheadB mine a b = true) ∧ ∀ z, z ∈ toldV mine runs ↔ z ∈ runs :=
  toldB_ok (V := Ok mine) ah_irr ah_tr ah_tri h
def ent (mine : List Str) (r : Rn) : NestedKey × D := (.tup (keyN mine r), runD r)
theorem key_inj {a b : Rn} (h1 : Ok mine a) (h2 : Ok mine b) (e : NestedKey.tup (keyN mine a) = NestedKey.tup (keyN mine b)) : a = b := by
  have := congrArg NestedKey.data e
  rw [key_data, key_data] at this
  injection this with this
  obtain ⟨e1, e2⟩ := List.cons.inj this
  have e3 := (List.cons.inj e2).1
  injection e3 with e3
  refine map_idx_inj h1 h2 ?_
  have ij : ∀ {xs ys : List Int}, xs.map PyData.int = ys.map PyData.int → xs = ys := by
    intro xs
    induction xs with
    | nil => intro ys h; cases ys with | nil => rfl | cons y ys => simp at h
    | cons x xs ih =>
      intro ys h
      cases ys with
      | nil => simp at h
      | cons y ys =>
        rw [List.map_cons, List.map_cons] at h
        obtain ⟨a1, a2⟩ := List.cons.inj h
        injection a1 with a1
        rw [a1, ih a2]
  exact ij e3
theorem put_ent {rs : List Rn} {r : Rn} (h : ∀ x ∈ rs, Ok mine x) (hr : Ok mine r) : DL.putN (rs.map (ent mine)) (.tup (keyN mine r)) (runD r) = if r ∈ rs then rs.map (ent mine) else (rs ++ [r]).map (ent mine) := by
  unfold DL.putN
  by_cases q : r ∈ rs
  · rw [if_pos q, if_pos (by
      rw [List.any_eq_true]
      exact ⟨ent mine r, List.mem_map.mpr ⟨r, q, rfl⟩, decide_eq_true rfl⟩)]
    rw [List.map_map]
    apply List.map_congr_left
    intro x hx
    show (if (ent mine x).1 = NestedKey.tup (keyN mine r) then ((ent mine x).1, runD r) else ent mine x) = ent mine x
    split
    · rename_i e
      rw [← key_inj (h x hx) hr e]; rfl
    · rfl
  · rw [if_neg q, if_neg (by
      rw [List.any_eq_true]
      rintro ⟨z, hz, e⟩
      obtain ⟨x, hx, rfl⟩ := List.mem_map.mp hz
      exact q (by rw [← key_inj (h x hx) hr (of_decide_eq_true e)]; exact hx)), List.map_append]
    rfl
/-- the different runs, as they are met -/
def diff (runs : List Rn) : List Rn := runs.foldl (fun acc r => if r ∈ acc then acc else acc ++ [r]) []
theorem diff_snoc (runs : List Rn) (r : Rn) : diff (runs ++ [r]) = if r ∈ diff runs then diff runs else diff runs ++ [r] := by
  unfold diff; rw [List.foldl_append]; rfl
theorem diff_mem (runs : List Rn) : (diff runs).Nodup ∧ ∀ r, r ∈ diff runs ↔ r ∈ runs := by
  have go : ∀ (runs acc : List Rn), acc.Nodup → (runs.foldl (fun acc r => if r ∈ acc then acc else acc ++ [r]) acc).Nodup ∧ ∀ r, r ∈ runs.foldl (fun acc r => if r ∈ acc then acc else acc ++ [r]) acc ↔ r ∈ acc ∨ r ∈ runs := by
    intro runs
    induction runs with
    | nil => intro acc h; exact ⟨h, fun r => by simp⟩
    | cons x runs ih =>
      intro acc h
      rw [List.foldl_cons]
      by_cases q : x ∈ acc
      · rw [if_pos q]
        refine ⟨(ih acc h).1, fun r => ?_⟩
        rw [(ih acc h).2, List.mem_cons]
        constructor
        · rintro (z | z)
          · exact .inl z
          · exact .inr (.inr z)
        · rintro (z | rfl | z)
          · exact .inl z
          · exact .inl q
          · exact .inr z
      · rw [if_neg q]
        have nd : (acc ++ [x]).Nodup := by
          rw [List.nodup_append]
          refine ⟨h, by simp, fun a ha b hb => ?_⟩
          rw [List.mem_singleton.mp hb]
          exact fun e => q (e ▸ ha)
        refine ⟨(ih _ nd).1, fun r => ?_⟩
        rw [(ih _ nd).2, List.mem_append, List.mem_singleton, List.mem_cons, or_assoc]
  have := go runs [] .nil
  exact ⟨this.1, fun r => (this.2 r).trans (by simp)⟩
theorem sort_told {runs : List Rn} (h : ∀ r ∈ runs, Ok mine r) : sortN ((diff runs).map (ent mine)) = (toldV mine runs).map (ent mine) := by
  have hd := diff_mem runs
  have ok : ∀ r ∈ diff runs, Ok mine r := fun r hr => h r ((hd.2 r).mp hr)
  have tv := toldV_ok h
  let le : Rn → Rn → Bool := fun a b => !aheadB mine b a
  have e1 : sortN ((diff runs).map (ent mine)) = ((diff runs).mergeSort le).map (ent mine) := by
    unfold sortN
    refine (List.map_mergeSort fun a _ b _ => ?_).symm
    show (!aheadB mine b a) = dataLe false (fun x : NestedKey × D => x.1.data) (ent mine a) (ent mine b)
    rw [dataLe_eq]
    show _ = !dataLt (NestedKey.tup (keyN mine b)).data (NestedKey.tup (keyN mine a)).data
    rw [key_lt]
  rw [e1]
  congr 1
  have tot : ∀ a b, (le a b || le b a) = true := fun a b => by
    show (!aheadB mine b a || !aheadB mine a b) = true
    cases q : aheadB mine b a with
    | false => rfl
    | true =>
      cases q2 : aheadB mine a b with
      | false => rfl
      | true =>
        have := ah_tr (mine := mine) a b a q2 q
        rw [ah_irr] at this; cases this
  have trn : ∀ a b c, le a b = true → le b c = true → le a c = true := fun a b c h1 h2 => by
    have h1 : (!aheadB mine b a) = true := h1
    have h2 : (!aheadB mine c b) = true := h2
    show (!aheadB mine c a) = true
    unfold aheadB at *
    simp only [Bool.not_eq_true', decide_eq_false_iff_not] at *
    exact List.not_lt.mpr (List.le_trans (List.not_lt.mp h1) (List.not_lt.mp h2))
  have p0 := List.pairwise_mergeSort trn tot (diff runs)
  have nd : ((diff runs).mergeSort le).Nodup := (List.mergeSort_perm (diff runs) le).nodup_iff.mpr hd.1
  have mm : ∀ z, z ∈ (diff runs).mergeSort le ↔ z ∈ diff runs := fun z => (List.mergeSort_perm (diff runs) le).mem_iff
  refine strict_eq (lt := fun a b => aheadB mine a b = true) (fun a => by rw [ah_irr]; simp) (fun a b h1 h2 => ?_) ?_ tv.1 (fun z => by rw [mm, hd.2, tv.2])
  · have := ah_tr (mine := mine) a b a h1 h2
    rw [ah_irr] at this; cases this
  · have both := p0.and nd
    refine List.Pairwise.imp_of_mem (fun {a b} ha hb hab => ?_) both
    have h1 : (!aheadB mine b a) = true := hab.1
    cases q : aheadB mine a b with
    | true => rfl
    | false => exact absurd (ah_tri a b (ok a ((mm a).mp ha)) (ok b ((mm b).mp hb)) q (by simpa using h1)) hab.2
theorem val_ent {rs : List Rn} {r : Rn} (h : ∀ x ∈ rs, Ok mine x) (hr : r ∈ rs) : DL.valN (rs.map (ent mine)) (.tup (keyN mine r)) = some (runD r) := by
  unfold DL.valN
  induction rs with
  | nil => simp at hr
  | cons x rs ih =>
    rw [List.map_cons, List.find?_cons]
    by_cases q : NestedKey.tup (keyN mine x) = .tup (keyN mine r)
    · rw [show decide ((ent mine x).1 = NestedKey.tup (keyN mine r)) = true from decide_eq_true q]
      rw [← key_inj (h x (by simp)) (h r hr) q]; rfl
    · rw [show decide ((ent mine x).1 = NestedKey.tup (keyN mine r)) = false from decide_eq_false q]
      refine ih (fun y hy => h y (List.mem_cons_of_mem _ hy)) ?_
      rcases List.mem_cons.mp hr with rfl | hr
      · exact absurd rfl q
      · exact hr
end
end PL

namespace K02
open PySem PySem.Spec PyProof.Rows L2 EX DL
open L2H (RoomH roomH_of)
def top (i : Nat) : Stmt := PySem.Challenge.pw_fewbreak_k02_whole_runs_and_lots_read_ba.main.body.getD i (.Pass ⟨0, 0, 0, 0⟩)
def inClass (st : Stmt) (j : Nat) : Stmt := match st with | .ClassDef (body := b) .. => b.getD j (.Pass ⟨0, 0, 0, 0⟩) | _ => .Pass ⟨0, 0, 0, 0⟩
def oxt : OxT := [("BadText", ["code", "line", "why"]), ("BadLetters", ["code", "at"]), ("BadRun", ["code", "at"]), ("BadNumber", ["code", "value"]), ("TooMany", ["code", "what", "found"])]
def obt : ObT := [("Letters", ["names", "signs", "_part_places", "_listed", "_places", "_text"])]
theorem bv_all : bootBuiltins "all" = some (.builtin "all") := by decide +kernel
theorem bv_bool : bootBuiltins "bool" = some (.type "bool") := by decide +kernel
theorem bv_int : bootBuiltins "int" = some (.type "int") := by decide +kernel
theorem bv_isinstance : bootBuiltins "isinstance" = some (.builtin "isinstance") := by decide +kernel
theorem bv_len : bootBuiltins "len" = some (.builtin "len") := by decide +kernel
theorem bv_list : bootBuiltins "list" = some (.type "list") := by decide +kernel
theorem bv_max : bootBuiltins "max" = some (.builtin "max") := by decide +kernel
theorem bv_set : bootBuiltins "set" = some (.type "set") := by decide +kernel
theorem bv_sorted : bootBuiltins "sorted" = some (.builtin "sorted") := by decide +kernel
theorem bv_str : bootBuiltins "str" = some (.type "str") := by decide +kernel
theorem bv_tuple : bootBuiltins "tuple" = some (.type "tuple") := by decide +kernel
def kdB (K : PySem.W.Frag) : Bool := (["BadRun", "BadText"] : List Str).all fun c => (["BadRun", "BadText"] : List Str).all fun n => decide (PySem.W.kitOne K (.ref (He.ga K c)) (.ref (He.ga K n)) = some (decide (c = n)))
def emB (K : PySem.W.Frag) : Bool := (["BadRun", "BadText"] : List Str).all fun c => decide (PySem.W.exmOne K (.ref (He.ga K c)) (.ref (He.ga K "RuleError")) = some true)
structure En (K : PySem.W.Frag) (mg : Str → Option Value) : Prop where
  f_all : mg "all" = none
  f_bool : mg "bool" = none
  f_enumerate : mg "enumerate" = none
  f_int : mg "int" = none
  f_isinstance : mg "isinstance" = none
  f_len : mg "len" = none
  f_list : mg "list" = none
  f_max : mg "max" = none
  f_range : mg "range" = none
  f_set : mg "set" = none
  f_sorted : mg "sorted" = none
  f_str : mg "str" = none
  f_tuple : mg "tuple" = none
  f_zip : mg "zip" = none
  g_RuleError : mg "RuleError" = some (.ref (He.ga K "RuleError"))
  g_BadText : mg "BadText" = some (.ref (He.ga K "BadText"))
  g_BadLetters : mg "BadLetters" = some (.ref (He.ga K "BadLetters"))
  g_BadRun : mg "BadRun" = some (.ref (He.ga K "BadRun"))
  g_BadNumber : mg "BadNumber" = some (.ref (He.ga K "BadNumber"))
  g_TooMany : mg "TooMany" = some (.ref (He.ga K "TooMany"))
  g_Letters : mg "Letters" = some (.ref (He.ga K "Letters"))
  g_is_run : mg "is_run" = some (.ref (He.ga K "is_run"))
  d_is_run : ∃ fd, Fun K "is_run" "is_run" (top 10) (He.ga K "is_run") fd
  g_run_text : mg "run_text" = some (.ref (He.ga K "run_text"))
  d_run_text : ∃ fd, Fun K "run_text" "run_text" (top 11) (He.ga K "run_text") fd
  g_read_run : mg "read_run" = some (.ref (He.ga K "read_run"))
  d_read_run : ∃ fd, Fun K "read_run" "read_run" (top 12) (He.ga K "read_run") fd
  g_run_key : mg "run_key" = some (.ref (He.ga K "run_key"))
  d_run_key : ∃ fd, Fun K "run_key" "run_key" (top 13) (He.ga K "run_key") fd
  g_told_lot : mg "told_lot" = some (.ref (He.ga K "told_lot"))
  d_told_lot : ∃ fd, Fun K "told_lot" "told_lot" (top 14) (He.ga K "told_lot") fd
  g_lot_text : mg "lot_text" = some (.ref (He.ga K "lot_text"))
  d_lot_text : ∃ fd, Fun K "lot_text" "lot_text" (top 15) (He.ga K "lot_text") fd
  g_read_lot : mg "read_lot" = some (.ref (He.ga K "read_lot"))
  d_read_lot : ∃ fd, Fun K "read_lot" "read_lot" (top 16) (He.ga K "read_lot") fd
  g_is_name : mg "is_name" = some (.ref (He.ga K "is_name"))
  d_is_name : ∃ fd, Fun K "is_name" "is_name" (top 23) (He.ga K "is_name") fd
  g__are_signs : mg "_are_signs" = some (.ref (He.ga K "_are_signs"))
  d__are_signs : ∃ fd, Fun K "_are_signs" "_are_signs" (top 24) (He.ga K "_are_signs") fd
  g__law_bag : mg "_law_bag" = some (.ref (He.ga K "_law_bag"))
  d__law_bag : ∃ fd, Fun K "_law_bag" "_law_bag" (top 27) (He.ga K "_law_bag") fd
  g__law_draw : mg "_law_draw" = some (.ref (He.ga K "_law_draw"))
  d__law_draw : ∃ fd, Fun K "_law_draw" "_law_draw" (top 28) (He.ga K "_law_draw") fd
  g__law_of : mg "_law_of" = some (.ref (He.ga K "_law_of"))
  d__law_of : ∃ fd, Fun K "_law_of" "_law_of" (top 29) (He.ga K "_law_of") fd
  g__law_like : mg "_law_like" = some (.ref (He.ga K "_law_like"))
  d__law_like : ∃ fd, Fun K "_law_like" "_law_like" (top 30) (He.ga K "_law_like") fd
  g__law_name : mg "_law_name" = some (.ref (He.ga K "_law_name"))
  d__law_name : ∃ fd, Fun K "_law_name" "_law_name" (top 31) (He.ga K "_law_name") fd
  g__law_fresh : mg "_law_fresh" = some (.ref (He.ga K "_law_fresh"))
  d__law_fresh : ∃ fd, Fun K "_law_fresh" "_law_fresh" (top 32) (He.ga K "_law_fresh") fd
  g__law_parts : mg "_law_parts" = some (.ref (He.ga K "_law_parts"))
  d__law_parts : ∃ fd, Fun K "_law_parts" "_law_parts" (top 33) (He.ga K "_law_parts") fd
  g__law_letters : mg "_law_letters" = some (.ref (He.ga K "_law_letters"))
  d__law_letters : ∃ fd, Fun K "_law_letters" "_law_letters" (top 34) (He.ga K "_law_letters") fd
  g__law_listed : mg "_law_listed" = some (.ref (He.ga K "_law_listed"))
  d__law_listed : ∃ fd, Fun K "_law_listed" "_law_listed" (top 35) (He.ga K "_law_listed") fd
  g__law_run : mg "_law_run" = some (.ref (He.ga K "_law_run"))
  d__law_run : ∃ fd, Fun K "_law_run" "_law_run" (top 36) (He.ga K "_law_run") fd
  g__law_fault : mg "_law_fault" = some (.ref (He.ga K "_law_fault"))
  d__law_fault : ∃ fd, Fun K "_law_fault" "_law_fault" (top 37) (He.ga K "_law_fault") fd
  g__law_ask : mg "_law_ask" = some (.ref (He.ga K "_law_ask"))
  d__law_ask : ∃ fd, Fun K "_law_ask" "_law_ask" (top 38) (He.ga K "_law_ask") fd
  g__law_odd : mg "_law_odd" = some (.ref (He.ga K "_law_odd"))
  d__law_odd : ∃ fd, Fun K "_law_odd" "_law_odd" (top 39) (He.ga K "_law_odd") fd
  g__law_text : mg "_law_text" = some (.ref (He.ga K "_law_text"))
  d__law_text : ∃ fd, Fun K "_law_text" "_law_text" (top 40) (He.ga K "_law_text") fd
  g__law_read : mg "_law_read" = some (.ref (He.ga K "_law_read"))
  d__law_read : ∃ fd, Fun K "_law_read" "_law_read" (top 41) (He.ga K "_law_read") fd
  g__law_read_lot : mg "_law_read_lot" = some (.ref (He.ga K "_law_read_lot"))
  d__law_read_lot : ∃ fd, Fun K "_law_read_lot" "_law_read_lot" (top 42) (He.ga K "_law_read_lot") fd
  g__law_ahead : mg "_law_ahead" = some (.ref (He.ga K "_law_ahead"))
  d__law_ahead : ∃ fd, Fun K "_law_ahead" "_law_ahead" (top 43) (He.ga K "_law_ahead") fd
  g__law_told : mg "_law_told" = some (.ref (He.ga K "_law_told"))
  d__law_told : ∃ fd, Fun K "_law_told" "_law_told" (top 44) (He.ga K "_law_told") fd
  g__law_bent_run : mg "_law_bent_run" = some (.ref (He.ga K "_law_bent_run"))
  d__law_bent_run : ∃ fd, Fun K "_law_bent_run" "_law_bent_run" (top 45) (He.ga K "_law_bent_run") fd
  g__law_bent_text : mg "_law_bent_text" = some (.ref (He.ga K "_law_bent_text"))
  d__law_bent_text : ∃ fd, Fun K "_law_bent_text" "_law_bent_text" (top 46) (He.ga K "_law_bent_text") fd
  g__law_run_so : mg "_law_run_so" = some (.ref (He.ga K "_law_run_so"))
  d__law_run_so : ∃ fd, Fun K "_law_run_so" "_law_run_so" (top 47) (He.ga K "_law_run_so") fd
  g__law_lot_so : mg "_law_lot_so" = some (.ref (He.ga K "_law_lot_so"))
  d__law_lot_so : ∃ fd, Fun K "_law_lot_so" "_law_lot_so" (top 48) (He.ga K "_law_lot_so") fd
  g__law_wrong_so : mg "_law_wrong_so" = some (.ref (He.ga K "_law_wrong_so"))
  d__law_wrong_so : ∃ fd, Fun K "_law_wrong_so" "_law_wrong_so" (top 49) (He.ga K "_law_wrong_so") fd
  g_law : mg "law" = some (.ref (He.ga K "law"))
  d_law : ∃ fd, Fun K "law" "law" (top 50) (He.ga K "law") fd
  i_BadText : ∃ fI fd, PySem.W.findIn K (.ref (He.ga K "BadText")) "__init__" = some (some (.ref fI)) ∧ PySem.W.typeIn K (.ref fI) = some (.type "function") ∧ Fun K "__init__" "BadText.__init__" (inClass (top 3) 0) fI fd
  i_BadLetters : ∃ fI fd, PySem.W.findIn K (.ref (He.ga K "BadLetters")) "__init__" = some (some (.ref fI)) ∧ PySem.W.typeIn K (.ref fI) = some (.type "function") ∧ Fun K "__init__" "BadLetters.__init__" (inClass (top 4) 0) fI fd
  i_BadRun : ∃ fI fd, PySem.W.findIn K (.ref (He.ga K "BadRun")) "__init__" = some (some (.ref fI)) ∧ PySem.W.typeIn K (.ref fI) = some (.type "function") ∧ Fun K "__init__" "BadRun.__init__" (inClass (top 5) 0) fI fd
  i_BadNumber : ∃ fI fd, PySem.W.findIn K (.ref (He.ga K "BadNumber")) "__init__" = some (some (.ref fI)) ∧ PySem.W.typeIn K (.ref fI) = some (.type "function") ∧ Fun K "__init__" "BadNumber.__init__" (inClass (top 6) 0) fI fd
  i_TooMany : ∃ fI fd, PySem.W.findIn K (.ref (He.ga K "TooMany")) "__init__" = some (some (.ref fI)) ∧ PySem.W.typeIn K (.ref fI) = some (.type "function") ∧ Fun K "__init__" "TooMany.__init__" (inClass (top 7) 0) fI fd
  c_EMPTY_RUN : ∃ u : Value, mg "EMPTY_RUN" = some u ∧ RelV (.str "-") u
  c_LONGEST_NAME : ∃ u : Value, mg "LONGEST_NAME" = some u ∧ RelV (.int 6) u
  c_MOST_LETTERS : ∃ u : Value, mg "MOST_LETTERS" = some u ∧ RelV (.int 16) u
  c_MOST_PARTS : ∃ u : Value, mg "MOST_PARTS" = some u ∧ RelV (.int 4) u
  c_SIGNS : ∃ u : Value, mg "SIGNS" = some u ∧ RelV (.str "0123456789abcdefghijklmnopqrstuvwxyz") u
  c_SMALL : ∃ u : Value, mg "SMALL" = some u ∧ RelV (.str "abcdefghijklmnopqrstuvwxyz") u
  ox : OxF K oxt
  ob : ObF K obt
  cl_Letters : Cls K (He.ga K "Letters")
  mk_Letters : Mk K (He.ga K "Letters") (He.ma K (He.ga K "Letters") "__init__")
  dm_Letters___init__ : ∃ fd, Fun K "__init__" "Letters.__init__" (inClass (top 25) 0) (He.ma K (He.ga K "Letters") "__init__") fd
  me_Letters_is_letter : Meth K (He.ga K "Letters") "is_letter" (He.ma K (He.ga K "Letters") "is_letter")
  dm_Letters_is_letter : ∃ fd, Fun K "is_letter" "Letters.is_letter" (inClass (top 25) 2) (He.ma K (He.ga K "Letters") "is_letter") fd
  me_Letters_place : Meth K (He.ga K "Letters") "place" (He.ma K (He.ga K "Letters") "place")
  dm_Letters_place : ∃ fd, Fun K "place" "Letters.place" (inClass (top 25) 3) (He.ma K (He.ga K "Letters") "place") fd
  me_Letters___str__ : Meth K (He.ga K "Letters") "__str__" (He.ma K (He.ga K "Letters") "__str__")
  dm_Letters___str__ : ∃ fd, Fun K "__str__" "Letters.__str__" (inClass (top 25) 6) (He.ma K (He.ga K "Letters") "__str__") fd
  me_Letters___repr__ : Meth K (He.ga K "Letters") "__repr__" (He.ma K (He.ga K "Letters") "__repr__")
  dm_Letters___repr__ : ∃ fd, Fun K "__repr__" "Letters.__repr__" (inClass (top 25) 7) (He.ma K (He.ga K "Letters") "__repr__") fd
  me_Letters___eq__ : Meth K (He.ga K "Letters") "__eq__" (He.ma K (He.ga K "Letters") "__eq__")
  dm_Letters___eq__ : ∃ fd, Fun K "__eq__" "Letters.__eq__" (inClass (top 25) 8) (He.ma K (He.ga K "Letters") "__eq__") fd
  me_Letters___len__ : Meth K (He.ga K "Letters") "__len__" (He.ma K (He.ga K "Letters") "__len__")
  dm_Letters___len__ : ∃ fd, Fun K "__len__" "Letters.__len__" (inClass (top 25) 9) (He.ma K (He.ga K "Letters") "__len__") fd
  me_Letters___contains__ : Meth K (He.ga K "Letters") "__contains__" (He.ma K (He.ga K "Letters") "__contains__")
  dm_Letters___contains__ : ∃ fd, Fun K "__contains__" "Letters.__contains__" (inClass (top 25) 10) (He.ma K (He.ga K "Letters") "__contains__") fd
  kd : kdB K = true
  em : emB K = true
theorem sci_BadText : FnScope ["self", "line", "why"] ["self", "line", "why"] (defScope (inClass (top 3) 0)) := ⟨rfl, rfl, rfl, by decide +kernel, rfl, by decide +kernel, by decide +kernel⟩
theorem mkc_BadText {P : Program} {w : World} {K : PySem.W.Frag} {mg : Str → Option Value} {base : Heap} (e : En K mg) : MkC P w K mg base "BadText" "BadText" ["line", "why"] := by
  obtain ⟨fI, fd, h1, h2, F⟩ := e.i_BadText
  exact mkc2 e.g_BadText (e.ox.f (c := "BadText") (f := "code") (by decide)).1 h1 h2 F (e.ox.f (c := "BadText") (f := "code") (by decide)).2 sci_BadText ((e.ox.f (c := "BadText") (f := "line") (by decide)).2) ((e.ox.f (c := "BadText") (f := "why") (by decide)).2) rfl rfl rfl rfl (by decide) (by decide) (by decide) (by decide) (fun _ _ _ _ _ _ _ us ws h1 h2 => match us, ws, h1, h2 with | [_, _], [], _, _ => rfl) (fun _ _ _ _ _ _ _ us ws h1 h2 => match us, ws, h1, h2 with | [], [_, _], _, _ => rfl) (fun _ _ _ _ _ _ _ us ws h1 h2 => match us, ws, h1, h2 with | [], [_, _], _, _ => rfl) (fun _ _ _ _ _ _ _ us ws h1 h2 => match us, ws, h1, h2 with | [_], [_], _, _ => rfl)
theorem sci_BadLetters : FnScope ["self", "at"] ["self", "at"] (defScope (inClass (top 4) 0)) := ⟨rfl, rfl, rfl, by decide +kernel, rfl, by decide +kernel, by decide +kernel⟩
theorem mkc_BadLetters {P : Program} {w : World} {K : PySem.W.Frag} {mg : Str → Option Value} {base : Heap} (e : En K mg) : MkC P w K mg base "BadLetters" "BadLetters" ["at"] := by
  obtain ⟨fI, fd, h1, h2, F⟩ := e.i_BadLetters
  exact mkc1 e.g_BadLetters (e.ox.f (c := "BadLetters") (f := "code") (by decide)).1 h1 h2 F (e.ox.f (c := "BadLetters") (f := "code") (by decide)).2 sci_BadLetters ((e.ox.f (c := "BadLetters") (f := "at") (by decide)).2) rfl rfl rfl (by decide) (by decide) (fun _ _ _ _ _ _ _ us ws h1 h2 => match us, ws, h1, h2 with | [_], [], _, _ => rfl) (fun _ _ _ _ _ _ _ us ws h1 h2 => match us, ws, h1, h2 with | [], [_], _, _ => rfl)
theorem sci_BadRun : FnScope ["self", "at"] ["self", "at"] (defScope (inClass (top 5) 0)) := ⟨rfl, rfl, rfl, by decide +kernel, rfl, by decide +kernel, by decide +kernel⟩
theorem mkc_BadRun {P : Program} {w : World} {K : PySem.W.Frag} {mg : Str → Option Value} {base : Heap} (e : En K mg) : MkC P w K mg base "BadRun" "BadRun" ["at"] := by
  obtain ⟨fI, fd, h1, h2, F⟩ := e.i_BadRun
  exact mkc1 e.g_BadRun (e.ox.f (c := "BadRun") (f := "code") (by decide)).1 h1 h2 F (e.ox.f (c := "BadRun") (f := "code") (by decide)).2 sci_BadRun ((e.ox.f (c := "BadRun") (f := "at") (by decide)).2) rfl rfl rfl (by decide) (by decide) (fun _ _ _ _ _ _ _ us ws h1 h2 => match us, ws, h1, h2 with | [_], [], _, _ => rfl) (fun _ _ _ _ _ _ _ us ws h1 h2 => match us, ws, h1, h2 with | [], [_], _, _ => rfl)
theorem sci_BadNumber : FnScope ["self", "value"] ["self", "value"] (defScope (inClass (top 6) 0)) := ⟨rfl, rfl, rfl, by decide +kernel, rfl, by decide +kernel, by decide +kernel⟩
theorem mkc_BadNumber {P : Program} {w : World} {K : PySem.W.Frag} {mg : Str → Option Value} {base : Heap} (e : En K mg) : MkC P w K mg base "BadNumber" "BadNumber" ["value"] := by
  obtain ⟨fI, fd, h1, h2, F⟩ := e.i_BadNumber
  exact mkc1 e.g_BadNumber (e.ox.f (c := "BadNumber") (f := "code") (by decide)).1 h1 h2 F (e.ox.f (c := "BadNumber") (f := "code") (by decide)).2 sci_BadNumber ((e.ox.f (c := "BadNumber") (f := "value") (by decide)).2) rfl rfl rfl (by decide) (by decide) (fun _ _ _ _ _ _ _ us ws h1 h2 => match us, ws, h1, h2 with | [_], [], _, _ => rfl) (fun _ _ _ _ _ _ _ us ws h1 h2 => match us, ws, h1, h2 with | [], [_], _, _ => rfl)
theorem sci_TooMany : FnScope ["self", "what", "found"] ["self", "what", "found"] (defScope (inClass (top 7) 0)) := ⟨rfl, rfl, rfl, by decide +kernel, rfl, by decide +kernel, by decide +kernel⟩
theorem mkc_TooMany {P : Program} {w : World} {K : PySem.W.Frag} {mg : Str → Option Value} {base : Heap} (e : En K mg) : MkC P w K mg base "TooMany" "TooMany" ["what", "found"] := by
  obtain ⟨fI, fd, h1, h2, F⟩ := e.i_TooMany
  exact mkc2 e.g_TooMany (e.ox.f (c := "TooMany") (f := "code") (by decide)).1 h1 h2 F (e.ox.f (c := "TooMany") (f := "code") (by decide)).2 sci_TooMany ((e.ox.f (c := "TooMany") (f := "what") (by decide)).2) ((e.ox.f (c := "TooMany") (f := "found") (by decide)).2) rfl rfl rfl rfl (by decide) (by decide) (by decide) (by decide) (fun _ _ _ _ _ _ _ us ws h1 h2 => match us, ws, h1, h2 with | [_, _], [], _, _ => rfl) (fun _ _ _ _ _ _ _ us ws h1 h2 => match us, ws, h1, h2 with | [], [_, _], _, _ => rfl) (fun _ _ _ _ _ _ _ us ws h1 h2 => match us, ws, h1, h2 with | [], [_, _], _, _ => rfl) (fun _ _ _ _ _ _ _ us ws h1 h2 => match us, ws, h1, h2 with | [_], [_], _, _ => rfl)
theorem sc__law_ask : FnScope ["deed", "error"] ["deed"] (defScope (top 38)) := ⟨rfl, rfl, rfl, by decide +kernel, rfl, by decide +kernel, by decide +kernel⟩
def td_ask (K : PySem.W.Frag) (c__law_fault : DC) (β f : Addr) (c : LC) : TDS :=
    yTry K (yRet [] (xLst (xCons (xC (.str "told")) (xCons (xAct f c) xNil)))) (((.ref (He.ga K "RuleError")), some 1, (yRet [] (xFn β c__law_fault (xCons (xVar 1) xNil)))) :: [])
theorem g__law_ask {X : Cx} {T : TbL} {k : Nat} {cdg : Value} {q : Str} {ask : AskC} {c__law_fault : DC} (e : En X.K X.mg) (O__law_fault : OkN X.prog X.w X.K X.mg X.base T k "_law_fault" ["error"] c__law_fault)
    (h : ∀ (β f : Addr) (c : LC) (Qd : QD), ask β c Qd → td_ask X.K c__law_fault β f c { nx := fun _ => Qd .non, rt := Qd } (startD 2 [.adr f])) :
    LamS2.GivesToS X ["deed", "error"] "_law_ask" (defScope (top 38)) (He.ga X.K "_law_ask") cdg (defBody (top 38)) "deed" q (TTd X.K T ask) k := by
  refine gives_of (td := td_ask X.K c__law_fault) (fun s H p f c hT hH hr act => ?_) h
  have hrN := L2H.roomH_of hr
  exact (dss_one (ds_try rfl rfl takes0 (fun W' pn xe tk' po' => (dss_one (ds_ret [] (d_lst (da_cons d_str (da_cons (act W' pn xe _ _ tk') da_nil))))))
    (HdsD.as sc__law_ask.nd (i := 1) rfl rfl ⟨rfl, rfl, .inl e.g_RuleError⟩ (fun a pn => (dss_one (ds_ret [] (d_callON O__law_fault hT ⟨hrN.dp, hrN.un⟩ takes0 (da_cons (d_var 1) da_nil))))) HdsD.nil)))
/-- what _law_ask does with a lambda, over data -/
def askD (K : PySem.W.Frag) (c__law_fault : DC) : AskC := fun β c Q => c (fun d => Q (.lst [.str "told", d])) (fun cn fs => ∃ b, PySem.W.exmOne K (.ref (He.ga K cn)) (.ref (He.ga K "RuleError")) = some b ∧ b = true ∧ c__law_fault β [.exc cn fs] Q (fun _ _ => False))
theorem k_ask {K : PySem.W.Frag} {cf : DC} : ∀ (β f : Addr) (c : LC) (Qd : QD), askD K cf β c Qd → (∀ (Q Q' : QD) (E E' : XD), (∀ d, Q d → Q' d) → (∀ cn fs, E cn fs → E' cn fs) → c Q E → c Q' E') → td_ask K cf β f c { nx := fun _ => Qd .non, rt := Qd } (startD 2 [.adr f]) := by
  intro β f c Qd h mono
  refine ⟨rfl, mono _ _ _ _ (fun d q => ?_) (fun cn fs q => ?_) h⟩
  · exact ⟨by rw [sizeLine_eq]; show 2 ≤ 16777216; decide, q⟩
  · obtain ⟨b, h1, h2, h3⟩ := q
    exact ⟨b, h1, iteT h2 ⟨_, rfl, h3⟩⟩
/-- what a def that makes lambdas asks: its code object, its table among T -/
def LMk (K : PySem.W.Frag) (mg : Str → Option Value) (base : Heap) (T : TbL) (cdv : Value) (q : Str) : Prop :=
  ∃ c P, cdv = .ref c ∧ LamX.TabB base mg c P ∧ (P, q ++ "<lambda>") ∈ T ∧ ∀ p ∈ T, p.1 = P → p.2 = q ++ "<lambda>"

theorem hrU65 {k : Nat} {A : Around} (h : L2H.RoomH k A) : A.units + 65 < cLine := by have := h.un; omega
theorem sc_Letters___init__ : FnScope ["self", "parts", "places", "many", "at", "name", "signs", "rows", "_", "row", "sign", "letter"] ["self", "parts"] (defScope (inClass (top 25) 0)) := ⟨rfl, rfl, rfl, by decide +kernel, rfl, by decide +kernel, by decide +kernel⟩
def td_Letters___init__ (K : PySem.W.Frag) (c__are_signs : DC) (c_is_name : DC) (β : Addr) : TDS :=
    (ySeq (yIf [] (xTest (xOp dGt (xCall dLen (xCons (xVar 1) xNil)) (xC (.int 4))))
    (yRaise [] "TooMany" "TooMany" ["what", "found"] [0, 1] 2 (xLen 2 (xCons (xC (.str "parts")) (xCons (xCall dLen (xCons (xVar 1) xNil)) xNil))))
    yNext)
    (ySeq (yIf [] (xTest (xOp (dEq false) (xCall dLen (xCons (xVar 1) xNil)) (xC (.int 0))))
    (yRaise [] "BadLetters" "BadLetters" ["at"] [0] 1 (xLen 1 (xCons (xNeg (xC (.int 1))) xNil)))
    yNext)
    (ySeq (ySetDicO 2)
    (ySeq (ySet [] 3 (xC (.int 1)))
    (ySeq (yFor [] (xiEnumA (xCons (xVar 1) xNil)) (zTup 2 (zCons (zName 4) (zCons (zTup 2 (zCons (zName 5) (zCons (zName 6) zNil))) zNil)))
    (ySeq (yIf [] (xOr (xNot (xTru (xFn β c_is_name (xCons (xVar 5) xNil)))) (xOr (xTest (xDInO false 2 (xVar 5))) (xNot (xTru (xFn β c__are_signs (xCons (xVar 6) xNil))))))
    (yRaise [] "BadLetters" "BadLetters" ["at"] [0] 1 (xLen 1 (xCons (xVar 4) xNil)))
    yNext)
    (ySeq (yDPut [] 2 (xVar 4) (xVar 5))
    (ySet [] 3 (xOp dMul (xVar 3) (xCall dLen (xCons (xVar 6) xNil)))))))
    (ySeq (yIf [] (xTest (xOp dGt (xVar 3) (xC (.int 16))))
    (yRaise [] "TooMany" "TooMany" ["what", "found"] [0, 1] 2 (xLen 2 (xCons (xC (.str "letters")) (xCons (xVar 3) xNil))))
    yNext)
    (ySeq (ySet [] 7 (xLst (xCons (xC (.str "")) xNil)))
    (ySeq (yFor [] (xiAny (xVar 1)) (zTup 2 (zCons (zName 8) (zCons (zName 6) zNil)))
    (ySetLc2 [] 7 [9, 10] [10] (xiAny (xVar 7)) (zName 9) xYes (xiAny (xVar 6)) (zName 10) xYes (xOp dAdd (xVar 9) (xVar 10))))
    (ySeq (yFldMe obt [] 0 "names" (xCall dTuple (xCons (xLcE [5, 8] (xiAny (xVar 1)) (zTup 2 (zCons (zName 5) (zCons (zName 8) zNil))) xYes (xVar 5)) xNil)))
    (ySeq (yFldMe obt [] 0 "signs" (xCall dTuple (xCons (xLcE [8, 6] (xiAny (xVar 1)) (zTup 2 (zCons (zName 8) (zCons (zName 6) zNil))) xYes (xVar 6)) xNil)))
    (ySeq (yFldMe obt [2] 0 "_part_places" (xVar 2))
    (ySeq (yFldMe obt [] 0 "_listed" (xCall dTuple (xCons (xVar 7) xNil)))
    (ySeq (yFldMe obt [] 0 "_places" (xDc [4, 11] (xiEnumA (xCons (xVar 7) xNil)) (zTup 2 (zCons (zName 4) (zCons (zName 11) zNil))) xYes (xVar 11) (xVar 4)))
    (yFldMe obt [] 0 "_text" (xMeth "str" dJoin (xC (.str " ")) (xCons (xLcE [5, 6] (xiAny (xVar 1)) (zTup 2 (zCons (zName 5) (zCons (zName 6) zNil))) xYes (xJs [(xFmt (xVar 5)), (xC (.str ":")), (xFmt (xVar 6))] Str.empty)) xNil))))))))))))))))
theorem w_Letters___init__ {P : Program} {w : World} {K : PySem.W.Frag} {mg : Str → Option Value} {base : Heap} {T : TbL} {k : Nat} (e : En K mg) {c__are_signs : DC} (O__are_signs : OkD P w K mg base T k "_are_signs" ["text"] c__are_signs) {c_is_name : DC} (O_is_name : OkD P w K mg base T k "is_name" ["text"] c_is_name) (M_TooMany : MkC P w K mg base "TooMany" "TooMany" ["what", "found"]) (M_BadLetters : MkC P w K mg base "BadLetters" "BadLetters" ["at"]) (hk : 2 ≤ k) : BodyI P w K mg base T k "Letters.__init__" (inClass (top 25) 0) (He.ma K (He.ga K "Letters") "__init__") ["self", "parts", "places", "many", "at", "name", "signs", "rows", "_", "row", "sign", "letter"] (td_Letters___init__ K c__are_signs c_is_name) := by
  intro cdv A outer s H p E hT hP hcv hr
  have hu := hr.units
  have hu65 := hrU65 (L2H.roomH_of hr)
  have hrN := L2H.roomH_of hr
  exact (dss_cons (ds_if [] (dt_gt (d_callB call_len r_len rfl e.f_len bv_len (da_cons (d_var 1) da_nil)) (d_glob (d := (.int 4)) rfl rfl e.c_MOST_PARTS.choose_spec.1 e.c_MOST_PARTS.choose_spec.2))
    (dss_one (ds_raiseC [] 0 M_TooMany rfl (takes_of rfl rfl rfl rfl) (hr.mono hk) (mk_pos (da_cons d_str (da_cons (d_callB call_len r_len rfl e.f_len bv_len (da_cons (d_var 1) da_nil)) da_nil)))))
    dss_nil)
    (dss_cons (ds_if [] (dt_eq hu (d_callB call_len r_len rfl e.f_len bv_len (da_cons (d_var 1) da_nil)) d_int)
    (dss_one (ds_raiseC [] 0 M_BadLetters rfl (takes_of rfl rfl rfl rfl) (hr.mono hk) (mk_pos (da_cons (d_neg d_int) da_nil))))
    dss_nil)
    (dss_cons (ds_setDicO 2 sc_Letters___init__.nd)
    (dss_cons (ds_set [] 3 sc_Letters___init__.nd d_int)
    (dss_cons (ds_for [] (passes_of rfl) rfl (di_enumA rfl e.f_enumerate (da_cons (d_var 1) da_nil)) (dg_tup rfl (dgs_cons (dg_name 4 sc_Letters___init__.nd) (dgs_cons (dg_tup rfl (dgs_cons (dg_name 5 sc_Letters___init__.nd) (dgs_cons (dg_name 6 sc_Letters___init__.nd) dgs_nil))) dgs_nil)))
    (dss_cons (ds_if [] (DW.t (dw_or (dt_not (dt_truth (he := fun _ => rfl) (d_callO O_is_name hT hr (takes_of rfl rfl rfl rfl) (da_cons (d_var 5) da_nil)))) (dw_or (dt_dinO 2 hu (d_var 5)) (dw_or1 (dt_not (dt_truth (he := fun _ => rfl) (d_callO O__are_signs hT hr (takes_of rfl rfl rfl rfl) (da_cons (d_var 6) da_nil))))))))
    (dss_one (ds_raiseC [] 0 M_BadLetters rfl (takes_of rfl rfl rfl rfl) (hr.mono hk) (mk_pos (da_cons (d_var 4) da_nil))))
    dss_nil)
    (dss_cons (ds_dput [] 2 hu (d_var 4) (d_var 5))
    (dss_one (ds_set [] 3 sc_Letters___init__.nd (d_mul (d_var 3) (d_callB call_len r_len rfl e.f_len bv_len (da_cons (d_var 6) da_nil))))))))
    (dss_cons (ds_if [] (dt_gt (d_var 3) (d_glob (d := (.int 16)) rfl rfl e.c_MOST_LETTERS.choose_spec.1 e.c_MOST_LETTERS.choose_spec.2))
    (dss_one (ds_raiseC [] 0 M_TooMany rfl (takes_of rfl rfl rfl rfl) (hr.mono hk) (mk_pos (da_cons d_str (da_cons (d_var 3) da_nil)))))
    dss_nil)
    (dss_cons (ds_set [] 7 sc_Letters___init__.nd (d_lst (da_cons d_str da_nil)))
    (dss_cons (ds_for [] (passes_of rfl) rfl (di_any (d_var 1)) (dg_tup rfl (dgs_cons (dg_name 8 sc_Letters___init__.nd) (dgs_cons (dg_name 6 sc_Letters___init__.nd) dgs_nil)))
    (dss_one (ds_setLc2 [] 7 [("row", 9), ("sign", 10)] [10] (by decide) (by decide) (by decide) rfl sc_Letters___init__.nd (blkOk_by rfl) (gdv_name 9) (di_any (d_var 7)) (fun s H C cl fp => (dg_name 9 sc_Letters___init__.nd)) (fun s H C cl fp => dts_nil) (fun s H C cl fp => (di_any (d_var 6))) (fun s H C cl fp => (dg_name 10 sc_Letters___init__.nd)) (fun s H C cl fp => dts_nil) (fun s H C cl fp => (d_add (d_var 9) (d_var 10))) (sw_true rfl rfl rfl (by decide +kernel)))))
    (dss_cons (ds_fldMe (t := obt) [] 0 e.ob (d_callTy call_tuple_of r_tuple rfl e.f_tuple bv_tuple (da_cons (d_lc [("name", 5), ("_", 8)] (by decide) rfl sc_Letters___init__.nd (blkOk_by rfl) (di_any (d_var 1)) (fun s H C cl fp => (dg_tup rfl (dgs_cons (dg_name 5 sc_Letters___init__.nd) (dgs_cons (dg_name 8 sc_Letters___init__.nd) dgs_nil)))) (fun s H C cl fp => dts_nil) (fun s H C cl fp => (d_var 5))) da_nil)))
    (dss_cons (ds_fldMe (t := obt) [] 0 e.ob (d_callTy call_tuple_of r_tuple rfl e.f_tuple bv_tuple (da_cons (d_lc [("_", 8), ("signs", 6)] (by decide) rfl sc_Letters___init__.nd (blkOk_by rfl) (di_any (d_var 1)) (fun s H C cl fp => (dg_tup rfl (dgs_cons (dg_name 8 sc_Letters___init__.nd) (dgs_cons (dg_name 6 sc_Letters___init__.nd) dgs_nil)))) (fun s H C cl fp => dts_nil) (fun s H C cl fp => (d_var 6))) da_nil)))
    (dss_cons (ds_fldMe (t := obt) [2] 0 e.ob (d_var 2))
    (dss_cons (ds_fldMe (t := obt) [] 0 e.ob (d_callTy call_tuple_of r_tuple rfl e.f_tuple bv_tuple (da_cons (d_var 7) da_nil)))
    (dss_cons (ds_fldMe (t := obt) [] 0 e.ob (d_dc [("at", 4), ("letter", 11)] (by decide) rfl sc_Letters___init__.nd (blkOk_by rfl) (di_enumA rfl e.f_enumerate (da_cons (d_var 7) da_nil)) (fun s H C cl fp => (dg_tup rfl (dgs_cons (dg_name 4 sc_Letters___init__.nd) (dgs_cons (dg_name 11 sc_Letters___init__.nd) dgs_nil)))) (fun s H C cl fp => dts_nil) (fun s H C cl fp => (d_var 11)) (fun s H C cl fp => (d_var 4))))
    (dss_one (ds_fldMe (t := obt) [] 0 e.ob (d_bm PySem.F.plainAttrs_str PySem.F.slot_str_join PySem.F.type_str_join mt_join r_join d_str (da_cons (d_lc [("name", 5), ("signs", 6)] (by decide) rfl sc_Letters___init__.nd (blkOk_by rfl) (di_any (d_var 1)) (fun s H C cl fp => (dg_tup rfl (dgs_cons (dg_name 5 sc_Letters___init__.nd) (dgs_cons (dg_name 6 sc_Letters___init__.nd) dgs_nil)))) (fun s H C cl fp => dts_nil) (fun s H C cl fp => (d_joined (DJ.cons (d_fmt (d_var 5)) (DJ.cons d_str (DJ.cons (d_fmt (d_var 6)) DJ.nil)))))) da_nil)))))))))))))))))
theorem ok_Letters___init__ {P : Program} {w : World} {K : PySem.W.Frag} {mg : Str → Option Value} {base : Heap} {T : TbL} {k : Nat} (e : En K mg) {c__are_signs : DC} (O__are_signs : OkD P w K mg base T k "_are_signs" ["text"] c__are_signs) {c_is_name : DC} (O_is_name : OkD P w K mg base T k "is_name" ["text"] c_is_name) (M_TooMany : MkC P w K mg base "TooMany" "TooMany" ["what", "found"]) (M_BadLetters : MkC P w K mg base "BadLetters" "BadLetters" ["at"]) (hk : 2 ≤ k) {c : IC} (len : ∀ β ds Q E, c β ds Q E → ds.length ≤ sizeLine) (h : KeepsI (td_Letters___init__ K c__are_signs c_is_name) ["self", "parts", "places", "many", "at", "name", "signs", "rows", "_", "row", "sign", "letter"] "Letters" c) : OkI P w K mg base T (k + 1) "Letters" c := by
  obtain ⟨fd, F⟩ := e.dm_Letters___init__
  exact ⟨_, e.g_Letters, e.mk_Letters, fnI_star F sc_Letters___init__ (fun kV doc pm an cdv ct us rest hl => by match us, hl with | [u], _ => exact StX.bind_star1 (B := fun vs => bindArgs (PySem.W.fnOf "__init__" "Letters.__init__" (defArgs (inClass (top 25) 0)) (defBody (inClass (top 25) 0)) (defScope (inClass (top 25) 0)) .none kV doc pm an cdv ct) ⟨vs, []⟩) (fun _ => rfl) (fun _ _ _ => rfl) [u] rest rfl) (w_Letters___init__ e O__are_signs O_is_name M_TooMany M_BadLetters hk) len h⟩
theorem sc_Letters_is_letter : FnScope ["self", "text"] ["self", "text"] (defScope (inClass (top 25) 2)) := ⟨rfl, rfl, rfl, by decide +kernel, rfl, by decide +kernel, by decide +kernel⟩
def td_Letters_is_letter (K : PySem.W.Frag) (β : Addr) : TDS :=
    (yRet [] (xDIn false (xVar 1) (xFld obt "_places" (xVar 0))))
theorem w_Letters_is_letter {P : Program} {w : World} {K : PySem.W.Frag} {mg : Str → Option Value} {base : Heap} {T : TbL} {k : Nat} (e : En K mg) {f : Addr} : BodyD P w K mg base T k "Letters.is_letter" (inClass (top 25) 2) f ["self", "text"] (td_Letters_is_letter K) := by
  intro cdv A outer s p E hT hP hcv hr
  have hu := hr.units
  have hu65 := hrU65 (L2H.roomH_of hr)
  have hrN := L2H.roomH_of hr
  exact (dss_one (ds_ret [] (d_din hu (d_var 1) (d_fld (t := obt) e.ob (d_var 0)))))
theorem ok_Letters_is_letter {P : Program} {w : World} {K : PySem.W.Frag} {mg : Str → Option Value} {base : Heap} {T : TbL} {k : Nat} (e : En K mg) {c : DC} (len : ∀ β ds Q E, c β ds Q E → ds.length = 2) (h : Keeps (td_Letters_is_letter K) ["self", "text"] c) : OkM P w K mg base T (k + 1) "Letters" "is_letter" ["self", "text"] c := by
  obtain ⟨fd, F⟩ := e.dm_Letters_is_letter
  exact okM_of e.cl_Letters e.me_Letters_is_letter F (F.binds fun _ _ _ _ _ _ us hl => match us, hl with | [_, _], _ => rfl) sc_Letters_is_letter (w_Letters_is_letter e) len h
theorem sc_Letters_place : FnScope ["self", "letter"] ["self", "letter"] (defScope (inClass (top 25) 3)) := ⟨rfl, rfl, rfl, by decide +kernel, rfl, by decide +kernel, by decide +kernel⟩
def td_Letters_place (K : PySem.W.Frag) (β : Addr) : TDS :=
    (ySeq (yIf [] (xTest (xDIn true (xVar 1) (xFld obt "_places" (xVar 0))))
    (yRaise [] "BadNumber" "BadNumber" ["value"] [0] 1 (xLen 1 (xCons (xVar 1) xNil)))
    yNext)
    (yRet [] (xDGet (xFld obt "_places" (xVar 0)) (xVar 1))))
theorem w_Letters_place {P : Program} {w : World} {K : PySem.W.Frag} {mg : Str → Option Value} {base : Heap} {T : TbL} {k : Nat} (e : En K mg) (M_BadNumber : MkC P w K mg base "BadNumber" "BadNumber" ["value"]) (hk : 2 ≤ k) {f : Addr} : BodyD P w K mg base T k "Letters.place" (inClass (top 25) 3) f ["self", "letter"] (td_Letters_place K) := by
  intro cdv A outer s p E hT hP hcv hr
  have hu := hr.units
  have hu65 := hrU65 (L2H.roomH_of hr)
  have hrN := L2H.roomH_of hr
  exact (dss_cons (ds_if [] (dt_dnotin hu (d_var 1) (d_fld (t := obt) e.ob (d_var 0)))
    (dss_one (ds_raiseC [] 0 M_BadNumber rfl (takes_of rfl rfl rfl rfl) (hr.mono hk) (mk_pos (da_cons (d_var 1) da_nil))))
    dss_nil)
    (dss_one (ds_ret [] (d_dget hu (fun _ _ => rfl) (d_fld (t := obt) e.ob (d_var 0)) (d_var 1)))))
theorem ok_Letters_place {P : Program} {w : World} {K : PySem.W.Frag} {mg : Str → Option Value} {base : Heap} {T : TbL} {k : Nat} (e : En K mg) (M_BadNumber : MkC P w K mg base "BadNumber" "BadNumber" ["value"]) (hk : 2 ≤ k) {c : DC} (len : ∀ β ds Q E, c β ds Q E → ds.length = 2) (h : Keeps (td_Letters_place K) ["self", "letter"] c) : OkM P w K mg base T (k + 1) "Letters" "place" ["self", "letter"] c := by
  obtain ⟨fd, F⟩ := e.dm_Letters_place
  exact okM_of e.cl_Letters e.me_Letters_place F (F.binds fun _ _ _ _ _ _ us hl => match us, hl with | [_, _], _ => rfl) sc_Letters_place (w_Letters_place e M_BadNumber hk) len h
theorem sc_Letters___str__ : FnScope ["self"] ["self"] (defScope (inClass (top 25) 6)) := ⟨rfl, rfl, rfl, by decide +kernel, rfl, by decide +kernel, by decide +kernel⟩
def td_Letters___str__ (K : PySem.W.Frag) (β : Addr) : TDS :=
    (yRet [] (xFmt (xFld obt "_text" (xVar 0))))
theorem w_Letters___str__ {P : Program} {w : World} {K : PySem.W.Frag} {mg : Str → Option Value} {base : Heap} {T : TbL} {k : Nat} (e : En K mg) {f : Addr} : BodyD P w K mg base T k "Letters.__str__" (inClass (top 25) 6) f ["self"] (td_Letters___str__ K) := by
  intro cdv A outer s p E hT hP hcv hr
  have hu := hr.units
  have hu65 := hrU65 (L2H.roomH_of hr)
  have hrN := L2H.roomH_of hr
  exact (dss_one (ds_ret [] (d_joined1 (d_fmt (d_fld (t := obt) e.ob (d_var 0))))))
theorem ok_Letters___str__ {P : Program} {w : World} {K : PySem.W.Frag} {mg : Str → Option Value} {base : Heap} {T : TbL} {k : Nat} (e : En K mg) {c : DC} (len : ∀ β ds Q E, c β ds Q E → ds.length = 1) (h : Keeps (td_Letters___str__ K) ["self"] c) : OkM P w K mg base T (k + 1) "Letters" "__str__" ["self"] c := by
  obtain ⟨fd, F⟩ := e.dm_Letters___str__
  exact okM_of e.cl_Letters e.me_Letters___str__ F (F.binds fun _ _ _ _ _ _ us hl => match us, hl with | [_], _ => rfl) sc_Letters___str__ (w_Letters___str__ e) len h
theorem sc_Letters___repr__ : FnScope ["self"] ["self"] (defScope (inClass (top 25) 7)) := ⟨rfl, rfl, rfl, by decide +kernel, rfl, by decide +kernel, by decide +kernel⟩
def td_Letters___repr__ (K : PySem.W.Frag) (β : Addr) : TDS :=
    (yRet [] (xJs [(xC (.str "Letters(")), (xFmt (xFld obt "_text" (xVar 0))), (xC (.str ")"))] Str.empty))
theorem w_Letters___repr__ {P : Program} {w : World} {K : PySem.W.Frag} {mg : Str → Option Value} {base : Heap} {T : TbL} {k : Nat} (e : En K mg) {f : Addr} : BodyD P w K mg base T k "Letters.__repr__" (inClass (top 25) 7) f ["self"] (td_Letters___repr__ K) := by
  intro cdv A outer s p E hT hP hcv hr
  have hu := hr.units
  have hu65 := hrU65 (L2H.roomH_of hr)
  have hrN := L2H.roomH_of hr
  exact (dss_one (ds_ret [] (d_joined (DJ.cons d_str (DJ.cons (d_fmt (d_fld (t := obt) e.ob (d_var 0))) (DJ.cons d_str DJ.nil))))))
theorem ok_Letters___repr__ {P : Program} {w : World} {K : PySem.W.Frag} {mg : Str → Option Value} {base : Heap} {T : TbL} {k : Nat} (e : En K mg) {c : DC} (len : ∀ β ds Q E, c β ds Q E → ds.length = 1) (h : Keeps (td_Letters___repr__ K) ["self"] c) : OkM P w K mg base T (k + 1) "Letters" "__repr__" ["self"] c := by
  obtain ⟨fd, F⟩ := e.dm_Letters___repr__
  exact okM_of e.cl_Letters e.me_Letters___repr__ F (F.binds fun _ _ _ _ _ _ us hl => match us, hl with | [_], _ => rfl) sc_Letters___repr__ (w_Letters___repr__ e) len h
theorem sc_Letters___eq__ : FnScope ["self", "other"] ["self", "other"] (defScope (inClass (top 25) 8)) := ⟨rfl, rfl, rfl, by decide +kernel, rfl, by decide +kernel, by decide +kernel⟩
def td_Letters___eq__ (K : PySem.W.Frag) (β : Addr) : TDS :=
    (yRet [] (xAndV (xCall (dIsi K oxt) (xCons (xVar 1) (xCons (xC (.adr (He.ga K "Letters"))) xNil))) (xAndV (xOp (dEq false) (xFld obt "names" (xVar 0)) (xFld obt "names" (xVar 1))) (xOp (dEq false) (xFld obt "signs" (xVar 0)) (xFld obt "signs" (xVar 1))))))
theorem w_Letters___eq__ {P : Program} {w : World} {K : PySem.W.Frag} {mg : Str → Option Value} {base : Heap} {T : TbL} {k : Nat} (e : En K mg) {f : Addr} : BodyD P w K mg base T k "Letters.__eq__" (inClass (top 25) 8) f ["self", "other"] (td_Letters___eq__ K) := by
  intro cdv A outer s p E hT hP hcv hr
  have hu := hr.units
  have hu65 := hrU65 (L2H.roomH_of hr)
  have hrN := L2H.roomH_of hr
  exact (dss_one (ds_ret [] (d_and (d_callB call_isiZ (r_isi e.ox) rfl e.f_isinstance bv_isinstance (da_cons (d_var 1) (da_cons (d_glob (d := .adr (He.ga K "Letters")) rfl rfl e.g_Letters rfl) da_nil))) (d_and (d_eq hu (d_fld (t := obt) e.ob (d_var 0)) (d_fld (t := obt) e.ob (d_var 1))) (d_one (d_eq hu (d_fld (t := obt) e.ob (d_var 0)) (d_fld (t := obt) e.ob (d_var 1))))))))
theorem ok_Letters___eq__ {P : Program} {w : World} {K : PySem.W.Frag} {mg : Str → Option Value} {base : Heap} {T : TbL} {k : Nat} (e : En K mg) {c : DC} (len : ∀ β ds Q E, c β ds Q E → ds.length = 2) (h : Keeps (td_Letters___eq__ K) ["self", "other"] c) : OkM P w K mg base T (k + 1) "Letters" "__eq__" ["self", "other"] c := by
  obtain ⟨fd, F⟩ := e.dm_Letters___eq__
  exact okM_of e.cl_Letters e.me_Letters___eq__ F (F.binds fun _ _ _ _ _ _ us hl => match us, hl with | [_, _], _ => rfl) sc_Letters___eq__ (w_Letters___eq__ e) len h
theorem sc_Letters___len__ : FnScope ["self"] ["self"] (defScope (inClass (top 25) 9)) := ⟨rfl, rfl, rfl, by decide +kernel, rfl, by decide +kernel, by decide +kernel⟩
def td_Letters___len__ (K : PySem.W.Frag) (β : Addr) : TDS :=
    (yRet [] (xCall dLen (xCons (xFld obt "_listed" (xVar 0)) xNil)))
theorem w_Letters___len__ {P : Program} {w : World} {K : PySem.W.Frag} {mg : Str → Option Value} {base : Heap} {T : TbL} {k : Nat} (e : En K mg) {f : Addr} : BodyD P w K mg base T k "Letters.__len__" (inClass (top 25) 9) f ["self"] (td_Letters___len__ K) := by
  intro cdv A outer s p E hT hP hcv hr
  have hu := hr.units
  have hu65 := hrU65 (L2H.roomH_of hr)
  have hrN := L2H.roomH_of hr
  exact (dss_one (ds_ret [] (d_callB call_len r_len rfl e.f_len bv_len (da_cons (d_fld (t := obt) e.ob (d_var 0)) da_nil))))
theorem ok_Letters___len__ {P : Program} {w : World} {K : PySem.W.Frag} {mg : Str → Option Value} {base : Heap} {T : TbL} {k : Nat} (e : En K mg) {c : DC} (len : ∀ β ds Q E, c β ds Q E → ds.length = 1) (h : Keeps (td_Letters___len__ K) ["self"] c) : OkM P w K mg base T (k + 1) "Letters" "__len__" ["self"] c := by
  obtain ⟨fd, F⟩ := e.dm_Letters___len__
  exact okM_of e.cl_Letters e.me_Letters___len__ F (F.binds fun _ _ _ _ _ _ us hl => match us, hl with | [_], _ => rfl) sc_Letters___len__ (w_Letters___len__ e) len h
theorem sc_Letters___contains__ : FnScope ["self", "text"] ["self", "text"] (defScope (inClass (top 25) 10)) := ⟨rfl, rfl, rfl, by decide +kernel, rfl, by decide +kernel, by decide +kernel⟩
def td_Letters___contains__ (K : PySem.W.Frag) (β : Addr) : TDS :=
    (yRet [] (xDIn false (xVar 1) (xFld obt "_places" (xVar 0))))
theorem w_Letters___contains__ {P : Program} {w : World} {K : PySem.W.Frag} {mg : Str → Option Value} {base : Heap} {T : TbL} {k : Nat} (e : En K mg) {f : Addr} : BodyD P w K mg base T k "Letters.__contains__" (inClass (top 25) 10) f ["self", "text"] (td_Letters___contains__ K) := by
  intro cdv A outer s p E hT hP hcv hr
  have hu := hr.units
  have hu65 := hrU65 (L2H.roomH_of hr)
  have hrN := L2H.roomH_of hr
  exact (dss_one (ds_ret [] (d_din hu (d_var 1) (d_fld (t := obt) e.ob (d_var 0)))))
theorem ok_Letters___contains__ {P : Program} {w : World} {K : PySem.W.Frag} {mg : Str → Option Value} {base : Heap} {T : TbL} {k : Nat} (e : En K mg) {c : DC} (len : ∀ β ds Q E, c β ds Q E → ds.length = 2) (h : Keeps (td_Letters___contains__ K) ["self", "text"] c) : OkM P w K mg base T (k + 1) "Letters" "__contains__" ["self", "text"] c := by
  obtain ⟨fd, F⟩ := e.dm_Letters___contains__
  exact okM_of e.cl_Letters e.me_Letters___contains__ F (F.binds fun _ _ _ _ _ _ us hl => match us, hl with | [_, _], _ => rfl) sc_Letters___contains__ (w_Letters___contains__ e) len h
theorem sc_is_run : FnScope ["letters", "run", "letter"] ["letters", "run"] (defScope (top 10)) := ⟨rfl, rfl, rfl, by decide +kernel, rfl, by decide +kernel, by decide +kernel⟩
def td_is_run (K : PySem.W.Frag) (c_Letters_is_letter : DC) (β : Addr) : TDS :=
    (ySeq (yFor [] (xiAny (xVar 1)) (zName 2)
    (yIf [] (xNot (xTru (xMth β "Letters" "is_letter" c_Letters_is_letter (xVar 0) (xCons (xVar 2) xNil))))
    (yRet [] (xC (.bl false)))
    yNext))
    (yRet [] (xC (.bl true))))
theorem w_is_run {P : Program} {w : World} {K : PySem.W.Frag} {mg : Str → Option Value} {base : Heap} {T : TbL} {k : Nat} (e : En K mg) {c_Letters_is_letter : DC} (O_Letters_is_letter : OkM P w K mg base T k "Letters" "is_letter" ["self", "text"] c_Letters_is_letter) : BodyD P w K mg base T k "is_run" (top 10) (He.ga K "is_run") ["letters", "run", "letter"] (td_is_run K c_Letters_is_letter) := by
  intro cdv A outer s p E hT hP hcv hr
  have hu := hr.units
  have hu65 := hrU65 (L2H.roomH_of hr)
  have hrN := L2H.roomH_of hr
  exact (dss_cons (ds_for [] (passes_of rfl) rfl (di_any (d_var 1)) (dg_name 2 sc_is_run.nd)
    (dss_one (ds_if [] (dt_not (dt_truth (he := fun _ => rfl) (d_mth O_Letters_is_letter hT hr (takes_of rfl rfl rfl rfl) (d_var 0) (da_cons (d_var 2) da_nil))))
    (dss_one (ds_ret [] d_bl))
    dss_nil)))
    (dss_one (ds_ret [] d_bl)))
theorem ok_is_run {P : Program} {w : World} {K : PySem.W.Frag} {mg : Str → Option Value} {base : Heap} {T : TbL} {k : Nat} (e : En K mg) {c_Letters_is_letter : DC} (O_Letters_is_letter : OkM P w K mg base T k "Letters" "is_letter" ["self", "text"] c_Letters_is_letter) {c : DC} (len : ∀ β ds Q E, c β ds Q E → ds.length = 2) (h : Keeps (td_is_run K c_Letters_is_letter) ["letters", "run", "letter"] c) : OkD P w K mg base T (k + 1) "is_run" ["letters", "run"] c := by
  obtain ⟨fd, F⟩ := e.d_is_run
  exact okD_of e.g_is_run F (F.binds fun _ _ _ _ _ _ us hl => match us, hl with | [_, _], _ => rfl) sc_is_run (w_is_run e O_Letters_is_letter) len h
theorem okK_is_run_0_letters_run {P : Program} {w : World} {K : PySem.W.Frag} {mg : Str → Option Value} {base : Heap} {T : TbL} {k : Nat} (e : En K mg) {c_Letters_is_letter : DC} (O_Letters_is_letter : OkM P w K mg base T k "Letters" "is_letter" ["self", "text"] c_Letters_is_letter) {c : DC} (len : ∀ β ds Q E, c β ds Q E → ds.length = 2) (h : Keeps (td_is_run K c_Letters_is_letter) ["letters", "run", "letter"] c) : OkK P w K mg base T (k + 1) "is_run" ["letters", "run"] c 0 ["letters", "run"] [0, 1] := by
  obtain ⟨fd, F⟩ := e.d_is_run
  exact okK_of e.g_is_run F (fun_bkw F fun _ _ _ _ _ _ us ws h1 h2 => match us, ws, h1, h2 with | [], [_, _], _, _ => rfl) sc_is_run (w_is_run e O_Letters_is_letter) len h
theorem sc_run_text : FnScope ["run"] ["run"] (defScope (top 11)) := ⟨rfl, rfl, rfl, by decide +kernel, rfl, by decide +kernel, by decide +kernel⟩
def td_run_text (K : PySem.W.Frag) (β : Addr) : TDS :=
    (ySeq (yIf [] (xTest (xOp (dEq false) (xCall dLen (xCons (xVar 0) xNil)) (xC (.int 0))))
    (yRet [] (xC (.str "-")))
    yNext)
    (yRet [] (xMeth "str" dJoin (xC (.str ".")) (xCons (xVar 0) xNil))))
theorem w_run_text {P : Program} {w : World} {K : PySem.W.Frag} {mg : Str → Option Value} {base : Heap} {T : TbL} {k : Nat} (e : En K mg) : BodyD P w K mg base T k "run_text" (top 11) (He.ga K "run_text") ["run"] (td_run_text K) := by
  intro cdv A outer s p E hT hP hcv hr
  have hu := hr.units
  have hu65 := hrU65 (L2H.roomH_of hr)
  have hrN := L2H.roomH_of hr
  exact (dss_cons (ds_if [] (dt_eq hu (d_callB call_len r_len rfl e.f_len bv_len (da_cons (d_var 0) da_nil)) d_int)
    (dss_one (ds_ret [] (d_glob (d := (.str "-")) rfl rfl e.c_EMPTY_RUN.choose_spec.1 e.c_EMPTY_RUN.choose_spec.2)))
    dss_nil)
    (dss_one (ds_ret [] (d_bm PySem.F.plainAttrs_str PySem.F.slot_str_join PySem.F.type_str_join mt_join r_join d_str (da_cons (d_var 0) da_nil)))))
theorem ok_run_text {P : Program} {w : World} {K : PySem.W.Frag} {mg : Str → Option Value} {base : Heap} {T : TbL} {k : Nat} (e : En K mg) {c : DC} (len : ∀ β ds Q E, c β ds Q E → ds.length = 1) (h : Keeps (td_run_text K) ["run"] c) : OkD P w K mg base T (k + 1) "run_text" ["run"] c := by
  obtain ⟨fd, F⟩ := e.d_run_text
  exact okD_of e.g_run_text F (F.binds fun _ _ _ _ _ _ us hl => match us, hl with | [_], _ => rfl) sc_run_text (w_run_text e) len h
theorem okK_run_text_0_run {P : Program} {w : World} {K : PySem.W.Frag} {mg : Str → Option Value} {base : Heap} {T : TbL} {k : Nat} (e : En K mg) {c : DC} (len : ∀ β ds Q E, c β ds Q E → ds.length = 1) (h : Keeps (td_run_text K) ["run"] c) : OkK P w K mg base T (k + 1) "run_text" ["run"] c 0 ["run"] [0] := by
  obtain ⟨fd, F⟩ := e.d_run_text
  exact okK_of e.g_run_text F (fun_bkw F fun _ _ _ _ _ _ us ws h1 h2 => match us, ws, h1, h2 with | [], [_], _, _ => rfl) sc_run_text (w_run_text e) len h
theorem sc_read_run : FnScope ["letters", "text", "run"] ["letters", "text"] (defScope (top 12)) := ⟨rfl, rfl, rfl, by decide +kernel, rfl, by decide +kernel, by decide +kernel⟩
def td_read_run (K : PySem.W.Frag) (c_is_run : DC) (β : Addr) : TDS :=
    (ySeq (yIf [] (xTest (xOp (dEq false) (xVar 1) (xC (.str "-"))))
    (yRet [] (xTup xNil))
    yNext)
    (ySeq (ySet [] 2 (xCall dTuple (xCons (xMeth "str" dSplit (xVar 1) (xCons (xC (.str ".")) xNil)) xNil)))
    (ySeq (yIf [] (xNot (xTru (xFn β c_is_run (xCons (xVar 0) (xCons (xVar 2) xNil)))))
    (yRaise [] "BadText" "BadText" ["line", "why"] [0, 1] 2 (xLen 2 (xCons (xC (.int 0)) (xCons (xC (.str "form")) xNil))))
    yNext)
    (yRet [] (xVar 2)))))
theorem w_read_run {P : Program} {w : World} {K : PySem.W.Frag} {mg : Str → Option Value} {base : Heap} {T : TbL} {k : Nat} (e : En K mg) {c_is_run : DC} (O_is_run : OkD P w K mg base T k "is_run" ["letters", "run"] c_is_run) (M_BadText : MkC P w K mg base "BadText" "BadText" ["line", "why"]) (hk : 2 ≤ k) : BodyD P w K mg base T k "read_run" (top 12) (He.ga K "read_run") ["letters", "text", "run"] (td_read_run K c_is_run) := by
  intro cdv A outer s p E hT hP hcv hr
  have hu := hr.units
  have hu65 := hrU65 (L2H.roomH_of hr)
  have hrN := L2H.roomH_of hr
  exact (dss_cons (ds_if [] (dt_eq hu (d_var 1) (d_glob (d := (.str "-")) rfl rfl e.c_EMPTY_RUN.choose_spec.1 e.c_EMPTY_RUN.choose_spec.2))
    (dss_one (ds_ret [] (d_tup da_nil)))
    dss_nil)
    (dss_cons (ds_set [] 2 sc_read_run.nd (d_callTy call_tuple_of r_tuple rfl e.f_tuple bv_tuple (da_cons (d_bm PySem.F.plainAttrs_str PySem.F.slot_str_split PySem.F.type_str_split mt_split r_split (d_var 1) (da_cons d_str da_nil)) da_nil)))
    (dss_cons (ds_if [] (dt_not (dt_truth (he := fun _ => rfl) (d_callO O_is_run hT hr (takes_of rfl rfl rfl rfl) (da_cons (d_var 0) (da_cons (d_var 2) da_nil)))))
    (dss_one (ds_raiseC [] 0 M_BadText rfl (takes_of rfl rfl rfl rfl) (hr.mono hk) (mk_pos (da_cons d_int (da_cons d_str da_nil)))))
    dss_nil)
    (dss_one (ds_ret [] (d_var 2))))))
theorem ok_read_run {P : Program} {w : World} {K : PySem.W.Frag} {mg : Str → Option Value} {base : Heap} {T : TbL} {k : Nat} (e : En K mg) {c_is_run : DC} (O_is_run : OkD P w K mg base T k "is_run" ["letters", "run"] c_is_run) (M_BadText : MkC P w K mg base "BadText" "BadText" ["line", "why"]) (hk : 2 ≤ k) {c : DC} (len : ∀ β ds Q E, c β ds Q E → ds.length = 2) (h : Keeps (td_read_run K c_is_run) ["letters", "text", "run"] c) : OkD P w K mg base T (k + 1) "read_run" ["letters", "text"] c := by
  obtain ⟨fd, F⟩ := e.d_read_run
  exact okD_of e.g_read_run F (F.binds fun _ _ _ _ _ _ us hl => match us, hl with | [_, _], _ => rfl) sc_read_run (w_read_run e O_is_run M_BadText hk) len h
theorem sc_run_key : FnScope ["letters", "run", "letter"] ["letters", "run"] (defScope (top 13)) := ⟨rfl, rfl, rfl, by decide +kernel, rfl, by decide +kernel, by decide +kernel⟩
def td_run_key (K : PySem.W.Frag) (c_is_run : DC) (c_Letters_place : DC) (β : Addr) : TDS :=
    (ySeq (yIf [] (xNot (xTru (xFn β c_is_run (xCons (xVar 0) (xCons (xVar 1) xNil)))))
    (yRaise [] "BadRun" "BadRun" ["at"] [0] 1 (xLen 1 (xCons (xC (.int 0)) xNil)))
    yNext)
    (yRet [] (xTup (xCons (xCall dLen (xCons (xVar 1) xNil)) (xCons (xCall dTuple (xCons (xLcE [2] (xiAny (xVar 1)) (zName 2) xYes (xMth β "Letters" "place" c_Letters_place (xVar 0) (xCons (xVar 2) xNil))) xNil)) xNil)))))
theorem w_run_key {P : Program} {w : World} {K : PySem.W.Frag} {mg : Str → Option Value} {base : Heap} {T : TbL} {k : Nat} (e : En K mg) {c_is_run : DC} (O_is_run : OkD P w K mg base T k "is_run" ["letters", "run"] c_is_run) {c_Letters_place : DC} (O_Letters_place : OkM P w K mg base T k "Letters" "place" ["self", "letter"] c_Letters_place) (M_BadRun : MkC P w K mg base "BadRun" "BadRun" ["at"]) (hk : 2 ≤ k) : BodyD P w K mg base T k "run_key" (top 13) (He.ga K "run_key") ["letters", "run", "letter"] (td_run_key K c_is_run c_Letters_place) := by
  intro cdv A outer s p E hT hP hcv hr
  have hu := hr.units
  have hu65 := hrU65 (L2H.roomH_of hr)
  have hrN := L2H.roomH_of hr
  exact (dss_cons (ds_if [] (dt_not (dt_truth (he := fun _ => rfl) (d_callO O_is_run hT hr (takes_of rfl rfl rfl rfl) (da_cons (d_var 0) (da_cons (d_var 1) da_nil)))))
    (dss_one (ds_raiseC [] 0 M_BadRun rfl (takes_of rfl rfl rfl rfl) (hr.mono hk) (mk_pos (da_cons d_int da_nil))))
    dss_nil)
    (dss_one (ds_ret [] (d_tup (da_cons (d_callB call_len r_len rfl e.f_len bv_len (da_cons (d_var 1) da_nil)) (da_cons (d_callTy call_tuple_of r_tuple rfl e.f_tuple bv_tuple (da_cons (d_lc [("letter", 2)] (by decide) rfl sc_run_key.nd (blkOk_by rfl) (di_any (d_var 1)) (fun s H C cl fp => (dg_name 2 sc_run_key.nd)) (fun s H C cl fp => dts_nil) (fun s H C cl fp => (d_mth O_Letters_place hT hr takes0 (d_var 0) (da_cons (d_var 2) da_nil)))) da_nil)) da_nil))))))
theorem ok_run_key {P : Program} {w : World} {K : PySem.W.Frag} {mg : Str → Option Value} {base : Heap} {T : TbL} {k : Nat} (e : En K mg) {c_is_run : DC} (O_is_run : OkD P w K mg base T k "is_run" ["letters", "run"] c_is_run) {c_Letters_place : DC} (O_Letters_place : OkM P w K mg base T k "Letters" "place" ["self", "letter"] c_Letters_place) (M_BadRun : MkC P w K mg base "BadRun" "BadRun" ["at"]) (hk : 2 ≤ k) {c : DC} (len : ∀ β ds Q E, c β ds Q E → ds.length = 2) (h : Keeps (td_run_key K c_is_run c_Letters_place) ["letters", "run", "letter"] c) : OkD P w K mg base T (k + 1) "run_key" ["letters", "run"] c := by
  obtain ⟨fd, F⟩ := e.d_run_key
  exact okD_of e.g_run_key F (F.binds fun _ _ _ _ _ _ us hl => match us, hl with | [_, _], _ => rfl) sc_run_key (w_run_key e O_is_run O_Letters_place M_BadRun hk) len h
theorem okK_run_key_0_letters_run {P : Program} {w : World} {K : PySem.W.Frag} {mg : Str → Option Value} {base : Heap} {T : TbL} {k : Nat} (e : En K mg) {c_is_run : DC} (O_is_run : OkD P w K mg base T k "is_run" ["letters", "run"] c_is_run) {c_Letters_place : DC} (O_Letters_place : OkM P w K mg base T k "Letters" "place" ["self", "letter"] c_Letters_place) (M_BadRun : MkC P w K mg base "BadRun" "BadRun" ["at"]) (hk : 2 ≤ k) {c : DC} (len : ∀ β ds Q E, c β ds Q E → ds.length = 2) (h : Keeps (td_run_key K c_is_run c_Letters_place) ["letters", "run", "letter"] c) : OkK P w K mg base T (k + 1) "run_key" ["letters", "run"] c 0 ["letters", "run"] [0, 1] := by
  obtain ⟨fd, F⟩ := e.d_run_key
  exact okK_of e.g_run_key F (fun_bkw F fun _ _ _ _ _ _ us ws h1 h2 => match us, ws, h1, h2 with | [], [_, _], _, _ => rfl) sc_run_key (w_run_key e O_is_run O_Letters_place M_BadRun hk) len h
theorem sc_told_lot : FnScope ["letters", "lot", "at", "run", "found", "key"] ["letters", "lot"] (defScope (top 14)) := ⟨rfl, rfl, rfl, by decide +kernel, rfl, by decide +kernel, by decide +kernel⟩
def td_told_lot (K : PySem.W.Frag) (c_is_run : DC) (c_run_key : DC) (β : Addr) : TDS :=
    (ySeq (yFor [] (xiEnumA (xCons (xVar 1) xNil)) (zTup 2 (zCons (zName 2) (zCons (zName 3) zNil)))
    (yIf [] (xNot (xTru (xFn β c_is_run (xCons (xVar 0) (xCons (xVar 3) xNil)))))
    (yRaise [] "BadRun" "BadRun" ["at"] [0] 1 (xLen 1 (xCons (xVar 2) xNil)))
    yNext))
    (ySeq (ySetNdc [] 4 [3] (xiAny (xVar 1)) (zName 3) xYes (xFn β c_run_key (xCons (xVar 0) (xCons (xVar 3) xNil))) (xCall dTuple (xCons (xVar 3) xNil)))
    (yRetO [] (xLc [5] (xiAny (xNSorted 4)) (zName 5) xYes (xNGetO 4 (xVar 5))))))
theorem w_told_lot {P : Program} {w : World} {K : PySem.W.Frag} {mg : Str → Option Value} {base : Heap} {T : TbL} {k : Nat} (e : En K mg) {c_is_run : DC} (O_is_run : OkD P w K mg base T k "is_run" ["letters", "run"] c_is_run) {c_run_key : DC} (O_run_key : OkD P w K mg base T k "run_key" ["letters", "run"] c_run_key) (M_BadRun : MkC P w K mg base "BadRun" "BadRun" ["at"]) (hk : 2 ≤ k) : BodyD P w K mg base T k "told_lot" (top 14) (He.ga K "told_lot") ["letters", "lot", "at", "run", "found", "key"] (td_told_lot K c_is_run c_run_key) := by
  intro cdv A outer s p E hT hP hcv hr
  have hu := hr.units
  have hu65 := hrU65 (L2H.roomH_of hr)
  have hrN := L2H.roomH_of hr
  exact (dss_cons (ds_for [] (passes_of rfl) rfl (di_enumA rfl e.f_enumerate (da_cons (d_var 1) da_nil)) (dg_tup rfl (dgs_cons (dg_name 2 sc_told_lot.nd) (dgs_cons (dg_name 3 sc_told_lot.nd) dgs_nil)))
    (dss_one (ds_if [] (dt_not (dt_truth (he := fun _ => rfl) (d_callO O_is_run hT hr (takes_of rfl rfl rfl rfl) (da_cons (d_var 0) (da_cons (d_var 3) da_nil)))))
    (dss_one (ds_raiseC [] 0 M_BadRun rfl (takes_of rfl rfl rfl rfl) (hr.mono hk) (mk_pos (da_cons (d_var 2) da_nil))))
    dss_nil)))
    (dss_cons (ds_setNdc [] 4 [("run", 3)] (by decide) rfl sc_told_lot.nd (blkOk_by rfl) (di_any (d_var 1)) (fun s H C cl fp => (dg_name 3 sc_told_lot.nd)) (fun s H C cl fp => dts_nil) (fun s H C cl fp => (d_callO O_run_key hT hr takes0 (da_cons (d_var 0) (da_cons (d_var 3) da_nil)))) (fun s H C cl fp => (d_callTy call_tuple_of r_tuple rfl e.f_tuple bv_tuple (da_cons (d_var 3) da_nil))) hP.1 hP.2 hu)
    (dss_one (ds_retO [] (deo_lc [("key", 5)] (by decide) rfl sc_told_lot.nd (blkOk_by rfl) (di_any (d_nsorted 4 hP.1 hP.2 rfl e.f_sorted hu rfl)) (fun s H C cl fp => (dg_name 5 sc_told_lot.nd)) (fun s H C cl fp => dts_nil) (fun s H C cl fp => (d_ngetO 4 hP.1 hP.2 hu (fun _ _ => rfl) (d_var 5))))))))
theorem ok_told_lot {P : Program} {w : World} {K : PySem.W.Frag} {mg : Str → Option Value} {base : Heap} {T : TbL} {k : Nat} (e : En K mg) {c_is_run : DC} (O_is_run : OkD P w K mg base T k "is_run" ["letters", "run"] c_is_run) {c_run_key : DC} (O_run_key : OkD P w K mg base T k "run_key" ["letters", "run"] c_run_key) (M_BadRun : MkC P w K mg base "BadRun" "BadRun" ["at"]) (hk : 2 ≤ k) {c : OC} (len : ∀ β ds Q E, c β ds Q E → ds.length = 2) (h : KeepsO (td_told_lot K c_is_run c_run_key) ["letters", "lot", "at", "run", "found", "key"] c) : OkO P w K mg base T (k + 1) "told_lot" ["letters", "lot"] c := by
  obtain ⟨fd, F⟩ := e.d_told_lot
  exact okO_of e.g_told_lot F (F.binds fun _ _ _ _ _ _ us hl => match us, hl with | [_, _], _ => rfl) sc_told_lot (w_told_lot e O_is_run O_run_key M_BadRun hk) len h
theorem okK_told_lot_0_letters_lot {P : Program} {w : World} {K : PySem.W.Frag} {mg : Str → Option Value} {base : Heap} {T : TbL} {k : Nat} (e : En K mg) {c_is_run : DC} (O_is_run : OkD P w K mg base T k "is_run" ["letters", "run"] c_is_run) {c_run_key : DC} (O_run_key : OkD P w K mg base T k "run_key" ["letters", "run"] c_run_key) (M_BadRun : MkC P w K mg base "BadRun" "BadRun" ["at"]) (hk : 2 ≤ k) {c : OC} (len : ∀ β ds Q E, c β ds Q E → ds.length = 2) (h : KeepsO (td_told_lot K c_is_run c_run_key) ["letters", "lot", "at", "run", "found", "key"] c) : OkK P w K mg base T (k + 1) "told_lot" ["letters", "lot"] c.d 0 ["letters", "lot"] [0, 1] := by
  obtain ⟨fd, F⟩ := e.d_told_lot
  exact okKO_of e.g_told_lot F (fun_bkw F fun _ _ _ _ _ _ us ws h1 h2 => match us, ws, h1, h2 with | [], [_, _], _, _ => rfl) sc_told_lot (w_told_lot e O_is_run O_run_key M_BadRun hk) len h
theorem sc_lot_text : FnScope ["letters", "lot", "run"] ["letters", "lot"] (defScope (top 15)) := ⟨rfl, rfl, rfl, by decide +kernel, rfl, by decide +kernel, by decide +kernel⟩
def td_lot_text (K : PySem.W.Frag) (c_told_lot : DC) (c_run_text : DC) (β : Addr) : TDS :=
    (yRet [] (xMeth "str" dJoin (xC (.str " ")) (xCons (xLcE [2] (xiAny (xFn β c_told_lot (xCons (xVar 0) (xCons (xVar 1) xNil)))) (zName 2) xYes (xFn β c_run_text (xCons (xVar 2) xNil))) xNil)))
theorem w_lot_text {P : Program} {w : World} {K : PySem.W.Frag} {mg : Str → Option Value} {base : Heap} {T : TbL} {k : Nat} (e : En K mg) {c_told_lot : DC} (O_told_lot : OkD P w K mg base T k "told_lot" ["letters", "lot"] c_told_lot) {c_run_text : DC} (O_run_text : OkD P w K mg base T k "run_text" ["run"] c_run_text) : BodyD P w K mg base T k "lot_text" (top 15) (He.ga K "lot_text") ["letters", "lot", "run"] (td_lot_text K c_told_lot c_run_text) := by
  intro cdv A outer s p E hT hP hcv hr
  have hu := hr.units
  have hu65 := hrU65 (L2H.roomH_of hr)
  have hrN := L2H.roomH_of hr
  exact (dss_one (ds_ret [] (d_bm PySem.F.plainAttrs_str PySem.F.slot_str_join PySem.F.type_str_join mt_join r_join d_str (da_cons (d_lc [("run", 2)] (by decide) rfl sc_lot_text.nd (blkOk_by rfl) (di_any (d_callO O_told_lot hT hr (takes_of rfl rfl rfl rfl) (da_cons (d_var 0) (da_cons (d_var 1) da_nil)))) (fun s H C cl fp => (dg_name 2 sc_lot_text.nd)) (fun s H C cl fp => dts_nil) (fun s H C cl fp => (d_callO O_run_text hT hr takes0 (da_cons (d_var 2) da_nil)))) da_nil))))
theorem ok_lot_text {P : Program} {w : World} {K : PySem.W.Frag} {mg : Str → Option Value} {base : Heap} {T : TbL} {k : Nat} (e : En K mg) {c_told_lot : DC} (O_told_lot : OkD P w K mg base T k "told_lot" ["letters", "lot"] c_told_lot) {c_run_text : DC} (O_run_text : OkD P w K mg base T k "run_text" ["run"] c_run_text) {c : DC} (len : ∀ β ds Q E, c β ds Q E → ds.length = 2) (h : Keeps (td_lot_text K c_told_lot c_run_text) ["letters", "lot", "run"] c) : OkD P w K mg base T (k + 1) "lot_text" ["letters", "lot"] c := by
  obtain ⟨fd, F⟩ := e.d_lot_text
  exact okD_of e.g_lot_text F (F.binds fun _ _ _ _ _ _ us hl => match us, hl with | [_, _], _ => rfl) sc_lot_text (w_lot_text e O_told_lot O_run_text) len h
theorem sc_read_lot : FnScope ["letters", "text", "word"] ["letters", "text"] (defScope (top 16)) := ⟨rfl, rfl, rfl, by decide +kernel, rfl, by decide +kernel, by decide +kernel⟩
def td_read_lot (K : PySem.W.Frag) (c_told_lot : DC) (c_read_run : DC) (β : Addr) : TDS :=
    (ySeq (yIf [] (xTest (xOp (dEq false) (xVar 1) (xC (.str ""))))
    (yRet [] (xLst xNil))
    yNext)
    (yRet [] (xFn β c_told_lot (xCons (xVar 0) (xCons (xLcX [2] (xiAny (xMeth "str" dSplit (xVar 1) (xCons (xC (.str " ")) xNil))) (zName 2) xYes (xFn β c_read_run (xCons (xVar 0) (xCons (xVar 2) xNil)))) xNil)))))
theorem w_read_lot {P : Program} {w : World} {K : PySem.W.Frag} {mg : Str → Option Value} {base : Heap} {T : TbL} {k : Nat} (e : En K mg) {c_told_lot : DC} (O_told_lot : OkD P w K mg base T k "told_lot" ["letters", "lot"] c_told_lot) {c_read_run : DC} (O_read_run : OkD P w K mg base T k "read_run" ["letters", "text"] c_read_run) : BodyD P w K mg base T k "read_lot" (top 16) (He.ga K "read_lot") ["letters", "text", "word"] (td_read_lot K c_told_lot c_read_run) := by
  intro cdv A outer s p E hT hP hcv hr
  have hu := hr.units
  have hu65 := hrU65 (L2H.roomH_of hr)
  have hrN := L2H.roomH_of hr
  exact (dss_cons (ds_if [] (dt_eq hu (d_var 1) d_str)
    (dss_one (ds_ret [] (d_lst da_nil)))
    dss_nil)
    (dss_one (ds_ret [] (d_callO O_told_lot hT hr (takes_of rfl rfl rfl rfl) (da_cons (d_var 0) (da_cons (d_lcX [("word", 2)] (by decide) (takes_of rfl rfl rfl rfl) rfl rfl rfl sc_read_lot.nd (blkOk_by rfl) (di_any (d_bm PySem.F.plainAttrs_str PySem.F.slot_str_split PySem.F.type_str_split mt_split r_split (d_var 1) (da_cons d_str da_nil))).e (fun s H C cl fp => (dg_name 2 sc_read_lot.nd)) (fun s H C cl fp => dts_nil) (fun s H C cl fp xe W tkF => (d_callOF O_read_run hT hr tkF (da_cons (d_var 0) (da_cons (d_var 2) da_nil))))) da_nil))))))
theorem ok_read_lot {P : Program} {w : World} {K : PySem.W.Frag} {mg : Str → Option Value} {base : Heap} {T : TbL} {k : Nat} (e : En K mg) {c_told_lot : DC} (O_told_lot : OkD P w K mg base T k "told_lot" ["letters", "lot"] c_told_lot) {c_read_run : DC} (O_read_run : OkD P w K mg base T k "read_run" ["letters", "text"] c_read_run) {c : DC} (len : ∀ β ds Q E, c β ds Q E → ds.length = 2) (h : Keeps (td_read_lot K c_told_lot c_read_run) ["letters", "text", "word"] c) : OkD P w K mg base T (k + 1) "read_lot" ["letters", "text"] c := by
  obtain ⟨fd, F⟩ := e.d_read_lot
  exact okD_of e.g_read_lot F (F.binds fun _ _ _ _ _ _ us hl => match us, hl with | [_, _], _ => rfl) sc_read_lot (w_read_lot e O_told_lot O_read_run) len h
theorem sc_is_name : FnScope ["text", "sign"] ["text"] (defScope (top 23)) := ⟨rfl, rfl, rfl, by decide +kernel, rfl, by decide +kernel, by decide +kernel⟩
def td_is_name (K : PySem.W.Frag) (β : Addr) : TDS :=
    (ySeq (yIf [] (xNot (xTest (xChain dLe dLe (xC (.int 1)) (xCall dLen (xCons (xVar 0) xNil)) (xC (.int 6)))))
    (yRet [] (xC (.bl false)))
    yNext)
    (ySeq (yFor [] (xiAny (xVar 0)) (zName 1)
    (yIf [] (xTest (xOp (dInA true) (xVar 1) (xC (.str "abcdefghijklmnopqrstuvwxyz"))))
    (yRet [] (xC (.bl false)))
    yNext))
    (yRet [] (xC (.bl true)))))
theorem w_is_name {P : Program} {w : World} {K : PySem.W.Frag} {mg : Str → Option Value} {base : Heap} {T : TbL} {k : Nat} (e : En K mg) : BodyD P w K mg base T k "is_name" (top 23) (He.ga K "is_name") ["text", "sign"] (td_is_name K) := by
  intro cdv A outer s p E hT hP hcv hr
  have hu := hr.units
  have hu65 := hrU65 (L2H.roomH_of hr)
  have hrN := L2H.roomH_of hr
  exact (dss_cons (ds_if [] (dt_not (dt_chain op_le op_le (r_I0 fun _ _ => rfl) (r_I0 fun _ _ => rfl) d_int (d_callB call_len r_len rfl e.f_len bv_len (da_cons (d_var 0) da_nil)) (d_glob (d := (.int 6)) rfl rfl e.c_LONGEST_NAME.choose_spec.1 e.c_LONGEST_NAME.choose_spec.2)))
    (dss_one (ds_ret [] d_bl))
    dss_nil)
    (dss_cons (ds_for [] (passes_of rfl) rfl (di_any (d_var 0)) (dg_name 1 sc_is_name.nd)
    (dss_one (ds_if [] (dt_notin hu65 (d_var 1) (d_glob (d := (.str "abcdefghijklmnopqrstuvwxyz")) rfl rfl e.c_SMALL.choose_spec.1 e.c_SMALL.choose_spec.2))
    (dss_one (ds_ret [] d_bl))
    dss_nil)))
    (dss_one (ds_ret [] d_bl))))
theorem ok_is_name {P : Program} {w : World} {K : PySem.W.Frag} {mg : Str → Option Value} {base : Heap} {T : TbL} {k : Nat} (e : En K mg) {c : DC} (len : ∀ β ds Q E, c β ds Q E → ds.length = 1) (h : Keeps (td_is_name K) ["text", "sign"] c) : OkD P w K mg base T (k + 1) "is_name" ["text"] c := by
  obtain ⟨fd, F⟩ := e.d_is_name
  exact okD_of e.g_is_name F (F.binds fun _ _ _ _ _ _ us hl => match us, hl with | [_], _ => rfl) sc_is_name (w_is_name e) len h
theorem sc__are_signs : FnScope ["text", "sign"] ["text"] (defScope (top 24)) := ⟨rfl, rfl, rfl, by decide +kernel, rfl, by decide +kernel, by decide +kernel⟩
def td__are_signs (K : PySem.W.Frag) (β : Addr) : TDS :=
    (ySeq (yIf [] (xOr (xNot (xTest (xChain dLe dLe (xC (.int 1)) (xCall dLen (xCons (xVar 0) xNil)) (xC (.int 16))))) (xTest (xOp (dEq true) (xLenSet (xVar 0)) (xCall dLen (xCons (xVar 0) xNil)))))
    (yRet [] (xC (.bl false)))
    yNext)
    (ySeq (yFor [] (xiAny (xVar 0)) (zName 1)
    (yIf [] (xTest (xOp (dInA true) (xVar 1) (xC (.str "0123456789abcdefghijklmnopqrstuvwxyz"))))
    (yRet [] (xC (.bl false)))
    yNext))
    (yRet [] (xC (.bl true)))))
theorem w__are_signs {P : Program} {w : World} {K : PySem.W.Frag} {mg : Str → Option Value} {base : Heap} {T : TbL} {k : Nat} (e : En K mg) : BodyD P w K mg base T k "_are_signs" (top 24) (He.ga K "_are_signs") ["text", "sign"] (td__are_signs K) := by
  intro cdv A outer s p E hT hP hcv hr
  have hu := hr.units
  have hu65 := hrU65 (L2H.roomH_of hr)
  have hrN := L2H.roomH_of hr
  exact (dss_cons (ds_if [] (DW.t (dw_or (dt_not (dt_chain op_le op_le (r_I0 fun _ _ => rfl) (r_I0 fun _ _ => rfl) d_int (d_callB call_len r_len rfl e.f_len bv_len (da_cons (d_var 0) da_nil)) (d_glob (d := (.int 16)) rfl rfl e.c_MOST_LETTERS.choose_spec.1 e.c_MOST_LETTERS.choose_spec.2))) (dw_or1 (dt_ne hu (d_lenSetS rfl e.f_len rfl e.f_set (d_var 0)) (d_callB call_len r_len rfl e.f_len bv_len (da_cons (d_var 0) da_nil))))))
    (dss_one (ds_ret [] d_bl))
    dss_nil)
    (dss_cons (ds_for [] (passes_of rfl) rfl (di_any (d_var 0)) (dg_name 1 sc__are_signs.nd)
    (dss_one (ds_if [] (dt_notin hu65 (d_var 1) (d_glob (d := (.str "0123456789abcdefghijklmnopqrstuvwxyz")) rfl rfl e.c_SIGNS.choose_spec.1 e.c_SIGNS.choose_spec.2))
    (dss_one (ds_ret [] d_bl))
    dss_nil)))
    (dss_one (ds_ret [] d_bl))))
theorem ok__are_signs {P : Program} {w : World} {K : PySem.W.Frag} {mg : Str → Option Value} {base : Heap} {T : TbL} {k : Nat} (e : En K mg) {c : DC} (len : ∀ β ds Q E, c β ds Q E → ds.length = 1) (h : Keeps (td__are_signs K) ["text", "sign"] c) : OkD P w K mg base T (k + 1) "_are_signs" ["text"] c := by
  obtain ⟨fd, F⟩ := e.d__are_signs
  exact okD_of e.g__are_signs F (F.binds fun _ _ _ _ _ _ us hl => match us, hl with | [_], _ => rfl) sc__are_signs (w__are_signs e) len h
theorem sc__law_of : FnScope ["bag", "things"] ["bag", "things"] (defScope (top 29)) := ⟨rfl, rfl, rfl, by decide +kernel, rfl, by decide +kernel, by decide +kernel⟩
def td__law_of (K : PySem.W.Frag) (c__law_draw : DC) (β : Addr) : TDS :=
    (yRet [] (xOp dIx (xVar 1) (xFn β c__law_draw (xCons (xVar 0) (xCons (xCall dLen (xCons (xVar 1) xNil)) xNil)))))
theorem w__law_of {P : Program} {w : World} {K : PySem.W.Frag} {mg : Str → Option Value} {base : Heap} {T : TbL} {k : Nat} (e : En K mg) {c__law_draw : DC} (O__law_draw : OkD P w K mg base T k "_law_draw" ["bag", "size"] c__law_draw) : BodyD P w K mg base T k "_law_of" (top 29) (He.ga K "_law_of") ["bag", "things"] (td__law_of K c__law_draw) := by
  intro cdv A outer s p E hT hP hcv hr
  have hu := hr.units
  have hu65 := hrU65 (L2H.roomH_of hr)
  have hrN := L2H.roomH_of hr
  exact (dss_one (ds_ret [] (d_ix (fun _ _ => rfl) (d_var 1) (d_callO O__law_draw hT hr (takes_of rfl rfl rfl rfl) (da_cons (d_var 0) (da_cons (d_callB call_len r_len rfl e.f_len bv_len (da_cons (d_var 1) da_nil)) da_nil))))))
theorem ok__law_of {P : Program} {w : World} {K : PySem.W.Frag} {mg : Str → Option Value} {base : Heap} {T : TbL} {k : Nat} (e : En K mg) {c__law_draw : DC} (O__law_draw : OkD P w K mg base T k "_law_draw" ["bag", "size"] c__law_draw) {c : DC} (len : ∀ β ds Q E, c β ds Q E → ds.length = 2) (h : Keeps (td__law_of K c__law_draw) ["bag", "things"] c) : OkD P w K mg base T (k + 1) "_law_of" ["bag", "things"] c := by
  obtain ⟨fd, F⟩ := e.d__law_of
  exact okD_of e.g__law_of F (F.binds fun _ _ _ _ _ _ us hl => match us, hl with | [_, _], _ => rfl) sc__law_of (w__law_of e O__law_draw) len h
theorem sc__law_like : FnScope ["told", "due", "a", "b"] ["told", "due"] (defScope (top 30)) := ⟨rfl, rfl, rfl, by decide +kernel, rfl, by decide +kernel, by decide +kernel⟩
def td__law_like (K : PySem.W.Frag) (c__law_like : DC) (β : Addr) : TDS :=
    (ySeq (yIf [] (xTru (xCall (dIsi K oxt) (xCons (xVar 1) (xCons (xTup (xCons (xC (.ty "list")) (xCons (xC (.ty "tuple")) xNil))) xNil))))
    (ySeq (yIf [] (xOr (xTest (xOp (dEq true) (xCall (dIsi K oxt) (xCons (xVar 0) (xCons (xC (.ty "list")) xNil))) (xCall (dIsi K oxt) (xCons (xVar 1) (xCons (xC (.ty "list")) xNil))))) (xTest (xOp (dEq true) (xCall (dIsi K oxt) (xCons (xVar 0) (xCons (xC (.ty "tuple")) xNil))) (xCall (dIsi K oxt) (xCons (xVar 1) (xCons (xC (.ty "tuple")) xNil))))))
    (yRet [] (xC (.bl false)))
    yNext)
    (yRet [] (xAndV (xOp (dEq false) (xCall dLen (xCons (xVar 0) xNil)) (xCall dLen (xCons (xVar 1) xNil))) (xCall (dAll fun ks => ks.all id) (xCons (xLcE [2, 3] (xiZip (xCons (xVar 0) (xCons (xVar 1) xNil))) (zTup 2 (zCons (zName 2) (zCons (zName 3) zNil))) xYes (xFn β c__law_like (xCons (xVar 2) (xCons (xVar 3) xNil)))) xNil)))))
    yNext)
    (ySeq (yIf [] (xOr (xTest (xIsN false (xVar 1))) (xTest (xIsN false (xVar 0))))
    (yRet [] (xAndV (xIsN false (xVar 1)) (xIsN false (xVar 0))))
    yNext)
    (ySeq (yIf [] (xOr (xTru (xCall (dIsi K oxt) (xCons (xVar 0) (xCons (xTup (xCons (xC (.ty "list")) (xCons (xC (.ty "tuple")) xNil))) xNil)))) (xTest (xOp (dEq true) (xCall (dIsi K oxt) (xCons (xVar 0) (xCons (xC (.ty "bool")) xNil))) (xCall (dIsi K oxt) (xCons (xVar 1) (xCons (xC (.ty "bool")) xNil))))))
    (yRet [] (xC (.bl false)))
    yNext)
    (ySeq (yIf [] (xOr (xTest (xOp (dEq true) (xCall (dIsi K oxt) (xCons (xVar 0) (xCons (xC (.ty "str")) xNil))) (xCall (dIsi K oxt) (xCons (xVar 1) (xCons (xC (.ty "str")) xNil))))) (xTest (xOp (dEq true) (xCall (dIsi K oxt) (xCons (xVar 0) (xCons (xC (.ty "int")) xNil))) (xCall (dIsi K oxt) (xCons (xVar 1) (xCons (xC (.ty "int")) xNil))))))
    (yRet [] (xC (.bl false)))
    yNext)
    (yRet [] (xOp (dEq false) (xVar 0) (xVar 1)))))))
theorem w__law_like {P : Program} {w : World} {K : PySem.W.Frag} {mg : Str → Option Value} {base : Heap} {T : TbL} {k : Nat} (e : En K mg) {c__law_like : DC} (O__law_like : OkD P w K mg base T k "_law_like" ["told", "due"] c__law_like) : BodyD P w K mg base T k "_law_like" (top 30) (He.ga K "_law_like") ["told", "due", "a", "b"] (td__law_like K c__law_like) := by
  intro cdv A outer s p E hT hP hcv hr
  have hu := hr.units
  have hu65 := hrU65 (L2H.roomH_of hr)
  have hrN := L2H.roomH_of hr
  exact (dss_cons (ds_if [] (dt_truth (he := fun _ => rfl) (d_callB call_isiZ (r_isi e.ox) rfl e.f_isinstance bv_isinstance (da_cons (d_var 1) (da_cons (d_tup (da_cons (d_bltn (d := .ty "list") rfl rfl e.f_list bv_list rfl) (da_cons (d_bltn (d := .ty "tuple") rfl rfl e.f_tuple bv_tuple rfl) da_nil))) da_nil))))
    (dss_cons (ds_if [] (DW.t (dw_or (dt_ne hu (d_callB call_isiZ (r_isi e.ox) rfl e.f_isinstance bv_isinstance (da_cons (d_var 0) (da_cons (d_bltn (d := .ty "list") rfl rfl e.f_list bv_list rfl) da_nil))) (d_callB call_isiZ (r_isi e.ox) rfl e.f_isinstance bv_isinstance (da_cons (d_var 1) (da_cons (d_bltn (d := .ty "list") rfl rfl e.f_list bv_list rfl) da_nil)))) (dw_or1 (dt_ne hu (d_callB call_isiZ (r_isi e.ox) rfl e.f_isinstance bv_isinstance (da_cons (d_var 0) (da_cons (d_bltn (d := .ty "tuple") rfl rfl e.f_tuple bv_tuple rfl) da_nil))) (d_callB call_isiZ (r_isi e.ox) rfl e.f_isinstance bv_isinstance (da_cons (d_var 1) (da_cons (d_bltn (d := .ty "tuple") rfl rfl e.f_tuple bv_tuple rfl) da_nil)))))))
    (dss_one (ds_ret [] d_bl))
    dss_nil)
    (dss_one (ds_ret [] (d_and (d_eq hu (d_callB call_len r_len rfl e.f_len bv_len (da_cons (d_var 0) da_nil)) (d_callB call_len r_len rfl e.f_len bv_len (da_cons (d_var 1) da_nil))) (d_one (d_callB (cr_all rfl) r_all rfl e.f_all bv_all (da_cons (d_lc [("a", 2), ("b", 3)] (by decide) rfl sc__law_like.nd (blkOk_by rfl) (di_zip rfl e.f_zip (da_cons (d_var 0) (da_cons (d_var 1) da_nil))) (fun s H C cl fp => (dg_tup rfl (dgs_cons (dg_name 2 sc__law_like.nd) (dgs_cons (dg_name 3 sc__law_like.nd) dgs_nil)))) (fun s H C cl fp => dts_nil) (fun s H C cl fp => (d_callO O__law_like hT hr takes0 (da_cons (d_var 2) (da_cons (d_var 3) da_nil))))) da_nil)))))))
    dss_nil)
    (dss_cons (ds_if [] (DW.t (dw_or (dt_isN (d_var 1)) (dw_or1 (dt_isN (d_var 0)))))
    (dss_one (ds_ret [] (d_and (d_isN (d_var 1)) (d_one (d_isN (d_var 0))))))
    dss_nil)
    (dss_cons (ds_if [] (DW.t (dw_or (dt_truth (he := fun _ => rfl) (d_callB call_isiZ (r_isi e.ox) rfl e.f_isinstance bv_isinstance (da_cons (d_var 0) (da_cons (d_tup (da_cons (d_bltn (d := .ty "list") rfl rfl e.f_list bv_list rfl) (da_cons (d_bltn (d := .ty "tuple") rfl rfl e.f_tuple bv_tuple rfl) da_nil))) da_nil)))) (dw_or1 (dt_ne hu (d_callB call_isiZ (r_isi e.ox) rfl e.f_isinstance bv_isinstance (da_cons (d_var 0) (da_cons (d_bltn (d := .ty "bool") rfl rfl e.f_bool bv_bool rfl) da_nil))) (d_callB call_isiZ (r_isi e.ox) rfl e.f_isinstance bv_isinstance (da_cons (d_var 1) (da_cons (d_bltn (d := .ty "bool") rfl rfl e.f_bool bv_bool rfl) da_nil)))))))
    (dss_one (ds_ret [] d_bl))
    dss_nil)
    (dss_cons (ds_if [] (DW.t (dw_or (dt_ne hu (d_callB call_isiZ (r_isi e.ox) rfl e.f_isinstance bv_isinstance (da_cons (d_var 0) (da_cons (d_bltn (d := .ty "str") rfl rfl e.f_str bv_str rfl) da_nil))) (d_callB call_isiZ (r_isi e.ox) rfl e.f_isinstance bv_isinstance (da_cons (d_var 1) (da_cons (d_bltn (d := .ty "str") rfl rfl e.f_str bv_str rfl) da_nil)))) (dw_or1 (dt_ne hu (d_callB call_isiZ (r_isi e.ox) rfl e.f_isinstance bv_isinstance (da_cons (d_var 0) (da_cons (d_bltn (d := .ty "int") rfl rfl e.f_int bv_int rfl) da_nil))) (d_callB call_isiZ (r_isi e.ox) rfl e.f_isinstance bv_isinstance (da_cons (d_var 1) (da_cons (d_bltn (d := .ty "int") rfl rfl e.f_int bv_int rfl) da_nil)))))))
    (dss_one (ds_ret [] d_bl))
    dss_nil)
    (dss_one (ds_ret [] (d_eq hu (d_var 0) (d_var 1))))))))
theorem ok__law_like {P : Program} {w : World} {K : PySem.W.Frag} {mg : Str → Option Value} {base : Heap} {T : TbL} {k : Nat} (e : En K mg) {c__law_like : DC} (O__law_like : OkD P w K mg base T k "_law_like" ["told", "due"] c__law_like) {c : DC} (len : ∀ β ds Q E, c β ds Q E → ds.length = 2) (h : Keeps (td__law_like K c__law_like) ["told", "due", "a", "b"] c) : OkD P w K mg base T (k + 1) "_law_like" ["told", "due"] c := by
  obtain ⟨fd, F⟩ := e.d__law_like
  exact okD_of e.g__law_like F (F.binds fun _ _ _ _ _ _ us hl => match us, hl with | [_, _], _ => rfl) sc__law_like (w__law_like e O__law_like) len h
theorem sc__law_name : FnScope ["bag", "size", "k"] ["bag"] (defScope (top 31)) := ⟨rfl, rfl, rfl, by decide +kernel, rfl, by decide +kernel, by decide +kernel⟩
def td__law_name (K : PySem.W.Frag) (c__law_draw : DC) (c__law_of : DC) (β : Addr) : TDS :=
    (ySeq (yIf [] (xTest (xOp (dEq false) (xFn β c__law_draw (xCons (xVar 0) (xCons (xC (.int 3)) xNil))) (xC (.int 0))))
    (yRet [] (xFn β c__law_of (xCons (xVar 0) (xCons (xLst (xCons (xC (.str "a")) (xCons (xC (.str "b")) (xCons (xC (.str "in")) (xCons (xC (.str "out")) (xCons (xC (.str "end")) (xCons (xC (.str "all")) (xCons (xC (.str "none")) (xCons (xC (.str "made")) (xCons (xC (.str "s")) xNil)))))))))) xNil))))
    yNext)
    (ySeq (ySet [] 1 (xOp dAdd (xC (.int 1)) (xFn β c__law_draw (xCons (xVar 0) (xCons (xC (.int 6)) xNil)))))
    (yRet [] (xMeth "str" dJoin (xC (.str "")) (xCons (xLcE [2] (xiRng1 (xCons (xVar 1) xNil)) (zName 2) xYes (xFn β c__law_of (xCons (xVar 0) (xCons (xC (.str "abcdefghijklmnopqrstuvwxyz")) xNil)))) xNil)))))
theorem w__law_name {P : Program} {w : World} {K : PySem.W.Frag} {mg : Str → Option Value} {base : Heap} {T : TbL} {k : Nat} (e : En K mg) {c__law_draw : DC} (O__law_draw : OkD P w K mg base T k "_law_draw" ["bag", "size"] c__law_draw) {c__law_of : DC} (O__law_of : OkD P w K mg base T k "_law_of" ["bag", "things"] c__law_of) : BodyD P w K mg base T k "_law_name" (top 31) (He.ga K "_law_name") ["bag", "size", "k"] (td__law_name K c__law_draw c__law_of) := by
  intro cdv A outer s p E hT hP hcv hr
  have hu := hr.units
  have hu65 := hrU65 (L2H.roomH_of hr)
  have hrN := L2H.roomH_of hr
  exact (dss_cons (ds_if [] (dt_eq hu (d_callO O__law_draw hT hr (takes_of rfl rfl rfl rfl) (da_cons (d_var 0) (da_cons d_int da_nil))) d_int)
    (dss_one (ds_ret [] (d_callO O__law_of hT hr (takes_of rfl rfl rfl rfl) (da_cons (d_var 0) (da_cons (d_lst (da_cons d_str (da_cons d_str (da_cons d_str (da_cons d_str (da_cons d_str (da_cons d_str (da_cons d_str (da_cons d_str (da_cons d_str da_nil)))))))))) da_nil)))))
    dss_nil)
    (dss_cons (ds_set [] 1 sc__law_name.nd (d_add d_int (d_callO O__law_draw hT hr (takes_of rfl rfl rfl rfl) (da_cons (d_var 0) (da_cons d_int da_nil)))))
    (dss_one (ds_ret [] (d_bm PySem.F.plainAttrs_str PySem.F.slot_str_join PySem.F.type_str_join mt_join r_join d_str (da_cons (d_lc [("k", 2)] (by decide) rfl sc__law_name.nd (blkOk_by rfl) (di_range1 rfl e.f_range (da_cons (d_var 1) da_nil)) (fun s H C cl fp => (dg_name 2 sc__law_name.nd)) (fun s H C cl fp => dts_nil) (fun s H C cl fp => (d_callO O__law_of hT hr takes0 (da_cons (d_var 0) (da_cons d_str da_nil))))) da_nil))))))
theorem ok__law_name {P : Program} {w : World} {K : PySem.W.Frag} {mg : Str → Option Value} {base : Heap} {T : TbL} {k : Nat} (e : En K mg) {c__law_draw : DC} (O__law_draw : OkD P w K mg base T k "_law_draw" ["bag", "size"] c__law_draw) {c__law_of : DC} (O__law_of : OkD P w K mg base T k "_law_of" ["bag", "things"] c__law_of) {c : DC} (len : ∀ β ds Q E, c β ds Q E → ds.length = 1) (h : Keeps (td__law_name K c__law_draw c__law_of) ["bag", "size", "k"] c) : OkD P w K mg base T (k + 1) "_law_name" ["bag"] c := by
  obtain ⟨fd, F⟩ := e.d__law_name
  exact okD_of e.g__law_name F (F.binds fun _ _ _ _ _ _ us hl => match us, hl with | [_], _ => rfl) sc__law_name (w__law_name e O__law_draw O__law_of) len h
theorem sc__law_fresh : FnScope ["bag", "taken", "word", "spot", "k", "more"] ["bag", "taken"] (defScope (top 32)) := ⟨rfl, rfl, rfl, by decide +kernel, rfl, by decide +kernel, by decide +kernel⟩
def td__law_fresh (K : PySem.W.Frag) (c__law_name : DC) (c__law_draw : DC) (β : Addr) : TDS :=
    (ySeq (ySet [] 2 (xFn β c__law_name (xCons (xVar 0) xNil)))
    (ySeq (yIf [] (xTest (xOp (dInA true) (xVar 2) (xVar 1)))
    (yRet [] (xVar 2))
    yNext)
    (ySeq (ySet [] 3 (xFn β c__law_draw (xCons (xVar 0) (xCons (xC (.int 26)) xNil))))
    (ySeq (yFor [] (xiRng1 (xCons (xC (.int 26)) xNil)) (zName 4)
    (ySeq (ySet [] 5 (xOp dAdd (xSl (xVar 2) xNoPart (xPart (xC (.int 5)))) (xOp dIx (xC (.str "abcdefghijklmnopqrstuvwxyz")) (xOp dMod (xCall dInt (xCons (xOp dAdd (xVar 3) (xVar 4)) xNil)) (xC (.int 26))))))
    (yIf [] (xTest (xOp (dInA true) (xVar 5) (xVar 1)))
    (yRet [] (xVar 5))
    yNext)))
    (yRet [] (xVar 2))))))
theorem w__law_fresh {P : Program} {w : World} {K : PySem.W.Frag} {mg : Str → Option Value} {base : Heap} {T : TbL} {k : Nat} (e : En K mg) {c__law_name : DC} (O__law_name : OkD P w K mg base T k "_law_name" ["bag"] c__law_name) {c__law_draw : DC} (O__law_draw : OkD P w K mg base T k "_law_draw" ["bag", "size"] c__law_draw) : BodyD P w K mg base T k "_law_fresh" (top 32) (He.ga K "_law_fresh") ["bag", "taken", "word", "spot", "k", "more"] (td__law_fresh K c__law_name c__law_draw) := by
  intro cdv A outer s p E hT hP hcv hr
  have hu := hr.units
  have hu65 := hrU65 (L2H.roomH_of hr)
  have hrN := L2H.roomH_of hr
  exact (dss_cons (ds_set [] 2 sc__law_fresh.nd (d_callO O__law_name hT hr (takes_of rfl rfl rfl rfl) (da_cons (d_var 0) da_nil)))
    (dss_cons (ds_if [] (dt_notin hu65 (d_var 2) (d_var 1))
    (dss_one (ds_ret [] (d_var 2)))
    dss_nil)
    (dss_cons (ds_set [] 3 sc__law_fresh.nd (d_callO O__law_draw hT hr (takes_of rfl rfl rfl rfl) (da_cons (d_var 0) (da_cons d_int da_nil))))
    (dss_cons (ds_for [] (passes_of rfl) rfl (di_range1 rfl e.f_range (da_cons d_int da_nil)) (dg_name 4 sc__law_fresh.nd)
    (dss_cons (ds_set [] 5 sc__law_fresh.nd (d_add (d_slice (d_var 2) do_none (do_some d_int)) (d_ix (fun _ _ => rfl) d_str (d_mod (d_callTy call_int1 r_int rfl e.f_int bv_int (da_cons (d_add (d_var 3) (d_var 4)) da_nil)) d_int))))
    (dss_one (ds_if [] (dt_notin hu65 (d_var 5) (d_var 1))
    (dss_one (ds_ret [] (d_var 5)))
    dss_nil))))
    (dss_one (ds_ret [] (d_var 2)))))))
theorem ok__law_fresh {P : Program} {w : World} {K : PySem.W.Frag} {mg : Str → Option Value} {base : Heap} {T : TbL} {k : Nat} (e : En K mg) {c__law_name : DC} (O__law_name : OkD P w K mg base T k "_law_name" ["bag"] c__law_name) {c__law_draw : DC} (O__law_draw : OkD P w K mg base T k "_law_draw" ["bag", "size"] c__law_draw) {c : DC} (len : ∀ β ds Q E, c β ds Q E → ds.length = 2) (h : Keeps (td__law_fresh K c__law_name c__law_draw) ["bag", "taken", "word", "spot", "k", "more"] c) : OkD P w K mg base T (k + 1) "_law_fresh" ["bag", "taken"] c := by
  obtain ⟨fd, F⟩ := e.d__law_fresh
  exact okD_of e.g__law_fresh F (F.binds fun _ _ _ _ _ _ us hl => match us, hl with | [_, _], _ => rfl) sc__law_fresh (w__law_fresh e O__law_name O__law_draw) len h
theorem sc__law_parts : FnScope ["bag", "sizes", "parts", "size", "pool", "signs", "k", "part"] ["bag", "sizes"] (defScope (top 33)) := ⟨rfl, rfl, rfl, by decide +kernel, rfl, by decide +kernel, by decide +kernel⟩
def td__law_parts (K : PySem.W.Frag) (c__law_of : DC) (c__law_fresh : DC) (β : Addr) : TDS :=
    (ySeq (ySetLstO [] 2 xNil)
    (ySeq (yFor [] (xiAny (xVar 1)) (zName 3)
    (ySeq (ySetO [] 4 (oSl (xCall dListA (xCons (xC (.str "0123456789abcdefghijklmnopqrstuvwxyz")) xNil)) xNoPart (xPart (xCall dMax (xCons (xVar 3) (xCons (xFn β c__law_of (xCons (xVar 0) (xCons (xLst (xCons (xC (.int 3)) (xCons (xC (.int 12)) (xCons (xC (.int 36)) xNil)))) xNil))) xNil))))))
    (ySeq (yPJ 4 5 0 β (xiRng1 (xCons (xVar 3) xNil)))
    (yOM [] 2 oAppend (xCons (xTup (xCons (xFn β c__law_fresh (xCons (xVar 0) (xCons (xLcE [7] (xiOwn 2) (zName 7) xYes (xOp dIx (xVar 7) (xC (.int 0)))) xNil))) (xCons (xVar 5) xNil))) xNil)))))
    (yRet [2] (xVar 2))))
theorem w__law_parts {P : Program} {w : World} {K : PySem.W.Frag} {mg : Str → Option Value} {base : Heap} {T : TbL} {k : Nat} (e : En K mg) {c__law_of : DC} (O__law_of : OkD P w K mg base T k "_law_of" ["bag", "things"] c__law_of) (O__law_draw : OkD P w K mg base T k "_law_draw" ["bag", "size"] cDraw) {c__law_fresh : DC} (O__law_fresh : OkD P w K mg base T k "_law_fresh" ["bag", "taken"] c__law_fresh) : BodyD P w K mg base T k "_law_parts" (top 33) (He.ga K "_law_parts") ["bag", "sizes", "parts", "size", "pool", "signs", "k", "part"] (td__law_parts K c__law_of c__law_fresh) := by
  intro cdv A outer s p E hT hP hcv hr
  have hu := hr.units
  have hu65 := hrU65 (L2H.roomH_of hr)
  have hrN := L2H.roomH_of hr
  obtain ⟨fdD, hD1, hD2, hD3, hD4⟩ := id O__law_draw
  exact (dss_cons (ds_setLstO [] 2 sc__law_parts.nd da_nil)
    (dss_cons (ds_for [] (passes_of rfl) rfl (di_any (d_var 1)) (dg_name 3 sc__law_parts.nd)
    (dss_cons (ds_setO [] 4 sc__law_parts.nd (deo_slice (d_callTy (call_listA rfl) r_listA rfl e.f_list bv_list (da_cons d_str da_nil)) do_none (do_some (d_callB (call_max2 rfl) r_max rfl e.f_max bv_max (da_cons (d_var 3) (da_cons (d_callO O__law_of hT hr (takes_of rfl rfl rfl rfl) (da_cons (d_var 0) (da_cons (d_lst (da_cons d_int (da_cons d_int (da_cons d_int da_nil)))) da_nil))) da_nil))))))
    (dss_cons (ds_popJoin 4 5 0 6 hT (by decide) (by decide) (di_range1 rfl e.f_range (da_cons (d_var 3) da_nil)) (fun wi w1 => ps_set sc__law_parts.nd rfl (.inl rfl) (pe_bm PySem.F.plainAttrs_str PySem.F.slot_str_join PySem.F.type_str_join mt_join pe_str (pa_cons (pe_lc (own := [("k", 6)]) rfl sc__law_parts.nd w1 (blkOk_by rfl) (fun s H C cl fp => pg_name sc__law_parts.nd rfl (.inl rfl)) (fun s H C cl fp => pts_nil) (fun s H C cl fp => pe_bm PySem.F.plainAttrs_list PySem.F.slot_list_pop PySem.F.type_list_pop mt_popAt (pe_var (i := 4) rfl (by first | exact Or.inl rfl | exact Or.inr (Or.inl rfl) | exact Or.inr (Or.inr rfl)) (by decide) (by decide)) (pa_cons (pe_callS hD4 hr rfl hD1 hD2 hD3 (fun σ => passAt takes0 σ) (pa_cons (pe_var (i := 0) rfl (by first | exact Or.inl rfl | exact Or.inr (Or.inl rfl) | exact Or.inr (Or.inr rfl)) (by decide) (by decide)) (pa_cons (pe_callB call_len rfl e.f_len bv_len (pa_cons (pe_var (i := 4) rfl (by first | exact Or.inl rfl | exact Or.inr (Or.inl rfl) | exact Or.inr (Or.inr rfl)) (by decide) (by decide)) pa_nil)) pa_nil))) pa_nil))) pa_nil)) rfl))
    (dss_one (ds_append [] 2 (da_cons (d_tup (da_cons (d_callO O__law_fresh hT hr (takes_of rfl rfl rfl rfl) (da_cons (d_var 0) (da_cons (d_lcE [("part", 7)] (by decide) rfl sc__law_parts.nd (blkOk_by rfl) (die_own 2) (fun s H C cl fp => (dg_name 7 sc__law_parts.nd)) (fun s H C cl fp => dts_nil) (fun s H C cl fp => (d_ix (fun _ _ => rfl) (d_var 7) d_int))) da_nil))) (da_cons (d_var 5) da_nil))) da_nil))))))
    (dss_one (ds_ret [2] (d_var 2)))))
theorem ok__law_parts {P : Program} {w : World} {K : PySem.W.Frag} {mg : Str → Option Value} {base : Heap} {T : TbL} {k : Nat} (e : En K mg) {c__law_of : DC} (O__law_of : OkD P w K mg base T k "_law_of" ["bag", "things"] c__law_of) (O__law_draw : OkD P w K mg base T k "_law_draw" ["bag", "size"] cDraw) {c__law_fresh : DC} (O__law_fresh : OkD P w K mg base T k "_law_fresh" ["bag", "taken"] c__law_fresh) {c : DC} (len : ∀ β ds Q E, c β ds Q E → ds.length = 2) (h : Keeps (td__law_parts K c__law_of c__law_fresh) ["bag", "sizes", "parts", "size", "pool", "signs", "k", "part"] c) : OkD P w K mg base T (k + 1) "_law_parts" ["bag", "sizes"] c := by
  obtain ⟨fd, F⟩ := e.d__law_parts
  exact okD_of e.g__law_parts F (F.binds fun _ _ _ _ _ _ us hl => match us, hl with | [_, _], _ => rfl) sc__law_parts (w__law_parts e O__law_of O__law_draw O__law_fresh) len h
theorem sc__law_letters : FnScope ["parts"] ["parts"] (defScope (top 34)) := ⟨rfl, rfl, rfl, by decide +kernel, rfl, by decide +kernel, by decide +kernel⟩
def td__law_letters (K : PySem.W.Frag) (c_Letters : IC) (β : Addr) : TDS :=
    (ySeq (yIf [] (xTest (xOp (dEq false) (xCall dLen (xCons (xVar 0) xNil)) (xC (.int 1))))
    (yRet [] (xMk β "Letters" c_Letters (xCons (xOp dIx (xVar 0) (xC (.int 0))) xNil)))
    yNext)
    (ySeq (yIf [] (xTest (xOp (dEq false) (xCall dLen (xCons (xVar 0) xNil)) (xC (.int 2))))
    (yRet [] (xMk β "Letters" c_Letters (xCons (xOp dIx (xVar 0) (xC (.int 0))) (xCons (xOp dIx (xVar 0) (xC (.int 1))) xNil))))
    yNext)
    (ySeq (yIf [] (xTest (xOp (dEq false) (xCall dLen (xCons (xVar 0) xNil)) (xC (.int 3))))
    (yRet [] (xMk β "Letters" c_Letters (xCons (xOp dIx (xVar 0) (xC (.int 0))) (xCons (xOp dIx (xVar 0) (xC (.int 1))) (xCons (xOp dIx (xVar 0) (xC (.int 2))) xNil)))))
    yNext)
    (yRet [] (xMk β "Letters" c_Letters (xCons (xOp dIx (xVar 0) (xC (.int 0))) (xCons (xOp dIx (xVar 0) (xC (.int 1))) (xCons (xOp dIx (xVar 0) (xC (.int 2))) (xCons (xOp dIx (xVar 0) (xC (.int 3))) xNil)))))))))
theorem w__law_letters {P : Program} {w : World} {K : PySem.W.Frag} {mg : Str → Option Value} {base : Heap} {T : TbL} {k : Nat} (e : En K mg) {c_Letters : IC} {jLetters : Nat} (I_Letters : OkI P w K mg base T jLetters "Letters" c_Letters) (hkLetters : jLetters + 1 ≤ k) : BodyD P w K mg base T k "_law_letters" (top 34) (He.ga K "_law_letters") ["parts"] (td__law_letters K c_Letters) := by
  intro cdv A outer s p E hT hP hcv hr
  have hu := hr.units
  have hu65 := hrU65 (L2H.roomH_of hr)
  have hrN := L2H.roomH_of hr
  exact (dss_cons (ds_if [] (dt_eq hu (d_callB call_len r_len rfl e.f_len bv_len (da_cons (d_var 0) da_nil)) d_int)
    (dss_one (ds_ret [] (d_mk I_Letters hT (hr.mono hkLetters) (takes_of rfl rfl rfl rfl) (da_cons (d_ix (fun _ _ => rfl) (d_var 0) d_int) da_nil))))
    dss_nil)
    (dss_cons (ds_if [] (dt_eq hu (d_callB call_len r_len rfl e.f_len bv_len (da_cons (d_var 0) da_nil)) d_int)
    (dss_one (ds_ret [] (d_mk I_Letters hT (hr.mono hkLetters) (takes_of rfl rfl rfl rfl) (da_cons (d_ix (fun _ _ => rfl) (d_var 0) d_int) (da_cons (d_ix (fun _ _ => rfl) (d_var 0) d_int) da_nil)))))
    dss_nil)
    (dss_cons (ds_if [] (dt_eq hu (d_callB call_len r_len rfl e.f_len bv_len (da_cons (d_var 0) da_nil)) d_int)
    (dss_one (ds_ret [] (d_mk I_Letters hT (hr.mono hkLetters) (takes_of rfl rfl rfl rfl) (da_cons (d_ix (fun _ _ => rfl) (d_var 0) d_int) (da_cons (d_ix (fun _ _ => rfl) (d_var 0) d_int) (da_cons (d_ix (fun _ _ => rfl) (d_var 0) d_int) da_nil))))))
    dss_nil)
    (dss_one (ds_ret [] (d_mk I_Letters hT (hr.mono hkLetters) (takes_of rfl rfl rfl rfl) (da_cons (d_ix (fun _ _ => rfl) (d_var 0) d_int) (da_cons (d_ix (fun _ _ => rfl) (d_var 0) d_int) (da_cons (d_ix (fun _ _ => rfl) (d_var 0) d_int) (da_cons (d_ix (fun _ _ => rfl) (d_var 0) d_int) da_nil))))))))))
theorem ok__law_letters {P : Program} {w : World} {K : PySem.W.Frag} {mg : Str → Option Value} {base : Heap} {T : TbL} {k : Nat} (e : En K mg) {c_Letters : IC} {jLetters : Nat} (I_Letters : OkI P w K mg base T jLetters "Letters" c_Letters) (hkLetters : jLetters + 1 ≤ k) {c : DC} (len : ∀ β ds Q E, c β ds Q E → ds.length = 1) (h : Keeps (td__law_letters K c_Letters) ["parts"] c) : OkD P w K mg base T (k + 1) "_law_letters" ["parts"] c := by
  obtain ⟨fd, F⟩ := e.d__law_letters
  exact okD_of e.g__law_letters F (F.binds fun _ _ _ _ _ _ us hl => match us, hl with | [_], _ => rfl) sc__law_letters (w__law_letters e I_Letters hkLetters) len h
theorem sc__law_listed : FnScope ["parts", "mine", "part", "more", "word", "sign"] ["parts"] (defScope (top 35)) := ⟨rfl, rfl, rfl, by decide +kernel, rfl, by decide +kernel, by decide +kernel⟩
def td__law_listed (K : PySem.W.Frag) (β : Addr) : TDS :=
    (ySeq (ySet [] 1 (xLst (xCons (xC (.str "")) xNil)))
    (ySeq (yFor [] (xiAny (xVar 0)) (zName 2)
    (ySeq (ySetLstO [] 3 xNil)
    (ySeq (yFor [] (xiAny (xVar 1)) (zName 4)
    (yOM [] 3 oExtend (xCons (xLcE [5] (xiAny (xOp dIx (xVar 2) (xC (.int 1)))) (zName 5) xYes (xOp dAdd (xVar 4) (xVar 5))) xNil)))
    (ySet [3] 1 (xVar 3)))))
    (yRet [] (xVar 1))))
theorem w__law_listed {P : Program} {w : World} {K : PySem.W.Frag} {mg : Str → Option Value} {base : Heap} {T : TbL} {k : Nat} (e : En K mg) : BodyD P w K mg base T k "_law_listed" (top 35) (He.ga K "_law_listed") ["parts", "mine", "part", "more", "word", "sign"] (td__law_listed K) := by
  intro cdv A outer s p E hT hP hcv hr
  have hu := hr.units
  have hu65 := hrU65 (L2H.roomH_of hr)
  have hrN := L2H.roomH_of hr
  exact (dss_cons (ds_set [] 1 sc__law_listed.nd (d_lst (da_cons d_str da_nil)))
    (dss_cons (ds_for [] (passes_of rfl) rfl (di_any (d_var 0)) (dg_name 2 sc__law_listed.nd)
    (dss_cons (ds_setLstO [] 3 sc__law_listed.nd da_nil)
    (dss_cons (ds_for [] (passes_of rfl) rfl (di_any (d_var 1)) (dg_name 4 sc__law_listed.nd)
    (dss_one (ds_om [] 3 PySem.F.slot_list_extend PySem.F.type_list_extend mt_extend r_extend (da_cons (d_lc [("sign", 5)] (by decide) rfl sc__law_listed.nd (blkOk_by rfl) (di_any (d_ix (fun _ _ => rfl) (d_var 2) d_int)) (fun s H C cl fp => (dg_name 5 sc__law_listed.nd)) (fun s H C cl fp => dts_nil) (fun s H C cl fp => (d_add (d_var 4) (d_var 5)))) da_nil))))
    (dss_one (ds_set [3] 1 sc__law_listed.nd (d_var 3))))))
    (dss_one (ds_ret [] (d_var 1)))))
theorem ok__law_listed {P : Program} {w : World} {K : PySem.W.Frag} {mg : Str → Option Value} {base : Heap} {T : TbL} {k : Nat} (e : En K mg) {c : DC} (len : ∀ β ds Q E, c β ds Q E → ds.length = 1) (h : Keeps (td__law_listed K) ["parts", "mine", "part", "more", "word", "sign"] c) : OkD P w K mg base T (k + 1) "_law_listed" ["parts"] c := by
  obtain ⟨fd, F⟩ := e.d__law_listed
  exact okD_of e.g__law_listed F (F.binds fun _ _ _ _ _ _ us hl => match us, hl with | [_], _ => rfl) sc__law_listed (w__law_listed e) len h
theorem sc__law_run : FnScope ["bag", "mine", "most", "k"] ["bag", "mine", "most"] (defScope (top 36)) := ⟨rfl, rfl, rfl, by decide +kernel, rfl, by decide +kernel, by decide +kernel⟩
def td__law_run (K : PySem.W.Frag) (c__law_draw : DC) (c__law_of : DC) (β : Addr) : TDS :=
    (yRet [] (xCall dTuple (xCons (xLcE [3] (xiRng1 (xCons (xFn β c__law_draw (xCons (xVar 0) (xCons (xOp dAdd (xVar 2) (xC (.int 1))) xNil))) xNil)) (zName 3) xYes (xFn β c__law_of (xCons (xVar 0) (xCons (xVar 1) xNil)))) xNil)))
theorem w__law_run {P : Program} {w : World} {K : PySem.W.Frag} {mg : Str → Option Value} {base : Heap} {T : TbL} {k : Nat} (e : En K mg) {c__law_draw : DC} (O__law_draw : OkD P w K mg base T k "_law_draw" ["bag", "size"] c__law_draw) {c__law_of : DC} (O__law_of : OkD P w K mg base T k "_law_of" ["bag", "things"] c__law_of) : BodyD P w K mg base T k "_law_run" (top 36) (He.ga K "_law_run") ["bag", "mine", "most", "k"] (td__law_run K c__law_draw c__law_of) := by
  intro cdv A outer s p E hT hP hcv hr
  have hu := hr.units
  have hu65 := hrU65 (L2H.roomH_of hr)
  have hrN := L2H.roomH_of hr
  exact (dss_one (ds_ret [] (d_callTy call_tuple_of r_tuple rfl e.f_tuple bv_tuple (da_cons (d_lc [("k", 3)] (by decide) rfl sc__law_run.nd (blkOk_by rfl) (di_range1 rfl e.f_range (da_cons (d_callO O__law_draw hT hr (takes_of rfl rfl rfl rfl) (da_cons (d_var 0) (da_cons (d_add (d_var 2) d_int) da_nil))) da_nil)) (fun s H C cl fp => (dg_name 3 sc__law_run.nd)) (fun s H C cl fp => dts_nil) (fun s H C cl fp => (d_callO O__law_of hT hr takes0 (da_cons (d_var 0) (da_cons (d_var 1) da_nil))))) da_nil))))
theorem ok__law_run {P : Program} {w : World} {K : PySem.W.Frag} {mg : Str → Option Value} {base : Heap} {T : TbL} {k : Nat} (e : En K mg) {c__law_draw : DC} (O__law_draw : OkD P w K mg base T k "_law_draw" ["bag", "size"] c__law_draw) {c__law_of : DC} (O__law_of : OkD P w K mg base T k "_law_of" ["bag", "things"] c__law_of) {c : DC} (len : ∀ β ds Q E, c β ds Q E → ds.length = 3) (h : Keeps (td__law_run K c__law_draw c__law_of) ["bag", "mine", "most", "k"] c) : OkD P w K mg base T (k + 1) "_law_run" ["bag", "mine", "most"] c := by
  obtain ⟨fd, F⟩ := e.d__law_run
  exact okD_of e.g__law_run F (F.binds fun _ _ _ _ _ _ us hl => match us, hl with | [_, _, _], _ => rfl) sc__law_run (w__law_run e O__law_draw O__law_of) len h
theorem sc__law_fault : FnScope ["error"] ["error"] (defScope (top 37)) := ⟨rfl, rfl, rfl, by decide +kernel, rfl, by decide +kernel, by decide +kernel⟩
def td__law_fault (K : PySem.W.Frag) (β : Addr) : TDS :=
    (ySeq (yIf [] (xTru (xCall (dIsi K oxt) (xCons (xVar 0) (xCons (xC (.adr (He.ga K "BadRun"))) xNil))))
    (yRet [] (xLst (xCons (xXat oxt "code" (xVar 0)) (xCons (xXat oxt "at" (xVar 0)) xNil))))
    yNext)
    (ySeq (yIf [] (xTru (xCall (dIsi K oxt) (xCons (xVar 0) (xCons (xC (.adr (He.ga K "BadText"))) xNil))))
    (yRet [] (xLst (xCons (xXat oxt "code" (xVar 0)) (xCons (xXat oxt "line" (xVar 0)) (xCons (xXat oxt "why" (xVar 0)) xNil)))))
    yNext)
    (yRet [] (xLst (xCons (xC (.str "another error")) xNil)))))
theorem w__law_fault {P : Program} {w : World} {K : PySem.W.Frag} {mg : Str → Option Value} {base : Heap} {T : TbL} {k : Nat} (e : En K mg) : BodyN P w K mg base T k "_law_fault" (top 37) (He.ga K "_law_fault") ["error"] (td__law_fault K) := by
  intro cdv A outer s p E hT hP hr
  have hu := un64 hr
  have hu65 := hrU65 hr
  exact (dss_cons (ds_if [] (dt_truth (he := fun _ => rfl) (d_callB call_isiZ (r_isi e.ox) rfl e.f_isinstance bv_isinstance (da_cons (d_var 0) (da_cons (d_glob (d := .adr (He.ga K "BadRun")) rfl rfl e.g_BadRun rfl) da_nil))))
    (dss_one (ds_ret [] (d_lst (da_cons (d_xat (t := oxt) e.ox (d_var 0)) (da_cons (d_xat (t := oxt) e.ox (d_var 0)) da_nil)))))
    dss_nil)
    (dss_cons (ds_if [] (dt_truth (he := fun _ => rfl) (d_callB call_isiZ (r_isi e.ox) rfl e.f_isinstance bv_isinstance (da_cons (d_var 0) (da_cons (d_glob (d := .adr (He.ga K "BadText")) rfl rfl e.g_BadText rfl) da_nil))))
    (dss_one (ds_ret [] (d_lst (da_cons (d_xat (t := oxt) e.ox (d_var 0)) (da_cons (d_xat (t := oxt) e.ox (d_var 0)) (da_cons (d_xat (t := oxt) e.ox (d_var 0)) da_nil))))))
    dss_nil)
    (dss_one (ds_ret [] (d_lst (da_cons d_str da_nil))))))
theorem ok__law_fault {P : Program} {w : World} {K : PySem.W.Frag} {mg : Str → Option Value} {base : Heap} {T : TbL} {k : Nat} (e : En K mg) {c : DC} (len : ∀ β ds Q E, c β ds Q E → ds.length = 1) (h : Keeps (td__law_fault K) ["error"] c) : OkN P w K mg base T (k + 1) "_law_fault" ["error"] c := by
  obtain ⟨fd, F⟩ := e.d__law_fault
  exact okN_of e.g__law_fault F (F.binds fun _ _ _ _ _ _ us hl => match us, hl with | [_], _ => rfl) sc__law_fault (w__law_fault e) len h
theorem sc__law_odd : FnScope ["bag", "mine", "word", "spot", "some"] ["bag", "mine"] (defScope (top 39)) := ⟨rfl, rfl, rfl, by decide +kernel, rfl, by decide +kernel, by decide +kernel⟩
def td__law_odd (K : PySem.W.Frag) (c__law_of : DC) (c__law_draw : DC) (β : Addr) : TDS :=
    (ySeq (ySet [] 2 (xFn β c__law_of (xCons (xVar 0) (xCons (xVar 1) xNil))))
    (ySeq (ySet [] 3 (xFn β c__law_draw (xCons (xVar 0) (xCons (xCall dLen (xCons (xVar 2) xNil)) xNil))))
    (ySeq (ySet [] 4 (xLst (xCons (xOp dAdd (xSl (xVar 2) xNoPart (xPart (xVar 3))) (xSl (xVar 2) (xPart (xOp dAdd (xVar 3) (xC (.int 1)))) xNoPart)) (xCons (xOp dAdd (xVar 2) (xOp dIx (xVar 2) (xVar 3))) (xCons (xOp dAdd (xVar 2) (xC (.str "\n"))) (xCons (xOp dAdd (xOp dAdd (xSl (xVar 2) xNoPart (xPart (xVar 3))) (xC (.str "#"))) (xSl (xVar 2) (xPart (xOp dAdd (xVar 3) (xC (.int 1)))) xNoPart)) xNil))))))
    (ySeq (ySet [] 4 (xOp dAdd (xVar 4) (xLst (xCons (xOp dAdd (xOp dAdd (xSl (xVar 2) xNoPart (xPart (xVar 3))) (xFn β c__law_of (xCons (xVar 0) (xCons (xC (.str "0123456789abcxyz?.A")) xNil)))) (xSl (xVar 2) (xPart (xOp dAdd (xVar 3) (xC (.int 1)))) xNoPart)) (xCons (xC (.str "")) (xCons (xC (.str "#")) (xCons (xOp dAdd (xC (.str " ")) (xVar 2)) (xCons (xC (.str "-")) xNil))))))))
    (yRet [] (xFn β c__law_of (xCons (xVar 0) (xCons (xVar 4) xNil))))))))
theorem w__law_odd {P : Program} {w : World} {K : PySem.W.Frag} {mg : Str → Option Value} {base : Heap} {T : TbL} {k : Nat} (e : En K mg) {c__law_of : DC} (O__law_of : OkD P w K mg base T k "_law_of" ["bag", "things"] c__law_of) {c__law_draw : DC} (O__law_draw : OkD P w K mg base T k "_law_draw" ["bag", "size"] c__law_draw) : BodyD P w K mg base T k "_law_odd" (top 39) (He.ga K "_law_odd") ["bag", "mine", "word", "spot", "some"] (td__law_odd K c__law_of c__law_draw) := by
  intro cdv A outer s p E hT hP hcv hr
  have hu := hr.units
  have hu65 := hrU65 (L2H.roomH_of hr)
  have hrN := L2H.roomH_of hr
  exact (dss_cons (ds_set [] 2 sc__law_odd.nd (d_callO O__law_of hT hr (takes_of rfl rfl rfl rfl) (da_cons (d_var 0) (da_cons (d_var 1) da_nil))))
    (dss_cons (ds_set [] 3 sc__law_odd.nd (d_callO O__law_draw hT hr (takes_of rfl rfl rfl rfl) (da_cons (d_var 0) (da_cons (d_callB call_len r_len rfl e.f_len bv_len (da_cons (d_var 2) da_nil)) da_nil))))
    (dss_cons (ds_set [] 4 sc__law_odd.nd (d_lst (da_cons (d_add (d_slice (d_var 2) do_none (do_some (d_var 3))) (d_slice (d_var 2) (do_some (d_add (d_var 3) d_int)) do_none)) (da_cons (d_add (d_var 2) (d_ix (fun _ _ => rfl) (d_var 2) (d_var 3))) (da_cons (d_add (d_var 2) d_str) (da_cons (d_add (d_add (d_slice (d_var 2) do_none (do_some (d_var 3))) d_str) (d_slice (d_var 2) (do_some (d_add (d_var 3) d_int)) do_none)) da_nil))))))
    (dss_cons (ds_set [] 4 sc__law_odd.nd (d_add (d_var 4) (d_lst (da_cons (d_add (d_add (d_slice (d_var 2) do_none (do_some (d_var 3))) (d_callO O__law_of hT hr (takes_of rfl rfl rfl rfl) (da_cons (d_var 0) (da_cons d_str da_nil)))) (d_slice (d_var 2) (do_some (d_add (d_var 3) d_int)) do_none)) (da_cons d_str (da_cons d_str (da_cons (d_add d_str (d_var 2)) (da_cons d_str da_nil))))))))
    (dss_one (ds_ret [] (d_callO O__law_of hT hr (takes_of rfl rfl rfl rfl) (da_cons (d_var 0) (da_cons (d_var 4) da_nil)))))))))
theorem ok__law_odd {P : Program} {w : World} {K : PySem.W.Frag} {mg : Str → Option Value} {base : Heap} {T : TbL} {k : Nat} (e : En K mg) {c__law_of : DC} (O__law_of : OkD P w K mg base T k "_law_of" ["bag", "things"] c__law_of) {c__law_draw : DC} (O__law_draw : OkD P w K mg base T k "_law_draw" ["bag", "size"] c__law_draw) {c : DC} (len : ∀ β ds Q E, c β ds Q E → ds.length = 2) (h : Keeps (td__law_odd K c__law_of c__law_draw) ["bag", "mine", "word", "spot", "some"] c) : OkD P w K mg base T (k + 1) "_law_odd" ["bag", "mine"] c := by
  obtain ⟨fd, F⟩ := e.d__law_odd
  exact okD_of e.g__law_odd F (F.binds fun _ _ _ _ _ _ us hl => match us, hl with | [_, _], _ => rfl) sc__law_odd (w__law_odd e O__law_of O__law_draw) len h
theorem sc__law_text : FnScope ["word", "text", "letter"] ["word"] (defScope (top 40)) := ⟨rfl, rfl, rfl, by decide +kernel, rfl, by decide +kernel, by decide +kernel⟩
def td__law_text (K : PySem.W.Frag) (β : Addr) : TDS :=
    (ySeq (ySet [] 1 (xC (.str "")))
    (ySeq (yFor [] (xiAny (xVar 0)) (zName 2)
    (ySet [] 1 (xOp dAdd (xOp dAdd (xVar 1) (xC (.str "."))) (xVar 2))))
    (yRet [] (xIf (xTest (xOp (dEq true) (xVar 1) (xC (.str "")))) (xSl (xVar 1) (xPart (xC (.int 1))) xNoPart) (xC (.str "-"))))))
theorem w__law_text {P : Program} {w : World} {K : PySem.W.Frag} {mg : Str → Option Value} {base : Heap} {T : TbL} {k : Nat} (e : En K mg) : BodyD P w K mg base T k "_law_text" (top 40) (He.ga K "_law_text") ["word", "text", "letter"] (td__law_text K) := by
  intro cdv A outer s p E hT hP hcv hr
  have hu := hr.units
  have hu65 := hrU65 (L2H.roomH_of hr)
  have hrN := L2H.roomH_of hr
  exact (dss_cons (ds_set [] 1 sc__law_text.nd d_str)
    (dss_cons (ds_for [] (passes_of rfl) rfl (di_any (d_var 0)) (dg_name 2 sc__law_text.nd)
    (dss_one (ds_set [] 1 sc__law_text.nd (d_add (d_add (d_var 1) d_str) (d_var 2)))))
    (dss_one (ds_ret [] (d_if (dt_ne hu (d_var 1) d_str) (d_slice (d_var 1) (do_some d_int) do_none) d_str)))))
theorem ok__law_text {P : Program} {w : World} {K : PySem.W.Frag} {mg : Str → Option Value} {base : Heap} {T : TbL} {k : Nat} (e : En K mg) {c : DC} (len : ∀ β ds Q E, c β ds Q E → ds.length = 1) (h : Keeps (td__law_text K) ["word", "text", "letter"] c) : OkD P w K mg base T (k + 1) "_law_text" ["word"] c := by
  obtain ⟨fd, F⟩ := e.d__law_text
  exact okD_of e.g__law_text F (F.binds fun _ _ _ _ _ _ us hl => match us, hl with | [_], _ => rfl) sc__law_text (w__law_text e) len h
theorem sc__law_read : FnScope ["mine", "text", "wide", "word", "k", "spot"] ["mine", "text"] (defScope (top 41)) := ⟨rfl, rfl, rfl, by decide +kernel, rfl, by decide +kernel, by decide +kernel⟩
def td__law_read (K : PySem.W.Frag) (β : Addr) : TDS :=
    (ySeq (yIf [] (xTest (xOp (dEq false) (xVar 1) (xC (.str "-"))))
    (yRet [] (xTup xNil))
    yNext)
    (ySeq (ySet [] 2 (xCall dLen (xCons (xOp dIx (xVar 0) (xC (.int 0))) xNil)))
    (ySeq (yIf [] (xTest (xOp (dEq true) (xOp dMod (xCall dInt (xCons (xOp dAdd (xCall dLen (xCons (xVar 1) xNil)) (xC (.int 1))) xNil)) (xOp dAdd (xVar 2) (xC (.int 1)))) (xC (.int 0))))
    (yRet [] (xC .non))
    yNext)
    (ySeq (ySetLstO [] 3 xNil)
    (ySeq (yFor [] (xiRng1 (xCons (xOp dDiv (xOp dAdd (xCall dLen (xCons (xVar 1) xNil)) (xC (.int 1))) (xOp dAdd (xVar 2) (xC (.int 1)))) xNil)) (zName 4)
    (ySeq (ySet [] 5 (xOp dMul (xVar 4) (xOp dAdd (xVar 2) (xC (.int 1)))))
    (ySeq (yIf [] (xOr (xTest (xOp (dInA true) (xSl (xVar 1) (xPart (xVar 5)) (xPart (xOp dAdd (xVar 5) (xVar 2)))) (xVar 0))) (xTest (xOp (dInA true) (xSl (xVar 1) (xPart (xOp dAdd (xVar 5) (xVar 2))) (xPart (xOp dAdd (xOp dAdd (xVar 5) (xVar 2)) (xC (.int 1))))) (xTup (xCons (xC (.str "")) (xCons (xC (.str ".")) xNil))))))
    (yRet [] (xC .non))
    yNext)
    (yOM [] 3 oAppend (xCons (xSl (xVar 1) (xPart (xVar 5)) (xPart (xOp dAdd (xVar 5) (xVar 2)))) xNil)))))
    (yRet [] (xTupO 3)))))))
theorem w__law_read {P : Program} {w : World} {K : PySem.W.Frag} {mg : Str → Option Value} {base : Heap} {T : TbL} {k : Nat} (e : En K mg) : BodyD P w K mg base T k "_law_read" (top 41) (He.ga K "_law_read") ["mine", "text", "wide", "word", "k", "spot"] (td__law_read K) := by
  intro cdv A outer s p E hT hP hcv hr
  have hu := hr.units
  have hu65 := hrU65 (L2H.roomH_of hr)
  have hrN := L2H.roomH_of hr
  exact (dss_cons (ds_if [] (dt_eq hu (d_var 1) d_str)
    (dss_one (ds_ret [] (d_tup da_nil)))
    dss_nil)
    (dss_cons (ds_set [] 2 sc__law_read.nd (d_callB call_len r_len rfl e.f_len bv_len (da_cons (d_ix (fun _ _ => rfl) (d_var 0) d_int) da_nil)))
    (dss_cons (ds_if [] (dt_ne hu (d_mod (d_callTy call_int1 r_int rfl e.f_int bv_int (da_cons (d_add (d_callB call_len r_len rfl e.f_len bv_len (da_cons (d_var 1) da_nil)) d_int) da_nil)) (d_add (d_var 2) d_int)) d_int)
    (dss_one (ds_ret [] d_non))
    dss_nil)
    (dss_cons (ds_setLstO [] 3 sc__law_read.nd da_nil)
    (dss_cons (ds_for [] (passes_of rfl) rfl (di_range1 rfl e.f_range (da_cons (d_div (d_add (d_callB call_len r_len rfl e.f_len bv_len (da_cons (d_var 1) da_nil)) d_int) (d_add (d_var 2) d_int)) da_nil)) (dg_name 4 sc__law_read.nd)
    (dss_cons (ds_set [] 5 sc__law_read.nd (d_mul (d_var 4) (d_add (d_var 2) d_int)))
    (dss_cons (ds_if [] (DW.t (dw_or (dt_notin hu65 (d_slice (d_var 1) (do_some (d_var 5)) (do_some (d_add (d_var 5) (d_var 2)))) (d_var 0)) (dw_or1 (dt_notin hu65 (d_slice (d_var 1) (do_some (d_add (d_var 5) (d_var 2))) (do_some (d_add (d_add (d_var 5) (d_var 2)) d_int))) (d_tup (da_cons d_str (da_cons d_str da_nil)))))))
    (dss_one (ds_ret [] d_non))
    dss_nil)
    (dss_one (ds_append [] 3 (da_cons (d_slice (d_var 1) (do_some (d_var 5)) (do_some (d_add (d_var 5) (d_var 2)))) da_nil))))))
    (dss_one (ds_ret [] (d_tupleO 3 rfl e.f_tuple))))))))
theorem ok__law_read {P : Program} {w : World} {K : PySem.W.Frag} {mg : Str → Option Value} {base : Heap} {T : TbL} {k : Nat} (e : En K mg) {c : DC} (len : ∀ β ds Q E, c β ds Q E → ds.length = 2) (h : Keeps (td__law_read K) ["mine", "text", "wide", "word", "k", "spot"] c) : OkD P w K mg base T (k + 1) "_law_read" ["mine", "text"] c := by
  obtain ⟨fd, F⟩ := e.d__law_read
  exact okD_of e.g__law_read F (F.binds fun _ _ _ _ _ _ us hl => match us, hl with | [_, _], _ => rfl) sc__law_read (w__law_read e) len h
theorem sc__law_read_lot : FnScope ["mine", "text", "words", "sign", "runs", "word"] ["mine", "text"] (defScope (top 42)) := ⟨rfl, rfl, rfl, by decide +kernel, rfl, by decide +kernel, by decide +kernel⟩
def td__law_read_lot (K : PySem.W.Frag) (c__law_read : DC) (β : Addr) : TDS :=
    (ySeq (yIf [] (xTest (xOp (dEq false) (xVar 1) (xC (.str ""))))
    (yRet [] (xLst xNil))
    yNext)
    (ySeq (ySetLstO [] 2 (xCons (xC (.str "")) xNil))
    (ySeq (yFor [] (xiAny (xVar 1)) (zName 3)
    (yIf [] (xTest (xOp (dEq false) (xVar 3) (xC (.str " "))))
    (yOM [] 2 oAppend (xCons (xC (.str "")) xNil))
    (ySetIx [] 2 (xOp dAdd (xIxO 2 (xOp dSub (xLenO 2) (xC (.int 1)))) (xVar 3)) (xOp dSub (xLenO 2) (xC (.int 1))))))
    (ySeq (ySetLc [2] 4 [5] (xiAny (xVar 2)) (zName 5) xYes (xFn β c__law_read (xCons (xVar 0) (xCons (xVar 5) xNil))))
    (yRet [] (xIf (xTest (xOp (dInA false) (xC .non) (xVar 4))) (xC .non) (xVar 4)))))))
theorem w__law_read_lot {P : Program} {w : World} {K : PySem.W.Frag} {mg : Str → Option Value} {base : Heap} {T : TbL} {k : Nat} (e : En K mg) {c__law_read : DC} (O__law_read : OkD P w K mg base T k "_law_read" ["mine", "text"] c__law_read) : BodyD P w K mg base T k "_law_read_lot" (top 42) (He.ga K "_law_read_lot") ["mine", "text", "words", "sign", "runs", "word"] (td__law_read_lot K c__law_read) := by
  intro cdv A outer s p E hT hP hcv hr
  have hu := hr.units
  have hu65 := hrU65 (L2H.roomH_of hr)
  have hrN := L2H.roomH_of hr
  exact (dss_cons (ds_if [] (dt_eq hu (d_var 1) d_str)
    (dss_one (ds_ret [] (d_lst da_nil)))
    dss_nil)
    (dss_cons (ds_setLstO [] 2 sc__law_read_lot.nd (da_cons d_str da_nil))
    (dss_cons (ds_for [] (passes_of rfl) rfl (di_any (d_var 1)) (dg_name 3 sc__law_read_lot.nd)
    (dss_one (ds_if [] (dt_eq hu (d_var 3) d_str)
    (dss_one (ds_append [] 2 (da_cons d_str da_nil)))
    (dss_one (ds_setIx [] 2 (d_add (d_ixO 2 (fun _ _ => rfl) (d_sub (d_lenO 2 rfl e.f_len) d_int)) (d_var 3)) (d_sub (d_lenO 2 rfl e.f_len) d_int))))))
    (dss_cons (ds_setLc [2] 4 [("word", 5)] (by decide) rfl sc__law_read_lot.nd (blkOk_by rfl) (di_any (d_var 2)) (fun s H C cl fp => (dg_name 5 sc__law_read_lot.nd)) (fun s H C cl fp => dts_nil) (fun s H C cl fp => (d_callO O__law_read hT hr takes0 (da_cons (d_var 0) (da_cons (d_var 5) da_nil)))) (sw_true rfl rfl rfl (by decide +kernel)))
    (dss_one (ds_ret [] (d_if (dt_in hu65 d_non (d_var 4)) d_non (d_var 4))))))))
theorem ok__law_read_lot {P : Program} {w : World} {K : PySem.W.Frag} {mg : Str → Option Value} {base : Heap} {T : TbL} {k : Nat} (e : En K mg) {c__law_read : DC} (O__law_read : OkD P w K mg base T k "_law_read" ["mine", "text"] c__law_read) {c : DC} (len : ∀ β ds Q E, c β ds Q E → ds.length = 2) (h : Keeps (td__law_read_lot K c__law_read) ["mine", "text", "words", "sign", "runs", "word"] c) : OkD P w K mg base T (k + 1) "_law_read_lot" ["mine", "text"] c := by
  obtain ⟨fd, F⟩ := e.d__law_read_lot
  exact okD_of e.g__law_read_lot F (F.binds fun _ _ _ _ _ _ us hl => match us, hl with | [_, _], _ => rfl) sc__law_read_lot (w__law_read_lot e O__law_read) len h
theorem sc__law_ahead : FnScope ["mine", "a", "b", "k"] ["mine", "a", "b"] (defScope (top 43)) := ⟨rfl, rfl, rfl, by decide +kernel, rfl, by decide +kernel, by decide +kernel⟩
def td__law_ahead (K : PySem.W.Frag) (β : Addr) : TDS :=
    (ySeq (yIf [] (xTest (xOp (dEq true) (xCall dLen (xCons (xVar 1) xNil)) (xCall dLen (xCons (xVar 2) xNil))))
    (yRet [] (xOp dLt (xCall dLen (xCons (xVar 1) xNil)) (xCall dLen (xCons (xVar 2) xNil))))
    yNext)
    (ySeq (yFor [] (xiRng1 (xCons (xCall dLen (xCons (xVar 1) xNil)) xNil)) (zName 3)
    (yIf [] (xTest (xOp (dEq true) (xOp dIx (xVar 1) (xVar 3)) (xOp dIx (xVar 2) (xVar 3))))
    (yRet [] (xOp dLt (xMeth "list" dIndex (xVar 0) (xCons (xOp dIx (xVar 1) (xVar 3)) xNil)) (xMeth "list" dIndex (xVar 0) (xCons (xOp dIx (xVar 2) (xVar 3)) xNil))))
    yNext))
    (yRet [] (xC (.bl false)))))
theorem w__law_ahead {P : Program} {w : World} {K : PySem.W.Frag} {mg : Str → Option Value} {base : Heap} {T : TbL} {k : Nat} (e : En K mg) : BodyD P w K mg base T k "_law_ahead" (top 43) (He.ga K "_law_ahead") ["mine", "a", "b", "k"] (td__law_ahead K) := by
  intro cdv A outer s p E hT hP hcv hr
  have hu := hr.units
  have hu65 := hrU65 (L2H.roomH_of hr)
  have hrN := L2H.roomH_of hr
  exact (dss_cons (ds_if [] (dt_ne hu (d_callB call_len r_len rfl e.f_len bv_len (da_cons (d_var 1) da_nil)) (d_callB call_len r_len rfl e.f_len bv_len (da_cons (d_var 2) da_nil)))
    (dss_one (ds_ret [] (d_lt (d_callB call_len r_len rfl e.f_len bv_len (da_cons (d_var 1) da_nil)) (d_callB call_len r_len rfl e.f_len bv_len (da_cons (d_var 2) da_nil)))))
    dss_nil)
    (dss_cons (ds_for [] (passes_of rfl) rfl (di_range1 rfl e.f_range (da_cons (d_callB call_len r_len rfl e.f_len bv_len (da_cons (d_var 1) da_nil)) da_nil)) (dg_name 3 sc__law_ahead.nd)
    (dss_one (ds_if [] (dt_ne hu (d_ix (fun _ _ => rfl) (d_var 1) (d_var 3)) (d_ix (fun _ _ => rfl) (d_var 2) (d_var 3)))
    (dss_one (ds_ret [] (d_lt (d_bm PySem.F.plainAttrs_list PySem.F.slot_list_index PySem.F.type_list_index mt_index r_index (d_var 0) (da_cons (d_ix (fun _ _ => rfl) (d_var 1) (d_var 3)) da_nil)) (d_bm PySem.F.plainAttrs_list PySem.F.slot_list_index PySem.F.type_list_index mt_index r_index (d_var 0) (da_cons (d_ix (fun _ _ => rfl) (d_var 2) (d_var 3)) da_nil)))))
    dss_nil)))
    (dss_one (ds_ret [] d_bl))))
theorem ok__law_ahead {P : Program} {w : World} {K : PySem.W.Frag} {mg : Str → Option Value} {base : Heap} {T : TbL} {k : Nat} (e : En K mg) {c : DC} (len : ∀ β ds Q E, c β ds Q E → ds.length = 3) (h : Keeps (td__law_ahead K) ["mine", "a", "b", "k"] c) : OkD P w K mg base T (k + 1) "_law_ahead" ["mine", "a", "b"] c := by
  obtain ⟨fd, F⟩ := e.d__law_ahead
  exact okD_of e.g__law_ahead F (F.binds fun _ _ _ _ _ _ us hl => match us, hl with | [_, _, _], _ => rfl) sc__law_ahead (w__law_ahead e) len h
theorem sc__law_told : FnScope ["mine", "runs", "told", "word", "spot", "some"] ["mine", "runs"] (defScope (top 44)) := ⟨rfl, rfl, rfl, by decide +kernel, rfl, by decide +kernel, by decide +kernel⟩
def td__law_told (K : PySem.W.Frag) (c__law_ahead : DC) (β : Addr) : TDS :=
    (ySeq (ySetLstO [] 2 xNil)
    (ySeq (yFor [] (xiAny (xVar 1)) (zName 3)
    (ySeq (ySet [2] 4 (xCall dLen (xCons (xLcE [5] (xiAny (xVar 2)) (zName 5) (xTru (xFn β c__law_ahead (xCons (xVar 0) (xCons (xVar 5) (xCons (xVar 3) xNil))))) (xVar 5)) xNil)))
    (yIf [] (xTest (xOp (dEq true) (xSlO 2 (xPart (xVar 4)) (xPart (xOp dAdd (xVar 4) (xC (.int 1))))) (xLst (xCons (xVar 3) xNil))))
    (yOM [] 2 oInsert (xCons (xVar 4) (xCons (xVar 3) xNil)))
    yNext)))
    (yRet [2] (xVar 2))))
theorem w__law_told {P : Program} {w : World} {K : PySem.W.Frag} {mg : Str → Option Value} {base : Heap} {T : TbL} {k : Nat} (e : En K mg) {c__law_ahead : DC} (O__law_ahead : OkD P w K mg base T k "_law_ahead" ["mine", "a", "b"] c__law_ahead) : BodyD P w K mg base T k "_law_told" (top 44) (He.ga K "_law_told") ["mine", "runs", "told", "word", "spot", "some"] (td__law_told K c__law_ahead) := by
  intro cdv A outer s p E hT hP hcv hr
  have hu := hr.units
  have hu65 := hrU65 (L2H.roomH_of hr)
  have hrN := L2H.roomH_of hr
  exact (dss_cons (ds_setLstO [] 2 sc__law_told.nd da_nil)
    (dss_cons (ds_for [] (passes_of rfl) rfl (di_any (d_var 1)) (dg_name 3 sc__law_told.nd)
    (dss_cons (ds_set [2] 4 sc__law_told.nd (d_callB call_len r_len rfl e.f_len bv_len (da_cons (d_lc [("some", 5)] (by decide) rfl sc__law_told.nd (blkOk_by rfl) (di_any (d_var 2)) (fun s H C cl fp => (dg_name 5 sc__law_told.nd)) (fun s H C cl fp => (dts_one (dt_truth (he := fun _ => rfl) (d_callO O__law_ahead hT hr takes0 (da_cons (d_var 0) (da_cons (d_var 5) (da_cons (d_var 3) da_nil))))))) (fun s H C cl fp => (d_var 5))) da_nil)))
    (dss_one (ds_if [] (dt_ne hu (d_sliceO 2 (do_some (d_var 4)) (do_some (d_add (d_var 4) d_int))) (d_lst (da_cons (d_var 3) da_nil)))
    (dss_one (ds_om [] 2 PySem.F.slot_list_insert PySem.F.type_list_insert mt_insert r_insert (da_cons (d_var 4) (da_cons (d_var 3) da_nil))))
    dss_nil))))
    (dss_one (ds_ret [2] (d_var 2)))))
theorem ok__law_told {P : Program} {w : World} {K : PySem.W.Frag} {mg : Str → Option Value} {base : Heap} {T : TbL} {k : Nat} (e : En K mg) {c__law_ahead : DC} (O__law_ahead : OkD P w K mg base T k "_law_ahead" ["mine", "a", "b"] c__law_ahead) {c : DC} (len : ∀ β ds Q E, c β ds Q E → ds.length = 2) (h : Keeps (td__law_told K c__law_ahead) ["mine", "runs", "told", "word", "spot", "some"] c) : OkD P w K mg base T (k + 1) "_law_told" ["mine", "runs"] c := by
  obtain ⟨fd, F⟩ := e.d__law_told
  exact okD_of e.g__law_told F (F.binds fun _ _ _ _ _ _ us hl => match us, hl with | [_, _], _ => rfl) sc__law_told (w__law_told e O__law_ahead) len h
theorem sc__law_bent_run : FnScope ["bag", "mine", "word", "spot", "odd"] ["bag", "mine", "word"] (defScope (top 45)) := ⟨rfl, rfl, rfl, by decide +kernel, rfl, by decide +kernel, by decide +kernel⟩
def td__law_bent_run (K : PySem.W.Frag) (c__law_draw : DC) (c__law_odd : DC) (c__law_of : DC) (β : Addr) : TDS :=
    (ySeq (ySet [] 3 (xFn β c__law_draw (xCons (xVar 0) (xCons (xOp dAdd (xCall dLen (xCons (xVar 2) xNil)) (xC (.int 1))) xNil))))
    (ySeq (ySet [] 4 (xFn β c__law_odd (xCons (xVar 0) (xCons (xVar 1) xNil))))
    (yRet [] (xFn β c__law_of (xCons (xVar 0) (xCons (xLst (xCons (xOp dAdd (xOp dAdd (xSl (xVar 2) xNoPart (xPart (xVar 3))) (xTup (xCons (xVar 4) xNil))) (xSl (xVar 2) (xPart (xVar 3)) xNoPart)) (xCons (xOp dAdd (xOp dAdd (xSl (xVar 2) xNoPart (xPart (xVar 3))) (xTup (xCons (xVar 4) xNil))) (xSl (xVar 2) (xPart (xOp dAdd (xVar 3) (xC (.int 1)))) xNoPart)) (xCons (xTup (xCons (xVar 4) xNil)) xNil)))) xNil))))))
theorem w__law_bent_run {P : Program} {w : World} {K : PySem.W.Frag} {mg : Str → Option Value} {base : Heap} {T : TbL} {k : Nat} (e : En K mg) {c__law_draw : DC} (O__law_draw : OkD P w K mg base T k "_law_draw" ["bag", "size"] c__law_draw) {c__law_odd : DC} (O__law_odd : OkD P w K mg base T k "_law_odd" ["bag", "mine"] c__law_odd) {c__law_of : DC} (O__law_of : OkD P w K mg base T k "_law_of" ["bag", "things"] c__law_of) : BodyD P w K mg base T k "_law_bent_run" (top 45) (He.ga K "_law_bent_run") ["bag", "mine", "word", "spot", "odd"] (td__law_bent_run K c__law_draw c__law_odd c__law_of) := by
  intro cdv A outer s p E hT hP hcv hr
  have hu := hr.units
  have hu65 := hrU65 (L2H.roomH_of hr)
  have hrN := L2H.roomH_of hr
  exact (dss_cons (ds_set [] 3 sc__law_bent_run.nd (d_callO O__law_draw hT hr (takes_of rfl rfl rfl rfl) (da_cons (d_var 0) (da_cons (d_add (d_callB call_len r_len rfl e.f_len bv_len (da_cons (d_var 2) da_nil)) d_int) da_nil))))
    (dss_cons (ds_set [] 4 sc__law_bent_run.nd (d_callO O__law_odd hT hr (takes_of rfl rfl rfl rfl) (da_cons (d_var 0) (da_cons (d_var 1) da_nil))))
    (dss_one (ds_ret [] (d_callO O__law_of hT hr (takes_of rfl rfl rfl rfl) (da_cons (d_var 0) (da_cons (d_lst (da_cons (d_add (d_add (d_slice (d_var 2) do_none (do_some (d_var 3))) (d_tup (da_cons (d_var 4) da_nil))) (d_slice (d_var 2) (do_some (d_var 3)) do_none)) (da_cons (d_add (d_add (d_slice (d_var 2) do_none (do_some (d_var 3))) (d_tup (da_cons (d_var 4) da_nil))) (d_slice (d_var 2) (do_some (d_add (d_var 3) d_int)) do_none)) (da_cons (d_tup (da_cons (d_var 4) da_nil)) da_nil)))) da_nil)))))))
theorem ok__law_bent_run {P : Program} {w : World} {K : PySem.W.Frag} {mg : Str → Option Value} {base : Heap} {T : TbL} {k : Nat} (e : En K mg) {c__law_draw : DC} (O__law_draw : OkD P w K mg base T k "_law_draw" ["bag", "size"] c__law_draw) {c__law_odd : DC} (O__law_odd : OkD P w K mg base T k "_law_odd" ["bag", "mine"] c__law_odd) {c__law_of : DC} (O__law_of : OkD P w K mg base T k "_law_of" ["bag", "things"] c__law_of) {c : DC} (len : ∀ β ds Q E, c β ds Q E → ds.length = 3) (h : Keeps (td__law_bent_run K c__law_draw c__law_odd c__law_of) ["bag", "mine", "word", "spot", "odd"] c) : OkD P w K mg base T (k + 1) "_law_bent_run" ["bag", "mine", "word"] c := by
  obtain ⟨fd, F⟩ := e.d__law_bent_run
  exact okD_of e.g__law_bent_run F (F.binds fun _ _ _ _ _ _ us hl => match us, hl with | [_, _, _], _ => rfl) sc__law_bent_run (w__law_bent_run e O__law_draw O__law_odd O__law_of) len h
theorem sc__law_bent_text : FnScope ["bag", "text", "spot", "sign", "some"] ["bag", "text"] (defScope (top 46)) := ⟨rfl, rfl, rfl, by decide +kernel, rfl, by decide +kernel, by decide +kernel⟩
def td__law_bent_text (K : PySem.W.Frag) (c__law_draw : DC) (c__law_of : DC) (β : Addr) : TDS :=
    (ySeq (ySet [] 2 (xFn β c__law_draw (xCons (xVar 0) (xCons (xOp dAdd (xCall dLen (xCons (xVar 1) xNil)) (xC (.int 1))) xNil))))
    (ySeq (ySet [] 3 (xFn β c__law_of (xCons (xVar 0) (xCons (xLst (xCons (xC (.str ".")) (xCons (xC (.str " ")) (xCons (xC (.str "-")) (xCons (xC (.str "0")) (xCons (xC (.str "a")) (xCons (xC (.str "\n")) (xCons (xC (.str "#")) (xCons (xC (.str "..")) (xCons (xC (.str "  ")) xNil)))))))))) xNil))))
    (ySeq (ySet [] 4 (xLst (xCons (xOp dAdd (xOp dAdd (xSl (xVar 1) xNoPart (xPart (xVar 2))) (xVar 3)) (xSl (xVar 1) (xPart (xVar 2)) xNoPart)) (xCons (xOp dAdd (xSl (xVar 1) xNoPart (xPart (xVar 2))) (xSl (xVar 1) (xPart (xOp dAdd (xVar 2) (xC (.int 1)))) xNoPart)) (xCons (xOp dAdd (xOp dAdd (xSl (xVar 1) xNoPart (xPart (xVar 2))) (xVar 3)) (xSl (xVar 1) (xPart (xOp dAdd (xVar 2) (xC (.int 1)))) xNoPart)) xNil)))))
    (yRet [] (xFn β c__law_of (xCons (xVar 0) (xCons (xOp dAdd (xVar 4) (xLst (xCons (xOp dAdd (xVar 1) (xVar 3)) (xCons (xOp dAdd (xVar 3) (xVar 1)) xNil)))) xNil)))))))
theorem w__law_bent_text {P : Program} {w : World} {K : PySem.W.Frag} {mg : Str → Option Value} {base : Heap} {T : TbL} {k : Nat} (e : En K mg) {c__law_draw : DC} (O__law_draw : OkD P w K mg base T k "_law_draw" ["bag", "size"] c__law_draw) {c__law_of : DC} (O__law_of : OkD P w K mg base T k "_law_of" ["bag", "things"] c__law_of) : BodyD P w K mg base T k "_law_bent_text" (top 46) (He.ga K "_law_bent_text") ["bag", "text", "spot", "sign", "some"] (td__law_bent_text K c__law_draw c__law_of) := by
  intro cdv A outer s p E hT hP hcv hr
  have hu := hr.units
  have hu65 := hrU65 (L2H.roomH_of hr)
  have hrN := L2H.roomH_of hr
  exact (dss_cons (ds_set [] 2 sc__law_bent_text.nd (d_callO O__law_draw hT hr (takes_of rfl rfl rfl rfl) (da_cons (d_var 0) (da_cons (d_add (d_callB call_len r_len rfl e.f_len bv_len (da_cons (d_var 1) da_nil)) d_int) da_nil))))
    (dss_cons (ds_set [] 3 sc__law_bent_text.nd (d_callO O__law_of hT hr (takes_of rfl rfl rfl rfl) (da_cons (d_var 0) (da_cons (d_lst (da_cons d_str (da_cons d_str (da_cons d_str (da_cons d_str (da_cons d_str (da_cons d_str (da_cons d_str (da_cons d_str (da_cons d_str da_nil)))))))))) da_nil))))
    (dss_cons (ds_set [] 4 sc__law_bent_text.nd (d_lst (da_cons (d_add (d_add (d_slice (d_var 1) do_none (do_some (d_var 2))) (d_var 3)) (d_slice (d_var 1) (do_some (d_var 2)) do_none)) (da_cons (d_add (d_slice (d_var 1) do_none (do_some (d_var 2))) (d_slice (d_var 1) (do_some (d_add (d_var 2) d_int)) do_none)) (da_cons (d_add (d_add (d_slice (d_var 1) do_none (do_some (d_var 2))) (d_var 3)) (d_slice (d_var 1) (do_some (d_add (d_var 2) d_int)) do_none)) da_nil)))))
    (dss_one (ds_ret [] (d_callO O__law_of hT hr (takes_of rfl rfl rfl rfl) (da_cons (d_var 0) (da_cons (d_add (d_var 4) (d_lst (da_cons (d_add (d_var 1) (d_var 3)) (da_cons (d_add (d_var 3) (d_var 1)) da_nil)))) da_nil))))))))
theorem ok__law_bent_text {P : Program} {w : World} {K : PySem.W.Frag} {mg : Str → Option Value} {base : Heap} {T : TbL} {k : Nat} (e : En K mg) {c__law_draw : DC} (O__law_draw : OkD P w K mg base T k "_law_draw" ["bag", "size"] c__law_draw) {c__law_of : DC} (O__law_of : OkD P w K mg base T k "_law_of" ["bag", "things"] c__law_of) {c : DC} (len : ∀ β ds Q E, c β ds Q E → ds.length = 2) (h : Keeps (td__law_bent_text K c__law_draw c__law_of) ["bag", "text", "spot", "sign", "some"] c) : OkD P w K mg base T (k + 1) "_law_bent_text" ["bag", "text"] c := by
  obtain ⟨fd, F⟩ := e.d__law_bent_text
  exact okD_of e.g__law_bent_text F (F.binds fun _ _ _ _ _ _ us hl => match us, hl with | [_, _], _ => rfl) sc__law_bent_text (w__law_bent_text e O__law_draw O__law_of) len h
theorem sc__law_run_so : FnScope ["bag", "abc", "mine", "word", "text", "due", "bent", "good", "told", "letter"] ["bag", "abc", "mine", "word"] (defScope (top 47)) := ⟨rfl, rfl, rfl, by decide +kernel, rfl, by decide +kernel, by decide +kernel⟩
def td__law_run_so (K : PySem.W.Frag) (c__law_text : DC) (c__law_like : DC) (c_run_key : DC) (c_read_run : DC) (c_run_text : DC) (c_is_run : DC) (c__law_bent_run : DC) (c__law_bent_text : DC) (c__law_read : DC) (ask : AskC) (β : Addr) : TDS :=
    (ySeq (ySet [] 4 (xFn β c__law_text (xCons (xVar 3) xNil)))
    (ySeq (ySet [] 5 (xLst (xCons (xC (.bl true)) (xCons (xVar 4) (xCons (xVar 3) (xCons (xTup (xCons (xCall dLen (xCons (xVar 3) xNil)) (xCons (xCall dTuple (xCons (xLcE [9] (xiAny (xVar 3)) (zName 9) xYes (xMeth "list" dIndex (xVar 2) (xCons (xVar 9) xNil))) xNil)) xNil))) xNil))))))
    (ySeq (yIf [] (xNot (xTru (xFn β c__law_like (xCons (xLst (xCons (xFn β c_is_run (xCons (xVar 1) (xCons (xVar 3) xNil))) (xCons (xFn β c_run_text (xCons (xVar 3) xNil)) (xCons (xFn β c_read_run (xCons (xVar 1) (xCons (xVar 4) xNil))) (xCons (xFn β c_run_key (xCons (xVar 1) (xCons (xVar 3) xNil))) xNil))))) (xCons (xVar 5) xNil)))))
    (yRet [] (xC (.bl false)))
    yNext)
    (ySeq (ySet [] 6 (xFn β c__law_bent_run (xCons (xVar 0) (xCons (xVar 2) (xCons (xVar 3) xNil)))))
    (ySeq (ySet [] 7 (xCall (dAll fun ks => ks.all id) (xCons (xLcE [9] (xiAny (xVar 6)) (zName 9) xYes (xOp (dInA false) (xVar 9) (xVar 2))) xNil)))
    (ySeq (yIf [] (xOr (xNot (xTru (xFn β c__law_like (xCons (xFnK β c_is_run [0, 1] (xLen 2 (xCons (xVar 1) (xCons (xVar 6) xNil)))) (xCons (xVar 7) xNil))))) (xNot (xTru (xFn β c__law_like (xCons (xFnK β c_run_text [0] (xLen 1 (xCons (xVar 3) xNil))) (xCons (xVar 4) xNil))))))
    (yRet [] (xC (.bl false)))
    yNext)
    (ySeq (ySet [] 8 (xLam β ask (xFnK β c_run_key [0, 1] (xLen 2 (xCons (xVar 1) (xCons (xVar 6) xNil))))))
    (ySeq (yIf [] (xNot (xIfT (xTru (xVar 7)) (xTest (xOp (dEq false) (xOp dIx (xVar 8) (xC (.int 0))) (xC (.str "told")))) (xTru (xFn β c__law_like (xCons (xVar 8) (xCons (xLst (xCons (xC (.str "BadRun")) (xCons (xC (.int 0)) xNil))) xNil))))))
    (yRet [] (xC (.bl false)))
    yNext)
    (ySeq (ySet [] 6 (xFn β c__law_bent_text (xCons (xVar 0) (xCons (xVar 4) xNil))))
    (ySeq (ySet [] 5 (xFn β c__law_read (xCons (xVar 2) (xCons (xVar 6) xNil))))
    (yRet [] (xFn β c__law_like (xCons (xLam β ask (xFn β c_read_run (xCons (xVar 1) (xCons (xVar 6) xNil)))) (xCons (xIf (xTest (xIsN false (xVar 5))) (xLst (xCons (xC (.str "BadText")) (xCons (xC (.int 0)) (xCons (xC (.str "form")) xNil)))) (xLst (xCons (xC (.str "told")) (xCons (xVar 5) xNil)))) xNil))))))))))))))
abbrev q__law_run_so : Str := (envOfC "_law_run_so" (defScope (top 47)) 0 0 .none).qual
theorem w__law_run_so {P : Program} {w : World} {K : PySem.W.Frag} {mg : Str → Option Value} {base : Heap} {T : TbL} {k : Nat} (e : En K mg) {c__law_text : DC} (O__law_text : OkD P w K mg base T k "_law_text" ["word"] c__law_text) {c__law_like : DC} (O__law_like : OkD P w K mg base T k "_law_like" ["told", "due"] c__law_like) {c_run_key : DC} (O_run_key : OkD P w K mg base T k "run_key" ["letters", "run"] c_run_key) {c_read_run : DC} (O_read_run : OkD P w K mg base T k "read_run" ["letters", "text"] c_read_run) {c_run_text : DC} (O_run_text : OkD P w K mg base T k "run_text" ["run"] c_run_text) {c_is_run : DC} (O_is_run : OkD P w K mg base T k "is_run" ["letters", "run"] c_is_run) {c__law_bent_run : DC} (O__law_bent_run : OkD P w K mg base T k "_law_bent_run" ["bag", "mine", "word"] c__law_bent_run) {c__law_bent_text : DC} (O__law_bent_text : OkD P w K mg base T k "_law_bent_text" ["bag", "text"] c__law_bent_text) {c__law_read : DC} (O__law_read : OkD P w K mg base T k "_law_read" ["mine", "text"] c__law_read) (OK_run_text_0_run : OkK P w K mg base T k "run_text" ["run"] c_run_text 0 ["run"] [0]) (OK_is_run_0_letters_run : OkK P w K mg base T k "is_run" ["letters", "run"] c_is_run 0 ["letters", "run"] [0, 1]) (OK_run_key_0_letters_run : OkK P w K mg base T k "run_key" ["letters", "run"] c_run_key 0 ["letters", "run"] [0, 1]) {ask : AskC} {cf : DC} (O__law_fault : OkN P w K mg base T (k + 1) "_law_fault" ["error"] cf) (hask : ∀ (β f : Addr) (c : LC) (Qd : QD), ask β c Qd → td_ask K cf β f c { nx := fun _ => Qd .non, rt := Qd } (startD 2 [.adr f])) (hM : ∀ cdv, codeV K (He.ga K "_law_run_so") = cdv → LMk K mg base T cdv q__law_run_so) : BodyD P w K mg base T (k + 2) "_law_run_so" (top 47) (He.ga K "_law_run_so") ["bag", "abc", "mine", "word", "text", "due", "bent", "good", "told", "letter"] (td__law_run_so K c__law_text c__law_like c_run_key c_read_run c_run_text c_is_run c__law_bent_run c__law_bent_text c__law_read ask) := by
  intro cdv A outer s p E hT hP hcv hr
  have hu := hr.units
  have hu65 := hrU65 (L2H.roomH_of hr)
  have hrN := L2H.roomH_of hr
  have hr1 := hr.mono (Nat.le_add_right k 2)
  obtain ⟨cL, PL, rfl, TB, hm, hq⟩ := hM _ hcv
  obtain ⟨fdA, FA⟩ := e.d__law_ask
  exact (dss_cons (ds_set [] 4 sc__law_run_so.nd (d_callO O__law_text hT hr1 (takes_of rfl rfl rfl rfl) (da_cons (d_var 3) da_nil)))
    (dss_cons (ds_set [] 5 sc__law_run_so.nd (d_lst (da_cons d_bl (da_cons (d_var 4) (da_cons (d_var 3) (da_cons (d_tup (da_cons (d_callB call_len r_len rfl e.f_len bv_len (da_cons (d_var 3) da_nil)) (da_cons (d_callTy call_tuple_of r_tuple rfl e.f_tuple bv_tuple (da_cons (d_lc [("letter", 9)] (by decide) rfl sc__law_run_so.nd (blkOk_by rfl) (di_any (d_var 3)) (fun s H C cl fp => (dg_name 9 sc__law_run_so.nd)) (fun s H C cl fp => dts_nil) (fun s H C cl fp => (d_bm PySem.F.plainAttrs_list PySem.F.slot_list_index PySem.F.type_list_index mt_index r_index (d_var 2) (da_cons (d_var 9) da_nil)))) da_nil)) da_nil))) da_nil))))))
    (dss_cons (ds_if [] (dt_not (dt_truth (he := fun _ => rfl) (d_callO O__law_like hT hr1 (takes_of rfl rfl rfl rfl) (da_cons (d_lst (da_cons (d_callO O_is_run hT hr1 (takes_of rfl rfl rfl rfl) (da_cons (d_var 1) (da_cons (d_var 3) da_nil))) (da_cons (d_callO O_run_text hT hr1 (takes_of rfl rfl rfl rfl) (da_cons (d_var 3) da_nil)) (da_cons (d_callO O_read_run hT hr1 (takes_of rfl rfl rfl rfl) (da_cons (d_var 1) (da_cons (d_var 4) da_nil))) (da_cons (d_callO O_run_key hT hr1 (takes_of rfl rfl rfl rfl) (da_cons (d_var 1) (da_cons (d_var 3) da_nil))) da_nil))))) (da_cons (d_var 5) da_nil)))))
    (dss_one (ds_ret [] d_bl))
    dss_nil)
    (dss_cons (ds_set [] 6 sc__law_run_so.nd (d_callO O__law_bent_run hT hr1 (takes_of rfl rfl rfl rfl) (da_cons (d_var 0) (da_cons (d_var 2) (da_cons (d_var 3) da_nil)))))
    (dss_cons (ds_set [] 7 sc__law_run_so.nd (d_callB (cr_all rfl) r_all rfl e.f_all bv_all (da_cons (d_lc [("letter", 9)] (by decide) rfl sc__law_run_so.nd (blkOk_by rfl) (di_any (d_var 6)) (fun s H C cl fp => (dg_name 9 sc__law_run_so.nd)) (fun s H C cl fp => dts_nil) (fun s H C cl fp => (d_in hu65 (d_var 9) (d_var 2)))) da_nil)))
    (dss_cons (ds_if [] (DW.t (dw_or (dt_not (dt_truth (he := fun _ => rfl) (d_callO O__law_like hT hr1 (takes_of rfl rfl rfl rfl) (da_cons (d_callKw OK_is_run_0_letters_run hT hr1 (takes_of rfl rfl rfl rfl) (mk_kw (ks := ["letters", "run"]) (dk_cons (d_var 1) (dk_cons (d_var 6) dk_nil)))) (da_cons (d_var 7) da_nil))))) (dw_or1 (dt_not (dt_truth (he := fun _ => rfl) (d_callO O__law_like hT hr1 (takes_of rfl rfl rfl rfl) (da_cons (d_callKw OK_run_text_0_run hT hr1 (takes_of rfl rfl rfl rfl) (mk_kw (ks := ["run"]) (dk_cons (d_var 3) dk_nil))) (da_cons (d_var 4) da_nil))))))))
    (dss_one (ds_ret [] d_bl))
    dss_nil)
    (dss_cons (ds_set [] 8 sc__law_run_so.nd (d_lam hT e.g__law_ask FA (FA.binds fun _ _ _ _ _ _ us hl => match us, hl with | [_], _ => rfl) sc__law_ask rfl (.inl rfl) (fun cdv' _ => g__law_ask e O__law_fault hask) TB rfl hm hq hr (LamX.lamS_by (show LamX.lamSB (defScope (top 47)) _ = true by decide +kernel)) rfl (fun _ _ _ _ _ => rfl) (fun _ _ _ _ _ _ _ hrL => (d_callKw OK_run_key_0_letters_run hT hrL (takes_of rfl rfl rfl rfl) (mk_kw (ks := ["letters", "run"]) (dk_cons (d_var 1) (dk_cons (d_var 6) dk_nil)))))))
    (dss_cons (ds_if [] (dt_not (dt_ifT (dt_truth (he := fun _ => rfl) (d_var 7)) (dt_eq hu (d_ix (fun _ _ => rfl) (d_var 8) d_int) d_str) (dt_truth (he := fun _ => rfl) (d_callO O__law_like hT hr1 (takes_of rfl rfl rfl rfl) (da_cons (d_var 8) (da_cons (d_lst (da_cons d_str (da_cons d_int da_nil))) da_nil))))))
    (dss_one (ds_ret [] d_bl))
    dss_nil)
    (dss_cons (ds_set [] 6 sc__law_run_so.nd (d_callO O__law_bent_text hT hr1 (takes_of rfl rfl rfl rfl) (da_cons (d_var 0) (da_cons (d_var 4) da_nil))))
    (dss_cons (ds_set [] 5 sc__law_run_so.nd (d_callO O__law_read hT hr1 (takes_of rfl rfl rfl rfl) (da_cons (d_var 2) (da_cons (d_var 6) da_nil))))
    (dss_one (ds_ret [] (d_callO O__law_like hT hr1 (takes_of rfl rfl rfl rfl) (da_cons (d_lam hT e.g__law_ask FA (FA.binds fun _ _ _ _ _ _ us hl => match us, hl with | [_], _ => rfl) sc__law_ask rfl (.inl rfl) (fun cdv' _ => g__law_ask e O__law_fault hask) TB rfl hm hq hr (LamX.lamS_by (show LamX.lamSB (defScope (top 47)) _ = true by decide +kernel)) rfl (fun _ _ _ _ _ => rfl) (fun _ _ _ _ _ _ _ hrL => (d_callO O_read_run hT hrL (takes_of rfl rfl rfl rfl) (da_cons (d_var 1) (da_cons (d_var 6) da_nil))))) (da_cons (d_if (dt_isN (d_var 5)) (d_lst (da_cons d_str (da_cons d_int (da_cons d_str da_nil)))) (d_lst (da_cons d_str (da_cons (d_var 5) da_nil)))) da_nil)))))))))))))))
theorem ok__law_run_so {P : Program} {w : World} {K : PySem.W.Frag} {mg : Str → Option Value} {base : Heap} {T : TbL} {k : Nat} (e : En K mg) {c__law_text : DC} (O__law_text : OkD P w K mg base T k "_law_text" ["word"] c__law_text) {c__law_like : DC} (O__law_like : OkD P w K mg base T k "_law_like" ["told", "due"] c__law_like) {c_run_key : DC} (O_run_key : OkD P w K mg base T k "run_key" ["letters", "run"] c_run_key) {c_read_run : DC} (O_read_run : OkD P w K mg base T k "read_run" ["letters", "text"] c_read_run) {c_run_text : DC} (O_run_text : OkD P w K mg base T k "run_text" ["run"] c_run_text) {c_is_run : DC} (O_is_run : OkD P w K mg base T k "is_run" ["letters", "run"] c_is_run) {c__law_bent_run : DC} (O__law_bent_run : OkD P w K mg base T k "_law_bent_run" ["bag", "mine", "word"] c__law_bent_run) {c__law_bent_text : DC} (O__law_bent_text : OkD P w K mg base T k "_law_bent_text" ["bag", "text"] c__law_bent_text) {c__law_read : DC} (O__law_read : OkD P w K mg base T k "_law_read" ["mine", "text"] c__law_read) (OK_run_text_0_run : OkK P w K mg base T k "run_text" ["run"] c_run_text 0 ["run"] [0]) (OK_is_run_0_letters_run : OkK P w K mg base T k "is_run" ["letters", "run"] c_is_run 0 ["letters", "run"] [0, 1]) (OK_run_key_0_letters_run : OkK P w K mg base T k "run_key" ["letters", "run"] c_run_key 0 ["letters", "run"] [0, 1]) {ask : AskC} {cf : DC} (O__law_fault : OkN P w K mg base T (k + 1) "_law_fault" ["error"] cf) (hask : ∀ (β f : Addr) (c : LC) (Qd : QD), ask β c Qd → td_ask K cf β f c { nx := fun _ => Qd .non, rt := Qd } (startD 2 [.adr f])) (hM : ∀ cdv, codeV K (He.ga K "_law_run_so") = cdv → LMk K mg base T cdv q__law_run_so) {c : DC} (len : ∀ β ds Q E, c β ds Q E → ds.length = 4) (h : Keeps (td__law_run_so K c__law_text c__law_like c_run_key c_read_run c_run_text c_is_run c__law_bent_run c__law_bent_text c__law_read ask) ["bag", "abc", "mine", "word", "text", "due", "bent", "good", "told", "letter"] c) : OkD P w K mg base T ((k + 2) + 1) "_law_run_so" ["bag", "abc", "mine", "word"] c := by
  obtain ⟨fd, F⟩ := e.d__law_run_so
  exact okD_of e.g__law_run_so F (F.binds fun _ _ _ _ _ _ us hl => match us, hl with | [_, _, _, _], _ => rfl) sc__law_run_so (w__law_run_so e O__law_text O__law_like O_run_key O_read_run O_run_text O_is_run O__law_bent_run O__law_bent_text O__law_read OK_run_text_0_run OK_is_run_0_letters_run OK_run_key_0_letters_run O__law_fault hask hM) len h
theorem sc__law_lot_so : FnScope ["bag", "abc", "mine", "runs", "due", "kept", "told", "text", "loose", "k", "bent", "new", "want", "word"] ["bag", "abc", "mine", "runs"] (defScope (top 48)) := ⟨rfl, rfl, rfl, by decide +kernel, rfl, by decide +kernel, by decide +kernel⟩
def td__law_lot_so (K : PySem.W.Frag) (c__law_told : DC) (c__law_like : DC) (c_told_lot : DC) (c__law_text : DC) (c_lot_text : DC) (c_read_lot : DC) (c__law_bent_text : DC) (c__law_of : DC) (c__law_read_lot : DC) (o_told_lot : OC) (ask : AskC) (β : Addr) : TDS :=
    (ySeq (ySet [] 4 (xFn β c__law_told (xCons (xVar 2) (xCons (xVar 3) xNil))))
    (ySeq (ySet [] 5 (xCall dTuple (xCons (xVar 3) xNil)))
    (ySeq (ySetO [] 6 (oFn β o_told_lot (xCons (xVar 1) (xCons (xVar 3) xNil))))
    (ySeq (yIf [6] (xOr (xNot (xTru (xFn β c__law_like (xCons (xVar 6) (xCons (xVar 4) xNil))))) (xOr (xTest (xOp (dEq true) (xCall dTuple (xCons (xVar 3) xNil)) (xVar 5))) (xNot (xTru (xFn β c__law_like (xCons (xFnK β c_told_lot [0, 1] (xLen 2 (xCons (xVar 1) (xCons (xCall dTuple (xCons (xVar 3) xNil)) xNil)))) (xCons (xVar 4) xNil)))))))
    (yRet [] (xC (.bl false)))
    yNext)
    (ySeq (yOM [] 6 oAppend (xCons (xTup (xCons (xC (.str "odd")) xNil)) xNil))
    (ySeq (yOM0 6 oReverse)
    (ySeq (yIf [] (xNot (xTru (xFn β c__law_like (xCons (xLst (xCons (xFn β c_told_lot (xCons (xVar 1) (xCons (xVar 4) xNil))) (xCons (xFn β c_told_lot (xCons (xVar 1) (xCons (xVar 3) xNil))) xNil))) (xCons (xLst (xCons (xVar 4) (xCons (xVar 4) xNil))) xNil)))))
    (yRet [] (xC (.bl false)))
    yNext)
    (ySeq (ySet [] 7 (xMeth "str" dJoin (xC (.str " ")) (xCons (xLcE [13] (xiAny (xVar 4)) (zName 13) xYes (xFn β c__law_text (xCons (xVar 13) xNil))) xNil)))
    (ySeq (yIf [] (xNot (xTru (xFn β c__law_like (xCons (xLst (xCons (xFn β c_lot_text (xCons (xVar 1) (xCons (xVar 3) xNil))) (xCons (xFn β c_lot_text (xCons (xVar 1) (xCons (xCall dTuple (xCons (xVar 4) xNil)) xNil))) xNil))) (xCons (xLst (xCons (xVar 7) (xCons (xVar 7) xNil))) xNil)))))
    (yRet [] (xC (.bl false)))
    yNext)
    (ySeq (ySet [] 8 (xMeth "str" dJoin (xC (.str " ")) (xCons (xLcE [13] (xiAny (xVar 3)) (zName 13) xYes (xFn β c__law_text (xCons (xVar 13) xNil))) xNil)))
    (ySeq (yIf [] (xNot (xTru (xFn β c__law_like (xCons (xLst (xCons (xFn β c_read_lot (xCons (xVar 1) (xCons (xVar 7) xNil))) (xCons (xFn β c_read_lot (xCons (xVar 1) (xCons (xVar 8) xNil))) xNil))) (xCons (xLst (xCons (xVar 4) (xCons (xVar 4) xNil))) xNil)))))
    (yRet [] (xC (.bl false)))
    yNext)
    (ySeq (yFor [] (xiRng1 (xCons (xC (.int 3)) xNil)) (zName 9)
    (ySeq (ySet [] 10 (xFn β c__law_bent_text (xCons (xVar 0) (xCons (xFn β c__law_of (xCons (xVar 0) (xCons (xLst (xCons (xVar 7) (xCons (xVar 8) xNil))) xNil))) xNil))))
    (ySeq (ySet [] 11 (xFn β c__law_read_lot (xCons (xVar 2) (xCons (xVar 10) xNil))))
    (ySeq (ySet [] 12 (xIf (xTest (xIsN false (xVar 11))) (xLst (xCons (xC (.str "BadText")) (xCons (xC (.int 0)) (xCons (xC (.str "form")) xNil)))) (xLst (xCons (xC (.str "told")) (xCons (xFn β c__law_told (xCons (xVar 2) (xCons (xVar 11) xNil))) xNil)))))
    (yIf [] (xNot (xTru (xFn β c__law_like (xCons (xLam β ask (xFn β c_read_lot (xCons (xVar 1) (xCons (xVar 10) xNil)))) (xCons (xVar 12) xNil)))))
    (yRet [] (xC (.bl false)))
    yNext)))))
    (yRet [] (xC (.bl true)))))))))))))))
abbrev q__law_lot_so : Str := (envOfC "_law_lot_so" (defScope (top 48)) 0 0 .none).qual
theorem w__law_lot_so {P : Program} {w : World} {K : PySem.W.Frag} {mg : Str → Option Value} {base : Heap} {T : TbL} {k : Nat} (e : En K mg) {c__law_told : DC} (O__law_told : OkD P w K mg base T k "_law_told" ["mine", "runs"] c__law_told) {c__law_like : DC} (O__law_like : OkD P w K mg base T k "_law_like" ["told", "due"] c__law_like) {c_told_lot : DC} (O_told_lot : OkD P w K mg base T k "told_lot" ["letters", "lot"] c_told_lot) {c__law_text : DC} (O__law_text : OkD P w K mg base T k "_law_text" ["word"] c__law_text) {c_lot_text : DC} (O_lot_text : OkD P w K mg base T k "lot_text" ["letters", "lot"] c_lot_text) {c_read_lot : DC} (O_read_lot : OkD P w K mg base T k "read_lot" ["letters", "text"] c_read_lot) {c__law_bent_text : DC} (O__law_bent_text : OkD P w K mg base T k "_law_bent_text" ["bag", "text"] c__law_bent_text) {c__law_of : DC} (O__law_of : OkD P w K mg base T k "_law_of" ["bag", "things"] c__law_of) {c__law_read_lot : DC} (O__law_read_lot : OkD P w K mg base T k "_law_read_lot" ["mine", "text"] c__law_read_lot) (OK_told_lot_0_letters_lot : OkK P w K mg base T k "told_lot" ["letters", "lot"] c_told_lot 0 ["letters", "lot"] [0, 1]) {o_told_lot : OC} (P_told_lot : OkO P w K mg base T k "told_lot" ["letters", "lot"] o_told_lot) {ask : AskC} {cf : DC} (O__law_fault : OkN P w K mg base T (k + 1) "_law_fault" ["error"] cf) (hask : ∀ (β f : Addr) (c : LC) (Qd : QD), ask β c Qd → td_ask K cf β f c { nx := fun _ => Qd .non, rt := Qd } (startD 2 [.adr f])) (hM : ∀ cdv, codeV K (He.ga K "_law_lot_so") = cdv → LMk K mg base T cdv q__law_lot_so) : BodyD P w K mg base T (k + 2) "_law_lot_so" (top 48) (He.ga K "_law_lot_so") ["bag", "abc", "mine", "runs", "due", "kept", "told", "text", "loose", "k", "bent", "new", "want", "word"] (td__law_lot_so K c__law_told c__law_like c_told_lot c__law_text c_lot_text c_read_lot c__law_bent_text c__law_of c__law_read_lot o_told_lot ask) := by
  intro cdv A outer s p E hT hP hcv hr
  have hu := hr.units
  have hu65 := hrU65 (L2H.roomH_of hr)
  have hrN := L2H.roomH_of hr
  have hr1 := hr.mono (Nat.le_add_right k 2)
  obtain ⟨cL, PL, rfl, TB, hm, hq⟩ := hM _ hcv
  obtain ⟨fdA, FA⟩ := e.d__law_ask
  exact (dss_cons (ds_set [] 4 sc__law_lot_so.nd (d_callO O__law_told hT hr1 (takes_of rfl rfl rfl rfl) (da_cons (d_var 2) (da_cons (d_var 3) da_nil))))
    (dss_cons (ds_set [] 5 sc__law_lot_so.nd (d_callTy call_tuple_of r_tuple rfl e.f_tuple bv_tuple (da_cons (d_var 3) da_nil)))
    (dss_cons (ds_setO [] 6 sc__law_lot_so.nd (deo_call P_told_lot hT hr1 (takes_of rfl rfl rfl rfl) (da_cons (d_var 1) (da_cons (d_var 3) da_nil))))
    (dss_cons (ds_if [6] (DW.t (dw_or (dt_not (dt_truth (he := fun _ => rfl) (d_callO O__law_like hT hr1 (takes_of rfl rfl rfl rfl) (da_cons (d_var 6) (da_cons (d_var 4) da_nil))))) (dw_or (dt_ne hu (d_callTy call_tuple_of r_tuple rfl e.f_tuple bv_tuple (da_cons (d_var 3) da_nil)) (d_var 5)) (dw_or1 (dt_not (dt_truth (he := fun _ => rfl) (d_callO O__law_like hT hr1 (takes_of rfl rfl rfl rfl) (da_cons (d_callKw OK_told_lot_0_letters_lot hT hr1 (takes_of rfl rfl rfl rfl) (mk_kw (ks := ["letters", "lot"]) (dk_cons (d_var 1) (dk_cons (d_callTy call_tuple_of r_tuple rfl e.f_tuple bv_tuple (da_cons (d_var 3) da_nil)) dk_nil)))) (da_cons (d_var 4) da_nil)))))))))
    (dss_one (ds_ret [] d_bl))
    dss_nil)
    (dss_cons (ds_append [] 6 (da_cons (d_tup (da_cons d_str da_nil)) da_nil))
    (dss_cons (ds_om0 6 PySem.F.slot_list_reverse PySem.F.type_list_reverse mt_reverse r_reverse)
    (dss_cons (ds_if [] (dt_not (dt_truth (he := fun _ => rfl) (d_callO O__law_like hT hr1 (takes_of rfl rfl rfl rfl) (da_cons (d_lst (da_cons (d_callO O_told_lot hT hr1 (takes_of rfl rfl rfl rfl) (da_cons (d_var 1) (da_cons (d_var 4) da_nil))) (da_cons (d_callO O_told_lot hT hr1 (takes_of rfl rfl rfl rfl) (da_cons (d_var 1) (da_cons (d_var 3) da_nil))) da_nil))) (da_cons (d_lst (da_cons (d_var 4) (da_cons (d_var 4) da_nil))) da_nil)))))
    (dss_one (ds_ret [] d_bl))
    dss_nil)
    (dss_cons (ds_set [] 7 sc__law_lot_so.nd (d_bm PySem.F.plainAttrs_str PySem.F.slot_str_join PySem.F.type_str_join mt_join r_join d_str (da_cons (d_lc [("word", 13)] (by decide) rfl sc__law_lot_so.nd (blkOk_by rfl) (di_any (d_var 4)) (fun s H C cl fp => (dg_name 13 sc__law_lot_so.nd)) (fun s H C cl fp => dts_nil) (fun s H C cl fp => (d_callO O__law_text hT hr1 takes0 (da_cons (d_var 13) da_nil)))) da_nil)))
    (dss_cons (ds_if [] (dt_not (dt_truth (he := fun _ => rfl) (d_callO O__law_like hT hr1 (takes_of rfl rfl rfl rfl) (da_cons (d_lst (da_cons (d_callO O_lot_text hT hr1 (takes_of rfl rfl rfl rfl) (da_cons (d_var 1) (da_cons (d_var 3) da_nil))) (da_cons (d_callO O_lot_text hT hr1 (takes_of rfl rfl rfl rfl) (da_cons (d_var 1) (da_cons (d_callTy call_tuple_of r_tuple rfl e.f_tuple bv_tuple (da_cons (d_var 4) da_nil)) da_nil))) da_nil))) (da_cons (d_lst (da_cons (d_var 7) (da_cons (d_var 7) da_nil))) da_nil)))))
    (dss_one (ds_ret [] d_bl))
    dss_nil)
    (dss_cons (ds_set [] 8 sc__law_lot_so.nd (d_bm PySem.F.plainAttrs_str PySem.F.slot_str_join PySem.F.type_str_join mt_join r_join d_str (da_cons (d_lc [("word", 13)] (by decide) rfl sc__law_lot_so.nd (blkOk_by rfl) (di_any (d_var 3)) (fun s H C cl fp => (dg_name 13 sc__law_lot_so.nd)) (fun s H C cl fp => dts_nil) (fun s H C cl fp => (d_callO O__law_text hT hr1 takes0 (da_cons (d_var 13) da_nil)))) da_nil)))
    (dss_cons (ds_if [] (dt_not (dt_truth (he := fun _ => rfl) (d_callO O__law_like hT hr1 (takes_of rfl rfl rfl rfl) (da_cons (d_lst (da_cons (d_callO O_read_lot hT hr1 (takes_of rfl rfl rfl rfl) (da_cons (d_var 1) (da_cons (d_var 7) da_nil))) (da_cons (d_callO O_read_lot hT hr1 (takes_of rfl rfl rfl rfl) (da_cons (d_var 1) (da_cons (d_var 8) da_nil))) da_nil))) (da_cons (d_lst (da_cons (d_var 4) (da_cons (d_var 4) da_nil))) da_nil)))))
    (dss_one (ds_ret [] d_bl))
    dss_nil)
    (dss_cons (ds_for [] (passes_of rfl) rfl (di_range1 rfl e.f_range (da_cons d_int da_nil)) (dg_name 9 sc__law_lot_so.nd)
    (dss_cons (ds_set [] 10 sc__law_lot_so.nd (d_callO O__law_bent_text hT hr1 (takes_of rfl rfl rfl rfl) (da_cons (d_var 0) (da_cons (d_callO O__law_of hT hr1 (takes_of rfl rfl rfl rfl) (da_cons (d_var 0) (da_cons (d_lst (da_cons (d_var 7) (da_cons (d_var 8) da_nil))) da_nil))) da_nil))))
    (dss_cons (ds_set [] 11 sc__law_lot_so.nd (d_callO O__law_read_lot hT hr1 (takes_of rfl rfl rfl rfl) (da_cons (d_var 2) (da_cons (d_var 10) da_nil))))
    (dss_cons (ds_set [] 12 sc__law_lot_so.nd (d_if (dt_isN (d_var 11)) (d_lst (da_cons d_str (da_cons d_int (da_cons d_str da_nil)))) (d_lst (da_cons d_str (da_cons (d_callO O__law_told hT hr1 (takes_of rfl rfl rfl rfl) (da_cons (d_var 2) (da_cons (d_var 11) da_nil))) da_nil)))))
    (dss_one (ds_if [] (dt_not (dt_truth (he := fun _ => rfl) (d_callO O__law_like hT hr1 (takes_of rfl rfl rfl rfl) (da_cons (d_lam hT e.g__law_ask FA (FA.binds fun _ _ _ _ _ _ us hl => match us, hl with | [_], _ => rfl) sc__law_ask rfl (.inl rfl) (fun cdv' _ => g__law_ask e O__law_fault hask) TB rfl hm hq hr (LamX.lamS_by (show LamX.lamSB (defScope (top 48)) _ = true by decide +kernel)) rfl (fun _ _ _ _ _ => rfl) (fun _ _ _ _ _ _ _ hrL => (d_callO O_read_lot hT hrL (takes_of rfl rfl rfl rfl) (da_cons (d_var 1) (da_cons (d_var 10) da_nil))))) (da_cons (d_var 12) da_nil)))))
    (dss_one (ds_ret [] d_bl))
    dss_nil))))))
    (dss_one (ds_ret [] d_bl))))))))))))))
theorem ok__law_lot_so {P : Program} {w : World} {K : PySem.W.Frag} {mg : Str → Option Value} {base : Heap} {T : TbL} {k : Nat} (e : En K mg) {c__law_told : DC} (O__law_told : OkD P w K mg base T k "_law_told" ["mine", "runs"] c__law_told) {c__law_like : DC} (O__law_like : OkD P w K mg base T k "_law_like" ["told", "due"] c__law_like) {c_told_lot : DC} (O_told_lot : OkD P w K mg base T k "told_lot" ["letters", "lot"] c_told_lot) {c__law_text : DC} (O__law_text : OkD P w K mg base T k "_law_text" ["word"] c__law_text) {c_lot_text : DC} (O_lot_text : OkD P w K mg base T k "lot_text" ["letters", "lot"] c_lot_text) {c_read_lot : DC} (O_read_lot : OkD P w K mg base T k "read_lot" ["letters", "text"] c_read_lot) {c__law_bent_text : DC} (O__law_bent_text : OkD P w K mg base T k "_law_bent_text" ["bag", "text"] c__law_bent_text) {c__law_of : DC} (O__law_of : OkD P w K mg base T k "_law_of" ["bag", "things"] c__law_of) {c__law_read_lot : DC} (O__law_read_lot : OkD P w K mg base T k "_law_read_lot" ["mine", "text"] c__law_read_lot) (OK_told_lot_0_letters_lot : OkK P w K mg base T k "told_lot" ["letters", "lot"] c_told_lot 0 ["letters", "lot"] [0, 1]) {o_told_lot : OC} (P_told_lot : OkO P w K mg base T k "told_lot" ["letters", "lot"] o_told_lot) {ask : AskC} {cf : DC} (O__law_fault : OkN P w K mg base T (k + 1) "_law_fault" ["error"] cf) (hask : ∀ (β f : Addr) (c : LC) (Qd : QD), ask β c Qd → td_ask K cf β f c { nx := fun _ => Qd .non, rt := Qd } (startD 2 [.adr f])) (hM : ∀ cdv, codeV K (He.ga K "_law_lot_so") = cdv → LMk K mg base T cdv q__law_lot_so) {c : DC} (len : ∀ β ds Q E, c β ds Q E → ds.length = 4) (h : Keeps (td__law_lot_so K c__law_told c__law_like c_told_lot c__law_text c_lot_text c_read_lot c__law_bent_text c__law_of c__law_read_lot o_told_lot ask) ["bag", "abc", "mine", "runs", "due", "kept", "told", "text", "loose", "k", "bent", "new", "want", "word"] c) : OkD P w K mg base T ((k + 2) + 1) "_law_lot_so" ["bag", "abc", "mine", "runs"] c := by
  obtain ⟨fd, F⟩ := e.d__law_lot_so
  exact okD_of e.g__law_lot_so F (F.binds fun _ _ _ _ _ _ us hl => match us, hl with | [_, _, _, _], _ => rfl) sc__law_lot_so (w__law_lot_so e O__law_told O__law_like O_told_lot O__law_text O_lot_text O_read_lot O__law_bent_text O__law_of O__law_read_lot OK_told_lot_0_letters_lot P_told_lot O__law_fault hask hM) len h
theorem sc__law_wrong_so : FnScope ["bag", "abc", "mine", "runs", "some", "k", "spot", "bad", "due", "text", "want", "letter", "word"] ["bag", "abc", "mine", "runs"] (defScope (top 49)) := ⟨rfl, rfl, rfl, by decide +kernel, rfl, by decide +kernel, by decide +kernel⟩
def td__law_wrong_so (K : PySem.W.Frag) (c__law_draw : DC) (c__law_bent_run : DC) (c__law_run : DC) (c__law_told : DC) (c__law_text : DC) (c__law_like : DC) (c_told_lot : DC) (c_lot_text : DC) (ask : AskC) (β : Addr) : TDS :=
    (ySeq (ySetListO [] 4 (xCons (xVar 3) xNil))
    (ySeq (yFor [] (xiRng1 (xCons (xOp dAdd (xC (.int 1)) (xFn β c__law_draw (xCons (xVar 0) (xCons (xC (.int 2)) xNil)))) xNil)) (zName 5)
    (ySeq (ySet [] 6 (xFn β c__law_draw (xCons (xVar 0) (xCons (xOp dAdd (xLenO 4) (xC (.int 1))) xNil))))
    (yOM [] 4 oInsert (xCons (xVar 6) (xCons (xFn β c__law_bent_run (xCons (xVar 0) (xCons (xVar 2) (xCons (xFn β c__law_run (xCons (xVar 0) (xCons (xVar 2) (xCons (xC (.int 2)) xNil)))) xNil)))) xNil)))))
    (ySeq (ySetLc [] 7 [5] (xiRng1 (xCons (xLenO 4) xNil)) (zName 5) (xNot (xTru (xCall (dAll fun ks => ks.all id) (xCons (xLcE [11] (xiAny (xIxO 4 (xVar 5))) (zName 11) xYes (xOp (dInA false) (xVar 11) (xVar 2))) xNil)))) (xVar 5))
    (ySeq (ySet [4] 8 (xIf (xTest (xOp (dEq false) (xVar 7) (xLst xNil))) (xFn β c__law_told (xCons (xVar 2) (xCons (xVar 4) xNil))) (xLst xNil)))
    (ySeq (ySet [] 9 (xMeth "str" dJoin (xC (.str " ")) (xCons (xLcE [12] (xiAny (xVar 8)) (zName 12) xYes (xFn β c__law_text (xCons (xVar 12) xNil))) xNil)))
    (ySeq (ySet [] 10 (xIf (xTest (xOp (dEq true) (xVar 7) (xLst xNil))) (xLst (xCons (xC (.str "BadRun")) (xCons (xOp dIx (xVar 7) (xC (.int 0))) xNil))) (xLst (xCons (xC (.str "told")) (xCons (xVar 8) xNil)))))
    (ySeq (yIf [] (xNot (xTru (xFn β c__law_like (xCons (xLam β ask (xFn β c_told_lot (xCons (xVar 1) (xCons (xVar 4) xNil)))) (xCons (xVar 10) xNil)))))
    (yRet [] (xC (.bl false)))
    yNext)
    (yRet [] (xFn β c__law_like (xCons (xLam β ask (xFn β c_lot_text (xCons (xVar 1) (xCons (xVar 4) xNil)))) (xCons (xIf (xTest (xOp (dEq false) (xVar 7) (xLst xNil))) (xLst (xCons (xC (.str "told")) (xCons (xVar 9) xNil))) (xVar 10)) xNil)))))))))))
abbrev q__law_wrong_so : Str := (envOfC "_law_wrong_so" (defScope (top 49)) 0 0 .none).qual
theorem w__law_wrong_so {P : Program} {w : World} {K : PySem.W.Frag} {mg : Str → Option Value} {base : Heap} {T : TbL} {k : Nat} (e : En K mg) {c__law_draw : DC} (O__law_draw : OkD P w K mg base T k "_law_draw" ["bag", "size"] c__law_draw) {c__law_bent_run : DC} (O__law_bent_run : OkD P w K mg base T k "_law_bent_run" ["bag", "mine", "word"] c__law_bent_run) {c__law_run : DC} (O__law_run : OkD P w K mg base T k "_law_run" ["bag", "mine", "most"] c__law_run) {c__law_told : DC} (O__law_told : OkD P w K mg base T k "_law_told" ["mine", "runs"] c__law_told) {c__law_text : DC} (O__law_text : OkD P w K mg base T k "_law_text" ["word"] c__law_text) {c__law_like : DC} (O__law_like : OkD P w K mg base T k "_law_like" ["told", "due"] c__law_like) {c_told_lot : DC} (O_told_lot : OkD P w K mg base T k "told_lot" ["letters", "lot"] c_told_lot) {c_lot_text : DC} (O_lot_text : OkD P w K mg base T k "lot_text" ["letters", "lot"] c_lot_text) {ask : AskC} {cf : DC} (O__law_fault : OkN P w K mg base T (k + 1) "_law_fault" ["error"] cf) (hask : ∀ (β f : Addr) (c : LC) (Qd : QD), ask β c Qd → td_ask K cf β f c { nx := fun _ => Qd .non, rt := Qd } (startD 2 [.adr f])) (hM : ∀ cdv, codeV K (He.ga K "_law_wrong_so") = cdv → LMk K mg base T cdv q__law_wrong_so) : BodyD P w K mg base T (k + 2) "_law_wrong_so" (top 49) (He.ga K "_law_wrong_so") ["bag", "abc", "mine", "runs", "some", "k", "spot", "bad", "due", "text", "want", "letter", "word"] (td__law_wrong_so K c__law_draw c__law_bent_run c__law_run c__law_told c__law_text c__law_like c_told_lot c_lot_text ask) := by
  intro cdv A outer s p E hT hP hcv hr
  have hu := hr.units
  have hu65 := hrU65 (L2H.roomH_of hr)
  have hrN := L2H.roomH_of hr
  have hr1 := hr.mono (Nat.le_add_right k 2)
  obtain ⟨cL, PL, rfl, TB, hm, hq⟩ := hM _ hcv
  obtain ⟨fdA, FA⟩ := e.d__law_ask
  exact (dss_cons (ds_setListO [] 4 sc__law_wrong_so.nd e.f_list (da_cons (d_var 3) da_nil))
    (dss_cons (ds_for [] (passes_of rfl) rfl (di_range1 rfl e.f_range (da_cons (d_add d_int (d_callO O__law_draw hT hr1 (takes_of rfl rfl rfl rfl) (da_cons (d_var 0) (da_cons d_int da_nil)))) da_nil)) (dg_name 5 sc__law_wrong_so.nd)
    (dss_cons (ds_set [] 6 sc__law_wrong_so.nd (d_callO O__law_draw hT hr1 (takes_of rfl rfl rfl rfl) (da_cons (d_var 0) (da_cons (d_add (d_lenO 4 rfl e.f_len) d_int) da_nil))))
    (dss_one (ds_om [] 4 PySem.F.slot_list_insert PySem.F.type_list_insert mt_insert r_insert (da_cons (d_var 6) (da_cons (d_callO O__law_bent_run hT hr1 (takes_of rfl rfl rfl rfl) (da_cons (d_var 0) (da_cons (d_var 2) (da_cons (d_callO O__law_run hT hr1 (takes_of rfl rfl rfl rfl) (da_cons (d_var 0) (da_cons (d_var 2) (da_cons d_int da_nil)))) da_nil)))) da_nil))))))
    (dss_cons (ds_setLc [] 7 [("k", 5)] (by decide) rfl sc__law_wrong_so.nd (blkOk_by rfl) (di_range1 rfl e.f_range (da_cons (d_lenO 4 rfl e.f_len) da_nil)) (fun s H C cl fp => (dg_name 5 sc__law_wrong_so.nd)) (fun s H C cl fp => (dts_one (dt_not (dt_truth (he := fun _ => rfl) (d_callB (cr_all rfl) r_all rfl e.f_all bv_all (da_cons (d_lc [("letter", 11)] (by decide) rfl sc__law_wrong_so.nd (blkOk_by rfl) (di_any (d_ixO 4 (fun _ _ => rfl) (d_var 5))) (fun s H C cl fp => (dg_name 11 sc__law_wrong_so.nd)) (fun s H C cl fp => dts_nil) (fun s H C cl fp => (d_in hu65 (d_var 11) (d_var 2)))) da_nil)))))) (fun s H C cl fp => (d_var 5)) (sw_true rfl rfl rfl (by decide +kernel)))
    (dss_cons (ds_set [4] 8 sc__law_wrong_so.nd (d_if (dt_eq hu (d_var 7) (d_lst da_nil)) (d_callO O__law_told hT hr1 (takes_of rfl rfl rfl rfl) (da_cons (d_var 2) (da_cons (d_var 4) da_nil))) (d_lst da_nil)))
    (dss_cons (ds_set [] 9 sc__law_wrong_so.nd (d_bm PySem.F.plainAttrs_str PySem.F.slot_str_join PySem.F.type_str_join mt_join r_join d_str (da_cons (d_lc [("word", 12)] (by decide) rfl sc__law_wrong_so.nd (blkOk_by rfl) (di_any (d_var 8)) (fun s H C cl fp => (dg_name 12 sc__law_wrong_so.nd)) (fun s H C cl fp => dts_nil) (fun s H C cl fp => (d_callO O__law_text hT hr1 takes0 (da_cons (d_var 12) da_nil)))) da_nil)))
    (dss_cons (ds_set [] 10 sc__law_wrong_so.nd (d_if (dt_ne hu (d_var 7) (d_lst da_nil)) (d_lst (da_cons d_str (da_cons (d_ix (fun _ _ => rfl) (d_var 7) d_int) da_nil))) (d_lst (da_cons d_str (da_cons (d_var 8) da_nil)))))
    (dss_cons (ds_if [] (dt_not (dt_truth (he := fun _ => rfl) (d_callO O__law_like hT hr1 (takes_of rfl rfl rfl rfl) (da_cons (d_lam hT e.g__law_ask FA (FA.binds fun _ _ _ _ _ _ us hl => match us, hl with | [_], _ => rfl) sc__law_ask rfl (.inl rfl) (fun cdv' _ => g__law_ask e O__law_fault hask) TB rfl hm hq hr (LamX.lamS_by (show LamX.lamSB (defScope (top 49)) _ = true by decide +kernel)) rfl (fun _ _ _ _ _ => rfl) (fun _ _ _ _ _ _ _ hrL => (d_callO O_told_lot hT hrL (takes_of rfl rfl rfl rfl) (da_cons (d_var 1) (da_cons (d_var 4) da_nil))))) (da_cons (d_var 10) da_nil)))))
    (dss_one (ds_ret [] d_bl))
    dss_nil)
    (dss_one (ds_ret [] (d_callO O__law_like hT hr1 (takes_of rfl rfl rfl rfl) (da_cons (d_lam hT e.g__law_ask FA (FA.binds fun _ _ _ _ _ _ us hl => match us, hl with | [_], _ => rfl) sc__law_ask rfl (.inl rfl) (fun cdv' _ => g__law_ask e O__law_fault hask) TB rfl hm hq hr (LamX.lamS_by (show LamX.lamSB (defScope (top 49)) _ = true by decide +kernel)) rfl (fun _ _ _ _ _ => rfl) (fun _ _ _ _ _ _ _ hrL => (d_callO O_lot_text hT hrL (takes_of rfl rfl rfl rfl) (da_cons (d_var 1) (da_cons (d_var 4) da_nil))))) (da_cons (d_if (dt_eq hu (d_var 7) (d_lst da_nil)) (d_lst (da_cons d_str (da_cons (d_var 9) da_nil))) (d_var 10)) da_nil))))))))))))
theorem ok__law_wrong_so {P : Program} {w : World} {K : PySem.W.Frag} {mg : Str → Option Value} {base : Heap} {T : TbL} {k : Nat} (e : En K mg) {c__law_draw : DC} (O__law_draw : OkD P w K mg base T k "_law_draw" ["bag", "size"] c__law_draw) {c__law_bent_run : DC} (O__law_bent_run : OkD P w K mg base T k "_law_bent_run" ["bag", "mine", "word"] c__law_bent_run) {c__law_run : DC} (O__law_run : OkD P w K mg base T k "_law_run" ["bag", "mine", "most"] c__law_run) {c__law_told : DC} (O__law_told : OkD P w K mg base T k "_law_told" ["mine", "runs"] c__law_told) {c__law_text : DC} (O__law_text : OkD P w K mg base T k "_law_text" ["word"] c__law_text) {c__law_like : DC} (O__law_like : OkD P w K mg base T k "_law_like" ["told", "due"] c__law_like) {c_told_lot : DC} (O_told_lot : OkD P w K mg base T k "told_lot" ["letters", "lot"] c_told_lot) {c_lot_text : DC} (O_lot_text : OkD P w K mg base T k "lot_text" ["letters", "lot"] c_lot_text) {ask : AskC} {cf : DC} (O__law_fault : OkN P w K mg base T (k + 1) "_law_fault" ["error"] cf) (hask : ∀ (β f : Addr) (c : LC) (Qd : QD), ask β c Qd → td_ask K cf β f c { nx := fun _ => Qd .non, rt := Qd } (startD 2 [.adr f])) (hM : ∀ cdv, codeV K (He.ga K "_law_wrong_so") = cdv → LMk K mg base T cdv q__law_wrong_so) {c : DC} (len : ∀ β ds Q E, c β ds Q E → ds.length = 4) (h : Keeps (td__law_wrong_so K c__law_draw c__law_bent_run c__law_run c__law_told c__law_text c__law_like c_told_lot c_lot_text ask) ["bag", "abc", "mine", "runs", "some", "k", "spot", "bad", "due", "text", "want", "letter", "word"] c) : OkD P w K mg base T ((k + 2) + 1) "_law_wrong_so" ["bag", "abc", "mine", "runs"] c := by
  obtain ⟨fd, F⟩ := e.d__law_wrong_so
  exact okD_of e.g__law_wrong_so F (F.binds fun _ _ _ _ _ _ us hl => match us, hl with | [_, _, _, _], _ => rfl) sc__law_wrong_so (w__law_wrong_so e O__law_draw O__law_bent_run O__law_run O__law_told O__law_text O__law_like O_told_lot O_lot_text O__law_fault hask hM) len h
theorem sc_law : FnScope ["script", "bag", "lap", "parts", "abc", "mine", "runs", "k", "a", "b", "one", "two", "word"] ["script"] (defScope (top 50)) := ⟨rfl, rfl, rfl, by decide +kernel, rfl, by decide +kernel, by decide +kernel⟩
abbrev N_law : List Str := ["script", "bag", "lap", "parts", "abc", "mine", "runs", "k", "a", "b", "one", "two", "word"]
abbrev s_law : Stmt := top 50
def td_law (K : PySem.W.Frag) (c__law_parts : DC) (c__law_of : DC) (c__law_listed : DC) (c__law_letters : DC) (c__law_draw : DC) (c__law_run : DC) (c__law_run_so : DC) (c__law_wrong_so : DC) (c__law_lot_so : DC) (c_run_key : DC) (c__law_like : DC) (c__law_ahead : DC) (β : Addr) : TDS :=
    (ySeq (yFor [] (xiRng1 (xCons (xC (.int 3)) xNil)) (zName 2)
    (ySeq (ySet [] 3 (xFn β c__law_parts (xCons (xVar 1) (xCons (xFn β c__law_of (xCons (xVar 1) (xCons (xLst (xCons (xTup (xCons (xC (.int 2)) xNil)) (xCons (xTup (xCons (xC (.int 2)) (xCons (xC (.int 2)) xNil))) (xCons (xTup (xCons (xC (.int 3)) xNil)) (xCons (xTup (xCons (xC (.int 1)) xNil)) (xCons (xTup (xCons (xC (.int 2)) (xCons (xC (.int 1)) (xCons (xC (.int 2)) xNil)))) (xCons (xTup (xCons (xC (.int 4)) xNil)) (xCons (xTup (xCons (xC (.int 3)) (xCons (xC (.int 5)) xNil))) (xCons (xTup (xCons (xC (.int 12)) xNil)) (xCons (xTup (xCons (xC (.int 1)) (xCons (xC (.int 2)) xNil))) xNil)))))))))) xNil))) xNil))))
    (ySeq (yAsg [] (xTup (xCons (xFn β c__law_letters (xCons (xVar 3) xNil)) (xCons (xFn β c__law_listed (xCons (xVar 3) xNil)) xNil))) (zTup 2 (zCons (zName 4) (zCons (zName 5) zNil))))
    (ySeq (ySetLcO [] 6 [7] (xiRng1 (xCons (xFn β c__law_draw (xCons (xVar 1) (xCons (xC (.int 7)) xNil))) xNil)) (zName 7) xYes (xFn β c__law_run (xCons (xVar 1) (xCons (xVar 5) (xCons (xFn β c__law_of (xCons (xVar 1) (xCons (xLst (xCons (xC (.int 1)) (xCons (xC (.int 2)) (xCons (xC (.int 2)) (xCons (xC (.int 3)) (xCons (xC (.int 4)) xNil)))))) xNil))) xNil)))))
    (ySeq (yIf [] (xTest (xOp (dEq false) (xFn β c__law_draw (xCons (xVar 1) (xCons (xC (.int 6)) xNil))) (xC (.int 0))))
    (yOM [] 6 oAppend (xCons (xCall dTuple (xCons (xLcE [7] (xiRng1 (xCons (xC (.int 39)) xNil)) (zName 7) xYes (xFn β c__law_of (xCons (xVar 1) (xCons (xVar 5) xNil)))) xNil)) xNil))
    yNext)
    (ySeq (yFor [] (xiRng1 (xCons (xFn β c__law_draw (xCons (xVar 1) (xCons (xC (.int 4)) xNil))) xNil)) (zName 7)
    (yOM [] 6 oInsert (xCons (xFn β c__law_draw (xCons (xVar 1) (xCons (xOp dAdd (xLenO 6) (xC (.int 1))) xNil))) (xCons (xFn β c__law_of (xCons (xVar 1) (xCons (xCatO 6 (xLst (xCons (xTup xNil) xNil))) xNil))) xNil))))
    (ySeq (yIf [] (xNot (xTru (xCall (dAll fun ks => ks.all id) (xCons (xLcE [12] (xiAny (xOp dAdd (xSlO 6 xNoPart (xPart (xC (.int 4)))) (xLst (xCons (xTup xNil) xNil)))) (zName 12) xYes (xFn β c__law_run_so (xCons (xVar 1) (xCons (xVar 4) (xCons (xVar 5) (xCons (xVar 12) xNil)))))) xNil))))
    (yRet [] (xC (.bl false)))
    yNext)
    (ySeq (yIf [6] (xOr (xNot (xTru (xFn β c__law_lot_so (xCons (xVar 1) (xCons (xVar 4) (xCons (xVar 5) (xCons (xVar 6) xNil))))))) (xNot (xTru (xFn β c__law_wrong_so (xCons (xVar 1) (xCons (xVar 4) (xCons (xVar 5) (xCons (xVar 6) xNil))))))))
    (yRet [] (xC (.bl false)))
    yNext)
    (yFor [] (xiAny (xSlO 6 xNoPart (xPart (xC (.int 4))))) (zName 8)
    (yFor [] (xiAny (xSlO 6 (xPart (xC (.int 2))) (xPart (xC (.int 7))))) (zName 9)
    (ySeq (yPar [] 10 11 (xCons (xFn β c_run_key (xCons (xVar 4) (xCons (xVar 8) xNil))) (xCons (xFn β c_run_key (xCons (xVar 4) (xCons (xVar 9) xNil))) xNil)))
    (yIf [] (xNot (xTru (xFn β c__law_like (xCons (xLst (xCons (xOp dLtN (xVar 10) (xVar 11)) (xCons (xOp (dEq false) (xVar 10) (xVar 11)) xNil))) (xCons (xLst (xCons (xFn β c__law_ahead (xCons (xVar 5) (xCons (xVar 8) (xCons (xVar 9) xNil)))) (xCons (xOp (dEq false) (xVar 8) (xVar 9)) xNil))) xNil)))))
    (yRet [] (xC (.bl false)))
    yNext))))))))))))
    (yRet [] (xC (.bl true))))
theorem w_law {P : Program} {w : World} {K : PySem.W.Frag} {mg : Str → Option Value} {base : Heap} {T : TbL} {k : Nat} (e : En K mg) {c__law_parts : DC} (O__law_parts : OkD P w K mg base T k "_law_parts" ["bag", "sizes"] c__law_parts) {c__law_of : DC} (O__law_of : OkD P w K mg base T k "_law_of" ["bag", "things"] c__law_of) {c__law_listed : DC} (O__law_listed : OkD P w K mg base T k "_law_listed" ["parts"] c__law_listed) {c__law_letters : DC} (O__law_letters : OkD P w K mg base T k "_law_letters" ["parts"] c__law_letters) {c__law_draw : DC} (O__law_draw : OkD P w K mg base T k "_law_draw" ["bag", "size"] c__law_draw) {c__law_run : DC} (O__law_run : OkD P w K mg base T k "_law_run" ["bag", "mine", "most"] c__law_run) {c__law_run_so : DC} (O__law_run_so : OkD P w K mg base T k "_law_run_so" ["bag", "abc", "mine", "word"] c__law_run_so) {c__law_wrong_so : DC} (O__law_wrong_so : OkD P w K mg base T k "_law_wrong_so" ["bag", "abc", "mine", "runs"] c__law_wrong_so) {c__law_lot_so : DC} (O__law_lot_so : OkD P w K mg base T k "_law_lot_so" ["bag", "abc", "mine", "runs"] c__law_lot_so) {c_run_key : DC} (O_run_key : OkD P w K mg base T k "run_key" ["letters", "run"] c_run_key) {c__law_like : DC} (O__law_like : OkD P w K mg base T k "_law_like" ["told", "due"] c__law_like) {c__law_ahead : DC} (O__law_ahead : OkD P w K mg base T k "_law_ahead" ["mine", "a", "b"] c__law_ahead) (cdv : Value) (A : Around) (outer : List Env) (s : Shared) (H : Hp) (p : Pr) (E : XK) (hT : p.b.T = T) (hP : p.P = P ∧ p.w = w) (hcv : codeV K (He.ga K "law") = cdv) (hr : Room k (A.deeper (envOfC "law" (defScope s_law) s.heap.objs.size (He.ga K "law") cdv))) :
    DSs p (cxOf (L2.CX P w) P w K mg base N_law "law" (defScope s_law) (He.ga K "law") cdv A outer s H E) (fun cls d _ H => E cls d H) (defBody s_law).tail (td_law K c__law_parts c__law_of c__law_listed c__law_letters c__law_draw c__law_run c__law_run_so c__law_wrong_so c__law_lot_so c_run_key c__law_like c__law_ahead p.b.a) := by
  have hu := hr.units
  have hu65 := hrU65 (L2H.roomH_of hr)
  have hrN := L2H.roomH_of hr
  exact (dss_cons (ds_for [] (passes_of rfl) rfl (di_range1 rfl e.f_range (da_cons d_int da_nil)) (dg_name 2 sc_law.nd)
    (dss_cons (ds_set [] 3 sc_law.nd (d_callO O__law_parts hT hr (takes_of rfl rfl rfl rfl) (da_cons (d_var 1) (da_cons (d_callO O__law_of hT hr (takes_of rfl rfl rfl rfl) (da_cons (d_var 1) (da_cons (d_lst (da_cons (d_tup (da_cons d_int da_nil)) (da_cons (d_tup (da_cons d_int (da_cons d_int da_nil))) (da_cons (d_tup (da_cons d_int da_nil)) (da_cons (d_tup (da_cons d_int da_nil)) (da_cons (d_tup (da_cons d_int (da_cons d_int (da_cons d_int da_nil)))) (da_cons (d_tup (da_cons d_int da_nil)) (da_cons (d_tup (da_cons d_int (da_cons d_int da_nil))) (da_cons (d_tup (da_cons d_int da_nil)) (da_cons (d_tup (da_cons d_int (da_cons d_int da_nil))) da_nil)))))))))) da_nil))) da_nil))))
    (dss_cons (ds_asg [] (d_tup (da_cons (d_callO O__law_letters hT hr (takes_of rfl rfl rfl rfl) (da_cons (d_var 3) da_nil)) (da_cons (d_callO O__law_listed hT hr (takes_of rfl rfl rfl rfl) (da_cons (d_var 3) da_nil)) da_nil))) (dg_tup rfl (dgs_cons (dg_name 4 sc_law.nd) (dgs_cons (dg_name 5 sc_law.nd) dgs_nil))))
    (dss_cons (ds_setLcO [] 6 [("k", 7)] (by decide) rfl sc_law.nd (blkOk_by rfl) (di_range1 rfl e.f_range (da_cons (d_callO O__law_draw hT hr (takes_of rfl rfl rfl rfl) (da_cons (d_var 1) (da_cons d_int da_nil))) da_nil)) (fun s H C cl fp => (dg_name 7 sc_law.nd)) (fun s H C cl fp => dts_nil) (fun s H C cl fp => (d_callO O__law_run hT hr takes0 (da_cons (d_var 1) (da_cons (d_var 5) (da_cons (d_callO O__law_of hT hr takes0 (da_cons (d_var 1) (da_cons (d_lst (da_cons d_int (da_cons d_int (da_cons d_int (da_cons d_int (da_cons d_int da_nil)))))) da_nil))) da_nil))))) (sw_true rfl rfl rfl (by decide +kernel)))
    (dss_cons (ds_if [] (dt_eq hu (d_callO O__law_draw hT hr (takes_of rfl rfl rfl rfl) (da_cons (d_var 1) (da_cons d_int da_nil))) d_int)
    (dss_one (ds_append [] 6 (da_cons (d_callTy call_tuple_of r_tuple rfl e.f_tuple bv_tuple (da_cons (d_lc [("k", 7)] (by decide) rfl sc_law.nd (blkOk_by rfl) (di_range1 rfl e.f_range (da_cons d_int da_nil)) (fun s H C cl fp => (dg_name 7 sc_law.nd)) (fun s H C cl fp => dts_nil) (fun s H C cl fp => (d_callO O__law_of hT hr takes0 (da_cons (d_var 1) (da_cons (d_var 5) da_nil))))) da_nil)) da_nil)))
    dss_nil)
    (dss_cons (ds_for [] (passes_of rfl) rfl (di_range1 rfl e.f_range (da_cons (d_callO O__law_draw hT hr (takes_of rfl rfl rfl rfl) (da_cons (d_var 1) (da_cons d_int da_nil))) da_nil)) (dg_name 7 sc_law.nd)
    (dss_one (ds_om [] 6 PySem.F.slot_list_insert PySem.F.type_list_insert mt_insert r_insert (da_cons (d_callO O__law_draw hT hr (takes_of rfl rfl rfl rfl) (da_cons (d_var 1) (da_cons (d_add (d_lenO 6 rfl e.f_len) d_int) da_nil))) (da_cons (d_callO O__law_of hT hr (takes_of rfl rfl rfl rfl) (da_cons (d_var 1) (da_cons (d_catO 6 (d_lst (da_cons (d_tup da_nil) da_nil))) da_nil))) da_nil)))))
    (dss_cons (ds_if [] (dt_not (dt_truth (he := fun _ => rfl) (d_callB (cr_all rfl) r_all rfl e.f_all bv_all (da_cons (d_lc [("word", 12)] (by decide) rfl sc_law.nd (blkOk_by rfl) (di_any (d_add (d_sliceO 6 do_none (do_some d_int)) (d_lst (da_cons (d_tup da_nil) da_nil)))) (fun s H C cl fp => (dg_name 12 sc_law.nd)) (fun s H C cl fp => dts_nil) (fun s H C cl fp => (d_callO O__law_run_so hT hr takes0 (da_cons (d_var 1) (da_cons (d_var 4) (da_cons (d_var 5) (da_cons (d_var 12) da_nil))))))) da_nil))))
    (dss_one (ds_ret [] d_bl))
    dss_nil)
    (dss_cons (ds_if [6] (DW.t (dw_or (dt_not (dt_truth (he := fun _ => rfl) (d_callO O__law_lot_so hT hr (takes_of rfl rfl rfl rfl) (da_cons (d_var 1) (da_cons (d_var 4) (da_cons (d_var 5) (da_cons (d_var 6) da_nil))))))) (dw_or1 (dt_not (dt_truth (he := fun _ => rfl) (d_callO O__law_wrong_so hT hr (takes_of rfl rfl rfl rfl) (da_cons (d_var 1) (da_cons (d_var 4) (da_cons (d_var 5) (da_cons (d_var 6) da_nil))))))))))
    (dss_one (ds_ret [] d_bl))
    dss_nil)
    (dss_one (ds_for [] (passes_of rfl) rfl (di_any (d_sliceO 6 do_none (do_some d_int))) (dg_name 8 sc_law.nd)
    (dss_one (ds_for [] (passes_of rfl) rfl (di_any (d_sliceO 6 (do_some d_int) (do_some d_int))) (dg_name 9 sc_law.nd)
    (dss_cons (ds_par [] 10 11 rfl sc_law.nd (da_cons (d_callO O_run_key hT hr (takes_of rfl rfl rfl rfl) (da_cons (d_var 4) (da_cons (d_var 8) da_nil))) (da_cons (d_callO O_run_key hT hr (takes_of rfl rfl rfl rfl) (da_cons (d_var 4) (da_cons (d_var 9) da_nil))) da_nil)) (by decide))
    (dss_one (ds_if [] (dt_not (dt_truth (he := fun _ => rfl) (d_callO O__law_like hT hr (takes_of rfl rfl rfl rfl) (da_cons (d_lst (da_cons (d_ltN hu (d_var 10) (d_var 11)) (da_cons (d_eq hu (d_var 10) (d_var 11)) da_nil))) (da_cons (d_lst (da_cons (d_callO O__law_ahead hT hr (takes_of rfl rfl rfl rfl) (da_cons (d_var 5) (da_cons (d_var 8) (da_cons (d_var 9) da_nil)))) (da_cons (d_eq hu (d_var 8) (d_var 9)) da_nil))) da_nil)))))
    (dss_one (ds_ret [] d_bl))
    dss_nil)))))))))))))))
    (dss_one (ds_ret [] d_bl)))
section
variable {P : Program} {w : World} {K : PySem.W.Frag} {mg : Str → Option Value} {base : Heap}
theorem sc__law_bag : FnScope Nb ["script"] (defScope (top 27)) := ⟨rfl, rfl, rfl, by decide +kernel, rfl, by decide +kernel, by decide +kernel⟩
theorem sc__law_draw : FnScope Nd ["bag", "size"] (defScope (top 28)) := ⟨rfl, rfl, rfl, by decide +kernel, rfl, by decide +kernel, by decide +kernel⟩
theorem ok__law_draw {T : TbL} (e : En K mg) : OkD P w K mg base T 1 "_law_draw" ["bag", "size"] cDraw := by
  obtain ⟨fd, F⟩ := e.d__law_draw
  refine ⟨fd, e.g__law_draw, F.kp, F.binds fun _ _ _ _ _ _ us hl => match us, hl with | [_, _], _ => rfl, ?_⟩
  refine F.okX sc__law_draw (fun vs H Q E h => ?_) (fun cdv A outer s H vs Q E hr h => ⟨t_draw K, ?_, draw_pure h⟩)
  · obtain ⟨b, G, ds, Qd, Ed, _, _, _, r, ⟨n, rfl, _⟩, _⟩ := h
    rw [← r.length]; rfl
  · exact pss_cons (ps_asg (pe_op op_add (pe_ix ix_seq (pe_var (i := 0) rfl (.inl rfl)) pe_int (fun _ _ => rfl)) pe_int) (pg_sub (pe_var (i := 0) rfl (.inl rfl)) pe_int set_list))
      (pss_cons (ps_if (PW.pt (pw_and (pt_cmpR op_eq (pe_ix ix_seq (pe_var (i := 0) rfl (.inl rfl)) pe_int (fun _ _ => rfl)) pe_int (nomark _)) (pw_and1 (pt_cmpR op_lt (pe_ix ix_seq (pe_var (i := 0) rfl (.inl rfl)) pe_int (fun _ _ => rfl)) (pe_callB (r := rLn K) call_len rfl e.f_len bv_len (pa_cons (pe_ix ix_seq (pe_var (i := 0) rfl (.inl rfl)) pe_int (fun _ _ => rfl)) pa_nil)) (nomark _)))))
        (pss_cons (ps_set (i := 2) sc__law_draw.nd rfl (.inl rfl) (pe_ix ix_seq (pe_ix ix_seq (pe_var (i := 0) rfl (.inl rfl)) pe_int (fun _ _ => rfl)) (pe_ix ix_seq (pe_var (i := 0) rfl (.inl rfl)) pe_int (fun _ _ => rfl)) (fun _ _ => rfl)))
          (pss_cons (ps_asg (pe_op op_add (pe_ix ix_seq (pe_var (i := 0) rfl (.inl rfl)) pe_int (fun _ _ => rfl)) pe_int) (pg_sub (pe_var (i := 0) rfl (.inl rfl)) pe_int set_list))
            (pss_one (ps_if (pt_cmpR op_ge (pe_var (i := 2) rfl (.inl rfl)) (pe_op op_pow pe_int pe_int) (nomark _))
              (pss_one (ps_asg (pe_var (i := 2) rfl (.inl rfl)) (pg_sub (pe_var (i := 0) rfl (.inl rfl)) pe_int set_list)))
              (pss_one (ps_asg (pe_op op_mod (pe_callTy call_int1 rfl e.f_int bv_int (pa_cons (pe_op op_add (pe_op op_add (pe_op op_mul (pe_ix ix_seq (pe_var (i := 0) rfl (.inl rfl)) pe_int (fun _ _ => rfl)) pe_int) (pe_op op_mul (pe_op op_mod (pe_callTy call_int1 rfl e.f_int bv_int (pa_cons (pe_var (i := 2) rfl (.inl rfl)) pa_nil)) pe_int) pe_int)) pe_int) pa_nil)) pe_int) (pg_sub (pe_var (i := 0) rfl (.inl rfl)) pe_int set_list)))))))
        pss_nil)
      (pss_cons (ps_if (pt_cmpR op_gt (pe_ix ix_seq (pe_var (i := 0) rfl (.inl rfl)) pe_int (fun _ _ => rfl)) pe_int (nomark _))
        (pss_cons (ps_set (i := 3) sc__law_draw.nd rfl (.inl rfl) (pe_op op_mod (pe_callTy call_int1 rfl e.f_int bv_int (pa_cons (pe_ix ix_seq (pe_var (i := 0) rfl (.inl rfl)) pe_int (fun _ _ => rfl)) pa_nil)) (pe_var (i := 1) rfl (.inl rfl))))
          (pss_cons (ps_asg (pe_op op_fdiv (pe_ix ix_seq (pe_var (i := 0) rfl (.inl rfl)) pe_int (fun _ _ => rfl)) (pe_var (i := 1) rfl (.inl rfl))) (pg_sub (pe_var (i := 0) rfl (.inl rfl)) pe_int set_list))
            (pss_one (ps_ret (pe_var (i := 3) rfl (.inl rfl))))))
        pss_nil)
      (pss_cons (ps_asg (pe_op op_mod (pe_callTy call_int1 rfl e.f_int bv_int (pa_cons (pe_op op_add (pe_op op_add (pe_op op_pow (pe_ix ix_seq (pe_var (i := 0) rfl (.inl rfl)) pe_int (fun _ _ => rfl)) pe_int) (pe_op op_mul (pe_ix ix_seq (pe_var (i := 0) rfl (.inl rfl)) pe_int (fun _ _ => rfl)) pe_int)) pe_int) pa_nil)) pe_int) (pg_sub (pe_var (i := 0) rfl (.inl rfl)) pe_int set_list))
        (pss_one (ps_ret (pe_op op_mod (pe_callTy call_int1 rfl e.f_int bv_int (pa_cons (pe_op op_add (pe_op op_fdiv (pe_ix ix_seq (pe_var (i := 0) rfl (.inl rfl)) pe_int (fun _ _ => rfl)) pe_int) (pe_op op_mul (pe_op op_mod (pe_callTy call_int1 rfl e.f_int bv_int (pa_cons (pe_ix ix_seq (pe_var (i := 0) rfl (.inl rfl)) pe_int (fun _ _ => rfl)) pa_nil)) pe_int) pe_int)) pa_nil)) (pe_var (i := 1) rfl (.inl rfl))))))))
theorem ok__law_bag (e : En K mg) : ∃ fd, mg "_law_bag" = some (.ref (He.ga K "_law_bag")) ∧ PySem.W.keepIn K (.ref (He.ga K "_law_bag")) = true ∧ Binds K fd ["script"] [] ∧ FnOk P w K mg base (L2.CX P w) 1 (He.ga K "_law_bag") fd ["script"] (spBag K) := by
  obtain ⟨fd, F⟩ := e.d__law_bag
  refine ⟨fd, e.g__law_bag, F.kp, F.binds fun _ _ _ _ _ _ us hl => match us, hl with | [_], _ => rfl, ?_⟩
  refine F.okX sc__law_bag (fun vs H Q E h => ?_) (fun cdv A outer s H vs Q E hr h => ⟨t_bag K, ?_, bag_pure h⟩)
  · obtain ⟨a, ns, rfl, _⟩ := h
    rfl
  · exact pss_cons (ps_set (i := 1) sc__law_bag.nd rfl (.inl rfl) pe_int)
      (pss_cons (ps_for (passes_of rfl) rfl (pi_list (pe_slice sl_list (pe_var (i := 0) rfl (.inl rfl)) po_none (po_some pe_int))) (pg_name (i := 2) sc__law_bag.nd rfl (.inl rfl))
        (pss_one (ps_set (i := 1) sc__law_bag.nd rfl (.inl rfl) (pe_op op_mod (pe_callTy call_int1 rfl e.f_int bv_int (pa_cons (pe_op op_add (pe_op op_add (pe_op op_mul (pe_var (i := 1) rfl (.inl rfl)) pe_int) (pe_op op_mod (pe_callTy call_int1 rfl e.f_int bv_int (pa_cons (pe_var (i := 2) rfl (.inl rfl)) pa_nil)) pe_int)) pe_int) pa_nil)) pe_int))))
      (pss_one (ps_ret (pe_lst (pa_cons (pe_callTy call_list_of rfl e.f_list bv_list (pa_cons (pe_slice sl_list (pe_var (i := 0) rfl (.inl rfl)) po_none (po_some pe_int)) pa_nil)) (pa_cons pe_int (pa_cons pe_int (pa_cons (pe_var (i := 1) rfl (.inl rfl)) (pa_cons pe_int pa_nil)))))))))
/-- the law's own promise -/
def spLaw (K : PySem.W.Frag) (T : TbL) : Sp := fun vs H Q _ => ∃ (a : Addr) (ns : List Int), vs = [.ref a] ∧ SqL K H a (ns.map V.int) ∧ (∀ p ∈ T, H p.1 = some (.tbl #[])) ∧ ∀ H', Q (.bl true) H'
theorem pss_any {X : Cx} {ι : Type} {sts : List Stmt} {t : ι → TS} (h : ∀ i, PSs X sts (t i)) : PSs X sts (fun D σ H => ∃ i, t i D σ H) := ⟨fun pins s σ H D I q => by
  obtain ⟨i, q⟩ := q
  exact (h i).run pins s σ H D I q⟩
/-- the law, from the reading of what stands behind its first statement -/
theorem law_ok {T : TbL} (e : En K mg) {k : Nat} (hk : 1 ≤ k) {td : Addr → TDS} (B : ∀ (cdv : Value) (A : Around) (outer : List Env) (s : Shared) (H : Hp) (p : Pr) (E : XK), p.b.T = T → p.P = P ∧ p.w = w → codeV K (He.ga K "law") = cdv → Room k (A.deeper (envOfC "law" (defScope s_law) s.heap.objs.size (He.ga K "law") cdv)) →
      DSs p (cxOf (L2.CX P w) P w K mg base N_law "law" (defScope s_law) (He.ga K "law") cdv A outer s H E) (fun cls d _ H => E cls d H) (defBody s_law).tail (td p.b.a))
    (h : ∀ (a β : Addr) (Qd : QD) (Dd : DEnds), Dd.rt = Qd → Qd (.bl true) → td β Dd (.val (.adr a) :: .val (.adr β) :: List.replicate (N_law.length - 2) .non)) :
    ∃ fd, Fun K "law" "law" s_law (He.ga K "law") fd ∧ FnOk P w K mg base (L2.CX P w) (k + 1) (He.ga K "law") fd ["script"] (spLaw K T) := by
  obtain ⟨fd, F⟩ := e.d_law
  obtain ⟨fdB, gB, kB, bB, FB⟩ := ok__law_bag (P := P) (w := w) (base := base) e
  refine ⟨fd, F, okXc F sc_law (fun vs H Q E q => ?_) (fun cdv A outer s H vs Q E hcv hr q => ?_)⟩
  · obtain ⟨a, ns, rfl, _⟩ := q
    rfl
  · have ch : ∀ p : { p : Pr // p.b.T = T ∧ p.P = P ∧ p.w = w }, ∃ t : TS, PSs (cxOf (L2.CX P w) P w K mg base N_law "law" (defScope s_law) (He.ga K "law") cdv A outer s H E) (defBody s_law).tail t ∧ RefS K p.1 (fun cls d _ H => E cls d H) t (td p.1.b.a) := fun p => (B cdv A outer s H p.1 E p.2.1 p.2.2 hcv hr).ex
    refine ⟨_, pss_cons (ps_set (i := 1) sc_law.nd rfl (by first | exact .inl rfl | exact .inr rfl) (pe_callS FB (hr.mono hk) rfl gB kB bB (fun σ => passAt (takes_of rfl rfl rfl rfl) σ) (pa_cons (pe_var (i := 0) rfl (.inl rfl)) pa_nil))) (pss_any fun p => (Classical.choose_spec (ch p)).1), ?_⟩
    obtain ⟨a, ns, rfl, hS, hTb, hQ⟩ := q
    refine ⟨_, rfl, a, ns, rfl, hS, fun β L sd H' nβ nL ne hb hl keep h0 h1 => ?_⟩
    refine ⟨⟨⟨⟨β, L, cut63 ns, T⟩, H', fun x => if x = L then some (.lst ((cut63 ns).map V.int)) else none, P, w⟩, rfl, rfl, rfl⟩, ?_⟩
    have hG : ∀ x, (fun x => if x = L then some (HO.lst ((cut63 ns).map V.int)) else none) x ≠ none → x = L := fun x z => by
      by_cases c : x = L
      · exact c
      · exact absurd (if_neg c) z
    have sm : Same (fun x => if x = L then some (HO.lst ((cut63 ns).map V.int)) else none) H' := fun x o z => by
      have c := hG x (by rw [z]; exact fun y => nomatch y)
      subst c
      rw [← z]; exact hl.trans (if_pos rfl).symm
    have tb : LamX.Tabs T H' := fun p hp => LamX.TabS.nil (keep _ _ (hTb p hp))
    have ntg : NTG (fun x => if x = L then some (HO.lst ((cut63 ns).map V.int)) else none) := fun x o z => by
      have c := hG x (by rw [z]; exact fun y => nomatch y)
      subst c
      have z2 : some (HO.lst ((cut63 ns).map V.int)) = some o := (if_pos rfl).symm.trans z
      cases z2
      exact nt_lst
    have bg : BagOk K ⟨β, L, cut63 ns, T⟩ (fun x => if x = L then some (HO.lst ((cut63 ns).map V.int)) else none) H' := ⟨if_neg ne, if_pos rfl, ⟨tb, ntg⟩, 0, 0, sd, 0, hb, by decide, by decide, h0, h1⟩
    refine (Classical.choose_spec (ch _)).2 (fun x => if x = L then some (HO.lst ((cut63 ns).map V.int)) else none) (fun x => if x = L then some (HO.lst ((cut63 ns).map V.int)) else none) _ H' (.val (.adr a) :: .val (.adr β) :: List.replicate (N_law.length - 2) .non) _ { nx := fun _ => False, rt := fun d => d = .bl true } (Same.refl _) ?_ (h a β _ _ rfl rfl) ⟨fun _ _ _ _ _ _ z => z.elim, fun G2 σ2 H2 δ2 v d _ _ rv z => ?_, fun _ _ _ _ _ _ z => z, fun _ _ _ _ _ _ z => z, fun _ _ _ _ _ _ _ _ _ _ _ _ z => False.elim z, fun _ _ _ _ _ _ _ _ _ _ _ _ _ z => False.elim z⟩
    · refine ⟨Same.refl _, sm, fun _ _ _ _ z => z, fun _ _ _ _ z => z, bg, bg.atN, rfl, fun i sl z => ?_, fun i j o o' x _ z _ m _ => ?_⟩
      · match i, z with
        | 0, z => cases z; exact ⟨_, rfl, rep_sc rfl⟩
        | 1, z => cases z; exact ⟨_, rfl, rep_sc rfl⟩
        | i + 2, z =>
          have z : (List.replicate (N_law.length - 2) Sl.non)[i]? = some sl := z
          rw [List.getElem?_replicate] at z
          split at z <;> cases z
          exact True.intro
      · exfalso
        match i, z with
        | 0, z => cases z; cases m
        | 1, z => cases z; cases m
        | i + 2, z =>
          have z : (List.replicate (N_law.length - 2) Sl.non)[i]? = some o := z
          rw [List.getElem?_replicate] at z
          split at z <;> cases z
          cases m
    · subst z
      rw [rep_bl.mp rv]; exact hQ _
/-- .. in the form of the walk -/
theorem law_ok0 {T : TbL} {k : Nat} {f : Addr} {fd : FuncData} (F : FnOk P w K mg base (L2.CX P w) k f fd ["script"] (spLaw K T)) : FnOk P w K mg base L2.CX0 k f fd ["script"] (spLaw K T) :=
  ⟨F.len, fun A outer s H args us vs Q E hr e0 hb hv hs => codeAny_mono (F.run A outer s H args us vs Q E0 hr e0 hb hv hs) fun r s' z => by
    cases r with
    | error er =>
      obtain ⟨_, _, _, _, _, _, _, _, _, _, _, _, z⟩ := z
      exact z.elim
    | ok fl => cases fl <;> exact z⟩
end
end K02

namespace K02
open PySem PySem.Spec PyProof.Rows L2 EX DL PL TL
abbrev Part := Str × Str
def partD (p : Part) : D := .tup [.str p.1, .str p.2]
def partsD (ps : List Part) : D := .lst (ps.map partD)
def signsS (z : Str) : List Str := (tl z).map fun c => ⟨#[c]⟩
def growS (rows : List Str) (p : Part) : List Str := rows.flatMap fun r => (signsS p.2).map fun c => r ++ c
def rowsOf (ps : List Part) : List Str := ps.foldl growS [""]
def mineD (mine : List Str) : D := .lst (mine.map D.str)
/-- the object that Letters(*ps) is -/
def IsL (ps : List Part) (d : D) : Prop := ∃ (pp kvs : List (Key × D)) (t : Str), d = .obj "Letters" [("names", .tup (ps.map fun p => .str p.1)), ("signs", .tup (ps.map fun p => .str p.2)), ("_part_places", .dic pp), ("_listed", .tup ((rowsOf ps).map D.str)), ("_places", .dic kvs), ("_text", .str t)] ∧
  ∀ x : Str, valD kvs (.inr x) = if x ∈ rowsOf ps then some (.int ((idx (rowsOf ps) x : Nat) : Int)) else none
/-- a well made tuple of parts -/
structure GoodPs (ps : List Part) : Prop where
  mine : Mine ps.length (rowsOf ps)
  nd : (ps.map (·.1)).Nodup
def eText : List (Str × D) := xfD "BadText" ["line", "why"] [.int 0, .str "form"]
def eRun (k : Int) : List (Str × D) := xfD "BadRun" ["at"] [.int k]
def cLet : DC := fun _ ds Q _ => ∃ ps L x, ds = [L, .str x] ∧ IsL ps L ∧ Q (.bl (decide (x ∈ rowsOf ps)))
def cPlace : DC := fun _ ds Q _ => ∃ ps L x, ds = [L, .str x] ∧ IsL ps L ∧ x ∈ rowsOf ps ∧ Q (.int ((idx (rowsOf ps) x : Nat) : Int))
/-- the run's letters are letters -/
def okB (mine : List Str) (r : Rn) : Bool := r.all fun x => decide (x ∈ mine)
def cIsRun : DC := fun _ ds Q _ => ∃ ps L r, ds = [L, runD r] ∧ IsL ps L ∧ Q (.bl (okB (rowsOf ps) r))
def runText (r : Rn) : Str := if r.length = 0 then dash else Txt.join dot r
def cRunText : DC := fun _ ds Q _ => ∃ r, ds = [runD r] ∧ (r.map (·.length)).sum + r.length ≤ 16777216 ∧ Q (.str (runText r))
def cReadRun : DC := fun _ ds Q E => ∃ ps L t, ds = [L, .str t] ∧ IsL ps L ∧ t.length + 2 ≤ sizeLine ∧ match readV (rowsOf ps) t with | some ws => Q (runD ws) | none => E "BadText" eText
def cRunKey : DC := fun _ ds Q E => ∃ ps L r, ds = [L, runD r] ∧ IsL ps L ∧ r.length ≤ sizeLine ∧ if okB (rowsOf ps) r = true then Q (keyD' (rowsOf ps) r) else E "BadRun" (eRun 0)
section
variable {K : PySem.W.Frag}
theorem okB_iff {mine : List Str} {r : Rn} : okB mine r = true ↔ Ok mine r := by
  unfold okB Ok
  simp
theorem k_is_letter : Keeps (td_Letters_is_letter K) ["self", "text"] cLet := by
  intro β ds Qd Ed h
  obtain ⟨ps, L, x, rfl, ⟨pp, kvs, t, rfl, hv⟩, hq⟩ := h
  refine ⟨_, rfl, _, rfl, _, _, _, rfl, by decide +kernel, by rfl, _, _, rfl, rfl, ?_⟩
  rw [hv]
  show Qd (.bl _)
  by_cases q : x ∈ rowsOf ps
  · rw [if_pos q]; simpa [q] using hq
  · rw [if_neg q]; simpa [q] using hq
theorem k_place : Keeps (td_Letters_place K) ["self", "letter"] cPlace := by
  intro β ds Qd Ed h
  obtain ⟨ps, L, x, rfl, ⟨pp, kvs, t, rfl, hv⟩, hx, hq⟩ := h
  have e := hv x
  rw [if_pos hx] at e
  refine ⟨_, rfl, _, rfl, _, _, _, rfl, by decide +kernel, by rfl, _, _, rfl, rfl, ?_⟩
  refine ⟨_, rfl, ?_⟩
  rw [e]
  refine iteF rfl ?_
  exact ⟨_, rfl, _, _, _, rfl, by decide +kernel, by rfl, _, rfl, _, _, _, rfl, rfl, e, hq⟩
theorem k_is_run : Keeps (td_is_run K cLet) ["letters", "run", "letter"] cIsRun := by
  intro β ds Qd Ed h
  obtain ⟨ps, L, r, rfl, hL, hq⟩ := h
  refine ⟨_, rfl, _, rfl, ?_⟩
  have go : ∀ (r' : Rn) (δ : DSt), δ.length = 3 → δ[0]? = some (.val L) → Qd (.bl (okB (rowsOf ps) r')) →
      loopD (zName 2) (yIf [] (xNot (xTru (xMth β "Letters" "is_letter" cLet (xVar 0) (xCons (xVar 2) xNil)))) (yRet [] (xC (.bl false))) yNext) { nx := yRet [] (xC (.bl true)) { nx := fun _ => Qd .non, rt := Qd, xc := fun cn fs _ => Ed cn fs }, rt := Qd, xc := fun cn fs _ => Ed cn fs } (r'.map D.str) δ := by
    intro r'
    induction r' with
    | nil => intro δ _ _ q; exact q
    | cons x r' ih =>
      intro δ h3 h0 q
      have g0 : (δ.set 2 (.val (.str x)))[0]? = some (.val L) := by rw [List.getElem?_set_ne (by decide)]; exact h0
      have g2 : (δ.set 2 (.val (.str x)))[2]? = some (.val (.str x)) := List.getElem?_set_self (by omega)
      obtain ⟨pp, kvs, t, eL, hv⟩ := id hL
      refine ⟨_, g0, _, eL, by rfl, _, g2, ps, L, x, by rw [eL], hL, _, rfl, ?_⟩
      by_cases hx : x ∈ rowsOf ps
      · refine iteF (by simp [hx]) ?_
        refine ih _ (by rw [List.length_set]; exact h3) g0 ?_
        have : okB (rowsOf ps) (x :: r') = okB (rowsOf ps) r' := by unfold okB; simp [hx]
        rw [← this]; exact q
      · refine iteT (by simp [hx]) ?_
        have : okB (rowsOf ps) (x :: r') = false := by unfold okB; simp [hx]
        rw [this] at q; exact q
  exact go r _ rfl rfl hq
end
end K02

namespace K02
open PySem PySem.Spec PyProof.Rows L2 EX DL PL TL
theorem strsD_map : ∀ r : List Str, strsD (r.map D.str) = some r
  | [] => rfl
  | x :: r => by
    show (strsD (r.map D.str)).map _ = _
    rw [strsD_map r]; rfl
def badAt (mine : List Str) (runs : List Rn) : Option Nat := runs.findIdx? fun r => !okB mine r
/-- a lot: a list or a tuple of runs -/
def LotD (d : D) (runs : List Rn) : Prop := d = .lst (runs.map runD) ∨ d = .tup (runs.map runD)
def lotD (runs : List Rn) : D := .lst (runs.map runD)
def oTold : OC := fun _ ds Q E => ∃ ps L d runs, ds = [L, d] ∧ IsL ps L ∧ LotD d runs ∧ runs.length < 10000 ∧ (∀ r ∈ runs, r.length ≤ sizeLine) ∧ match badAt (rowsOf ps) runs with | some k => E "BadRun" (eRun k) | none => Q ((toldV (rowsOf ps) runs).map runD)
def lotText (mine : List Str) (runs : List Rn) : Str := Txt.join blank ((toldV mine runs).map runText)
def cLotText : DC := fun _ ds Q E => ∃ ps L d runs, ds = [L, d] ∧ IsL ps L ∧ LotD d runs ∧ runs.length < 1000 ∧ (∀ r ∈ runs, (r.map (·.length)).sum + r.length ≤ 1000) ∧ match badAt (rowsOf ps) runs with | some k => E "BadRun" (eRun k) | none => Q (.str (lotText (rowsOf ps) runs))
/-- what read_lot answers -/
def readLotV (mine : List Str) (t : Str) : Option (List Rn) := if t = "" then some [] else if (Txt.split t blank).all (fun x => (readV mine x).isSome) = true then some ((Txt.split t blank).filterMap (readV mine)) else none
def cReadLot : DC := fun _ ds Q E => ∃ ps L t, ds = [L, .str t] ∧ IsL ps L ∧ t.length ≤ 5200 ∧ match readLotV (rowsOf ps) t with | some runs => Q (lotD (toldV (rowsOf ps) runs)) | none => E "BadText" eText
section
variable {K : PySem.W.Frag}
theorem k_run_text : Keeps (td_run_text K) ["run"] cRunText := by
  intro β ds Qd Ed h
  obtain ⟨r, rfl, hl, hq⟩ := h
  refine ⟨_, rfl, _, rfl, ?_⟩
  unfold runText at hq
  by_cases e : r.length = 0
  · refine iteT (decide_eq_true (by show ((r.map D.str).length : Int) = 0; simp [e])) ?_
    rw [if_pos e] at hq
    exact hq
  · refine iteF (decide_eq_false (by show ¬ ((r.map D.str).length : Int) = 0; simp; intro z; exact e (by rw [z]; rfl))) ?_
    rw [if_neg e] at hq
    refine ⟨rfl, _, rfl, r, strsD_map r, ?_, hq⟩
    have : ("." : Str).length = 1 := by decide +kernel
    rw [this]
    omega
theorem k_read_run : Keeps (td_read_run K cIsRun) ["letters", "text", "run"] cReadRun := by
  intro β ds Qd Ed h
  obtain ⟨ps, L, t, rfl, hL, hz, hq⟩ := h
  unfold readV at hq
  refine ⟨_, rfl, _, rfl, ?_⟩
  by_cases e : t = dash
  · rw [if_pos e] at hq
    exact iteT (decide_eq_true e) ⟨by simp, hq⟩
  · rw [if_neg e] at hq
    refine iteF (decide_eq_false e) ?_
    refine ⟨_, rfl, rfl, by decide +kernel, hz, ?_⟩
    refine ⟨_, rfl, _, rfl, ps, L, Txt.split t dot, rfl, hL, _, rfl, ?_⟩
    have eo : okB (rowsOf ps) (Txt.split t dot) = (Txt.split t dot).all (fun w => decide (w ∈ rowsOf ps)) := rfl
    rw [← eo] at hq
    by_cases q : okB (rowsOf ps) (Txt.split t dot) = true
    · rw [if_pos q] at hq
      refine iteF (by rw [q]; rfl) ?_
      exact ⟨_, rfl, hq⟩
    · rw [if_neg q] at hq
      refine iteT (by rw [Bool.not_eq_true] at q; rw [q]; rfl) ?_
      exact ⟨rfl, rfl, rfl, hq⟩
theorem compD_map {g : TDG} {te : TDE} {δ : DSt} {α : Type} (f : α → D) (h : α → D) : ∀ (xs : List α) (k : List D → Prop), (∀ x ∈ xs, ∀ k : D → Prop, k (h x) → g (f x) δ fun δ1 => te δ1 k (fun _ _ => False)) → k (xs.map h) → compD g xYes te δ (xs.map f) k
  | [], k, _, q => q
  | x :: xs, k, hs, q => by
    rw [List.map_cons]
    unfold compD
    show g (f x) δ fun δ1 => if true = true then te δ1 (fun y => compD g xYes te δ (xs.map f) fun ys => k (y :: ys)) (fun _ _ => False) else compD g xYes te δ (xs.map f) k
    simp only [if_true]
    exact hs x List.mem_cons_self _ (compD_map f h xs (fun ys => k (h x :: ys)) (fun y hy => hs y (List.mem_cons_of_mem _ hy)) q)
theorem k_run_key : Keeps (td_run_key K cIsRun cPlace) ["letters", "run", "letter"] cRunKey := by
  intro β ds Qd Ed h
  obtain ⟨ps, L, r, rfl, hL, hz, hq⟩ := h
  refine ⟨_, rfl, _, rfl, ps, L, r, rfl, hL, _, rfl, ?_⟩
  by_cases q : okB (rowsOf ps) r = true
  · rw [if_pos q] at hq
    refine iteF (by rw [q]; rfl) ?_
    refine ⟨_, rfl, ?_⟩
    refine ⟨_, rfl, _, rfl, by rw [List.length_map]; exact hz, ?_⟩
    refine compD_map D.str (fun x => .int ((idx (rowsOf ps) x : Nat) : Int)) r _ (fun x hx k hk => ?_) ?_
    · obtain ⟨pp, kvs, t, eL, hv⟩ := id hL
      exact ⟨_, rfl, _, eL, by rfl, _, rfl, ps, L, x, by rw [eL], hL, okB_iff.mp q x hx, hk⟩
    · refine ⟨by rw [sizeLine_eq]; show 2 ≤ 16777216; decide, ?_⟩
      show Qd (.tup [.int ((r.map D.str).length : Nat), .tup (r.map fun x => .int ((idx (rowsOf ps) x : Nat) : Int))])
      rw [List.length_map]
      exact hq
  · rw [if_neg q] at hq
    refine iteT (by rw [Bool.not_eq_true] at q; rw [q]; rfl) ?_
    exact ⟨rfl, rfl, rfl, hq⟩
theorem itemsD_lot {d : D} {runs : List Rn} (h : LotD d runs) : itemsD d = some (runs.map runD) := by
  rcases h with rfl | rfl <;> rfl
theorem lot_or {d : D} {runs : List Rn} (h : LotD d runs) : [d] = [D.lst (runs.map runD)] ∨ [d] = [D.tup (runs.map runD)] := by
  rcases h with rfl | rfl
  · exact .inl rfl
  · exact .inr rfl
theorem badAt_cons {mine : List Str} {r : Rn} {rs : List Rn} : badAt mine (r :: rs) = if okB mine r = true then (badAt mine rs).map (· + 1) else some 0 := by
  unfold badAt
  rw [List.findIdx?_cons]
  cases okB mine r <;> rfl
theorem badAt_none {mine : List Str} {rs : List Rn} (h : badAt mine rs = none) : ∀ r ∈ rs, Ok mine r := fun r hr => by
  unfold badAt at h
  rw [List.findIdx?_eq_none_iff] at h
  exact okB_iff.mp (by simpa using h r hr)
theorem compNdc_cons {g : TDG} {tk tv : TDE} {δ : DSt} {acc : List (NestedKey × D)} {d : D} {ds : List D} {k : List (NestedKey × D) → Prop}
    (h : g d δ fun δ1 => tk δ1 (fun y => tv δ1 (fun z => ∃ ks, y = nkD (.tup ks) ∧ (NestedKey.tup ks).depth ≤ 8 ∧ compNdc g xYes tk tv δ (DL.putN acc (.tup ks) z) ds k) (fun _ _ => False)) (fun _ _ => False)) : compNdc g xYes tk tv δ acc (d :: ds) k := by
  unfold compNdc
  show g d δ fun δ1 => if true = true then tk δ1 (fun y => tv δ1 (fun z => ∃ ks, y = nkD (.tup ks) ∧ (NestedKey.tup ks).depth ≤ 8 ∧ compNdc g xYes tk tv δ (DL.putN acc (.tup ks) z) ds k) (fun _ _ => False)) (fun _ _ => False) else compNdc g xYes tk tv δ acc ds k
  simp only [if_true]
  exact h
theorem k_told_lot : KeepsO (td_told_lot K cIsRun cRunKey) ["letters", "lot", "at", "run", "found", "key"] oTold := by
  intro β ds Qd Ed h
  obtain ⟨ps, L, d, runs, rfl, hL, hd, hz, hl, hq⟩ := h
  refine ⟨_, rfl, runs.map runD, lot_or hd, ?_⟩
  -- behind the loop
  have rest : ∀ s2 s3 : Sl, (∀ r ∈ runs, Ok (rowsOf ps) r) → Qd ((toldV (rowsOf ps) runs).map runD) →
      (ySeq (ySetNdc [] 4 [3] (xiAny (xVar 1)) (zName 3) xYes (xFn β cRunKey (xCons (xVar 0) (xCons (xVar 3) xNil))) (xCall dTuple (xCons (xVar 3) xNil)))
        (yRetO [] (xLc [5] (xiAny (xNSorted 4)) (zName 5) xYes (xNGetO 4 (xVar 5))))) { nx := fun _ => False, rt := fun _ => False, xc := fun cn fs _ => Ed cn fs, ro := Qd } [.val L, .val d, s2, s3, .non, .non] := by
    intro s2 s3 ok q
    refine ⟨_, rfl, _, itemsD_lot hd, by rw [List.length_map, sizeLine_eq]; omega, ?_⟩
    -- the dict
    have comp : ∀ (todo done : List Rn) (k : List (NestedKey × D) → Prop), (∀ r ∈ done, Ok (rowsOf ps) r) → (∀ r ∈ todo, Ok (rowsOf ps) r ∧ r.length ≤ sizeLine) → k ((diff (done ++ todo)).map (ent (rowsOf ps))) →
        compNdc (zName 3) xYes (xFn β cRunKey (xCons (xVar 0) (xCons (xVar 3) xNil))) (xCall dTuple (xCons (xVar 3) xNil)) [.val L, .val d, s2, .non, .non, .non] ((diff done).map (ent (rowsOf ps))) (todo.map runD) k := by
      intro todo
      induction todo with
      | nil => intro done k _ _ q; rw [List.append_nil] at q; exact q
      | cons r todo ih =>
        intro done k h1 h2 q
        rw [List.map_cons]
        refine compNdc_cons ?_
        have hr := h2 r (by simp)
        refine ⟨_, rfl, _, rfl, ps, L, r, rfl, hL, hr.2, ?_⟩
        rw [if_pos (okB_iff.mpr hr.1)]
        refine ⟨_, rfl, keyN (rowsOf ps) r, (keyD_n _ _).symm, key_ndepth _ _, ?_⟩
        have e := put_ent (mine := rowsOf ps) (rs := diff done) (r := r) (fun x hx => h1 x (((diff_mem done).2 x).mp hx)) hr.1
        show compNdc _ _ _ _ _ (DL.putN ((diff done).map (ent (rowsOf ps))) (.tup (keyN (rowsOf ps) r)) (runD r)) _ _
        rw [e]
        have e2 : (if r ∈ diff done then (diff done).map (ent (rowsOf ps)) else (diff done ++ [r]).map (ent (rowsOf ps))) = (diff (done ++ [r])).map (ent (rowsOf ps)) := by
          rw [diff_snoc]
          split <;> rfl
        rw [e2]
        refine ih (done ++ [r]) k (fun x hx => ?_) (fun x hx => h2 x (List.mem_cons_of_mem _ hx)) ?_
        · rcases List.mem_append.mp hx with hx | hx
          · exact h1 x hx
          · rw [List.mem_singleton.mp hx]; exact hr.1
        · rw [List.append_assoc]; exact q
    refine comp runs [] _ (by simp) (fun r hr => ⟨ok r hr, hl r hr⟩) ?_
    rw [List.nil_append]
    have ld : ((diff runs).map (ent (rowsOf ps))).length ≤ 10000 := by
      rw [List.length_map]
      have : (diff runs).length ≤ runs.length := by
        have hd := diff_mem runs
        exact (hd.1.length_le_of_subset fun x hx => (hd.2 x).mp hx)
      omega
    have okd : ∀ x ∈ (diff runs).map (ent (rowsOf ps)), ∃ r ∈ runs, x = ent (rowsOf ps) r := fun x hx => by
      obtain ⟨r, hr, rfl⟩ := List.mem_map.mp hx
      exact ⟨r, ((diff_mem runs).2 r).mp hr, rfl⟩
    refine ⟨_, rfl, by rw [sizeLine_eq]; omega, ?_, ?_, fun x hx => ?_, _, rfl, ?_⟩
    · intro y hy y' hy'
      obtain ⟨x, hx, rfl⟩ := List.mem_map.mp hy
      obtain ⟨x', hx', rfl⟩ := List.mem_map.mp hy'
      obtain ⟨r, _, rfl⟩ := okd x hx
      obtain ⟨r', _, rfl⟩ := okd x' hx'
      exact key_alike _ _ _
    · refine .inl fun y hy => ?_
      obtain ⟨x, hx, rfl⟩ := List.mem_map.mp hy
      obtain ⟨r, _, rfl⟩ := okd x hx
      exact ⟨_, _, key_data _ _⟩
    · obtain ⟨r, _, rfl⟩ := okd x hx
      exact key_depth _ _
    · rw [sort_told ok]
      have tv := toldV_ok ok
      rw [List.map_map]
      have lt : (toldV (rowsOf ps) runs).length ≤ 10000 := by
        have nd : (toldV (rowsOf ps) runs).Nodup := tv.1.imp fun h e => by rw [e, ah_irr] at h; cases h
        have := nd.length_le_of_subset fun x hx => (tv.2 x).mp hx
        omega
      refine ⟨by rw [List.length_map, sizeLine_eq]; omega, ?_⟩
      refine compD_map (fun r => nkD (ent (rowsOf ps) r).1) runD (toldV (rowsOf ps) runs) Qd (fun r hr k hk => ?_) q
      have hr' := (tv.2 r).mp hr
      exact ⟨_, rfl, _, rfl, _, _, rfl, key_ndepth _ _, val_ent (fun x hx => ok x (((diff_mem runs).2 x).mp hx)) (((diff_mem runs).2 r).mpr hr'), hk⟩
  have loop : ∀ (rs : List Rn) (n : Nat) (s2 s3 : Sl), (match (badAt (rowsOf ps) rs).map (· + n) with | some k => Ed "BadRun" (eRun k) | none => (∀ r ∈ runs, Ok (rowsOf ps) r) ∧ Qd ((toldV (rowsOf ps) runs).map runD)) →
      loopD (zTup 2 (zCons (zName 2) (zCons (zName 3) zNil))) (yIf [] (xNot (xTru (xFn β cIsRun (xCons (xVar 0) (xCons (xVar 3) xNil))))) (yRaise [] "BadRun" "BadRun" ["at"] [0] 1 (xLen 1 (xCons (xVar 2) xNil))) yNext)
        { nx := (ySeq (ySetNdc [] 4 [3] (xiAny (xVar 1)) (zName 3) xYes (xFn β cRunKey (xCons (xVar 0) (xCons (xVar 3) xNil))) (xCall dTuple (xCons (xVar 3) xNil)))
        (yRetO [] (xLc [5] (xiAny (xNSorted 4)) (zName 5) xYes (xNGetO 4 (xVar 5))))) { nx := fun _ => False, rt := fun _ => False, xc := fun cn fs _ => Ed cn fs, ro := Qd }, rt := fun _ => False, xc := fun cn fs _ => Ed cn fs, ro := Qd } (enumD n (rs.map runD)) [.val L, .val d, s2, s3, .non, .non] := by
    intro rs
    induction rs with
    | nil => intro n s2 s3 q; exact rest s2 s3 q.1 q.2
    | cons r rs ih =>
      intro n s2 s3 q
      rw [badAt_cons] at q
      refine ⟨rfl, rfl, ?_⟩
      refine ⟨_, rfl, _, rfl, ps, L, r, rfl, hL, _, rfl, ?_⟩
      by_cases e : okB (rowsOf ps) r = true
      · rw [if_pos e] at q
        refine iteF (by rw [e]; rfl) ?_
        refine ih (n + 1) _ _ ?_
        rw [Option.map_map] at q
        have ee : ((fun x => x + n) ∘ fun x => x + 1) = fun x : Nat => x + (n + 1) := by funext x; show x + 1 + n = x + (n + 1); omega
        rw [ee] at q
        exact q
      · rw [if_neg e] at q
        refine iteT (by rw [Bool.not_eq_true] at e; rw [e]; rfl) ?_
        refine ⟨_, rfl, rfl, rfl, rfl, ?_⟩
        have q : Ed "BadRun" (eRun ((0 + n : Nat) : Int)) := q
        rw [Nat.zero_add] at q
        exact q
  refine loop runs 0 _ _ ?_
  cases e : badAt (rowsOf ps) runs with
  | some k => rw [e] at hq; exact hq
  | none => rw [e] at hq; exact ⟨badAt_none e, hq⟩
end
end K02

namespace K02
open PySem PySem.Spec PyProof.Rows L2 EX DL PL TL
section
variable {K : PySem.W.Frag}
theorem badAt_some {mine : List Str} {rs : List Rn} (h : ∀ r ∈ rs, Ok mine r) : badAt mine rs = none := by
  unfold badAt
  rw [List.findIdx?_eq_none_iff]
  intro r hr
  rw [okB_iff.mpr (h r hr)]; rfl
theorem told_len {mine : List Str} {runs : List Rn} (h : ∀ r ∈ runs, Ok mine r) : (toldV mine runs).length ≤ runs.length := by
  have tv := toldV_ok h
  have nd : (toldV mine runs).Nodup := tv.1.imp fun h e => by rw [e, ah_irr] at h; cases h
  exact nd.length_le_of_subset fun x hx => (tv.2 x).mp hx
theorem runText_len (r : Rn) : (runText r).length ≤ (r.map (·.length)).sum + r.length + 1 := by
  unfold runText
  split
  · have : dash.length = 1 := by decide +kernel
    omega
  · rw [join_eq]
    have := StrLaws.join_length_le dot r
    have hd : dot.length = 1 := by decide +kernel
    rw [hd] at this
    omega
theorem sum_le {α : Type} (f : α → Nat) (B : Nat) : ∀ xs : List α, (∀ x ∈ xs, f x ≤ B) → (xs.map f).sum ≤ xs.length * B
  | [], _ => by simp
  | x :: xs, h => by
    have := sum_le f B xs fun y hy => h y (List.mem_cons_of_mem _ hy)
    have := h x (by simp)
    rw [List.map_cons, List.sum_cons, List.length_cons, Nat.succ_mul]
    omega
theorem k_lot_text : Keeps (td_lot_text K oTold.d cRunText) ["letters", "lot", "run"] cLotText := by
  intro β ds Qd Ed h
  obtain ⟨ps, L, d, runs, rfl, hL, hd, hz, hl, hq⟩ := h
  refine ⟨rfl, _, rfl, _, rfl, ps, L, d, runs, rfl, hL, hd, by omega, fun r hr => ?_, ?_⟩
  · have := hl r hr
    rw [sizeLine_eq]; omega
  cases e : badAt (rowsOf ps) runs with
  | some k => rw [e] at hq; exact hq
  | none =>
    rw [e] at hq
    have ok := badAt_none e
    have tl := told_len ok
    refine ⟨_, rfl, by rw [List.length_map, sizeLine_eq]; omega, ?_⟩
    have hin : ∀ r ∈ toldV (rowsOf ps) runs, (r.map (·.length)).sum + r.length ≤ 1000 := fun r hr => hl r (((toldV_ok ok).2 r).mp hr)
    refine compD_map runD (fun r => .str (runText r)) _ _ (fun r hr k hk => ⟨_, rfl, r, rfl, ?_, hk⟩) ?_
    · have := hin r hr
      omega
    · refine ⟨(toldV (rowsOf ps) runs).map runText, ?_, ?_, hq⟩
      · rw [← strsD_map, List.map_map]; rfl
      · rw [List.map_map, List.length_map]
        have h1 : (" " : Str).length = 1 := by decide +kernel
        rw [h1]
        have := sum_le ((fun x => x.length) ∘ runText) 1001 (toldV (rowsOf ps) runs) fun r hr => by
          have := runText_len r
          have := hin r hr
          show (runText r).length ≤ 1001
          omega
        omega
theorem compDX_opt {g : TDG} {te : TDE} {δ : DSt} {α β' : Type} (f : α → D) (o : α → Option β') (h : β' → D) (cn : Str) (fs : List (Str × D)) (E : XD) : ∀ (xs : List α) (k : List D → Prop), (∀ x ∈ xs, ∀ k : D → Prop, (match o x with | some y => k (h y) | none => E cn fs) → g (f x) δ fun δ1 => te δ1 k E) →
    (if xs.all (fun x => (o x).isSome) = true then k ((xs.filterMap o).map h) else E cn fs) → compDX g xYes te δ (xs.map f) k E
  | [], k, _, q => q
  | x :: xs, k, hs, q => by
    rw [List.map_cons]
    unfold compDX
    show g (f x) δ fun δ1 => if true = true then te δ1 (fun y => compDX g xYes te δ (xs.map f) (fun ys => k (y :: ys)) E) E else compDX g xYes te δ (xs.map f) k E
    simp only [if_true]
    refine hs x List.mem_cons_self _ ?_
    cases e : o x with
    | none =>
      rw [if_neg (by simp [e])] at q
      exact q
    | some y =>
      refine compDX_opt f o h cn fs E xs _ (fun z hz => hs z (List.mem_cons_of_mem _ hz)) ?_
      rw [List.all_cons, e] at q
      rw [List.filterMap_cons_some e] at q
      simpa using q
theorem readV_ok {mine : List Str} {t : Str} {ws : Rn} (h : readV mine t = some ws) : Ok mine ws ∧ ws.length ≤ t.length + 2 := by
  unfold readV at h
  split at h
  · have e := Option.some.inj h
    subst e
    exact ⟨fun x hx => (by cases hx), (by simp)⟩
  · split at h
    · rename_i q
      have e := Option.some.inj h
      subst e
      exact ⟨fun x hx => of_decide_eq_true (List.all_eq_true.mp q x hx), split_le t dot⟩
    · cases h
theorem k_read_lot : Keeps (td_read_lot K oTold.d cReadRun) ["letters", "text", "word"] cReadLot := by
  intro β ds Qd Ed h
  obtain ⟨ps, L, t, rfl, hL, hz, hq⟩ := h
  unfold readLotV at hq
  refine ⟨_, rfl, _, rfl, ?_⟩
  by_cases e : t = ""
  · rw [if_pos e] at hq
    exact iteT (decide_eq_true e) ⟨by simp, hq⟩
  · rw [if_neg e] at hq
    refine iteF (decide_eq_false e) ?_
    refine ⟨_, rfl, _, rfl, rfl, by decide +kernel, by rw [sizeLine_eq]; omega, _, rfl, ?_⟩
    have sl := split_le t blank
    refine ⟨by rw [List.length_map, sizeLine_eq]; exact Nat.le_trans sl (by omega), ?_⟩
    refine compDX_opt D.str (readV (rowsOf ps)) runD "BadText" eText _ _ _ (fun x hx k hk => ⟨_, rfl, _, rfl, ps, L, x, rfl, hL, ?_, (by revert hk; cases readV (rowsOf ps) x <;> exact id)⟩) ?_
    · have := part_short hx
      rw [sizeLine_eq]; omega
    · by_cases q : (Txt.split t blank).all (fun x => (readV (rowsOf ps) x).isSome) = true
      · rw [if_pos q] at hq ⊢
        have ok : ∀ r ∈ (Txt.split t blank).filterMap (readV (rowsOf ps)), Ok (rowsOf ps) r ∧ r.length ≤ sizeLine := fun r hr => by
          obtain ⟨x, hx, e⟩ := List.mem_filterMap.mp hr
          obtain ⟨h1, h2⟩ := readV_ok e
          have := part_short hx
          exact ⟨h1, by rw [sizeLine_eq]; omega⟩
        refine ⟨ps, L, _, _, rfl, hL, .inl rfl, ?_, fun r hr => (ok r hr).2, ?_⟩
        · have l2 : (List.filterMap (readV (rowsOf ps)) (Txt.split t (" " : Str))).length ≤ (Txt.split t (" " : Str)).length := List.length_filterMap_le _ _
          have sl' : (Txt.split t (" " : Str)).length ≤ t.length + 2 := sl
          omega
        · rw [badAt_some fun r hr => (ok r hr).1]
          exact hq
      · rw [if_neg q] at hq ⊢
        exact hq
end
end K02

namespace K02
open PySem PySem.Spec PyProof.Rows L2 EX DL PL TL
def nameB (n : Str) : Bool := decide (1 ≤ n.length ∧ n.length ≤ 6) && (tl n).all fun c => decide (97 ≤ c ∧ c ≤ 122)
def sgB (c : Nat) : Bool := decide (48 ≤ c ∧ c ≤ 57) || decide (97 ≤ c ∧ c ≤ 122)
structure PartOk (p : Part) : Prop where
  name : nameB p.1 = true
  sg : ∀ c ∈ tl p.2, sgB c = true
  nd : (tl p.2).Nodup
  pos : 1 ≤ p.2.length
  max : p.2.length ≤ 16
def manyOf (ps : List Part) : Nat := (ps.map fun p => p.2.length).foldl (· * ·) 1
structure Parts (ps : List Part) : Prop where
  ne : ps ≠ []
  few : ps.length ≤ 4
  all : ∀ p ∈ ps, PartOk p
  nd : (ps.map (·.1)).Nodup
  many : manyOf ps ≤ 16
structure RowsOk (n : Nat) (rows : List Str) : Prop where
  ne : rows ≠ []
  nd : rows.Nodup
  len : ∀ x ∈ rows, x.length = n
  sg : ∀ x ∈ rows, ∀ c ∈ tl x, (48 ≤ c ∧ c ≤ 57) ∨ (97 ≤ c ∧ c ≤ 122)
theorem grow_len (rows : List Str) (p : Part) : (growS rows p).length = rows.length * p.2.length := by
  unfold growS
  induction rows with
  | nil => simp
  | cons r rows ih =>
    rw [List.flatMap_cons, List.length_append, ih, List.length_map, List.length_cons, Nat.succ_mul]
    unfold signsS
    rw [List.length_map, ← len_tl]; omega
theorem grow_ok {n : Nat} {rows : List Str} {p : Part} (h : RowsOk n rows) (hp : PartOk p) : RowsOk (n + 1) (growS rows p) := by
  have mem : ∀ x, x ∈ growS rows p ↔ ∃ r ∈ rows, ∃ c ∈ tl p.2, x = r ++ (⟨#[c]⟩ : Str) := fun x => by
    unfold growS signsS
    rw [List.mem_flatMap]
    constructor
    · rintro ⟨r, hr, hx⟩
      obtain ⟨z, hz, rfl⟩ := List.mem_map.mp hx
      obtain ⟨c, hc, rfl⟩ := List.mem_map.mp hz
      exact ⟨r, hr, c, hc, rfl⟩
    · rintro ⟨r, hr, c, hc, rfl⟩
      exact ⟨r, hr, List.mem_map.mpr ⟨_, List.mem_map.mpr ⟨c, hc, rfl⟩, rfl⟩⟩
  refine ⟨fun z => ?_, ?_, fun x hx => ?_, fun x hx c hc => ?_⟩
  · have := grow_len rows p
    rw [z, List.length_nil] at this
    have h1 := List.length_pos_iff.mpr h.ne
    have := Nat.mul_pos h1 hp.pos
    omega
  · unfold growS
    rw [List.Nodup, List.pairwise_flatMap]
    constructor
    · intro r hr
      unfold signsS
      rw [List.map_map, List.pairwise_map]
      refine hp.nd.imp fun {a b} hab e => hab ?_
      have := congrArg tl e
      simp only [Function.comp, tl_append, tl_mk] at this
      have := List.append_cancel_left this
      exact (List.cons.inj this).1
    · refine h.nd.imp_of_mem fun {a b} ha hb hab x hx y hy e => hab ?_
      obtain ⟨z, hz, rfl⟩ := List.mem_map.mp hx
      obtain ⟨z', hz', rfl⟩ := List.mem_map.mp hy
      have e' := congrArg tl e
      rw [tl_append, tl_append] at e'
      have la : (tl a).length = (tl b).length := by rw [← len_tl, ← len_tl, h.len a ha, h.len b hb]
      exact ext_tl (List.append_inj_left e' la)
  · obtain ⟨r, hr, c, hc, rfl⟩ := (mem x).mp hx
    rw [len_tl, tl_append, List.length_append, ← len_tl, h.len r hr]; rfl
  · obtain ⟨r, hr, c', hc', rfl⟩ := (mem x).mp hx
    rw [tl_append, List.mem_append] at hc
    rcases hc with hc | hc
    · exact h.sg r hr c hc
    · have : c = c' := by simpa using hc
      subst this
      have := hp.sg c hc'
      unfold sgB at this
      simpa using this
theorem rows_go : ∀ (ps : List Part) (rows : List Str) (n : Nat), RowsOk n rows → (∀ p ∈ ps, PartOk p) → RowsOk (n + ps.length) (ps.foldl growS rows) ∧ (ps.foldl growS rows).length = (ps.map fun p => p.2.length).foldl (· * ·) rows.length
  | [], rows, n, h, _ => ⟨h, rfl⟩
  | p :: ps, rows, n, h, hp => by
    have := rows_go ps (growS rows p) (n + 1) (grow_ok h (hp p (by simp))) fun q hq => hp q (List.mem_cons_of_mem _ hq)
    rw [List.foldl_cons, List.map_cons, List.foldl_cons, ← grow_len, List.length_cons, show n + (ps.length + 1) = n + 1 + ps.length from by omega]
    exact this
theorem rows0 : RowsOk 0 [("" : Str)] := ⟨by simp, by simp, fun x hx => by
  rw [List.mem_singleton.mp hx]; decide +kernel, fun x hx c hc => by
  rw [List.mem_singleton.mp hx, tl_empty] at hc; cases hc⟩
theorem Parts.mine {ps : List Part} (h : Parts ps) : Mine ps.length (rowsOf ps) := by
  obtain ⟨r, l⟩ := rows_go ps [""] 0 rows0 h.all
  rw [Nat.zero_add] at r
  refine ⟨List.length_pos_iff.mpr h.ne, h.few, r.ne, ?_, r.nd, r.len, r.sg⟩
  rw [show rowsOf ps = ps.foldl growS [""] from rfl, l]
  exact h.many
theorem Parts.good {ps : List Part} (h : Parts ps) : GoodPs ps := ⟨h.mine, h.nd⟩
def signsB (z : Str) : Bool := decide (1 ≤ z.length ∧ z.length ≤ 16) && decide ((tl z).Nodup) && (tl z).all sgB
def cName : DC := fun _ ds Q _ => ∃ n : Str, ds = [.str n] ∧ n.length ≤ sizeLine ∧ Q (.bl (nameB n))
def cSigns : DC := fun _ ds Q _ => ∃ n : Str, ds = [.str n] ∧ n.length ≤ 1000 ∧ Q (.bl (signsB n))
def cListed : DC := fun _ ds Q _ => ∃ ps, ds = [partsD ps] ∧ Parts ps ∧ Q (mineD (rowsOf ps))
theorem signsD_map (z : Str) : signsD z = (tl z).map fun c => .str ⟨#[c]⟩ := rfl
theorem tl_small : tl ("abcdefghijklmnopqrstuvwxyz" : Str) = (List.range 26).map (97 + ·) := by decide +kernel
theorem tl_signs : tl ("0123456789abcdefghijklmnopqrstuvwxyz" : Str) = (List.range 10).map (48 + ·) ++ (List.range 26).map (97 + ·) := by decide +kernel
theorem in_small (c : Nat) : decide (c ∈ tl ("abcdefghijklmnopqrstuvwxyz" : Str)) = decide (97 ≤ c ∧ c ≤ 122) := by
  rw [tl_small]
  apply decide_eq_decide.mpr
  simp only [List.mem_map, List.mem_range]
  constructor
  · rintro ⟨a, h, rfl⟩; omega
  · rintro ⟨h1, h2⟩; exact ⟨c - 97, by omega, by omega⟩
theorem in_signs (c : Nat) : decide (c ∈ tl ("0123456789abcdefghijklmnopqrstuvwxyz" : Str)) = sgB c := by
  rw [tl_signs]
  unfold sgB
  rw [← Bool.decide_or]
  apply decide_eq_decide.mpr
  simp only [List.mem_append, List.mem_map, List.mem_range]
  constructor
  · rintro (⟨a, h, rfl⟩ | ⟨a, h, rfl⟩) <;> omega
  · rintro (⟨h1, h2⟩ | ⟨h1, h2⟩)
    · exact .inl ⟨c - 48, by omega, by omega⟩
    · exact .inr ⟨c - 97, by omega, by omega⟩
section
variable {K : PySem.W.Frag}
theorem k_is_name : Keeps (td_is_name K) ["text", "sign"] cName := by
  intro β ds Qd Ed h
  obtain ⟨n, rfl, hz, hq⟩ := h
  have go : ∀ (cs : List Nat) (s1 : Sl), Qd (.bl (cs.all fun c => decide (97 ≤ c ∧ c ≤ 122))) →
      loopD (zName 1) (yIf [] (xTest (xOp (dInA true) (xVar 1) (xC (.str "abcdefghijklmnopqrstuvwxyz")))) (yRet [] (xC (.bl false))) yNext) { nx := yRet [] (xC (.bl true)) { nx := fun _ => Qd .non, rt := Qd, xc := fun cn fs _ => Ed cn fs }, rt := Qd, xc := fun cn fs _ => Ed cn fs } (cs.map fun c => .str ⟨#[c]⟩) [.val (.str n), s1] := by
    intro cs
    induction cs with
    | nil => intro s1 q; exact q
    | cons c cs ih =>
      intro s1 q
      refine ⟨_, rfl, c, rfl, _, rfl, ?_⟩
      have e := in_small c
      by_cases h : 97 ≤ c ∧ c ≤ 122
      · refine iteF (by show (!decide (c ∈ tl ("abcdefghijklmnopqrstuvwxyz" : Str))) = false; rw [e]; simp [h]) ?_
        refine ih _ ?_
        rw [List.all_cons, decide_eq_true h, Bool.true_and] at q
        exact q
      · refine iteT (by show (!decide (c ∈ tl ("abcdefghijklmnopqrstuvwxyz" : Str))) = true; rw [e, decide_eq_false h]; rfl) ?_
        rw [List.all_cons, decide_eq_false h, Bool.false_and] at q
        exact q
  unfold nameB at hq
  have tail : ∀ s1 : Sl, decide (1 ≤ n.length ∧ n.length ≤ 6) = true → (ySeq (yFor [] (xiAny (xVar 0)) (zName 1) (yIf [] (xTest (xOp (dInA true) (xVar 1) (xC (.str "abcdefghijklmnopqrstuvwxyz")))) (yRet [] (xC (.bl false))) yNext)) (yRet [] (xC (.bl true)))) { nx := fun _ => Qd .non, rt := Qd, xc := fun cn fs _ => Ed cn fs } [.val (.str n), s1] := fun s1 e => by
    refine ⟨_, rfl, _, rfl, ?_⟩
    rw [e, Bool.true_and] at hq
    exact go (tl n) s1 hq
  have no : decide (1 ≤ n.length ∧ n.length ≤ 6) = false → Qd (.bl false) := fun e => by
    rw [e, Bool.false_and] at hq; exact hq
  refine ⟨_, rfl, hz, _, rfl, ?_⟩
  by_cases h1 : (1 : Int) ≤ (n.length : Nat)
  · refine iteT (decide_eq_true h1) ⟨_, rfl, ?_⟩
    by_cases h2 : ((n.length : Nat) : Int) ≤ 6
    · refine iteF (by simp; omega) (tail _ (decide_eq_true (by omega)))
    · refine iteT (by simp; omega) (no (decide_eq_false (by omega)))
  · exact iteF (decide_eq_false h1) ⟨_, rfl, iteT rfl (no (decide_eq_false (by omega)))⟩
theorem metK_sub (ks : List Key) : (metK ks).Sublist ks ∧ (metK ks).Nodup := by
  have go : ∀ rs : List Key, (metK rs.reverse).Sublist rs.reverse ∧ (metK rs.reverse).Nodup := by
    intro rs
    induction rs with
    | nil => exact ⟨List.Sublist.slnil, .nil⟩
    | cons k rs ih =>
      rw [List.reverse_cons, metK_snoc]
      unfold stepD
      by_cases q : memK (metK rs.reverse) k = true
      · rw [if_pos q]
        exact ⟨ih.1.trans (List.sublist_append_left _ _), ih.2⟩
      · rw [if_neg q]
        refine ⟨ih.1.append (List.Sublist.refl _), ?_⟩
        rw [List.nodup_append]
        refine ⟨ih.2, by simp, fun a ha b hb e => q ?_⟩
        rw [memK_iff, ← List.mem_singleton.mp hb, ← e]
        exact ha
  have := go ks.reverse
  rw [List.reverse_reverse] at this
  exact this
theorem metK_nd (ks : List Key) : (metK ks).length = ks.length ↔ ks.Nodup := by
  obtain ⟨h1, h2⟩ := metK_sub ks
  constructor
  · intro e
    rw [← h1.eq_of_length e]; exact h2
  · intro nd
    refine Nat.le_antisymm h1.length_le (nd.length_le_of_subset fun x hx => (metK_mem ks x).mpr hx)
theorem signsK_nd (z : Str) : (metK (signsK z)).length = z.length ↔ (tl z).Nodup := by
  have e : z.length = (signsK z).length := by unfold signsK; rw [List.length_map, len_tl]
  rw [e, metK_nd]
  unfold signsK
  constructor
  · intro h
    exact List.Pairwise.of_map _ (fun a b hab e => hab (by rw [e])) h
  · intro h
    rw [List.Nodup, List.pairwise_map]
    exact h.imp fun {a b} hab e => hab (by
      injection e with e
      have := congrArg tl e
      exact (List.cons.inj this).1)
theorem k_signs : Keeps (td__are_signs K) ["text", "sign"] cSigns := by
  intro β ds Qd Ed h
  obtain ⟨n, rfl, hz, hq⟩ := h
  have hz2 : n.length ≤ sizeLine := by rw [sizeLine_eq]; omega
  have go : ∀ (cs : List Nat) (s1 : Sl), Qd (.bl (cs.all sgB)) →
      loopD (zName 1) (yIf [] (xTest (xOp (dInA true) (xVar 1) (xC (.str "0123456789abcdefghijklmnopqrstuvwxyz")))) (yRet [] (xC (.bl false))) yNext) { nx := yRet [] (xC (.bl true)) { nx := fun _ => Qd .non, rt := Qd, xc := fun cn fs _ => Ed cn fs }, rt := Qd, xc := fun cn fs _ => Ed cn fs } (cs.map fun c => .str ⟨#[c]⟩) [.val (.str n), s1] := by
    intro cs
    induction cs with
    | nil => intro s1 q; exact q
    | cons c cs ih =>
      intro s1 q
      refine ⟨_, rfl, c, rfl, _, rfl, ?_⟩
      have e := in_signs c
      rw [List.all_cons] at q
      cases h : sgB c with
      | true =>
        refine iteF (by show (!decide (c ∈ tl ("0123456789abcdefghijklmnopqrstuvwxyz" : Str))) = false; rw [e, h]; rfl) ?_
        refine ih _ ?_
        rw [h, Bool.true_and] at q
        exact q
      | false =>
        refine iteT (by show (!decide (c ∈ tl ("0123456789abcdefghijklmnopqrstuvwxyz" : Str))) = true; rw [e, h]; rfl) ?_
        rw [h, Bool.false_and] at q
        exact q
  unfold signsB at hq
  have no : (decide (1 ≤ n.length ∧ n.length ≤ 16) = false ∨ decide ((tl n).Nodup) = false) → Qd (.bl false) := fun e => by
    rcases e with e | e
    · rw [e, Bool.false_and, Bool.false_and] at hq; exact hq
    · rw [e, Bool.and_false, Bool.false_and] at hq; exact hq
  have sb : (scanBound : Nat) = 4096 := rfl
  -- the second test and what is behind it
  have second : decide (1 ≤ n.length ∧ n.length ≤ 16) = true → ∀ (Q : Bool → Prop), (∀ b : Bool, b = !decide ((tl n).Nodup) → Q b) → xTest (xOp (dEq true) (xLenSet (xVar 0)) (xCall dLen (xCons (xVar 0) xNil))) [.val (.str n), .non] Q (fun _ _ => False) := fun _ Q k => by
    refine ⟨_, rfl, n, rfl, by omega, _, rfl, hz2, _, rfl, k _ ?_⟩
    show (!decide _) = _
    congr 1
    apply decide_eq_decide.mpr
    constructor
    · intro e; exact (signsK_nd n).mp (by omega)
    · intro e; rw [(signsK_nd n).mpr e]
  have fin : decide (1 ≤ n.length ∧ n.length ≤ 16) = true → decide ((tl n).Nodup) = true → (ySeq (yFor [] (xiAny (xVar 0)) (zName 1) (yIf [] (xTest (xOp (dInA true) (xVar 1) (xC (.str "0123456789abcdefghijklmnopqrstuvwxyz")))) (yRet [] (xC (.bl false))) yNext)) (yRet [] (xC (.bl true)))) { nx := fun _ => Qd .non, rt := Qd, xc := fun cn fs _ => Ed cn fs } [.val (.str n), .non] := fun e1 e2 => by
    refine ⟨_, rfl, _, rfl, ?_⟩
    rw [e1, e2, Bool.true_and, Bool.true_and] at hq
    exact go (tl n) _ hq
  refine ⟨_, rfl, hz2, _, rfl, ?_⟩
  by_cases h1 : (1 : Int) ≤ (n.length : Nat)
  · refine iteT (decide_eq_true h1) ⟨_, rfl, ?_⟩
    by_cases h2 : ((n.length : Nat) : Int) ≤ 16
    · have e1 : decide (1 ≤ n.length ∧ n.length ≤ 16) = true := decide_eq_true (by omega)
      refine iteF (by simp; omega) ?_
      refine ⟨_, rfl, n, rfl, by omega, _, rfl, hz2, _, rfl, ?_⟩
      cases e2 : decide ((tl n).Nodup) with
      | true =>
        refine iteF ?_ (fin e1 e2)
        show (!decide _) = false
        have := (signsK_nd n).mpr (of_decide_eq_true e2)
        rw [decide_eq_true (by omega)]; rfl
      | false =>
        refine iteT ?_ (no (.inr e2))
        show (!decide _) = true
        rw [decide_eq_false fun z => of_decide_eq_false e2 ((signsK_nd n).mp (by omega))]; rfl
    · refine iteT (by simp; omega) (no (.inl (decide_eq_false (by omega))))
  · exact iteF (decide_eq_false h1) ⟨_, rfl, iteT rfl (no (.inl (decide_eq_false (by omega))))⟩
end
end K02

namespace K02
open PySem PySem.Spec PyProof.Rows L2 EX DL PL TL
def cInit : IC := fun _ ds Q _ => ∃ ps, ds = ps.map partD ∧ Parts ps ∧ ∀ fs, IsL ps (.obj "Letters" fs) → Q fs
theorem valD_put (kvs : List (Key × D)) (k k' : Key) (d : D) : valD (DL.putD kvs k d) k' = if k' = k then some d else valD kvs k' := by
  have f1 : ∀ kvs : List (Key × D), (kvs.any fun kv => decide (kv.1 = k)) = true → valD (kvs.map (fun kv => if kv.1 = k then (kv.1, d) else kv)) k' = if k' = k then some d else valD kvs k' := by
    intro kvs
    unfold valD
    induction kvs with
    | nil => intro h; simp at h
    | cons a r ih =>
      intro h
      rw [List.map_cons, List.find?_cons, List.find?_cons]
      by_cases q : a.1 = k
      · rw [if_pos q]
        by_cases q2 : k' = k
        · subst q2; simp [q]
        · rw [if_neg q2]
          have q3 : ¬ a.1 = k' := fun e => q2 (by rw [← e, q])
          simp only [q3, decide_false]
          have nx : ∀ r : List (Key × D), (r.map (fun kv => if kv.1 = k then (kv.1, d) else kv)).find? (fun kv => decide (kv.1 = k')) = r.find? (fun kv => decide (kv.1 = k')) := by
            intro r
            induction r with
            | nil => rfl
            | cons b r ih2 =>
              rw [List.map_cons, List.find?_cons, List.find?_cons]
              by_cases p : b.1 = k
              · have p3 : ¬ b.1 = k' := fun e => q2 (by rw [← e, p])
                rw [if_pos p]
                simp only [p3, decide_false]
                exact ih2
              · rw [if_neg p, ih2]
          rw [nx r]
      · rw [if_neg q]
        rw [List.any_cons, decide_eq_false q, Bool.false_or] at h
        have := ih h
        by_cases q3 : a.1 = k'
        · have q2 : ¬ k' = k := fun e => q (by rw [q3, e])
          rw [if_neg q2]
          simp [q3]
        · simp only [q3, decide_false]
          exact this
  unfold DL.putD
  by_cases h : (kvs.any fun kv => decide (kv.1 = k)) = true
  · rw [if_pos h, f1 kvs h]
  · rw [if_neg h]
    unfold valD
    rw [List.find?_append]
    by_cases q : k' = k
    · subst q
      rw [if_pos rfl]
      have : kvs.find? (fun kv => decide (kv.1 = k')) = none := by
        rw [List.find?_eq_none]
        intro x hx e
        exact h (List.any_eq_true.mpr ⟨x, hx, e⟩)
      rw [this]; simp
    · rw [if_neg q]
      have : ¬ k = k' := fun e => q e.symm
      simp [this]
theorem compDc_cons {g : TDG} {tk tv : TDE} {δ : DSt} {acc : List (Key × D)} {d : D} {ds : List D} {k : List (Key × D) → Prop}
    (h : g d δ fun δ1 => tk δ1 (fun y => tv δ1 (fun z => ∃ kk, keyD y = some kk ∧ compDc g xYes tk tv δ (DL.putD acc kk z) ds k) (fun _ _ => False)) (fun _ _ => False)) : compDc g xYes tk tv δ acc (d :: ds) k := by
  unfold compDc
  show g d δ fun δ1 => if true = true then tk δ1 (fun y => tv δ1 (fun z => ∃ kk, keyD y = some kk ∧ compDc g xYes tk tv δ (DL.putD acc kk z) ds k) (fun _ _ => False)) (fun _ _ => False) else compDc g xYes tk tv δ acc ds k
  simp only [if_true]
  exact h
/-- the dict of the letters' places -/
theorem places_dc {s0 s1 s2 s3 s4 s5 s6 s7 s8 s9 s10 s11 : Sl} {k : List (Key × D) → Prop} :
    ∀ (rows : List Str) (n : Nat) (acc : List (Key × D)), rows.Nodup → (∀ kvs, (∀ x : Str, valD kvs (.inr x) = if x ∈ rows then some (.int ((n + rows.idxOf x : Nat) : Int)) else valD acc (.inr x)) → k kvs) →
      compDc (zTup 2 (zCons (zName 4) (zCons (zName 11) zNil))) xYes (xVar 11) (xVar 4) [s0, s1, s2, s3, s4, s5, s6, s7, s8, s9, s10, s11] acc (enumD n (rows.map D.str)) k
  | [], n, acc, _, q => q acc fun x => by simp
  | r :: rows, n, acc, nd, q => by
    refine compDc_cons ⟨rfl, rfl, _, rfl, _, rfl, _, rfl, ?_⟩
    rw [List.nodup_cons] at nd
    refine places_dc rows (n + 1) _ nd.2 fun kvs hv => q kvs fun x => ?_
    rw [hv x, valD_put]
    by_cases e : x = r
    · subst e
      rw [if_neg nd.1, if_pos rfl, if_pos (by simp), List.idxOf_cons_self]; rfl
    · have e1 : ¬ (Sum.inr x : Key) = .inr r := fun z => e (by injection z)
      rw [if_neg e1]
      by_cases m : x ∈ rows
      · rw [if_pos m, if_pos (List.mem_cons_of_mem _ m), List.idxOf_cons, show (r == x) = false from by simpa using fun z => e z.symm, cond_false]
        congr 3; omega
      · rw [if_neg m, if_neg (by simp [e, m])]
theorem compD2_cons {g g1 : TDG} {tt1 : TDT} {te : TDE} {ti1 : TDI} {vs1 : List Nat} {δ : DSt} {n : Nat} {d : D} {ds : List D} {k : List D → Prop}
    (h : g d δ fun δ1 => ti1 δ1 (fun items => n + items.length ≤ sizeLine ∧ compD g1 tt1 te (wipeD δ1 vs1) items fun ys => compD2 g xYes ti1 vs1 g1 tt1 te δ (n + items.length) ds fun zs => k (ys ++ zs)) (fun _ _ => False)) : compD2 g xYes ti1 vs1 g1 tt1 te δ n (d :: ds) k := by
  unfold compD2
  show g d δ fun δ1 => if true = true then ti1 δ1 (fun items => n + items.length ≤ sizeLine ∧ compD g1 tt1 te (wipeD δ1 vs1) items fun ys => compD2 g xYes ti1 vs1 g1 tt1 te δ (n + items.length) ds fun zs => k (ys ++ zs)) (fun _ _ => False) else compD2 g xYes ti1 vs1 g1 tt1 te δ n ds k
  simp only [if_true]
  exact h
/-- rows = [row + sign for row in rows for sign in signs] -/
theorem rows_lc {s0 s1 s2 s3 s4 s5 s7 s8 : Sl} {z : Str} (hz : z.length ≤ 16) : ∀ (rows : List Str) (n : Nat) (k : List D → Prop), (∀ r ∈ rows, r.length ≤ 16) → n + rows.length * z.length ≤ 1000 → k ((growS rows (⟨#[]⟩, z)).map D.str) →
      compD2 (zName 9) xYes (xiAny (xVar 6)) [10] (zName 10) xYes (xOp dAdd (xVar 9) (xVar 10)) [s0, s1, s2, s3, s4, s5, .val (.str z), s7, s8, .non, .non, .non] n (rows.map D.str) k
  | [], n, k, _, _, q => q
  | r :: rows, n, k, hr, hn, q => by
    rw [List.map_cons]
    rw [List.length_cons, Nat.succ_mul] at hn
    have lz : (signsD z).length = z.length := by rw [signsD_map, List.length_map, len_tl]
    refine compD2_cons ⟨_, rfl, _, rfl, by rw [lz, sizeLine_eq]; omega, ?_⟩
    rw [lz]
    refine compD_map (fun c => .str ⟨#[c]⟩) (fun c => .str (r ++ ⟨#[c]⟩)) (tl z) _ (fun c hc k' hk => ⟨_, rfl, _, rfl, ?_, hk⟩) ?_
    · have := hr r (by simp)
      rw [sizeLine_eq]
      show r.length + 1 ≤ 16777216
      omega
    · refine rows_lc hz rows (n + z.length) _ (fun x hx => hr x (List.mem_cons_of_mem _ hx)) (by omega) ?_
      have e : (growS (r :: rows) (⟨#[]⟩, z)).map D.str = (tl z).map (fun c => D.str (r ++ ⟨#[c]⟩)) ++ (growS rows (⟨#[]⟩, z)).map D.str := by
        unfold growS signsS
        rw [List.flatMap_cons, List.map_append, List.map_map, List.map_map]; rfl
      rw [← e]; exact q
section
variable {K : PySem.W.Frag}
theorem rows_loop {x : Addr} {s1 s2 s3 : Sl} {Dd : DEnds} : ∀ (ps : List Part) (rows : List Str) (n : Nat) (s4 s5 s6 s8 : Sl), RowsOk n rows → n + ps.length ≤ 4 → rows.length ≤ 16 → (∀ p ∈ ps, PartOk p) → (∀ qs, qs <+: ps → (qs.foldl growS rows).length ≤ 16) →
    (∀ s6 s8 : Sl, Dd.nx [.me x "Letters" [], s1, s2, s3, s4, s5, s6, .val (.lst ((ps.foldl growS rows).map D.str)), s8, .non, .non, .non]) →
    loopD (zTup 2 (zCons (zName 8) (zCons (zName 6) zNil))) (ySetLc2 [] 7 [9, 10] [10] (xiAny (xVar 7)) (zName 9) xYes (xiAny (xVar 6)) (zName 10) xYes (xOp dAdd (xVar 9) (xVar 10))) Dd (ps.map partD)
      [.me x "Letters" [], s1, s2, s3, s4, s5, s6, .val (.lst (rows.map D.str)), s8, .non, .non, .non]
  | [], rows, n, s4, s5, s6, s8, _, _, _, _, _, q => q s6 s8
  | p :: ps, rows, n, s4, s5, s6, s8, hr, hn, hl, hp, hq, q => by
    rw [List.length_cons] at hn
    have pk := hp p (by simp)
    refine ⟨rfl, rfl, ?_⟩
    refine ⟨_, rfl, _, rfl, ?_⟩
    refine rows_lc pk.max rows 0 _ (fun r hx => by rw [hr.len r hx]; omega) ?_ ?_
    · have h16 := hq [p] (by simp)
      rw [List.foldl_cons, List.foldl_nil, grow_len] at h16
      omega
    · have e : growS rows (⟨#[]⟩, p.2) = growS rows p := rfl
      rw [e]
      refine rows_loop ps (growS rows p) (n + 1) s4 s5 _ _ (grow_ok hr pk) (by omega) ?_ (fun y hy => hp y (List.mem_cons_of_mem _ hy)) (fun qs hs => ?_) q
      · exact hq [p] (by simp)
      · exact hq (p :: qs) (by simpa using hs)
theorem parts_loop {x : Addr} {tu : D} {Dd : DEnds} {β : Addr} (ps : List Part) (hps : Parts ps) : ∀ (todo done : List Part) (kvs : List (Key × D)) (s4 s5 s6 : Sl), ps = done ++ todo → (∀ n : Str, (valD kvs (.inr n)).isSome = decide (n ∈ done.map (·.1))) → kvs.length ≤ done.length →
    (∀ (kvs : List (Key × D)) (s4 s5 s6 : Sl), Dd.nx [.me x "Letters" [], .val tu, .own (.dic kvs), .val (.int ((manyOf ps : Nat) : Int)), s4, s5, s6, .non, .non, .non, .non, .non]) →
    loopD (zTup 2 (zCons (zName 4) (zCons (zTup 2 (zCons (zName 5) (zCons (zName 6) zNil))) zNil)))
      (ySeq (yIf [] (xOr (xNot (xTru (xFn β cName (xCons (xVar 5) xNil)))) (xOr (xTest (xDInO false 2 (xVar 5))) (xNot (xTru (xFn β cSigns (xCons (xVar 6) xNil))))))
        (yRaise [] "BadLetters" "BadLetters" ["at"] [0] 1 (xLen 1 (xCons (xVar 4) xNil)))
        yNext)
      (ySeq (yDPut [] 2 (xVar 4) (xVar 5))
        (ySet [] 3 (xOp dMul (xVar 3) (xCall dLen (xCons (xVar 6) xNil)))))) Dd (enumD done.length (todo.map partD))
      [.me x "Letters" [], .val tu, .own (.dic kvs), .val (.int ((manyOf done : Nat) : Int)), s4, s5, s6, .non, .non, .non, .non, .non]
  | [], done, kvs, s4, s5, s6, e, _, _, q => by
    rw [List.append_nil] at e
    subst e
    exact q kvs s4 s5 s6
  | p :: todo, done, kvs, s4, s5, s6, e, hv, hl, q => by
    have pk := hps.all p (by rw [e]; simp)
    have nl : p.1.length ≤ 6 := by
      have := pk.name
      unfold nameB at this
      simp at this
      omega
    have fresh : p.1 ∉ done.map (·.1) := by
      have := hps.nd
      rw [e, List.map_append, List.map_cons, List.nodup_append] at this
      exact fun h => this.2.2 _ h _ (by simp) rfl
    have sg : signsB p.2 = true := by
      unfold signsB
      rw [decide_eq_true ⟨pk.pos, pk.max⟩, decide_eq_true pk.nd, List.all_eq_true.mpr pk.sg]; rfl
    have hd : done.length ≤ 4 := by
      have := hps.few
      rw [e, List.length_append] at this
      omega
    have md : manyOf done ≤ 16 := by
      have h1 : manyOf ps = (todo.map fun p => p.2.length).foldl (· * ·) (manyOf done * p.2.length) := by
        rw [e]; unfold manyOf
        rw [List.map_append, List.foldl_append, List.map_cons, List.foldl_cons]
      have mono : ∀ (l : List Part) (a : Nat), (∀ q ∈ l, PartOk q) → a ≤ (l.map fun p => p.2.length).foldl (· * ·) a := by
        intro l
        induction l with
        | nil => intro a _; exact Nat.le_refl _
        | cons y l ih =>
          intro a hl
          rw [List.map_cons, List.foldl_cons]
          exact Nat.le_trans (Nat.le_mul_of_pos_right a (hl y (by simp)).pos) (ih _ fun z hz => hl z (List.mem_cons_of_mem _ hz))
      have h2 := mono todo (manyOf done * p.2.length) fun z hz => hps.all z (by rw [e]; simp [hz])
      have h3 := Nat.le_mul_of_pos_right (manyOf done) pk.pos
      have := hps.many
      omega
    refine ⟨rfl, rfl, rfl, rfl, ?_⟩
    refine ⟨_, rfl, p.1, rfl, by rw [sizeLine_eq]; omega, _, rfl, ?_⟩
    refine iteF (by rw [pk.name]; rfl) ?_
    refine ⟨kvs, rfl, _, rfl, _, rfl, _, rfl, ?_⟩
    refine iteF (by
      show (valD kvs (.inr p.1)).isSome = false
      rw [hv]; simpa using fresh) ?_
    refine ⟨_, rfl, p.2, rfl, by have := pk.max; omega, _, rfl, ?_⟩
    refine iteF (by rw [sg]; rfl) ?_
    refine ⟨kvs, rfl, by decide, _, rfl, _, rfl, _, rfl, by rw [sizeLine_eq]; omega, ?_⟩
    refine ⟨_, rfl, _, rfl, by rw [sizeLine_eq]; have := pk.max; omega, ?_⟩
    refine ⟨.inl ⟨by omega, by omega⟩, ?_⟩
    have em : (((manyOf done : Nat) : Int) * ((p.2.length : Nat) : Int)) = ((manyOf (done ++ [p]) : Nat) : Int) := by
      have : manyOf (done ++ [p]) = manyOf done * p.2.length := by
        unfold manyOf
        rw [List.map_append, List.foldl_append]; rfl
      rw [this]; simp
    have ih := parts_loop (x := x) (tu := tu) (Dd := Dd) (β := β) ps hps todo (done ++ [p]) (DL.putD kvs (.inr p.1) (.int ((done.length : Nat) : Int))) (.val (.int ((done.length : Nat) : Int))) (.val (.str p.1)) (.val (.str p.2)) (by rw [e, List.append_assoc]; rfl) (fun n => by
      rw [valD_put]
      by_cases h : n = p.1
      · subst h; simp
      · have : ¬ (Sum.inr n : Key) = .inr p.1 := fun z => h (by injection z)
        rw [if_neg this, hv]
        apply decide_eq_decide.mpr
        simp [h]) (by
      have := putD_len kvs (.inr p.1) (.int ((done.length : Nat) : Int))
      rw [List.length_append]
      simp
      omega) q
    rw [List.length_append, ← em] at ih
    exact ih
theorem pl {f : Str} {d : D} {k : Nat} : ∀ {fs : List (Str × D)}, fs.length ≤ k → (putFD f d fs).length ≤ k + 1
  | [], _ => by unfold putFD; simp
  | (g, x) :: r, h => by
    unfold putFD
    rw [List.length_cons] at h
    split
    · rw [List.length_cons]; omega
    · rw [List.length_cons]
      have := pl (f := f) (d := d) (k := k - 1) (fs := r) (by omega)
      omega
theorem k_init : KeepsI (td_Letters___init__ K cSigns cName) ["self", "parts", "places", "many", "at", "name", "signs", "rows", "_", "row", "sign", "letter"] "Letters" cInit := by
  intro β x ds Qd Ed h
  obtain ⟨ps, rfl, hps, hq⟩ := h
  have few := hps.few
  have pos := List.length_pos_iff.mpr hps.ne
  refine ⟨_, rfl, _, rfl, ?_⟩
  refine iteF (decide_eq_false (by show ¬ (4 : Int) < ((ps.map partD).length : Nat); rw [List.length_map]; omega)) ?_
  refine ⟨_, rfl, _, rfl, ?_⟩
  refine iteF (decide_eq_false (by show ¬ ((ps.map partD).length : Int) = 0; rw [List.length_map]; omega)) ?_
  refine ⟨_, rfl, _, .inr rfl, ?_⟩
  refine parts_loop ps hps ps [] [] _ _ _ rfl (fun n => by simp [valD]) (by simp) fun kvs s4 s5 s6 => ?_
  refine ⟨_, rfl, _, rfl, ?_⟩
  have many := hps.many
  refine iteF (decide_eq_false (by omega)) ?_
  refine ⟨by rw [sizeLine_eq]; decide, ?_⟩
  refine ⟨_, rfl, _, rfl, ?_⟩
  have pre : ∀ qs, qs <+: ps → (qs.foldl growS [""]).length ≤ 16 := fun qs hs => by
    obtain ⟨r, rfl⟩ := hs
    have h1 := (rows_go qs [""] 0 rows0 fun p hp => hps.all p (by simp [hp])).2
    rw [h1]
    have h2 : manyOf (qs ++ r) = (r.map fun p => p.2.length).foldl (· * ·) ((qs.map fun p => p.2.length).foldl (· * ·) 1) := by
      unfold manyOf
      rw [List.map_append, List.foldl_append]
    have mono : ∀ (l : List Part) (a : Nat), (∀ q ∈ l, PartOk q) → a ≤ (l.map fun p => p.2.length).foldl (· * ·) a := by
      intro l
      induction l with
      | nil => intro a _; exact Nat.le_refl _
      | cons y l ih =>
        intro a hl
        rw [List.map_cons, List.foldl_cons]
        exact Nat.le_trans (Nat.le_mul_of_pos_right a (hl y (by simp)).pos) (ih _ fun z hz => hl z (List.mem_cons_of_mem _ hz))
    have h3 := mono r ((qs.map fun p => p.2.length).foldl (· * ·) 1) fun p hp => hps.all p (by simp [hp])
    show (qs.map fun p => p.2.length).foldl (· * ·) 1 ≤ 16
    omega
  refine rows_loop ps [""] 0 _ _ _ _ rows0 (by omega) (by decide) hps.all pre fun s6 s8 => ?_
  have rok := (rows_go ps [""] 0 rows0 hps.all)
  have r16 : (rowsOf ps).length ≤ 16 := pre ps (List.prefix_refl _)
  have sl : ps.length ≤ sizeLine := by rw [sizeLine_eq]; omega
  have nm : ∀ p ∈ ps, p.1.length ≤ 6 ∧ p.2.length ≤ 16 := fun p hp => by
    have pk := hps.all p hp
    have := pk.name
    unfold nameB at this
    simp at this
    exact ⟨by omega, pk.max⟩
  -- the fields
  refine ⟨x, _, [], rfl, by decide, by decide +kernel, by decide, ?_⟩
  refine ⟨_, rfl, _, rfl, by rw [List.length_map]; exact sl, compD_map partD (fun p => .str p.1) ps _ (fun p hp k hk => ⟨rfl, rfl, _, rfl, hk⟩) ?_⟩
  refine ⟨x, _, _, rfl, by decide, by decide +kernel, Nat.lt_of_le_of_lt (pl (Nat.le_refl 0)) (by decide), ?_⟩
  refine ⟨_, rfl, _, rfl, by rw [List.length_map]; exact sl, compD_map partD (fun p => .str p.2) ps _ (fun p hp k hk => ⟨rfl, rfl, _, rfl, hk⟩) ?_⟩
  refine ⟨x, _, _, rfl, by decide, by decide +kernel, Nat.lt_of_le_of_lt (pl (pl (Nat.le_refl 0))) (by decide), ?_⟩
  refine ⟨_, rfl, ?_⟩
  refine ⟨x, _, _, rfl, by decide, by decide +kernel, Nat.lt_of_le_of_lt (pl (pl (pl (Nat.le_refl 0)))) (by decide), ?_⟩
  refine ⟨_, rfl, ?_⟩
  refine ⟨x, _, _, rfl, by decide, by decide +kernel, Nat.lt_of_le_of_lt (pl (pl (pl (pl (Nat.le_refl 0))))) (by decide), ?_⟩
  refine ⟨_, rfl, _, .inl rfl, by rw [enumD_len, List.length_map, sizeLine_eq]; exact Nat.le_trans r16 (by decide), ?_⟩
  refine places_dc (rowsOf ps) 0 [] rok.1.nd fun kvs2 hv => ?_
  refine ⟨x, _, _, rfl, by decide, by decide +kernel, Nat.lt_of_le_of_lt (pl (pl (pl (pl (pl (Nat.le_refl 0)))))) (by decide), ?_⟩
  refine ⟨rfl, _, rfl, _, rfl, by rw [List.length_map]; exact sl, compD_map partD (fun p => .str (((Str.empty ++ p.1) ++ (":" : Str)) ++ p.2)) ps _ (fun p hp k hk => ?_) ?_⟩
  · have nl := nm p hp
    have e0 : Str.empty.length = 0 := rfl
    have ec : (":" : Str).length = 1 := by decide +kernel
    have l1 : (Str.empty ++ p.1).length = p.1.length := by rw [Str.length_append, e0, Nat.zero_add]
    refine ⟨rfl, rfl, _, rfl, by rw [sizeLine_eq]; omega, _, rfl, by rw [l1, sizeLine_eq]; omega, _, rfl, by rw [Str.length_append, l1, ec, sizeLine_eq]; omega, _, rfl, by rw [sizeLine_eq]; omega, _, rfl, by rw [Str.length_append, Str.length_append, l1, ec, sizeLine_eq]; omega, hk⟩
  · refine ⟨ps.map fun p => ((Str.empty ++ p.1) ++ (":" : Str)) ++ p.2, ?_, ?_, ?_⟩
    · rw [← strsD_map, List.map_map]; rfl
    · have hb : (" " : Str).length = 1 := by decide +kernel
      rw [hb, List.map_map, List.length_map]
      have := sum_le ((fun x => x.length) ∘ fun p : Part => ((Str.empty ++ p.1) ++ (":" : Str)) ++ p.2) 100 ps fun p hp => by
        have nl := nm p hp
        have e0 : Str.empty.length = 0 := rfl
        have ec : (":" : Str).length = 1 := by decide +kernel
        show (((Str.empty ++ p.1) ++ (":" : Str)) ++ p.2).length ≤ 100
        rw [Str.length_append, Str.length_append, Str.length_append, e0, ec]
        omega
      omega
    · refine ⟨_, rfl, hq _ ⟨_, kvs2, _, rfl, fun y => ?_⟩⟩
      rw [hv y]
      simp only [Nat.zero_add]
      rfl
end
end K02

namespace K02
open PySem PySem.Spec PyProof.Rows L2 EX DL PL TL
def cOf : DC := fun β ds Q _ => ∃ th, ds = [.adr β, th] ∧ ((∃ xs, th = .lst xs ∧ 0 < xs.length ∧ xs.length < 1073741824 ∧ ∀ d ∈ xs, Q d) ∨ ∃ z : Str, th = .str z ∧ 0 < z.length ∧ z.length ≤ sizeLine ∧ ∀ c ∈ tl z, Q (.str ⟨#[c]⟩))
theorem atI_some {α : Type} {xs : List α} {r : Int} (h0 : 0 ≤ r) (h1 : r < xs.length) : ∃ d ∈ xs, atI xs r = some d := by
  obtain ⟨j, rfl⟩ := Int.eq_ofNat_of_zero_le h0
  have hj : j < xs.length := by omega
  exact ⟨xs[j], List.getElem_mem hj, atI_nat (List.getElem?_eq_getElem hj)⟩
def cLetters : DC := fun _ ds Q _ => ∃ ps, ds = [partsD ps] ∧ Parts ps ∧ ∀ L, IsL ps L → Q L
def cRunOf : DC := fun β ds Q _ => ∃ (mine : List Str) (most : Nat), ds = [.adr β, mineD mine, .int most] ∧ mine ≠ [] ∧ mine.length ≤ 16 ∧ most ≤ 4 ∧ ∀ r, Ok mine r → r.length ≤ most → Q (runD r)
def cText : DC := fun _ ds Q _ => ∃ r, ds = [runD r] ∧ (r.map (·.length)).sum + r.length ≤ 1000 ∧ (∀ x ∈ r, 1 ≤ x.length) ∧ Q (.str (runText r))
section
variable {K : PySem.W.Frag}
theorem k_of : Keeps (td__law_of K cDraw) ["bag", "things"] cOf := by
  intro β ds Qd Ed h
  obtain ⟨th, rfl, h⟩ := h
  rcases h with ⟨xs, rfl, h1, h2, h3⟩ | ⟨z, rfl, h1, h2, h3⟩
  · refine ⟨_, rfl, _, rfl, _, rfl, ?_⟩
    refine ⟨_, rfl, by omega, by omega, fun r h4 h5 => ?_⟩
    obtain ⟨d, hd, e⟩ := atI_some h4 h5
    exact ⟨d, e, h3 d hd⟩
  · refine ⟨_, rfl, _, rfl, _, rfl, h2, ?_⟩
    rw [sizeLine_eq] at h2
    refine ⟨_, rfl, by omega, by omega, fun r h4 h5 => ⟨by rw [sizeLine_eq]; exact h2, ?_⟩⟩
    obtain ⟨d, hd, e⟩ := atI_some (xs := z.cps.toList) h4 (by rw [Array.length_toList]; exact h5)
    exact ⟨d, e, h3 d hd⟩
theorem k_letters : Keeps (td__law_letters K cInit) ["parts"] cLetters := by
  intro β ds Qd Ed h
  obtain ⟨ps, rfl, hps, hq⟩ := h
  have few := hps.few
  have mk : ∀ ds, ds = ps.map partD → cInit β ds (fun fs => Qd (.obj "Letters" fs)) Ed := fun ds e => ⟨ps, e, hps, fun fs hf => hq _ hf⟩
  match ps, few, hps.ne, mk with
  | [p1], _, _, mk =>
    refine ⟨_, rfl, _, rfl, iteT rfl ?_⟩
    exact ⟨_, rfl, _, rfl, mk _ rfl⟩
  | [p1, p2], _, _, mk =>
    refine ⟨_, rfl, _, rfl, iteF rfl ?_⟩
    refine ⟨_, rfl, _, rfl, iteT rfl ?_⟩
    exact ⟨_, rfl, _, rfl, _, rfl, _, rfl, mk _ rfl⟩
  | [p1, p2, p3], _, _, mk =>
    refine ⟨_, rfl, _, rfl, iteF rfl ?_⟩
    refine ⟨_, rfl, _, rfl, iteF rfl ?_⟩
    refine ⟨_, rfl, _, rfl, iteT rfl ?_⟩
    exact ⟨_, rfl, _, rfl, _, rfl, _, rfl, _, rfl, _, rfl, mk _ rfl⟩
  | [p1, p2, p3, p4], _, _, mk =>
    refine ⟨_, rfl, _, rfl, iteF rfl ?_⟩
    refine ⟨_, rfl, _, rfl, iteF rfl ?_⟩
    refine ⟨_, rfl, _, rfl, iteF rfl ?_⟩
    exact ⟨_, rfl, _, rfl, _, rfl, _, rfl, _, rfl, _, rfl, _, rfl, _, rfl, mk _ rfl⟩
theorem listed_inner {s0 : Sl} {z n : Str} {Dd : DEnds} (hz : z.length ≤ 16) : ∀ (todo : List Str) (mine acc : List Str) (s4 : Sl), (∀ r ∈ todo, r.length ≤ 16) → acc.length + todo.length * z.length ≤ 1000 →
    (∀ s4 : Sl, Dd.nx [s0, .val (mineD mine), .val (.tup [.str n, .str z]), .own (.lst ((acc ++ growS todo (n, z)).map D.str)), s4, .non]) →
    loopD (zName 4) (yOM [] 3 oExtend (xCons (xLcE [5] (xiAny (xOp dIx (xVar 2) (xC (.int 1)))) (zName 5) xYes (xOp dAdd (xVar 4) (xVar 5))) xNil)) Dd (todo.map D.str)
      [s0, .val (mineD mine), .val (.tup [.str n, .str z]), .own (.lst (acc.map D.str)), s4, .non]
  | [], mine, acc, s4, _, _, q => by
    have := q s4
    rw [show growS [] (n, z) = [] from rfl, List.append_nil] at this
    exact this
  | r :: todo, mine, acc, s4, hr, hn, q => by
    rw [List.length_cons, Nat.succ_mul] at hn
    have lz : (signsD z).length = z.length := by rw [signsD_map, List.length_map, len_tl]
    refine ⟨_, rfl, by decide, _, rfl, _, rfl, _, rfl, by rw [lz, sizeLine_eq]; omega, ?_⟩
    refine compD_map (fun c => .str ⟨#[c]⟩) (fun c => .str (r ++ ⟨#[c]⟩)) (tl z) _ (fun c hc k' hk => ⟨_, rfl, _, rfl, ?_, hk⟩) ?_
    · have := hr r (by simp)
      rw [sizeLine_eq]
      show r.length + 1 ≤ 16777216
      omega
    · refine ⟨by rw [List.length_map, List.length_map, ← len_tl, sizeLine_eq]; omega, ?_⟩
      have ih := listed_inner (s0 := s0) (z := z) (n := n) (Dd := Dd) hz todo mine (acc ++ (tl z).map fun c => r ++ ⟨#[c]⟩) (.val (.str r)) (fun x hx => hr x (List.mem_cons_of_mem _ hx)) (by rw [List.length_append, List.length_map, ← len_tl]; omega) (fun s4 => by
        have := q s4
        have e : acc ++ growS (r :: todo) (n, z) = (acc ++ (tl z).map fun c => r ++ ⟨#[c]⟩) ++ growS todo (n, z) := by
          unfold growS signsS
          rw [List.flatMap_cons, List.map_map, List.append_assoc]; rfl
        rw [e] at this
        exact this)
      rw [List.map_append, List.map_map] at ih
      exact ih
theorem k_listed : Keeps (td__law_listed K) ["parts", "mine", "part", "more", "word", "sign"] cListed := by
  intro β ds Qd Ed h
  obtain ⟨ps, rfl, hps, hq⟩ := h
  refine ⟨by rw [sizeLine_eq]; decide, ?_⟩
  refine ⟨_, rfl, _, rfl, ?_⟩
  have few := hps.few
  have pre : ∀ qs, qs <+: ps → (qs.foldl growS [""]).length ≤ 16 := fun qs hs => by
    obtain ⟨r, rfl⟩ := hs
    have h1 := (rows_go qs [""] 0 rows0 fun p hp => hps.all p (by simp [hp])).2
    rw [h1]
    have h2 : manyOf (qs ++ r) = (r.map fun p => p.2.length).foldl (· * ·) ((qs.map fun p => p.2.length).foldl (· * ·) 1) := by
      unfold manyOf
      rw [List.map_append, List.foldl_append]
    have mono : ∀ (l : List Part) (a : Nat), (∀ q ∈ l, PartOk q) → a ≤ (l.map fun p => p.2.length).foldl (· * ·) a := by
      intro l
      induction l with
      | nil => intro a _; exact Nat.le_refl _
      | cons y l ih =>
        intro a hl
        rw [List.map_cons, List.foldl_cons]
        exact Nat.le_trans (Nat.le_mul_of_pos_right a (hl y (by simp)).pos) (ih _ fun z hz => hl z (List.mem_cons_of_mem _ hz))
    have h3 := mono r ((qs.map fun p => p.2.length).foldl (· * ·) 1) fun p hp => hps.all p (by simp [hp])
    have h4 := hps.many
    show (qs.map fun p => p.2.length).foldl (· * ·) 1 ≤ 16
    omega
  have go : ∀ (qs : List Part) (mine : List Str) (n : Nat) (s2 s3 s4 : Sl), RowsOk n mine → n + qs.length ≤ 4 → (∀ p ∈ qs, PartOk p) → (∀ us, us <+: qs → (us.foldl growS mine).length ≤ 16) → Qd (mineD (qs.foldl growS mine)) →
      loopD (zName 2) (ySeq (ySetLstO [] 3 xNil)
    (ySeq (yFor [] (xiAny (xVar 1)) (zName 4)
    (yOM [] 3 oExtend (xCons (xLcE [5] (xiAny (xOp dIx (xVar 2) (xC (.int 1)))) (zName 5) xYes (xOp dAdd (xVar 4) (xVar 5))) xNil)))
    (ySet [3] 1 (xVar 3)))) { nx := yRet [] (xVar 1) { nx := fun _ => Qd .non, rt := Qd, xc := fun cn fs _ => Ed cn fs }, rt := Qd, xc := fun cn fs _ => Ed cn fs } (qs.map partD) [.val (partsD ps), .val (mineD mine), s2, s3, s4, .non] := by
    intro qs
    induction qs with
    | nil => intro mine n s2 s3 s4 _ _ _ _ q; exact ⟨_, rfl, q⟩
    | cons p qs ih =>
      intro mine n s2 s3 s4 hr hn hp hl q
      rw [List.length_cons] at hn
      have pk := hp p (by simp)
      refine ⟨by rw [sizeLine_eq]; decide, ?_⟩
      refine ⟨_, rfl, _, rfl, ?_⟩
      have h0 : mine.length ≤ 16 := hl [] (List.nil_prefix)
      have h16 := hl [p] (by simp)
      rw [List.foldl_cons, List.foldl_nil, grow_len] at h16
      refine listed_inner pk.max mine mine [] s4 (fun r hx => by rw [hr.len r hx]; omega) (by simp; omega) fun s4 => ?_
      refine ⟨_, rfl, ?_⟩
      refine ih (growS mine p) (n + 1) _ _ _ (grow_ok hr pk) (by omega) (fun y hy => hp y (List.mem_cons_of_mem _ hy)) (fun us hs => ?_) q
      exact hl (p :: us) (by simpa using hs)
  exact go ps [""] 0 _ _ _ rows0 (by omega) hps.all pre hq
theorem rangeD_len (lo : Int) (n : Nat) : (rangeD lo n).length = n := by unfold rangeD; simp
/-- a comprehension over a range whose items all come out of R -/
theorem compD_all {g : TDG} {te : TDE} {δ : DSt} {α : Type} (R : α → Prop) (f : α → D) : ∀ (ds : List D) (k : List D → Prop), (∀ d ∈ ds, ∀ k : D → Prop, (∀ x, R x → k (f x)) → g d δ fun δ1 => te δ1 k (fun _ _ => False)) → (∀ xs : List α, xs.length = ds.length → (∀ x ∈ xs, R x) → k (xs.map f)) → compD g xYes te δ ds k
  | [], k, _, q => q [] rfl (by simp)
  | d :: ds, k, hs, q => by
    unfold compD
    show g d δ fun δ1 => if true = true then te δ1 (fun y => compD g xYes te δ ds fun ys => k (y :: ys)) (fun _ _ => False) else compD g xYes te δ ds k
    simp only [if_true]
    refine hs d List.mem_cons_self _ fun x hx => ?_
    refine compD_all R f ds (fun ys => k (f x :: ys)) (fun e he => hs e (List.mem_cons_of_mem _ he)) fun xs hl hxs => ?_
    refine q (x :: xs) (by simp [hl]) fun z hz => ?_
    rcases List.mem_cons.mp hz with rfl | hz
    · exact hx
    · exact hxs z hz
theorem k_run : Keeps (td__law_run K cDraw cOf) ["bag", "mine", "most", "k"] cRunOf := by
  intro β ds Qd Ed h
  obtain ⟨mine, most, rfl, hm, hl, hm4, hq⟩ := h
  refine ⟨_, rfl, _, rfl, _, rfl, by omega, by omega, fun m h0 h5 => ?_⟩
  have ml : (rangeD 0 m.toNat).length ≤ most := by rw [rangeD_len]; omega
  refine ⟨by omega, by omega, by rw [sizeLine_eq]; omega, ?_⟩
  refine compD_all (fun x => x ∈ mine) D.str _ _ (fun d _ k hk => ⟨_, rfl, _, rfl, _, rfl, .inl ⟨_, rfl, ?_, ?_, fun d hd => ?_⟩⟩) fun xs hxl hxs => ?_
  · rw [List.length_map]; exact List.length_pos_iff.mpr hm
  · rw [List.length_map]; omega
  · obtain ⟨x, hx, rfl⟩ := List.mem_map.mp hd
    exact hk x hx
  · exact hq xs hxs (by omega)
theorem join_cons (x : Str) (r : Rn) : tl (runText (x :: r)) = joinL [46] ((x :: r).map tl) := by
  unfold runText
  rw [if_neg (by simp), join_eq, tl_join dot, tl_dot]
theorem k_text : Keeps (td__law_text K) ["word", "text", "letter"] cText := by
  intro β ds Qd Ed h
  obtain ⟨r, rfl, hl, hp, hq⟩ := h
  have ed : ("." : Str).length = 1 := by decide +kernel
  refine ⟨_, rfl, _, rfl, ?_⟩
  have go : ∀ (todo : Rn) (t : Str) (s2 : Sl), t.length + (todo.map (·.length)).sum + todo.length ≤ 1000 → (∀ t' : Str, tl t' = tl t ++ (todo.map fun x => 46 :: tl x).flatten → ∀ s2, yRet [] (xIf (xTest (xOp (dEq true) (xVar 1) (xC (.str "")))) (xSl (xVar 1) (xPart (xC (.int 1))) xNoPart) (xC (.str "-"))) { nx := fun _ => Qd .non, rt := Qd, xc := fun cn fs _ => Ed cn fs } [.val (runD r), .val (.str t'), s2]) →
      loopD (zName 2) (ySet [] 1 (xOp dAdd (xOp dAdd (xVar 1) (xC (.str "."))) (xVar 2))) { nx := yRet [] (xIf (xTest (xOp (dEq true) (xVar 1) (xC (.str "")))) (xSl (xVar 1) (xPart (xC (.int 1))) xNoPart) (xC (.str "-"))) { nx := fun _ => Qd .non, rt := Qd, xc := fun cn fs _ => Ed cn fs }, rt := Qd, xc := fun cn fs _ => Ed cn fs } (todo.map D.str) [.val (runD r), .val (.str t), s2] := by
    intro todo
    induction todo with
    | nil => intro t s2 _ q; exact q t (by simp) s2
    | cons x todo ih =>
      intro t s2 hb q
      rw [List.map_cons, List.sum_cons, List.length_cons] at hb
      refine ⟨_, rfl, by rw [ed, sizeLine_eq]; omega, _, rfl, by rw [Str.length_append, ed, sizeLine_eq]; omega, ?_⟩
      refine ih _ _ (by rw [Str.length_append, Str.length_append, ed]; omega) fun t' et s2 => q t' ?_ s2
      rw [et, tl_append, tl_append, show tl ("." : Str) = [46] from tl_dot]
      simp
  refine go r "" _ (by
    have : ("" : Str).length = 0 := by decide +kernel
    rw [this]; omega) fun t' et s2 => ?_
  rw [tl_empty, List.nil_append] at et
  refine ⟨_, rfl, _, rfl, ?_⟩
  cases r with
  | nil =>
    have e : t' = "" := ext_tl (by rw [et, tl_empty]; rfl)
    refine iteF (by show (!decide (t' = "")) = false; rw [e]; simp) ?_
    exact hq
  | cons x r =>
    have ne : t' ≠ "" := fun z => by
      have := congrArg tl z
      rw [et, tl_empty] at this
      simp at this
    refine iteT (by show (!decide (t' = "")) = true; simp [ne]) ?_
    have tl1 : t'.length ≤ 1000 := by
      have ef : ∀ r : Rn, ((r.map fun x => 46 :: tl x).flatten).length = (r.map (·.length)).sum + r.length := by
        intro r
        induction r with
        | nil => rfl
        | cons y r ih =>
          rw [List.map_cons, List.flatten_cons, List.length_append, ih, List.map_cons, List.sum_cons, List.length_cons, List.length_cons, ← len_tl]; omega
      rw [len_tl, et, ef]; exact hl
    refine ⟨_, rfl, _, rfl, by rw [sizeLine_eq]; omega, ?_⟩
    have ee : cutS t' (some 1) none = runText (x :: r) := by
      refine ext_tl ?_
      rw [show (some 1 : Option Int) = some ((1 : Nat) : Int) from rfl, cutS_from, et, join_cons]
      have fl : ∀ (x : Str) (r : Rn), ((((x :: r).map fun x => 46 :: tl x).flatten).drop 1) = joinL [46] ((x :: r).map tl) := by
        intro x r
        induction r generalizing x with
        | nil => simp [joinL]
        | cons y r ih =>
          rw [List.map_cons (l := y :: r) (f := tl), jl_cons 46 _ _ (by simp), ← ih y]
          simp
      exact fl x r
    rw [ee]
    exact hq
end
end K02

namespace K02
open PySem PySem.Spec PyProof.Rows L2 EX DL PL TL
def cLawName : DC := fun β ds Q _ => ds = [.adr β] ∧ ∀ n : Str, nameB n = true → Q (.str n)
def cFresh : DC := fun β ds Q _ => ∃ taken : List Str, ds = [.adr β, .lst (taken.map D.str)] ∧ taken.length ≤ 3 ∧ ∀ n : Str, nameB n = true → n ∉ taken → Q (.str n)
def prodL (ss : List Nat) : Nat := ss.foldl (· * ·) 1
def cParts : DC := fun β ds Q _ => ∃ sizes : List Nat, ds = [.adr β, .tup (sizes.map fun s => .int ((s : Nat) : Int))] ∧ sizes ≠ [] ∧ sizes.length ≤ 3 ∧ (∀ s ∈ sizes, 1 ≤ s ∧ s ≤ 16) ∧ prodL sizes ≤ 16 ∧ ∀ ps, Parts ps → Q (partsD ps)
theorem join0 (ys : List Str) : tl (Txt.join "" ys) = (ys.map tl).flatten := by
  rw [join_eq, tl_join, tl_empty]
  have : ∀ ps : List (List Nat), joinL [] ps = ps.flatten := by
    intro ps
    induction ps with
    | nil => rfl
    | cons p ps ih =>
      cases ps with
      | nil => simp [joinL]
      | cons q r =>
        show p ++ ([] ++ joinL [] (q :: r)) = _
        rw [ih]; simp
  exact this _
theorem flat_ones : ∀ cs : List Nat, ((cs.map fun c => (⟨#[c]⟩ : Str)).map tl).flatten = cs
  | [] => rfl
  | c :: cs => by
    rw [List.map_cons, List.map_cons, List.flatten_cons, flat_ones cs]; rfl
theorem inD_strs (x : Str) (ys : List Str) : inD (.str x) (ys.map D.str) = decide (x ∈ ys) := by
  unfold inD
  induction ys with
  | nil => rfl
  | cons y ys ih =>
    rw [List.map_cons, List.any_cons, ih]
    show (decide (y = x) || _) = _
    rw [← Bool.decide_or]
    apply decide_eq_decide.mpr
    simp only [List.mem_cons]
    constructor
    · rintro (h | h)
      · exact .inl h.symm
      · exact .inr h
    · rintro (h | h)
      · exact .inl h.symm
      · exact .inr h
theorem flat_strs (ys : List Str) : (ys.map D.str).all flatD = true := by
  rw [List.all_eq_true]
  intro d hd
  obtain ⟨y, _, rfl⟩ := List.mem_map.mp hd
  rfl
section
variable {K : PySem.W.Frag}
theorem strs_ones (cs : List Nat) : strsD (cs.map fun c => D.str ⟨#[c]⟩) = some (cs.map fun c => (⟨#[c]⟩ : Str)) := by
  rw [← strsD_map, List.map_map]; rfl
theorem k_name : Keeps (td__law_name K cDraw cOf) ["bag", "size", "k"] cLawName := by
  intro β ds Qd Ed h
  obtain ⟨rfl, hq⟩ := h
  refine ⟨_, rfl, _, rfl, by decide, by decide, fun r h0 h3 => ⟨_, rfl, ?_⟩⟩
  by_cases e : r = 0
  · refine iteT (decide_eq_true e) ?_
    refine ⟨_, rfl, by rw [sizeLine_eq]; show 9 ≤ 16777216; decide, ?_⟩
    refine ⟨_, rfl, .inl ⟨_, rfl, (by show 0 < 9; decide), (by show 9 < 1073741824; decide), fun d hd => ?_⟩⟩
    simp only [List.mem_cons, List.not_mem_nil, or_false] at hd
    rcases hd with rfl | rfl | rfl | rfl | rfl | rfl | rfl | rfl | rfl <;> exact hq _ (by decide +kernel)
  · refine iteF (decide_eq_false e) ?_
    refine ⟨_, rfl, _, rfl, by decide, by decide, fun m h0 h6 => ?_⟩
    have ml : (rangeD 0 (1 + m).toNat).length ≤ 6 := by rw [rangeD_len]; omega
    have ml' : 1 ≤ (rangeD 0 (1 + m).toNat).length := by rw [rangeD_len]; omega
    refine ⟨rfl, _, rfl, by omega, by omega, by rw [sizeLine_eq]; omega, ?_⟩
    refine compD_all (fun c : Nat => 97 ≤ c ∧ c ≤ 122) (fun c => .str ⟨#[c]⟩) _ _ (fun d _ k hk => ⟨_, rfl, _, rfl, .inr ⟨_, rfl, by decide +kernel, by rw [sizeLine_eq]; decide +kernel, fun c hc => hk c (of_decide_eq_true ((in_small c).symm.trans (decide_eq_true hc)))⟩⟩) fun xs hl hx => ?_
    · have e1 : tl (Txt.join "" (xs.map fun c => (⟨#[c]⟩ : Str))) = xs := by rw [join0, flat_ones]
      refine ⟨_, strs_ones xs, ?_, hq _ ?_⟩
      · have e0 : ("" : Str).length = 0 := by decide +kernel
        rw [e0]
        have := sum_le (fun x : Str => x.length) 1 (xs.map fun c => (⟨#[c]⟩ : Str)) fun y hy => by
          obtain ⟨c, _, rfl⟩ := List.mem_map.mp hy
          exact Nat.le_refl 1
        rw [List.length_map] at this
        omega
      · unfold nameB
        rw [len_tl, e1, decide_eq_true (by omega), Bool.true_and, List.all_eq_true]
        exact fun c hc => decide_eq_true (hx c hc)
theorem name_len {n : Str} (h : nameB n = true) : 1 ≤ n.length ∧ n.length ≤ 6 ∧ ∀ c ∈ tl n, 97 ≤ c ∧ c ≤ 122 := by
  unfold nameB at h
  rw [Bool.and_eq_true, decide_eq_true_eq, List.all_eq_true] at h
  exact ⟨h.1.1, h.1.2, fun c hc => of_decide_eq_true (h.2 c hc)⟩
theorem small_at (j : Int) (h0 : 0 ≤ j) (h1 : j < 26) : atI (tl ("abcdefghijklmnopqrstuvwxyz" : Str)) j = some (97 + j.toNat) := by
  obtain ⟨n, rfl⟩ := Int.eq_ofNat_of_zero_le h0
  refine atI_nat ?_
  rw [tl_small, List.getElem?_map, List.getElem?_range (by omega)]
  simp
theorem k_fresh : Keeps (td__law_fresh K cLawName cDraw) ["bag", "taken", "word", "spot", "k", "more"] cFresh := by
  intro β ds Qd Ed h
  obtain ⟨taken, rfl, ht, hq⟩ := h
  refine ⟨_, rfl, rfl, fun wd hw => ?_⟩
  refine ⟨_, rfl, _, rfl, .inl ⟨rfl, flat_strs taken, _, rfl, ?_⟩⟩
  rw [show (if true = true then !inD (D.str wd) (taken.map D.str) else inD (D.str wd) (taken.map D.str)) = !decide (wd ∈ taken) from by rw [inD_strs]; rfl]
  by_cases hm : wd ∈ taken
  · refine iteF (by simp [hm]) ?_
    refine ⟨_, rfl, _, rfl, by decide, by decide, fun sp h0 h26 => ?_⟩
    obtain ⟨w1, w2, w3⟩ := name_len hw
    -- the words tried
    let more : Nat → Str := fun k => cutS wd none (some 5) ++ (⟨#[97 + ((sp + (k : Int)) % 26).toNat]⟩ : Str)
    have mt : ∀ k, tl (more k) = (tl wd).take 5 ++ [97 + ((sp + (k : Int)) % 26).toNat] := fun k => by
      show tl (cutS wd none (some ((5 : Nat) : Int)) ++ _) = _
      rw [tl_append, cutS_to]
    have mn : ∀ k, nameB (more k) = true := fun k => by
      unfold nameB
      have b : ((sp + (k : Int)) % 26).toNat < 26 := by omega
      rw [len_tl, mt, List.length_append, List.length_take, List.length_singleton, ← len_tl, decide_eq_true (by omega), Bool.true_and, List.all_eq_true]
      intro c hc
      rcases List.mem_append.mp hc with hc | hc
      · exact decide_eq_true (w3 c (List.mem_of_mem_take hc))
      · rw [List.mem_singleton.mp hc]; exact decide_eq_true (by omega)
    have inj : ∀ a b, a < 26 → b < 26 → more a = more b → a = b := fun a b ha hb e => by
      have e' := congrArg tl e
      rw [mt, mt] at e'
      have := List.append_cancel_left e'
      have := (List.cons.inj this).1
      omega
    have go : ∀ (n : Nat) (k0 : Nat) (s4 s5 : Sl), k0 + n = 26 → (∀ k, k < k0 → more k ∈ taken) →
        loopD (zName 4) (ySeq (ySet [] 5 (xOp dAdd (xSl (xVar 2) xNoPart (xPart (xC (.int 5)))) (xOp dIx (xC (.str "abcdefghijklmnopqrstuvwxyz")) (xOp dMod (xCall dInt (xCons (xOp dAdd (xVar 3) (xVar 4)) xNil)) (xC (.int 26))))))
    (yIf [] (xTest (xOp (dInA true) (xVar 5) (xVar 1)))
    (yRet [] (xVar 5))
    yNext)) { nx := yRet [] (xVar 2) { nx := fun _ => Qd .non, rt := Qd, xc := fun cn fs _ => Ed cn fs }, rt := Qd, xc := fun cn fs _ => Ed cn fs } ((List.range' k0 n).map fun k => .int ((k : Nat) : Int)) [.val (.adr β), .val (.lst (taken.map D.str)), .val (.str wd), .val (.int sp), s4, s5] := by
      intro n
      induction n with
      | zero =>
        intro k0 s4 s5 e hall
        exfalso
        have nd : ((List.range 26).map more).Nodup := by
          rw [List.Nodup, List.pairwise_map]
          refine (List.nodup_range (n := 26)).imp_of_mem fun {a b} ha hb hab e => hab (inj a b (List.mem_range.mp ha) (List.mem_range.mp hb) e)
        have := nd.length_le_of_subset fun x hx => by
          obtain ⟨k, hk, rfl⟩ := List.mem_map.mp hx
          exact hall k (by have := List.mem_range.mp hk; omega)
        rw [List.length_map, List.length_range] at this
        omega
      | succ n ih =>
        intro k0 s4 s5 e hall
        rw [List.range'_succ, List.map_cons]
        have b0 : 0 ≤ (sp + (k0 : Int)) % 26 := by omega
        have b1 : (sp + (k0 : Int)) % 26 < 26 := by omega
        have ml : (cutS wd none (some 5)).length ≤ 6 := Nat.le_trans (cutS_length _ _ _) w2
        refine ⟨_, rfl, _, rfl, by rw [sizeLine_eq]; omega, _, rfl, _, rfl, (show (0 : Int) < 26 by decide), by rw [sizeLine_eq]; decide +kernel, _, small_at _ b0 b1, ?_⟩
        refine ⟨by rw [sizeLine_eq]; show (cutS wd none (some 5)).length + 1 ≤ 16777216; omega, ?_⟩
        refine ⟨_, rfl, _, rfl, .inl ⟨rfl, flat_strs taken, _, rfl, ?_⟩⟩
        rw [show (if true = true then !inD (D.str (cutS wd none (some 5) ++ ⟨#[97 + ((sp + (k0 : Int)) % 26).toNat]⟩)) (taken.map D.str) else inD (D.str (cutS wd none (some 5) ++ ⟨#[97 + ((sp + (k0 : Int)) % 26).toNat]⟩)) (taken.map D.str)) = !decide (more k0 ∈ taken) from by rw [inD_strs]; rfl]
        by_cases hm2 : more k0 ∈ taken
        · refine iteF (by simp [hm2]) ?_
          refine ih (k0 + 1) _ _ (by omega) fun k hk => ?_
          by_cases e2 : k = k0
          · rw [e2]; exact hm2
          · exact hall k (by omega)
        · refine iteT (by simp [hm2]) ?_
          exact ⟨_, rfl, hq _ (mn k0) hm2⟩
    refine ⟨by decide, by decide, ?_⟩
    have er : rangeD 0 (Int.toNat 26) = (List.range' 0 26).map fun k => .int ((k : Nat) : Int) := by
      unfold rangeD
      rw [List.range_eq_range']
      refine List.map_congr_left fun k _ => ?_
      rw [Int.zero_add]
    rw [er]
    exact go 26 0 _ _ (by omega) (fun k hk => by omega)
  · refine iteT (by simp [hm]) ?_
    exact ⟨_, rfl, hq wd hw hm⟩
def oneS (c : Nat) : Str := ⟨#[c]⟩
def allSigns : List Nat := tl ("0123456789abcdefghijklmnopqrstuvwxyz" : Str)
theorem signs36 : allSigns.length = 36 ∧ allSigns.Nodup := by
  unfold allSigns
  rw [tl_signs]
  decide
theorem ones_of : ∀ {ys : List Str}, (∀ y ∈ ys, ∃ c ∈ allSigns, y = oneS c) → ∃ cs : List Nat, ys = cs.map oneS ∧ ∀ c ∈ cs, c ∈ allSigns
  | [], _ => ⟨[], rfl, by simp⟩
  | y :: ys, h => by
    obtain ⟨c, hc, rfl⟩ := h y (by simp)
    obtain ⟨cs, rfl, h2⟩ := ones_of fun z hz => h z (List.mem_cons_of_mem _ hz)
    exact ⟨c :: cs, rfl, fun x hx => by
      rcases List.mem_cons.mp hx with rfl | hx
      · exact hc
      · exact h2 x hx⟩
theorem got_ok {got rest : List Str} {m : Nat} (p : (got ++ rest).Perm ((allSigns.take m).map oneS)) : (tl (Txt.join "" got)).Nodup ∧ (∀ c ∈ tl (Txt.join "" got), sgB c = true) ∧ (Txt.join "" got).length = got.length ∧ (got.map (·.length)).sum = got.length := by
  have nd : ((allSigns.take m).map oneS).Nodup := by
    rw [List.Nodup, List.pairwise_map]
    exact ((List.take_sublist m allSigns).nodup signs36.2).imp fun {a b} hab e => hab (by
      have := congrArg tl e
      exact (List.cons.inj this).1)
  have nd2 := (p.nodup_iff.mpr nd)
  have gnd : got.Nodup := (List.nodup_append.mp nd2).1
  obtain ⟨cs, rfl, hc⟩ := ones_of (ys := got) fun y hy => by
    have := p.mem_iff.mp (List.mem_append_left rest hy)
    obtain ⟨c, hc, rfl⟩ := List.mem_map.mp this
    exact ⟨c, List.mem_of_mem_take hc, rfl⟩
  have e : tl (Txt.join "" (cs.map oneS)) = cs := by rw [join0]; exact flat_ones cs
  refine ⟨by rw [e]; exact List.Pairwise.of_map _ (fun a b hab e => hab (by rw [e])) gnd, fun c h => ?_, by rw [len_tl, e, List.length_map], ?_⟩
  · rw [e] at h
    have := in_signs c
    rw [← this]
    exact decide_eq_true (hc c h)
  · clear e hc gnd nd2 p
    induction cs with
    | nil => rfl
    | cons c cs ih =>
      rw [List.map_cons, List.map_cons, List.sum_cons, ih, List.length_cons]
      show 1 + _ = _
      omega
theorem k_parts : Keeps (td__law_parts K cOf cFresh) ["bag", "sizes", "parts", "size", "pool", "signs", "k", "part"] cParts := by
  intro β ds Qd Ed h
  obtain ⟨sizes, rfl, hne, hl3, hs, hp, hq⟩ := h
  refine ⟨by rw [sizeLine_eq]; decide, ?_⟩
  refine ⟨_, rfl, _, rfl, ?_⟩
  have go : ∀ (todo : List Nat) (done : List Part) (s3 s4 s5 : Sl), sizes = done.map (fun p => p.2.length) ++ todo → (∀ p ∈ done, PartOk p) → (done.map (·.1)).Nodup →
      loopD (zName 3) (ySeq (ySetO [] 4 (oSl (xCall dListA (xCons (xC (.str "0123456789abcdefghijklmnopqrstuvwxyz")) xNil)) xNoPart (xPart (xCall dMax (xCons (xVar 3) (xCons (xFn β cOf (xCons (xVar 0) (xCons (xLst (xCons (xC (.int 3)) (xCons (xC (.int 12)) (xCons (xC (.int 36)) xNil)))) xNil))) xNil))))))
    (ySeq (yPJ 4 5 0 β (xiRng1 (xCons (xVar 3) xNil)))
    (yOM [] 2 oAppend (xCons (xTup (xCons (xFn β cFresh (xCons (xVar 0) (xCons (xLcE [7] (xiOwn 2) (zName 7) xYes (xOp dIx (xVar 7) (xC (.int 0)))) xNil))) (xCons (xVar 5) xNil))) xNil)))) { nx := yRet [2] (xVar 2) { nx := fun _ => Qd .non, rt := Qd, xc := fun cn fs _ => Ed cn fs }, rt := Qd, xc := fun cn fs _ => Ed cn fs } (todo.map fun s => .int ((s : Nat) : Int))
        [.val (.adr β), .val (.tup (sizes.map fun s => .int ((s : Nat) : Int))), .own (.lst (done.map partD)), s3, s4, s5, .non, .non] := by
    intro todo
    induction todo with
    | nil =>
      intro done s3 s4 s5 e h1 h2
      rw [List.append_nil] at e
      refine ⟨_, rfl, hq done ⟨fun z => hne (by rw [e, z]; rfl), ?_, h1, h2, ?_⟩⟩
      · have := congrArg List.length e
        rw [List.length_map] at this
        omega
      · have : manyOf done = prodL sizes := by unfold manyOf prodL; rw [e]
        omega
    | cons s todo ih =>
      intro done s3 s4 s5 e h1 h2
      have hs1 := hs s (by rw [e]; simp)
      have dl : done.length ≤ 2 := by
        have := congrArg List.length e
        rw [List.length_append, List.length_map, List.length_cons] at this
        omega
      refine ⟨by rw [sizeLine_eq]; decide +kernel, _, rfl, _, rfl, ?_⟩
      refine ⟨by rw [sizeLine_eq]; show 3 ≤ 16777216; decide, ?_⟩
      refine ⟨_, rfl, .inl ⟨_, rfl, (by show 0 < 3; decide), (by show 3 < 1073741824; decide), fun d hd => ?_⟩⟩
      obtain ⟨j, rfl, hj⟩ : ∃ j : Nat, d = .int ((j : Nat) : Int) ∧ j ≤ 36 := by
        simp only [List.mem_cons, List.not_mem_nil, or_false] at hd
        rcases hd with rfl | rfl | rfl
        · exact ⟨3, rfl, by decide⟩
        · exact ⟨12, rfl, by decide⟩
        · exact ⟨36, rfl, by decide⟩
      -- the pool
      have em : ∃ m : Nat, (if ((j : Nat) : Int) > ((s : Nat) : Int) then ((j : Nat) : Int) else ((s : Nat) : Int)) = ((m : Nat) : Int) ∧ s ≤ m ∧ m ≤ 36 := by
        by_cases q : ((j : Nat) : Int) > ((s : Nat) : Int)
        · exact ⟨j, by rw [if_pos q], by omega, hj⟩
        · exact ⟨s, by rw [if_neg q], Nat.le_refl _, by omega⟩
      obtain ⟨m, em, sm, m36⟩ := em
      have ep : DL.cutD (signsD ("0123456789abcdefghijklmnopqrstuvwxyz" : Str)) none (some (if ((j : Nat) : Int) > ((s : Nat) : Int) then ((j : Nat) : Int) else ((s : Nat) : Int))) = ((allSigns.take m).map oneS).map D.str := by
        rw [em]
        unfold DL.cutD
        rw [HT.sIx_nat]
        show ((signsD _).drop 0).take (min m _ - 0) = _
        have l36 : (signsD ("0123456789abcdefghijklmnopqrstuvwxyz" : Str)).length = 36 := by
          rw [signsD_map, List.length_map]; exact signs36.1
        rw [List.drop_zero, l36, Nat.min_eq_left m36, Nat.sub_zero, List.map_map, List.map_take]; rfl
      have lz : ((allSigns.take m).map oneS).length = m := by rw [List.length_map, List.length_take, signs36.1]; omega
      refine ⟨_, rfl, _, rfl, ?_⟩
      refine ⟨rfl, (allSigns.take m).map oneS, (by
        show some (Sl.own (.lst (DL.cutD (signsD ("0123456789abcdefghijklmnopqrstuvwxyz" : Str)) none (some (if ((j : Nat) : Int) > ((s : Nat) : Int) then ((j : Nat) : Int) else ((s : Nat) : Int)))))) = _
        rw [ep]), by omega, ?_⟩
      refine ⟨_, rfl, by omega, by omega, ?_⟩
      have sl : (rangeD 0 ((s : Nat) : Int).toNat).length = s := by rw [rangeD_len]; omega
      refine ⟨by rw [sl, lz]; exact sm, by rw [sl, sizeLine_eq]; omega, fun got rest pm gl => ?_⟩
      rw [sl] at gl
      obtain ⟨g1, g2, g3, g4⟩ := got_ok pm
      refine ⟨by omega, ?_⟩
      refine ⟨_, rfl, by decide, _, rfl, _, rfl, by rw [List.length_map, sizeLine_eq]; omega, compD_map partD (fun p => .str p.1) done _ (fun p hp k hk => ⟨_, rfl, _, rfl, hk⟩) ?_⟩
      refine ⟨done.map (·.1), by rw [List.map_map]; rfl, by rw [List.length_map]; omega, fun n hn hni => ?_⟩
      refine ⟨_, rfl, by rw [sizeLine_eq]; show 2 ≤ 16777216; decide, by rw [List.length_map, sizeLine_eq]; omega, ?_⟩
      have ih' := ih (done ++ [(n, Txt.join "" got)]) (.val (.int ((s : Nat) : Int))) (.own (.lst (rest.map D.str))) (.val (.str (Txt.join "" got))) (by
        rw [e, List.map_append, List.append_assoc]
        show _ = _ ++ ([(Txt.join "" got).length] ++ todo)
        rw [g3, gl]; rfl) (fun p hp => by
          rcases List.mem_append.mp hp with hp | hp
          · exact h1 p hp
          · rw [List.mem_singleton.mp hp]
            exact ⟨hn, g2, g1, by show 1 ≤ (Txt.join "" got).length; omega, by show (Txt.join "" got).length ≤ 16; omega⟩) (by
          rw [List.map_append, List.nodup_append]
          refine ⟨h2, by simp, fun a ha b hb e => hni ?_⟩
          have eb : b = n := List.mem_singleton.mp hb
          rw [← eb, ← e]; exact ha)
      rw [List.map_append] at ih'
      exact ih'
  exact go sizes [] _ _ _ rfl (by simp) (by simp)
end
end K02

namespace K02
open PySem PySem.Spec PyProof.Rows L2 EX DL PL TL
inductive Vd : Nat → D → Prop where
  | non (n : Nat) : Vd n .non
  | bl (n : Nat) (b : Bool) : Vd n (.bl b)
  | int (n : Nat) (i : Int) : Vd n (.int i)
  | str (n : Nat) (s : Str) : Vd n (.str s)
  | lst (n : Nat) (ds : List D) (h : ∀ d ∈ ds, Vd n d) (hl : ds.length ≤ 20000) : Vd (n + 1) (.lst ds)
  | tup (n : Nat) (ds : List D) (h : ∀ d ∈ ds, Vd n d) (hl : ds.length ≤ 20000) : Vd (n + 1) (.tup ds)
def cLike (n : Nat) : DC := fun _ ds Q _ => ∃ d, ds = [d, d] ∧ Vd n d ∧ Q (.bl true)
section
variable {K : PySem.W.Frag} {δ : DSt} {i j : Nat} {Q : Bool → Prop} {E : XD} {d : D} {ty g : String} {b : Bool}
theorem t_isi (h : δ[i]? = some (.val d)) (ht : tgD oxt d = some (.b g)) (hb : isB g ty = some b) (q : Q b) : xTest (xCall (dIsi K oxt) (xCons (xVar i) (xCons (xC (.ty ty)) xNil))) δ Q E := ⟨_, h, _, _, ht, hb, _, rfl, q⟩
theorem t_isi2 (h : δ[i]? = some (.val d)) (ht : tgD oxt d = some (.b g)) (hb : isAny K (.b g) [.ty "list", .ty "tuple"] = some b) (q : Q b) : xTru (xCall (dIsi K oxt) (xCons (xVar i) (xCons (xTup (xCons (xC (.ty "list")) (xCons (xC (.ty "tuple")) xNil))) xNil))) δ Q E :=
  ⟨_, h, by rw [sizeLine_eq]; show 2 ≤ 16777216; decide, _, _, ht, hb, _, rfl, q⟩
theorem t_isiNe (h : δ[i]? = some (.val d)) (h' : δ[j]? = some (.val d)) (ht : tgD oxt d = some (.b g)) (hb : isB g ty = some b) (q : Q false) : xTest (xOp (dEq true) (xCall (dIsi K oxt) (xCons (xVar i) (xCons (xC (.ty ty)) xNil))) (xCall (dIsi K oxt) (xCons (xVar j) (xCons (xC (.ty ty)) xNil)))) δ Q E := by
  refine ⟨_, h, _, _, ht, hb, _, h', _, _, ht, hb, _, rfl, ?_⟩
  show Q (!decide (b = b))
  rw [decide_eq_true rfl]
  exact q
end
theorem isAny2 {K : PySem.W.Frag} {g : String} {b1 b2 : Bool} (h1 : isB g "list" = some b1) (h2 : isB g "tuple" = some b2) : isAny K (.b g) [.ty "list", .ty "tuple"] = some (b1 || b2) := by
  unfold isAny isAny isAny isOne
  simp only [h1, h2]
  cases b1 <;> cases b2 <;> rfl
section
variable {K : PySem.W.Frag}
theorem bls_true : ∀ {ds ys : List D}, Paired (fun _ y => y = D.bl true) ds ys → ∃ ks, blsD ys = some ks ∧ ks.all id = true := by
  intro ds ys h
  induction h with
  | nil => exact ⟨[], rfl, rfl⟩
  | cons h t ih =>
    obtain ⟨ks, e1, e2⟩ := ih
    subst h
    exact ⟨true :: ks, by unfold blsD; rw [e1]; rfl, by rw [List.all_cons, e2]; rfl⟩
theorem zip_self : ∀ {ds : List D} {z : D}, z ∈ zipD ds ds → ∃ d ∈ ds, z = .tup [d, d]
  | d :: ds, z, h => by
    unfold zipD at h
    rcases List.mem_cons.mp h with e | h
    · exact ⟨d, List.mem_cons_self, e⟩
    · obtain ⟨x, h1, h2⟩ := zip_self h
      exact ⟨x, List.mem_cons_of_mem _ h1, h2⟩
theorem k_like {cR : DC} (n : Nat) (hR : ∀ m, n = m + 1 → ∀ β d Q E, Vd m d → Q (.bl true) → cR β [d, d] Q E) : Keeps (td__law_like K cR) ["told", "due", "a", "b"] (cLike n) := by
  intro β ds Qd Ed h
  obtain ⟨d, rfl, hv, hq⟩ := h
  cases hv with
  | non =>
    refine t_isi2 rfl rfl (isAny2 (b1 := false) (b2 := false) (by decide +kernel) (by decide +kernel)) (iteF rfl ?_)
    refine ⟨_, rfl, _, rfl, iteT rfl (iteT rfl ?_)⟩
    exact ⟨_, rfl, _, rfl, iteT rfl ⟨_, rfl, hq⟩⟩
  | bl m b =>
    refine t_isi2 rfl rfl (isAny2 (b1 := false) (b2 := false) (by decide +kernel) (by decide +kernel)) (iteF rfl ?_)
    refine ⟨_, rfl, _, rfl, iteF rfl ⟨_, rfl, _, rfl, iteF rfl ?_⟩⟩
    refine t_isi2 rfl rfl (isAny2 (b1 := false) (b2 := false) (by decide +kernel) (by decide +kernel)) (iteF rfl ?_)
    refine t_isiNe rfl rfl rfl (show isB _ "bool" = some true by decide +kernel) (iteF rfl ?_)
    refine t_isiNe rfl rfl rfl (show isB _ "str" = some false by decide +kernel) (iteF rfl ?_)
    refine t_isiNe rfl rfl rfl (show isB _ "int" = some true by decide +kernel) (iteF rfl ?_)
    refine ⟨_, rfl, _, rfl, ?_⟩
    show Qd (.bl (decide (b = b)))
    rw [decide_eq_true rfl]; exact hq
  | int m b =>
    refine t_isi2 rfl rfl (isAny2 (b1 := false) (b2 := false) (by decide +kernel) (by decide +kernel)) (iteF rfl ?_)
    refine ⟨_, rfl, _, rfl, iteF rfl ⟨_, rfl, _, rfl, iteF rfl ?_⟩⟩
    refine t_isi2 rfl rfl (isAny2 (b1 := false) (b2 := false) (by decide +kernel) (by decide +kernel)) (iteF rfl ?_)
    refine t_isiNe rfl rfl rfl (show isB _ "bool" = some false by decide +kernel) (iteF rfl ?_)
    refine t_isiNe rfl rfl rfl (show isB _ "str" = some false by decide +kernel) (iteF rfl ?_)
    refine t_isiNe rfl rfl rfl (show isB _ "int" = some true by decide +kernel) (iteF rfl ?_)
    refine ⟨_, rfl, _, rfl, ?_⟩
    show Qd (.bl (decide (b = b)))
    rw [decide_eq_true rfl]; exact hq
  | str m b =>
    refine t_isi2 rfl rfl (isAny2 (b1 := false) (b2 := false) (by decide +kernel) (by decide +kernel)) (iteF rfl ?_)
    refine ⟨_, rfl, _, rfl, iteF rfl ⟨_, rfl, _, rfl, iteF rfl ?_⟩⟩
    refine t_isi2 rfl rfl (isAny2 (b1 := false) (b2 := false) (by decide +kernel) (by decide +kernel)) (iteF rfl ?_)
    refine t_isiNe rfl rfl rfl (show isB _ "bool" = some false by decide +kernel) (iteF rfl ?_)
    refine t_isiNe rfl rfl rfl (show isB _ "str" = some true by decide +kernel) (iteF rfl ?_)
    refine t_isiNe rfl rfl rfl (show isB _ "int" = some false by decide +kernel) (iteF rfl ?_)
    refine ⟨_, rfl, _, rfl, ?_⟩
    show Qd (.bl (decide (b = b)))
    rw [decide_eq_true rfl]; exact hq
  | lst m ds h hl =>
    refine t_isi2 rfl rfl (isAny2 (b1 := true) (b2 := false) (by decide +kernel) (by decide +kernel)) (iteT rfl ?_)
    refine t_isiNe rfl rfl rfl (show isB _ "list" = some true by decide +kernel) (iteF rfl ?_)
    refine t_isiNe rfl rfl rfl (show isB _ "tuple" = some false by decide +kernel) (iteF rfl ?_)
    refine ⟨_, rfl, _, rfl, _, rfl, iteT (decide_eq_true rfl) ⟨_, rfl, _, rfl, ?_⟩⟩
    refine ⟨by rw [zipD_len, sizeLine_eq]; omega, ?_⟩
    refine compD_rel (fun _ y => y = .bl true) _ _ (fun z hz k hk => ?_) (fun ys hys => ?_)
    · obtain ⟨x, hx, rfl⟩ := zip_self hz
      exact ⟨rfl, rfl, _, rfl, _, rfl, hR m rfl _ _ _ _ (h x hx) (hk _ rfl)⟩
    · obtain ⟨ks, e1, e2⟩ := bls_true hys
      refine ⟨ks, e1, ?_⟩
      show Qd (.bl (ks.all id))
      rw [e2]; exact hq
  | tup m ds h hl =>
    refine t_isi2 rfl rfl (isAny2 (b1 := false) (b2 := true) (by decide +kernel) (by decide +kernel)) (iteT rfl ?_)
    refine t_isiNe rfl rfl rfl (show isB _ "list" = some false by decide +kernel) (iteF rfl ?_)
    refine t_isiNe rfl rfl rfl (show isB _ "tuple" = some true by decide +kernel) (iteF rfl ?_)
    refine ⟨_, rfl, _, rfl, _, rfl, iteT (decide_eq_true rfl) ⟨_, rfl, _, rfl, ?_⟩⟩
    refine ⟨by rw [zipD_len, sizeLine_eq]; omega, ?_⟩
    refine compD_rel (fun _ y => y = .bl true) _ _ (fun z hz k hk => ?_) (fun ys hys => ?_)
    · obtain ⟨x, hx, rfl⟩ := zip_self hz
      exact ⟨rfl, rfl, _, rfl, _, rfl, hR m rfl _ _ _ _ (h x hx) (hk _ rfl)⟩
    · obtain ⟨ks, e1, e2⟩ := bls_true hys
      refine ⟨ks, e1, ?_⟩
      show Qd (.bl (ks.all id))
      rw [e2]; exact hq
end
end K02

namespace K02
open PySem PySem.Spec PyProof.Rows L2 EX DL PL TL
def cFault : DC := fun _ ds Q _ => (∃ k : Int, ds = [.exc "BadRun" (eRun k)] ∧ Q (.lst [.str "BadRun", .int k])) ∨ (ds = [.exc "BadText" eText] ∧ Q (.lst [.str "BadText", .int 0, .str "form"]))
/-- what is made of a lambda: what it may give, what it may raise -/
def askK : AskC := fun _ c Qd => ∃ (R : QD) (S : XD), (∀ (Q : QD) (E : XD), (∀ d, R d → Q d) → (∀ cn fs, S cn fs → E cn fs) → c Q E) ∧ (∀ d, R d → Qd (.lst [.str "told", d])) ∧
  ∀ cn fs, S cn fs → (cn = "BadRun" ∧ ∃ k : Int, fs = eRun k ∧ Qd (.lst [.str "BadRun", .int k])) ∨ (cn = "BadText" ∧ fs = eText ∧ Qd (.lst [.str "BadText", .int 0, .str "form"]))
section
variable {K : PySem.W.Frag}
theorem kd_at (e : kdB K = true) {c n : Str} (hc : c ∈ (["BadRun", "BadText"] : List Str)) (hn : n ∈ (["BadRun", "BadText"] : List Str)) : PySem.W.kitOne K (.ref (He.ga K c)) (.ref (He.ga K n)) = some (decide (c = n)) :=
  of_decide_eq_true (List.all_eq_true.mp (List.all_eq_true.mp e c hc) n hn)
theorem em_at (e : emB K = true) {c : Str} (hc : c ∈ (["BadRun", "BadText"] : List Str)) : PySem.W.exmOne K (.ref (He.ga K c)) (.ref (He.ga K "RuleError")) = some true := of_decide_eq_true (List.all_eq_true.mp e c hc)
theorem k_fault (e : kdB K = true) : Keeps (td__law_fault K) ["error"] cFault := by
  intro β ds Qd Ed h
  rcases h with ⟨k, rfl, hq⟩ | ⟨rfl, hq⟩
  · refine ⟨_, rfl, .o "BadRun", _, rfl, kd_at e (c := "BadRun") (n := "BadRun") (by simp) (by simp), true, (by show true = decide _; decide +kernel), iteT rfl ?_⟩
    exact ⟨_, rfl, _, _, _, rfl, by decide +kernel, by rfl, _, rfl, _, _, _, rfl, by decide +kernel, by rfl, by rw [sizeLine_eq]; show 2 ≤ 16777216; decide, hq⟩
  · refine ⟨_, rfl, .o "BadText", _, rfl, kd_at e (c := "BadText") (n := "BadRun") (by simp) (by simp), false, (by show false = decide _; decide +kernel), iteF rfl ?_⟩
    refine ⟨_, rfl, .o "BadText", _, rfl, kd_at e (c := "BadText") (n := "BadText") (by simp) (by simp), true, (by show true = decide _; decide +kernel), iteT rfl ?_⟩
    exact ⟨_, rfl, _, _, _, rfl, by decide +kernel, by rfl, _, rfl, _, _, _, rfl, by decide +kernel, by rfl, _, rfl, _, _, _, rfl, by decide +kernel, by rfl, by rw [sizeLine_eq]; show 3 ≤ 16777216; decide, hq⟩
theorem k_askK (em : emB K = true) : ∀ (β f : Addr) (c : LC) (Qd : QD), askK β c Qd → td_ask K cFault β f c { nx := fun _ => Qd .non, rt := Qd } (startD 2 [.adr f]) := by
  intro β f c Qd h
  obtain ⟨R, S, h1, h2, h3⟩ := h
  refine ⟨rfl, h1 _ _ (fun d q => ?_) fun cn fs q => ?_⟩
  · exact ⟨by rw [sizeLine_eq]; show 2 ≤ 16777216; decide, h2 d q⟩
  · rcases h3 cn fs q with ⟨rfl, k, rfl, q'⟩ | ⟨rfl, rfl, q'⟩
    · exact ⟨true, em_at em (by simp), iteT rfl ⟨_, rfl, .inl ⟨k, rfl, q'⟩⟩⟩
    · exact ⟨true, em_at em (by simp), iteT rfl ⟨_, rfl, .inr ⟨rfl, q'⟩⟩⟩
def cOdd : DC := fun β ds Q _ => ∃ mine : List Str, ds = [.adr β, mineD mine] ∧ mine ≠ [] ∧ mine.length ≤ 16 ∧ (∀ x ∈ mine, 1 ≤ x.length ∧ x.length ≤ 4) ∧ ∀ x : Str, x.length ≤ 10 → Q (.str x)
theorem cut_len (z : Str) (lo hi : Option Int) : (cutS z lo hi).length ≤ z.length := cutS_length z lo hi
theorem k_odd : Keeps (td__law_odd K cOf cDraw) ["bag", "mine", "word", "spot", "some"] cOdd := by
  intro β ds Qd Ed h
  obtain ⟨mine, rfl, hm, hl, hw, hq⟩ := h
  refine ⟨_, rfl, _, rfl, _, rfl, .inl ⟨_, rfl, ?_, ?_, fun d hd => ?_⟩⟩
  · rw [List.length_map]; exact List.length_pos_iff.mpr hm
  · rw [List.length_map]; omega
  obtain ⟨wd, hwd, rfl⟩ := List.mem_map.mp hd
  obtain ⟨w1, w4⟩ := hw wd hwd
  have c4 : ∀ lo hi, (cutS wd lo hi).length ≤ 4 := fun lo hi => Nat.le_trans (cut_len _ _ _) w4
  have e1 : ∀ x : Nat, (⟨#[x]⟩ : Str).length = 1 := fun _ => rfl
  have en : ("\n" : Str).length = 1 := by decide +kernel
  have eh : ("#" : Str).length = 1 := by decide +kernel
  have eb : (" " : Str).length = 1 := by decide +kernel
  have ee : ("" : Str).length = 0 := by decide +kernel
  have ed : ("-" : Str).length = 1 := by decide +kernel
  refine ⟨_, rfl, _, rfl, by rw [sizeLine_eq]; omega, _, rfl, by omega, by omega, fun sp h0 h1 => ?_⟩
  obtain ⟨d2, hd2, ea⟩ := atI_some (xs := tl wd) h0 (by rw [← len_tl]; exact h1)
  have w4' : wd.length ≤ sizeLine := by rw [sizeLine_eq]; omega
  have a1 := c4 none (some sp)
  have a2 := c4 (some (sp + 1)) none
  have l1 : ∀ x : Nat, (⟨#[x]⟩ : Str).length = 1 := fun _ => rfl
  have l1d := l1 d2
  repeat (first | refine ⟨_, rfl, ?_⟩ | refine ⟨by (rw [sizeLine_eq]; first | omega | exact Nat.le_of_ble_eq_true rfl | (simp only [Str.length_append]; omega)), ?_⟩)
  refine ⟨_, ea, ?_⟩
  repeat (first | refine ⟨_, rfl, ?_⟩ | refine ⟨by (rw [sizeLine_eq]; first | omega | exact Nat.le_of_ble_eq_true rfl | (simp only [Str.length_append]; omega)), ?_⟩)
  refine .inr ⟨_, rfl, by decide +kernel, by rw [sizeLine_eq]; decide +kernel, fun c hc => ?_⟩
  have l1c := l1 c
  repeat (first | refine ⟨_, rfl, ?_⟩ | refine ⟨by (rw [sizeLine_eq]; first | omega | exact Nat.le_of_ble_eq_true rfl | (simp only [Str.length_append]; omega)), ?_⟩)
  refine .inl ⟨_, rfl, (by show 0 < 9; decide), (by show 9 < 1073741824; decide), fun d hd => ?_⟩
  simp only [List.cons_append, List.nil_append, List.mem_cons, List.not_mem_nil, or_false] at hd
  rcases hd with rfl | rfl | rfl | rfl | rfl | rfl | rfl | rfl | rfl <;> refine hq _ ?_ <;> (try simp only [Str.length_append]) <;> (try rw [l1]) <;> omega
end
end K02

namespace K02
open PySem PySem.Spec PyProof.Rows L2 EX DL PL TL
def cBentRun : DC := fun β ds Q _ => ∃ (mine : List Str) (r : Rn), ds = [.adr β, mineD mine, runD r] ∧ mine ≠ [] ∧ mine.length ≤ 16 ∧ (∀ x ∈ mine, 1 ≤ x.length ∧ x.length ≤ 4) ∧ r.length ≤ 50 ∧ (∀ x ∈ r, x.length ≤ 10) ∧ ∀ r' : Rn, r'.length ≤ 51 → (∀ x ∈ r', x.length ≤ 10) → Q (runD r')
def cBentText : DC := fun β ds Q _ => ∃ t : Str, ds = [.adr β, .str t] ∧ t.length ≤ 5100 ∧ ∀ t' : Str, t'.length ≤ t.length + 2 → Q (.str t')
def optD : Option Rn → D
  | none => .non
  | some ws => runD ws
def cRead : DC := fun _ ds Q _ => ∃ (w : Nat) (mine : List Str) (t : Str), ds = [mineD mine, .str t] ∧ Mine w mine ∧ t.length ≤ 6000 ∧ Q (optD (readV mine t))
theorem cutD_map {α β' : Type} (f : α → β') (xs : List α) (lo hi : Option Int) : DL.cutD (xs.map f) lo hi = (DL.cutD xs lo hi).map f := by
  unfold DL.cutD
  rw [List.length_map, List.map_take, List.map_drop]
theorem cutD_mem {α : Type} {xs : List α} {lo hi : Option Int} {x : α} (h : x ∈ DL.cutD xs lo hi) : x ∈ xs := by
  unfold DL.cutD at h
  exact List.mem_of_mem_drop (List.mem_of_mem_take h)
section
variable {K : PySem.W.Frag}
theorem cutD_to_len {α : Type} (xs : List α) (n : Nat) (h : n ≤ xs.length) : (DL.cutD xs none (some (n : Int))).length = n := by
  unfold DL.cutD
  rw [HT.sIx_nat]
  show ((xs.drop 0).take (min n xs.length - 0)).length = n
  rw [List.drop_zero, List.length_take]; omega
theorem cutD_from_len {α : Type} (xs : List α) (n : Nat) : (DL.cutD xs (some (n : Int)) none).length = xs.length - n := by
  unfold DL.cutD
  rw [HT.sIx_nat]
  show ((xs.drop (min n xs.length)).take (xs.length - min n xs.length)).length = _
  rw [List.length_take, List.length_drop]; omega
theorem k_bent_run : Keeps (td__law_bent_run K cDraw cOdd cOf) ["bag", "mine", "word", "spot", "odd"] cBentRun := by
  intro β ds Qd Ed h
  obtain ⟨mine, r, rfl, hm, hl, hw, hr, hr10, hq⟩ := h
  refine ⟨_, rfl, _, rfl, _, rfl, ?_, ?_, fun sp h0 h1 => ?_⟩
  · show (0 : Int) < ((r.map D.str).length : Nat) + 1
    omega
  · show (((r.map D.str).length : Nat) : Int) + 1 < 1073741824
    rw [List.length_map]; omega
  obtain ⟨n, rfl⟩ := Int.eq_ofNat_of_zero_le h0
  have hn : n ≤ r.length := by
    have h1 : ((n : Nat) : Int) < ((r.map D.str).length : Nat) + 1 := h1
    rw [List.length_map] at h1; omega
  refine ⟨_, rfl, _, rfl, mine, rfl, hm, hl, hw, fun od hod => ?_⟩
  have c1 : DL.cutD (r.map D.str) none (some ((n : Nat) : Int)) = (DL.cutD r none (some ((n : Nat) : Int))).map D.str := cutD_map _ _ _ _
  have c2 : DL.cutD (r.map D.str) (some ((n : Nat) : Int)) none = (DL.cutD r (some ((n : Nat) : Int)) none).map D.str := cutD_map _ _ _ _
  have c3 : DL.cutD (r.map D.str) (some (((n : Nat) : Int) + 1)) none = (DL.cutD r (some (((n + 1 : Nat) : Nat) : Int)) none).map D.str := by
    rw [show ((n : Nat) : Int) + 1 = ((n + 1 : Nat) : Int) from by omega]; exact cutD_map _ _ _ _
  have l1 := cutD_to_len r n hn
  have l2 := cutD_from_len r n
  have l3 := cutD_from_len r (n + 1)
  have s1 : (DL.cutD (r.map D.str) none (some ((n : Nat) : Int))).length = n := by rw [c1, List.length_map, l1]
  have s2 : (DL.cutD (r.map D.str) (some ((n : Nat) : Int)) none).length = r.length - n := by rw [c2, List.length_map, l2]
  have s3 : (DL.cutD (r.map D.str) (some (((n : Nat) : Int) + 1)) none).length = r.length - (n + 1) := by rw [c3, List.length_map, l3]
  refine ⟨_, rfl, _, rfl, _, rfl, _, rfl, _, rfl, by (rw [sizeLine_eq]; first | omega | exact Nat.le_of_ble_eq_true rfl | (simp only [Str.length_append]; omega)), by rw [s1, sizeLine_eq]; show n + 1 ≤ _; omega, _, rfl, _, rfl, _, rfl, by rw [List.length_append, s1, s2, sizeLine_eq]; show n + 1 + _ ≤ _; omega, ?_⟩
  refine ⟨_, rfl, _, rfl, _, rfl, _, rfl, by (rw [sizeLine_eq]; first | omega | exact Nat.le_of_ble_eq_true rfl | (simp only [Str.length_append]; omega)), by rw [s1, sizeLine_eq]; show n + 1 ≤ _; omega, _, rfl, _, rfl, _, rfl, by rw [List.length_append, s1, s3, sizeLine_eq]; show n + 1 + _ ≤ _; omega, ?_⟩
  refine ⟨_, rfl, by (rw [sizeLine_eq]; first | omega | exact Nat.le_of_ble_eq_true rfl | (simp only [Str.length_append]; omega)), by (rw [sizeLine_eq]; first | omega | exact Nat.le_of_ble_eq_true rfl | (simp only [Str.length_append]; omega)), _, rfl, .inl ⟨_, rfl, (by show 0 < 3; decide), (by show 3 < 1073741824; decide), fun d hd => ?_⟩⟩
  have m1 : ∀ (lo hi : Option Int) (x : Str), x ∈ DL.cutD r lo hi → x.length ≤ 10 := fun lo hi x hx => hr10 x (cutD_mem hx)
  simp only [List.mem_cons, List.not_mem_nil, or_false] at hd
  rcases hd with rfl | rfl | rfl
  · have e : D.tup (DL.cutD (r.map D.str) none (some ((n : Nat) : Int)) ++ [D.str od] ++ DL.cutD (r.map D.str) (some ((n : Nat) : Int)) none) = runD (DL.cutD r none (some ((n : Nat) : Int)) ++ [od] ++ DL.cutD r (some ((n : Nat) : Int)) none) := by
      rw [c1, c2]; unfold runD; rw [List.map_append, List.map_append]; rfl
    show Qd (D.tup (DL.cutD (r.map D.str) none (some ((n : Nat) : Int)) ++ [D.str od] ++ DL.cutD (r.map D.str) (some ((n : Nat) : Int)) none))
    rw [e]
    refine hq _ (by rw [List.length_append, List.length_append, l1, l2]; show n + 1 + _ ≤ _; omega) fun x hx => ?_
    rw [List.mem_append, List.mem_append, List.mem_singleton] at hx
    rcases hx with (hx | rfl) | hx
    · exact m1 _ _ x hx
    · exact hod
    · exact m1 _ _ x hx
  · have e : D.tup (DL.cutD (r.map D.str) none (some ((n : Nat) : Int)) ++ [D.str od] ++ DL.cutD (r.map D.str) (some (((n : Nat) : Int) + 1)) none) = runD (DL.cutD r none (some ((n : Nat) : Int)) ++ [od] ++ DL.cutD r (some ((n + 1 : Nat) : Int)) none) := by
      rw [c1, c3]; unfold runD; rw [List.map_append, List.map_append]; rfl
    show Qd (D.tup (DL.cutD (r.map D.str) none (some ((n : Nat) : Int)) ++ [D.str od] ++ DL.cutD (r.map D.str) (some (((n : Nat) : Int) + 1)) none))
    rw [e]
    refine hq _ (by rw [List.length_append, List.length_append, l1, l3]; show n + 1 + _ ≤ _; omega) fun x hx => ?_
    rw [List.mem_append, List.mem_append, List.mem_singleton] at hx
    rcases hx with (hx | rfl) | hx
    · exact m1 _ _ x hx
    · exact hod
    · exact m1 _ _ x hx
  · exact hq [od] (by simp) fun x hx => by rw [List.mem_singleton.mp hx]; exact hod
theorem cutS_to_len (z : Str) (n : Nat) (h : n ≤ z.length) : (cutS z none (some (n : Int))).length = n := by
  rw [len_tl, cutS_to, List.length_take, ← len_tl]; omega
theorem cutS_from_len (z : Str) (n : Nat) : (cutS z (some (n : Int)) none).length = z.length - n := by
  rw [len_tl, cutS_from, List.length_drop, ← len_tl]
theorem k_bent_text : Keeps (td__law_bent_text K cDraw cOf) ["bag", "text", "spot", "sign", "some"] cBentText := by
  intro β ds Qd Ed h
  obtain ⟨t, rfl, ht, hq⟩ := h
  refine ⟨_, rfl, _, rfl, by (rw [sizeLine_eq]; first | omega | exact Nat.le_of_ble_eq_true rfl | (simp only [Str.length_append]; omega)), _, rfl, ?_, ?_, fun sp h0 h1 => ?_⟩
  · omega
  · omega
  obtain ⟨n, rfl⟩ := Int.eq_ofNat_of_zero_le h0
  have hn : n ≤ t.length := by omega
  refine ⟨_, rfl, by (rw [sizeLine_eq]; first | omega | exact Nat.le_of_ble_eq_true rfl | (simp only [Str.length_append]; omega)), ?_⟩
  refine ⟨_, rfl, .inl ⟨_, rfl, (by show 0 < 9; decide), (by show 9 < 1073741824; decide), fun d hd => ?_⟩⟩
  obtain ⟨sg, rfl, hsg⟩ : ∃ sg : Str, d = .str sg ∧ sg.length ≤ 2 := by
    simp only [List.mem_cons, List.not_mem_nil, or_false] at hd
    rcases hd with rfl | rfl | rfl | rfl | rfl | rfl | rfl | rfl | rfl <;> exact ⟨_, rfl, by decide +kernel⟩
  have l1 := cutS_to_len t n hn
  have l2 := cutS_from_len t n
  have l3 : (cutS t (some (((n : Nat) : Int) + 1)) none).length = t.length - (n + 1) := by
    rw [show ((n : Nat) : Int) + 1 = ((n + 1 : Nat) : Int) from by omega]; exact cutS_from_len t (n + 1)
  repeat (first | refine ⟨_, rfl, ?_⟩ | refine ⟨by (rw [sizeLine_eq]; first | omega | exact Nat.le_of_ble_eq_true rfl | (simp only [Str.length_append]; omega)), ?_⟩)
  refine .inl ⟨_, rfl, (by show 0 < 5; decide), (by show 5 < 1073741824; decide), fun d hd => ?_⟩
  simp only [List.cons_append, List.nil_append, List.mem_cons, List.not_mem_nil, or_false] at hd
  rcases hd with rfl | rfl | rfl | rfl | rfl <;> refine hq _ ?_ <;> simp only [Str.length_append] <;> omega
theorem k_read : Keeps (td__law_read K) ["mine", "text", "wide", "word", "k", "spot"] cRead := by
  intro β ds Qd Ed h
  obtain ⟨w, mine, t, rfl, M, ht, hq⟩ := h
  refine ⟨_, rfl, _, rfl, ?_⟩
  by_cases e : t = dash
  · refine iteT (decide_eq_true e) ?_
    have : readV mine t = some [] := by unfold readV; rw [if_pos e]
    rw [this] at hq
    exact ⟨by simp, hq⟩
  refine iteF (decide_eq_false e) ?_
  obtain ⟨x0, r0, em⟩ : ∃ x r, mine = x :: r := by
    cases hm : mine with
    | nil => exact absurd hm M.ne
    | cons x r => exact ⟨x, r, rfl⟩
  have lx : x0.length = w := M.len x0 (by rw [em]; simp)
  have w1 := M.pos
  have w4 := M.wide
  refine ⟨_, rfl, _, (by rw [em]; exact atI_nat (j := 0) rfl : atI (mine.map D.str) 0 = some (D.str x0)), by rw [lx, sizeLine_eq]; omega, ?_⟩
  -- the slots with the width
  have main : (ySeq (yIf [] (xTest (xOp (dEq true) (xOp dMod (xCall dInt (xCons (xOp dAdd (xCall dLen (xCons (xVar 1) xNil)) (xC (.int 1))) xNil)) (xOp dAdd (xVar 2) (xC (.int 1)))) (xC (.int 0))))
    (yRet [] (xC .non))
    yNext)
    (ySeq (ySetLstO [] 3 xNil)
    (ySeq (yFor [] (xiRng1 (xCons (xOp dDiv (xOp dAdd (xCall dLen (xCons (xVar 1) xNil)) (xC (.int 1))) (xOp dAdd (xVar 2) (xC (.int 1)))) xNil)) (zName 4)
    (ySeq (ySet [] 5 (xOp dMul (xVar 4) (xOp dAdd (xVar 2) (xC (.int 1)))))
    (ySeq (yIf [] (xOr (xTest (xOp (dInA true) (xSl (xVar 1) (xPart (xVar 5)) (xPart (xOp dAdd (xVar 5) (xVar 2)))) (xVar 0))) (xTest (xOp (dInA true) (xSl (xVar 1) (xPart (xOp dAdd (xVar 5) (xVar 2))) (xPart (xOp dAdd (xOp dAdd (xVar 5) (xVar 2)) (xC (.int 1))))) (xTup (xCons (xC (.str "")) (xCons (xC (.str ".")) xNil))))))
    (yRet [] (xC .non))
    yNext)
    (yOM [] 3 oAppend (xCons (xSl (xVar 1) (xPart (xVar 5)) (xPart (xOp dAdd (xVar 5) (xVar 2)))) xNil)))))
    (yRet [] (xTupO 3))))) { nx := fun _ => Qd .non, rt := Qd, xc := fun cn fs _ => Ed cn fs } [.val (mineD mine), .val (.str t), .val (.int ((w : Nat) : Int)), .non, .non, .non] := by
    refine ⟨_, rfl, by (rw [sizeLine_eq]; first | omega | exact Nat.le_of_ble_eq_true rfl | (simp only [Str.length_append]; omega)), _, rfl, (show (0 : Int) < ((w : Nat) : Int) + 1 by omega), _, rfl, ?_⟩
    have em2 : ((((t.length : Nat) : Int) + 1) % (((w : Nat) : Int) + 1)) = (((t.length + 1) % (w + 1) : Nat) : Int) := by
      rw [Int.natCast_emod]; simp
    have ed2 : ((((t.length : Nat) : Int) + 1) / (((w : Nat) : Int) + 1)) = (((t.length + 1) / (w + 1) : Nat) : Int) := by
      rw [Int.natCast_ediv]; simp
    by_cases dv : (t.length + 1) % (w + 1) = 0
    · refine iteF (by
        show (!decide ((((t.length : Nat) : Int) + 1) % (((w : Nat) : Int) + 1) = 0)) = false
        rw [em2, dv]; rfl) ?_
      refine ⟨by rw [sizeLine_eq]; decide, ?_⟩
      refine ⟨_, rfl, by (rw [sizeLine_eq]; first | omega | exact Nat.le_of_ble_eq_true rfl | (simp only [Str.length_append]; omega)), _, rfl, ⟨show (0 : Int) < ((w : Nat) : Int) + 1 by omega, show ((w : Nat) : Int) + 1 < 1073741824 by omega⟩, ?_⟩
      have hl : t.length + 1 = (t.length + 1) / (w + 1) * (w + 1) := by
        have := Nat.div_add_mod (t.length + 1) (w + 1)
        rw [dv, Nat.add_zero, Nat.mul_comm] at this
        exact this.symm
      -- the turns
      have go : ∀ (n k0 : Nat) (s4 s5 : Sl), k0 + n = (t.length + 1) / (w + 1) → (∀ k, k < k0 → wordAt w t k ∈ mine ∧ (signAt w t k = ("" : Str) ∨ signAt w t k = dot)) →
          loopD (zName 4) (ySeq (ySet [] 5 (xOp dMul (xVar 4) (xOp dAdd (xVar 2) (xC (.int 1)))))
    (ySeq (yIf [] (xOr (xTest (xOp (dInA true) (xSl (xVar 1) (xPart (xVar 5)) (xPart (xOp dAdd (xVar 5) (xVar 2)))) (xVar 0))) (xTest (xOp (dInA true) (xSl (xVar 1) (xPart (xOp dAdd (xVar 5) (xVar 2))) (xPart (xOp dAdd (xOp dAdd (xVar 5) (xVar 2)) (xC (.int 1))))) (xTup (xCons (xC (.str "")) (xCons (xC (.str ".")) xNil))))))
    (yRet [] (xC .non))
    yNext)
    (yOM [] 3 oAppend (xCons (xSl (xVar 1) (xPart (xVar 5)) (xPart (xOp dAdd (xVar 5) (xVar 2)))) xNil)))) { nx := yRet [] (xTupO 3) { nx := fun _ => Qd .non, rt := Qd, xc := fun cn fs _ => Ed cn fs }, rt := Qd, xc := fun cn fs _ => Ed cn fs } ((List.range' k0 n).map fun k => .int ((k : Nat) : Int))
            [.val (mineD mine), .val (.str t), .val (.int ((w : Nat) : Int)), .own (.lst (((List.range k0).map (wordAt w t)).map D.str)), s4, s5] := by
        intro n
        induction n with
        | zero =>
          intro k0 s4 s5 ek hall
          rw [Nat.add_zero] at ek
          have := read_good M (by rw [ek]; exact hl) hall
          rw [this] at hq
          exact ⟨_, rfl, hq⟩
        | succ n ih =>
          intro k0 s4 s5 ek hall
          rw [List.range'_succ, List.map_cons]
          have eA : ((k0 : Nat) : Int) * (((w : Nat) : Int) + 1) = ((k0 * (w + 1) : Nat) : Int) := by
            rw [Int.natCast_mul]; simp
          have eB : ((k0 : Nat) : Int) * (((w : Nat) : Int) + 1) + ((w : Nat) : Int) = ((k0 * (w + 1) + w : Nat) : Int) := by rw [eA]; omega
          have eC : ((k0 : Nat) : Int) * (((w : Nat) : Int) + 1) + ((w : Nat) : Int) + 1 = ((k0 * (w + 1) + w + 1 : Nat) : Int) := by rw [eB]; omega
          have ew : cutS t (some (((k0 : Nat) : Int) * (((w : Nat) : Int) + 1))) (some (((k0 : Nat) : Int) * (((w : Nat) : Int) + 1) + ((w : Nat) : Int))) = wordAt w t k0 := by rw [eA]; unfold wordAt; congr 2
          have es : cutS t (some (((k0 : Nat) : Int) * (((w : Nat) : Int) + 1) + ((w : Nat) : Int))) (some (((k0 : Nat) : Int) * (((w : Nat) : Int) + 1) + ((w : Nat) : Int) + 1)) = signAt w t k0 := by rw [eC, eB]; rfl
          refine ⟨_, rfl, _, rfl, .inr ⟨by omega, by omega⟩, ?_⟩
          refine ⟨_, rfl, _, rfl, _, rfl, _, rfl, _, rfl, _, rfl, by (rw [sizeLine_eq]; first | omega | exact Nat.le_of_ble_eq_true rfl | (simp only [Str.length_append]; omega)), _, rfl, .inl ⟨rfl, flat_strs mine, _, rfl, ?_⟩⟩
          have no : (wordAt w t k0 ∉ mine ∨ ¬ (signAt w t k0 = ("" : Str) ∨ signAt w t k0 = dot)) → Qd .non := fun z => by
            have : readV mine t = none := by
              cases hr : readV mine t with
              | none => rfl
              | some ws =>
                have p := read_parts M e hr k0 (by
                  have := read_div M e hr
                  rw [hl] at this
                  have := Nat.eq_of_mul_eq_mul_right (by omega) this
                  omega)
                rcases z with z | z
                · exact absurd p.1 z
                · exact absurd p.2 z
            rw [this] at hq
            exact hq
          by_cases hm : wordAt w t k0 ∈ mine
          · refine iteF (by
              show (!inD (D.str (cutS t (some (((k0 : Nat) : Int) * (((w : Nat) : Int) + 1))) (some (((k0 : Nat) : Int) * (((w : Nat) : Int) + 1) + ((w : Nat) : Int))))) (mine.map D.str)) = false
              rw [ew, inD_strs, decide_eq_true hm]; rfl) ?_
            refine ⟨_, rfl, _, rfl, _, rfl, _, rfl, _, rfl, _, rfl, _, rfl, by (rw [sizeLine_eq]; first | omega | exact Nat.le_of_ble_eq_true rfl | (simp only [Str.length_append]; omega)), by rw [sizeLine_eq]; show 2 ≤ 16777216; decide, rfl, rfl, _, rfl, ?_⟩
            by_cases hs : signAt w t k0 = ("" : Str) ∨ signAt w t k0 = dot
            · refine iteF (by
                show (!inD (D.str (cutS t (some (((k0 : Nat) : Int) * (((w : Nat) : Int) + 1) + ((w : Nat) : Int))) (some (((k0 : Nat) : Int) * (((w : Nat) : Int) + 1) + ((w : Nat) : Int) + 1)))) ([("" : Str), dot].map D.str)) = false
                rw [es, inD_strs, decide_eq_true (by simpa using hs)]; rfl) ?_
              refine ⟨_, rfl, by decide, _, rfl, _, rfl, _, rfl, _, rfl, _, rfl, _, rfl, by (rw [sizeLine_eq]; first | omega | exact Nat.le_of_ble_eq_true rfl | (simp only [Str.length_append]; omega)), by rw [List.length_map, List.length_map, List.length_range, sizeLine_eq]; have := Nat.div_le_self (t.length + 1) (w + 1); omega, ?_⟩
              have ih' := ih (k0 + 1) (.val (.int ((k0 : Nat) : Int))) (.val (.int (((k0 : Nat) : Int) * (((w : Nat) : Int) + 1)))) (by omega) (fun k hk => by
                by_cases e2 : k = k0
                · rw [e2]; exact ⟨hm, hs⟩
                · exact hall k (by omega))
              rw [List.range_succ, List.map_append, List.map_append] at ih'
              have ew2 : ([k0].map (wordAt w t)).map D.str = [D.str (cutS t (some (((k0 : Nat) : Int) * (((w : Nat) : Int) + 1))) (some (((k0 : Nat) : Int) * (((w : Nat) : Int) + 1) + ((w : Nat) : Int))))] := by rw [ew]; rfl
              rw [ew2] at ih'
              exact ih'
            · refine iteT (by
                show (!inD (D.str (cutS t (some (((k0 : Nat) : Int) * (((w : Nat) : Int) + 1) + ((w : Nat) : Int))) (some (((k0 : Nat) : Int) * (((w : Nat) : Int) + 1) + ((w : Nat) : Int) + 1)))) ([("" : Str), dot].map D.str)) = true
                rw [es, inD_strs, decide_eq_false (by simpa using hs)]; rfl) ?_
              exact no (.inr hs)
          · refine iteT (by
              show (!inD (D.str (cutS t (some (((k0 : Nat) : Int) * (((w : Nat) : Int) + 1))) (some (((k0 : Nat) : Int) * (((w : Nat) : Int) + 1) + ((w : Nat) : Int))))) (mine.map D.str)) = true
              rw [ew, inD_strs, decide_eq_false hm]; rfl) ?_
            exact no (.inl hm)
      have dl : (t.length + 1) / (w + 1) ≤ 6001 := by have := Nat.div_le_self (t.length + 1) (w + 1); omega
      have nn : (0 : Int) ≤ (((t.length + 1) / (w + 1) : Nat) : Int) := Int.natCast_nonneg _
      have nl : (((t.length + 1) / (w + 1) : Nat) : Int) ≤ 6001 := Int.ofNat_le.mpr dl
      refine ⟨by rw [ed2]; exact Int.le_trans (by decide) nn, by rw [ed2]; exact Int.lt_of_le_of_lt nl (by decide), ?_⟩
      have er : rangeD 0 ((((t.length : Nat) : Int) + 1) / (((w : Nat) : Int) + 1)).toNat = (List.range' 0 ((t.length + 1) / (w + 1))).map fun k => .int ((k : Nat) : Int) := by
        rw [ed2, Int.toNat_natCast]
        unfold rangeD
        rw [List.range_eq_range']
        refine List.map_congr_left fun k _ => ?_
        rw [Int.zero_add]
      show loopD _ _ _ (rangeD 0 ((((t.length : Nat) : Int) + 1) / (((w : Nat) : Int) + 1)).toNat) _
      rw [er]
      exact go _ 0 _ _ (by omega) (fun k hk => by omega)
    · refine iteT (by
        show (!decide ((((t.length : Nat) : Int) + 1) % (((w : Nat) : Int) + 1) = 0)) = true
        rw [em2, decide_eq_false (by omega)]; rfl) ?_
      have : readV mine t = none := by
        cases hr : readV mine t with
        | none => rfl
        | some ws =>
          have := read_div M e hr
          rw [this, Nat.mul_mod_left] at dv
          exact absurd rfl dv
      rw [this] at hq
      exact hq
  have el : ((x0.length : Nat) : Int) = ((w : Nat) : Int) := by rw [lx]
  rw [← el] at main
  exact main
end
end K02

namespace K02
open PySem PySem.Spec PyProof.Rows L2 EX DL PL TL
def pyRun (r : Rn) : PyData := .tuple (r.map PyData.str)
theorem pys_strs : ∀ r : Rn, D.pys (r.map D.str) = some (r.map PyData.str)
  | [] => by unfold D.pys; rfl
  | x :: r => by
    rw [List.map_cons]
    unfold D.pys D.py
    rw [pys_strs r]; rfl
theorem py_run (r : Rn) : (runD r).py = some (pyRun r) := by
  unfold runD D.py
  rw [pys_strs]; rfl
theorem pys_map {α : Type} (f : α → D) (g : α → PyData) (h : ∀ x, (f x).py = some (g x)) : ∀ xs : List α, D.pys (xs.map f) = some (xs.map g)
  | [] => by unfold D.pys; rfl
  | x :: xs => by
    rw [List.map_cons]
    unfold D.pys
    rw [h x, pys_map f g h xs]; rfl
theorem lay_strs : ∀ r : Rn, (∀ x ∈ r, PyData.strOk x = true) → PyData.canLayAll0 (r.map PyData.str) = true
  | [], _ => by unfold PyData.canLayAll0; rfl
  | x :: r, h => by
    rw [List.map_cons]
    unfold PyData.canLayAll0 PyData.canLay0
    rw [h x (by simp), lay_strs r fun y hy => h y (List.mem_cons_of_mem _ hy)]; rfl
theorem depth_strs : ∀ r : Rn, PyData.depthAll (r.map PyData.str) = 0
  | [] => by unfold PyData.depthAll; rfl
  | x :: r => by
    rw [List.map_cons]
    unfold PyData.depthAll PyData.depth
    rw [depth_strs r]; rfl
theorem eqv_strs : ∀ a b : Rn, PyData.eqvAll (a.map PyData.str) (b.map PyData.str) = decide (a = b)
  | [], [] => by simp [PyData.eqvAll]
  | [], y :: b => by simp [PyData.eqvAll]
  | x :: a, [] => by simp [PyData.eqvAll]
  | x :: a, y :: b => by
    rw [List.map_cons, List.map_cons]
    simp only [PyData.eqvAll, PyData.eqv, eqv_strs a b]
    by_cases h : x = y
    · subst h; simp
    · simp [h]
theorem eqv_run (a b : Rn) : PyData.eqv (pyRun a) (pyRun b) = decide (a = b) := by
  unfold pyRun
  simp only [PyData.eqv, eqv_strs]
theorem eqv_runs : ∀ a b : List Rn, PyData.eqvAll (a.map pyRun) (b.map pyRun) = decide (a = b)
  | [], [] => by simp [PyData.eqvAll]
  | [], y :: b => by simp [PyData.eqvAll]
  | x :: a, [] => by simp [PyData.eqvAll]
  | x :: a, y :: b => by
    rw [List.map_cons, List.map_cons]
    simp only [PyData.eqvAll, eqv_run, eqv_runs a b]
    by_cases h : x = y
    · subst h; simp
    · simp [h]
section
variable {w : Nat} {mine : List Str}
theorem sok (M : Mine w mine) {x : Str} (h : x ∈ mine) : PyData.strOk x = true := by
  have := M.sg x h
  unfold PyData.strOk
  rw [← Array.all_toList, List.all_eq_true]
  intro c hc
  have := this c hc
  exact decide_eq_true (by omega)
theorem run_shaped (M : Mine w mine) {r : Rn} (h : Ok mine r) : SeqAt.shaped (pyRun r) = true := by
  unfold SeqAt.shaped pyRun PyData.canLay0
  rw [lay_strs r fun x hx => sok M (h x hx)]
  simp only [PyData.depth, depth_strs]; rfl
theorem lay_runs (M : Mine w mine) : ∀ rs : List Rn, (∀ r ∈ rs, Ok mine r) → PyData.canLayAll0 (rs.map pyRun) = true
  | [], _ => by unfold PyData.canLayAll0; rfl
  | r :: rs, h => by
    rw [List.map_cons]
    unfold PyData.canLayAll0
    rw [lay_runs M rs fun y hy => h y (List.mem_cons_of_mem _ hy)]
    have := run_shaped M (h r (by simp))
    unfold SeqAt.shaped at this
    rw [Bool.and_eq_true] at this
    rw [this.1]; rfl
theorem depth_runs : ∀ rs : List Rn, PyData.depthAll (rs.map pyRun) ≤ 1
  | [] => by unfold PyData.depthAll; decide
  | r :: rs => by
    rw [List.map_cons]
    unfold PyData.depthAll
    have h1 : (pyRun r).depth = 1 := by unfold pyRun PyData.depth; rw [depth_strs]
    have := depth_runs rs
    omega
theorem lot_shaped (M : Mine w mine) {rs : List Rn} (h : ∀ r ∈ rs, Ok mine r) : SeqAt.shaped (.list (rs.map pyRun)) = true ∧ SeqAt.shaped (.tuple (rs.map pyRun)) = true := by
  have d := depth_runs rs
  unfold SeqAt.shaped PyData.canLay0
  rw [lay_runs M rs h]
  simp only [PyData.depth]
  exact ⟨by simp; omega, by simp; omega⟩
end
def cAhead : DC := fun _ ds Q _ => ∃ (mine : List Str) (a b : Rn), ds = [mineD mine, runD a, runD b] ∧ mine.Nodup ∧ Ok mine a ∧ Ok mine b ∧ a.length ≤ 10000 ∧ b.length ≤ 10000 ∧ Q (.bl (aheadB mine a b))
def cToldL : DC := fun _ ds Q _ => ∃ (w : Nat) (mine : List Str) (d : D) (runs : List Rn), ds = [mineD mine, d] ∧ LotD d runs ∧ Mine w mine ∧ (∀ r ∈ runs, Ok mine r ∧ r.length ≤ 10000) ∧ runs.length ≤ 10000 ∧ Q (lotD (toldV mine runs))
theorem idx_first {mine : List Str} {x : Str} (h : x ∈ mine) : mine[idx mine x]? = some x ∧ ∀ (m : Nat) (y : Str), m < idx mine x → mine[m]? = some y → y ≠ x := by
  have h1 : idx mine x < mine.length := List.idxOf_lt_length_of_mem h
  refine ⟨by rw [List.getElem?_eq_getElem h1]; exact congrArg some (List.getElem_idxOf h1), fun m y hm hy e => ?_⟩
  subst e
  have := List.not_of_lt_findIdx (p := fun z => z == y) (xs := mine) (i := m) (by exact hm)
  rw [List.getElem?_eq_some_iff] at hy
  obtain ⟨hl, e⟩ := hy
  rw [e] at this
  simp at this
theorem lex_pre : ∀ (p : List Int) (x y : Int) (r t : List Int), x ≠ y → ((p ++ x :: r) < (p ++ y :: t) ↔ x < y)
  | [], x, y, r, t, h => by
    rw [List.nil_append, List.nil_append, List.cons_lt_cons_iff]
    constructor
    · rintro (z | ⟨z, _⟩)
      · exact z
      · exact absurd z h
    · exact fun z => .inl z
  | a :: p, x, y, r, t, h => by
    rw [List.cons_append, List.cons_append, List.cons_lt_cons_iff]
    have := lex_pre p x y r t h
    constructor
    · rintro (z | ⟨_, z⟩)
      · exact absurd z (Int.lt_irrefl _)
      · exact this.mp z
    · exact fun z => .inr ⟨rfl, this.mpr z⟩
theorem ahead_at {mine : List Str} {p a b : Rn} {x y : Str} (hx : x ∈ mine) (hy : y ∈ mine) (hl : a.length = b.length) (h : x ≠ y) : aheadB mine (p ++ x :: a) (p ++ y :: b) = decide (((idx mine x : Nat) : Int) < ((idx mine y : Nat) : Int)) := by
  unfold aheadB kap
  apply decide_eq_decide.mpr
  have hn : ((idx mine x : Nat) : Int) ≠ ((idx mine y : Nat) : Int) := fun e => h (idx_inj hx hy (by omega))
  rw [List.cons_lt_cons_iff, List.map_append, List.map_append, List.map_cons, List.map_cons, lex_pre _ _ _ _ _ hn]
  simp only [List.length_append, List.length_cons, hl]
  constructor
  · rintro (z | ⟨_, z⟩)
    · omega
    · exact z
  · exact fun z => .inr ⟨by simp [hl], z⟩
theorem at_mid {α β' : Type} (f : α → β') (p : List α) (x : α) (r : List α) : atI ((p ++ x :: r).map f) ((p.length : Nat) : Int) = some (f x) := atI_nat (by rw [List.getElem?_map]; simp)
section
variable {K : PySem.W.Frag}
theorem k_ahead : Keeps (td__law_ahead K) ["mine", "a", "b", "k"] cAhead := by
  intro β ds Qd Ed h
  obtain ⟨mine, a, b, rfl, nd, ha, hb, la, lb, hq⟩ := h
  have ka : (a.map D.str).length = a.length := List.length_map _
  have kb : (b.map D.str).length = b.length := List.length_map _
  refine ⟨_, rfl, _, rfl, _, rfl, ?_⟩
  by_cases e : a.length = b.length
  · refine iteF (by show (!decide (((a.map D.str).length : Int) = ((b.map D.str).length : Int))) = false; rw [ka, kb, e]; simp) ?_
    have go : ∀ (a' b' p : Rn) (s3 : Sl), a = p ++ a' → b = p ++ b' → a'.length = b'.length →
        loopD (zName 3) (yIf [] (xTest (xOp (dEq true) (xOp dIx (xVar 1) (xVar 3)) (xOp dIx (xVar 2) (xVar 3))))
    (yRet [] (xOp dLt (xMeth "list" dIndex (xVar 0) (xCons (xOp dIx (xVar 1) (xVar 3)) xNil)) (xMeth "list" dIndex (xVar 0) (xCons (xOp dIx (xVar 2) (xVar 3)) xNil))))
    yNext) { nx := yRet [] (xC (.bl false)) { nx := fun _ => Qd .non, rt := Qd, xc := fun cn fs _ => Ed cn fs }, rt := Qd, xc := fun cn fs _ => Ed cn fs } ((List.range' p.length a'.length).map fun k => .int ((k : Nat) : Int)) [.val (mineD mine), .val (runD a), .val (runD b), s3] := by
      intro a'
      induction a' with
      | nil =>
        intro b' p s3 e1 e2 el
        have : b' = [] := List.length_eq_zero_iff.mp el.symm
        subst this
        have : a = b := by rw [e1, e2]
        rw [this, ah_irr] at hq
        exact hq
      | cons x a' ih =>
        intro b' p s3 e1 e2 el
        cases b' with
        | nil => simp at el
        | cons y b' =>
          rw [List.length_cons, List.range'_succ, List.map_cons]
          have ax : atI (a.map D.str) ((p.length : Nat) : Int) = some (D.str x) := by rw [e1]; exact at_mid _ _ _ _
          have by' : atI (b.map D.str) ((p.length : Nat) : Int) = some (D.str y) := by rw [e2]; exact at_mid _ _ _ _
          have hx : x ∈ mine := ha x (by rw [e1]; simp)
          have hy : y ∈ mine := hb y (by rw [e2]; simp)
          refine ⟨_, rfl, _, rfl, _, ax, _, rfl, _, rfl, _, by', _, rfl, ?_⟩
          by_cases q : x = y
          · refine iteF (by show (!decide (x = y)) = false; rw [decide_eq_true q]; rfl) ?_
            have ih' := ih b' (p ++ [x]) (.val (.int ((p.length : Nat) : Int))) (by rw [e1, List.append_assoc]; rfl) (by rw [e2, List.append_assoc, q]; rfl) (by simpa using el)
            rw [List.length_append] at ih'
            exact ih'
          · refine iteT (by show (!decide (x = y)) = true; rw [decide_eq_false q]; rfl) ?_
            have fx := idx_first hx
            have fy := idx_first hy
            refine ⟨_, rfl, rfl, _, rfl, _, rfl, _, ax, mine, idx mine x, rfl, fx.1, fx.2, _, rfl, rfl, _, rfl, _, rfl, _, by', mine, idx mine y, rfl, fy.1, fy.2, ?_⟩
            have := ahead_at (mine := mine) (p := p) (a := a') (b := b') hx hy (by simpa using el) q
            rw [← e1, ← e2] at this
            rw [this] at hq
            exact hq
    refine ⟨_, rfl, by rw [ka]; omega, by rw [ka]; omega, ?_⟩
    have er : rangeD 0 (((a.map D.str).length : Nat) : Int).toNat = (List.range' 0 a.length).map fun k => .int ((k : Nat) : Int) := by
      rw [Int.toNat_natCast, ka]
      unfold rangeD
      rw [List.range_eq_range']
      refine List.map_congr_left fun k _ => ?_
      rw [Int.zero_add]
    show loopD _ _ _ (rangeD 0 (((a.map D.str).length : Nat) : Int).toNat) _
    rw [er]
    exact go a b [] _ rfl rfl e
  · refine iteT (by show (!decide (((a.map D.str).length : Int) = ((b.map D.str).length : Int))) = true; rw [ka, kb]; simp; omega) ?_
    refine ⟨_, rfl, _, rfl, ?_⟩
    have : aheadB mine a b = decide (((a.map D.str).length : Int) < ((b.map D.str).length : Int)) := by
      unfold aheadB kap
      rw [ka, kb]
      apply decide_eq_decide.mpr
      rw [List.cons_lt_cons_iff]
      constructor
      · rintro (h | ⟨h, _⟩)
        · exact h
        · exact absurd (by omega) e
      · intro h; exact .inl h
    rw [this] at hq
    exact hq
end
end K02

namespace K02
open PySem PySem.Spec PyProof.Rows L2 EX DL PL TL
theorem compD_filter {g : TDG} {tt : TDT} {te : TDE} {δ : DSt} {α : Type} (f : α → D) (p : α → Bool) : ∀ (xs : List α) (k : List D → Prop), (∀ x ∈ xs, ∀ k1 k0 : Prop, (if p x = true then k1 else k0) → ∀ ky : D → Prop, (ky (f x) = k1) → g (f x) δ fun δ1 => tt δ1 (fun b => if b = true then te δ1 ky (fun _ _ => False) else k0) (fun _ _ => False)) → k ((xs.filter p).map f) → compD g tt te δ (xs.map f) k
  | [], k, _, q => q
  | x :: xs, k, hs, q => by
    rw [List.map_cons]
    unfold compD
    refine hs x List.mem_cons_self (compD g tt te δ (xs.map f) fun ys => k (f x :: ys)) (compD g tt te δ (xs.map f) k) ?_ (fun y => compD g tt te δ (xs.map f) fun ys => k (y :: ys)) rfl
    cases e : p x with
    | true =>
      rw [if_pos rfl]
      refine compD_filter f p xs _ (fun y hy => hs y (List.mem_cons_of_mem _ hy)) ?_
      rw [List.filter_cons_of_pos e] at q
      exact q
    | false =>
      rw [if_neg Bool.false_ne_true]
      refine compD_filter f p xs _ (fun y hy => hs y (List.mem_cons_of_mem _ hy)) ?_
      rw [List.filter_cons_of_neg (by rw [e]; exact Bool.false_ne_true)] at q
      exact q
theorem insert_cut {α : Type} (x : α) : ∀ (xs : List α) (n : Nat), n ≤ xs.length → xs.insertIdx n x = xs.take n ++ [x] ++ xs.drop n
  | xs, 0, _ => by simp
  | [], n + 1, h => by simp at h
  | y :: xs, n + 1, h => by
    rw [List.insertIdx_succ_cons, insert_cut x xs n (by simpa using h)]; rfl
theorem cutD_one {α : Type} (xs : List α) (n : Nat) (h : n ≤ xs.length) : DL.cutD xs (some (n : Int)) (some ((n : Int) + 1)) = (xs.drop n).take 1 := by
  unfold DL.cutD
  rw [show ((n : Int) + 1) = ((n + 1 : Nat) : Int) from by omega, HT.sIx_nat, HT.sIx_nat, Nat.min_eq_left h]
  by_cases q : n + 1 ≤ xs.length
  · rw [Nat.min_eq_left q]; congr 1; omega
  · have : n = xs.length := by omega
    subst this
    rw [List.drop_length]; simp
section
variable {K : PySem.W.Frag}
theorem told_step {w n : Nat} {mine : List Str} {T : List Rn} {x : Rn} {d : D} {Dd : DEnds} (M : Mine w mine) (hn : (T.filter fun y => aheadB mine y x).length = n) (hnl : n ≤ T.length) (tl : T.length ≤ 10000) (okt : ∀ r ∈ T, Ok mine r) (okx : Ok mine x)
    (nx : ∀ (T' : List Rn), T' = insB (aheadB mine) T x → Dd.nx [.val (mineD mine), .val d, .own (.lst (T'.map runD)), .val (runD x), .val (.int ((n : Nat) : Int)), .non]) :
    yIf [] (xTest (xOp (dEq true) (xSlO 2 (xPart (xVar 4)) (xPart (xOp dAdd (xVar 4) (xC (.int 1))))) (xLst (xCons (xVar 3) xNil))))
    (yOM [] 2 oInsert (xCons (xVar 4) (xCons (xVar 3) xNil)))
    yNext Dd [.val (mineD mine), .val d, .own (.lst (T.map runD)), .val (runD x), .val (.int ((n : Nat) : Int)), .non] := by
  have cutr : DL.cutD (T.map runD) (some ((n : Nat) : Int)) (some (((n : Nat) : Int) + 1)) = ((T.drop n).take 1).map runD := by rw [cutD_map, cutD_one T n hnl]
  have pyc : D.py (.lst (DL.cutD (T.map runD) (some ((n : Nat) : Int)) (some (((n : Nat) : Int) + 1)))) = some (.list (((T.drop n).take 1).map pyRun)) := by
    rw [cutr]; unfold D.py
    rw [pys_map runD pyRun py_run]; rfl
  have pyx : D.py (.lst [runD x]) = some (.list ([x].map pyRun)) := by
    unfold D.py
    rw [show [runD x] = [x].map runD from rfl, pys_map runD pyRun py_run]; rfl
  have s1 := (lot_shaped M (rs := (T.drop n).take 1) fun r hr => (okt r (List.mem_of_mem_drop (List.mem_of_mem_take hr)))).1
  have s2 := (lot_shaped M (rs := [x]) fun r hr => by rw [List.mem_singleton.mp hr]; exact okx).1
  refine ⟨_, rfl, _, rfl, _, rfl, _, rfl, _, rfl, _, rfl, by rw [sizeLine_eq]; exact Nat.le_of_ble_eq_true rfl, _, _, pyc, pyx, s1, s2, _, rfl, ?_⟩
  have ev : PyData.eqv (.list (((T.drop n).take 1).map pyRun)) (.list ([x].map pyRun)) = decide ((T.drop n).take 1 = [x]) := by
    rw [← eqv_runs]; simp only [PyData.eqv]
  by_cases q : (T.drop n).take 1 = [x]
  · refine iteF (by show (!PyData.eqv _ _) = false; rw [ev, decide_eq_true q]; rfl) ?_
    refine nx T ?_
    unfold insB
    rw [hn]; dsimp only
    rw [if_pos q]
  · refine iteT (by show (!PyData.eqv _ _) = true; rw [ev, decide_eq_false q]; rfl) ?_
    refine ⟨_, rfl, by decide, _, rfl, _, rfl, by rw [List.length_map, sizeLine_eq]; omega, by omega, by omega, ?_⟩
    have ei : (T.map runD).take (((n : Nat) : Int)).toNat ++ [runD x] ++ (T.map runD).drop (((n : Nat) : Int)).toNat = (T.insertIdx n x).map runD := by
      rw [insert_cut x T n hnl, Int.toNat_natCast, List.map_append, List.map_append, List.map_take, List.map_drop]; rfl
    have := nx (T.insertIdx n x) (by unfold insB; rw [hn]; dsimp only; rw [if_neg q])
    rw [← ei] at this
    exact this
theorem k_told_l : Keeps (td__law_told K cAhead) ["mine", "runs", "told", "word", "spot", "some"] cToldL := by
  intro β ds Qd Ed h
  obtain ⟨w, mine, d, runs, rfl, hd, M, hok, hl, hq⟩ := h
  refine ⟨by rw [sizeLine_eq]; decide, ?_⟩
  refine ⟨_, rfl, _, itemsD_lot hd, ?_⟩
  have go : ∀ (todo done : List Rn) (s3 s4 : Sl), runs = done ++ todo →
      loopD (zName 3) (ySeq (ySet [2] 4 (xCall dLen (xCons (xLcE [5] (xiAny (xVar 2)) (zName 5) (xTru (xFn β cAhead (xCons (xVar 0) (xCons (xVar 5) (xCons (xVar 3) xNil))))) (xVar 5)) xNil)))
    (yIf [] (xTest (xOp (dEq true) (xSlO 2 (xPart (xVar 4)) (xPart (xOp dAdd (xVar 4) (xC (.int 1))))) (xLst (xCons (xVar 3) xNil))))
    (yOM [] 2 oInsert (xCons (xVar 4) (xCons (xVar 3) xNil)))
    yNext)) { nx := yRet [2] (xVar 2) { nx := fun _ => Qd .non, rt := Qd, xc := fun cn fs _ => Ed cn fs }, rt := Qd, xc := fun cn fs _ => Ed cn fs } (todo.map runD) [.val (mineD mine), .val d, .own (.lst ((toldV mine done).map runD)), s3, s4, .non] := by
    intro todo
    induction todo with
    | nil =>
      intro done s3 s4 e
      rw [List.append_nil] at e
      rw [e] at hq
      exact ⟨_, rfl, hq⟩
    | cons x todo ih =>
      intro done s3 s4 e
      have okd : ∀ r ∈ done, Ok mine r ∧ r.length ≤ 10000 := fun r hr => hok r (by rw [e]; simp [hr])
      have okx := hok x (by rw [e]; simp)
      have tv := toldV_ok fun r hr => (okd r hr).1
      have tl := told_len fun r hr => (okd r hr).1
      have dl : done.length ≤ 10000 := by rw [e, List.length_append] at hl; omega
      have okt : ∀ r ∈ toldV mine done, Ok mine r ∧ r.length ≤ 10000 := fun r hr => okd r ((tv.2 r).mp hr)
      generalize hT : toldV mine done = T at tv tl okt
      have hnl : (T.filter fun y => aheadB mine y x).length ≤ T.length := List.length_filter_le _ _
      refine ⟨_, rfl, _, rfl, by rw [List.length_map, sizeLine_eq]; omega, ?_⟩
      refine compD_filter runD (fun y => aheadB mine y x) T _ (fun y hy k1 k0 hk ky eky => ?_) ?_
      · refine ⟨_, rfl, _, rfl, _, rfl, mine, y, x, rfl, M.nd, (okt y hy).1, okx.1, (okt y hy).2, okx.2, _, rfl, ?_⟩
        cases q : aheadB mine y x with
        | true =>
          rw [q, if_pos rfl] at hk
          refine iteT rfl ⟨_, rfl, ?_⟩
          rw [eky]; exact hk
        | false =>
          rw [q, if_neg Bool.false_ne_true] at hk
          exact iteF rfl hk
      have e2 : toldV mine (done ++ [x]) = insB (aheadB mine) T x := by
        rw [← hT]; unfold toldV toldB
        rw [List.foldl_append]; rfl
      refine told_step M (n := ((T.filter fun y => aheadB mine y x).map runD).length) (by rw [List.length_map]) ?_ (by omega) (fun r hr => (okt r hr).1) okx.1 fun T' eT => ?_
      · rw [List.length_map]; omega
      · have := ih (done ++ [x]) (.val (runD x)) (.val (.int ((((T.filter fun y => aheadB mine y x).map runD).length : Nat) : Int))) (by rw [e, List.append_assoc]; rfl)
        rw [e2, ← eT] at this
        exact this
  exact go runs [] _ _ rfl
def optLot : Option (List Rn) → D
  | none => .non
  | some rs => lotD rs
def cReadLotL : DC := fun _ ds Q _ => ∃ (w : Nat) (mine : List Str) (t : Str), ds = [mineD mine, .str t] ∧ Mine w mine ∧ t.length ≤ 5200 ∧ Q (optLot (readLotV mine t))
theorem jl_snoc (c : Nat) (ps : List (List Nat)) (q : List Nat) (h : ps ≠ []) : joinL [c] (ps ++ [q]) = joinL [c] ps ++ c :: q := by
  induction ps with
  | nil => exact absurd rfl h
  | cons p ps ih =>
    cases ps with
    | nil => rfl
    | cons r rs =>
      rw [List.cons_append, jl_cons c p _ (by simp), ih (by simp), jl_cons c p _ (by simp)]
      simp
theorem jl_last (c : Nat) (ps : List (List Nat)) (q r : List Nat) : joinL [c] (ps ++ [q ++ r]) = joinL [c] (ps ++ [q]) ++ r := by
  cases ps with
  | nil => rfl
  | cons p ps => rw [jl_snoc c _ _ (by simp), jl_snoc c _ _ (by simp)]; simp
theorem split_of {t : Str} {ws : List Str} (hne : ws ≠ []) (h : ∀ x ∈ ws, 32 ∉ tl x) (e : joinL [32] (ws.map tl) = tl t) : Txt.split t blank = ws := by
  have et : t = Txt.join blank ws := by
    rw [join_eq]
    exact ext_tl (by rw [tl_join blank, tl_blank]; exact e.symm)
  rw [et]
  exact split_join (y := blank) (s := 32) (S := []) tl_blank (by decide +kernel) hne h
def pyOpt : Option Rn → PyData
  | none => .none
  | some r => pyRun r
theorem py_opt (o : Option Rn) : (optD o).py = some (pyOpt o) := by
  cases o with
  | none => show D.py .non = _; unfold D.py; rfl
  | some r => exact py_run r
theorem opt_shaped {w : Nat} {mine : List Str} (M : Mine w mine) : ∀ os : List (Option Rn), (∀ o ∈ os, ∀ r, o = some r → Ok mine r) → PyData.canLayAll0 (os.map pyOpt) = true ∧ PyData.depthAll (os.map pyOpt) ≤ 1
  | [], _ => by
    constructor
    · unfold PyData.canLayAll0; rfl
    · show PyData.depthAll [] ≤ 1
      unfold PyData.depthAll; decide
  | o :: os, h => by
    obtain ⟨a1, a2⟩ := opt_shaped M os fun o' ho => h o' (List.mem_cons_of_mem _ ho)
    rw [List.map_cons]
    unfold PyData.canLayAll0 PyData.depthAll
    have b : (pyOpt o).canLay0 = true ∧ (pyOpt o).depth ≤ 1 := by
      cases o with
      | none =>
        constructor
        · show PyData.canLay0 .none = true
          unfold PyData.canLay0; rfl
        · show PyData.depth .none ≤ 1
          unfold PyData.depth; decide
      | some r =>
        have s := run_shaped M (h (some r) (by simp) r rfl)
        unfold SeqAt.shaped at s
        rw [Bool.and_eq_true] at s
        exact ⟨s.1, by show (pyRun r).depth ≤ 1; unfold pyRun PyData.depth; rw [depth_strs]; exact Nat.le_refl _⟩
    exact ⟨by rw [b.1, a1]; rfl, by omega⟩
theorem any_none : ∀ os : List (Option Rn), ((os.map pyOpt).any fun z => PyData.eqv z .none) = !os.all (fun o => o.isSome)
  | [] => rfl
  | o :: os => by
    rw [List.map_cons, List.any_cons, any_none os, List.all_cons]
    cases o with
    | none => show (PyData.eqv .none .none || _) = _; simp [PyData.eqv]
    | some r => show (PyData.eqv (pyRun r) .none || _) = _; unfold pyRun; simp [PyData.eqv]
theorem k_read_lot_l : Keeps (td__law_read_lot K cRead) ["mine", "text", "words", "sign", "runs", "word"] cReadLotL := by
  intro β ds Qd Ed h
  obtain ⟨w, mine, t, rfl, M, ht, hq⟩ := h
  unfold readLotV at hq
  refine ⟨_, rfl, _, rfl, ?_⟩
  by_cases e : t = ""
  · rw [if_pos e] at hq
    exact iteT (decide_eq_true e) ⟨by simp, hq⟩
  rw [if_neg e] at hq
  refine iteF (decide_eq_false e) ?_
  refine ⟨by rw [sizeLine_eq]; decide, ?_⟩
  refine ⟨_, rfl, _, rfl, ?_⟩
  have go : ∀ (todo : List Nat) (init : List Str) (l : Str) (done : List Nat) (s3 : Sl), tl t = done ++ todo → joinL [32] ((init ++ [l]).map tl) = done → (∀ x ∈ init ++ [l], 32 ∉ tl x) → init.length + l.length ≤ done.length →
      loopD (zName 3) (yIf [] (xTest (xOp (dEq false) (xVar 3) (xC (.str " "))))
    (yOM [] 2 oAppend (xCons (xC (.str "")) xNil))
    (ySetIx [] 2 (xOp dAdd (xIxO 2 (xOp dSub (xLenO 2) (xC (.int 1)))) (xVar 3)) (xOp dSub (xLenO 2) (xC (.int 1))))) { nx := ((ySeq (ySetLc [2] 4 [5] (xiAny (xVar 2)) (zName 5) xYes (xFn β cRead (xCons (xVar 0) (xCons (xVar 5) xNil)))) (yRet [] (xIf (xTest (xOp (dInA false) (xC .non) (xVar 4))) (xC .non) (xVar 4)))) { nx := fun _ => Qd .non, rt := Qd, xc := fun cn fs _ => Ed cn fs }), rt := Qd, xc := fun cn fs _ => Ed cn fs } (todo.map fun c => .str ⟨#[c]⟩) [.val (mineD mine), .val (.str t), .own (.lst ((init ++ [l]).map D.str)), s3, .non, .non] := by
    intro todo
    induction todo with
    | nil =>
      intro init l done s3 e1 e2 e3 e4
      rw [List.append_nil] at e1
      have sp : Txt.split t blank = init ++ [l] := split_of (by simp) e3 (by rw [e2, e1])
      have lt : (init ++ [l]).length ≤ 5202 := by rw [← sp]; exact Nat.le_trans (split_le t blank) (by omega)
      have hq : Qd (optLot (if (Txt.split t blank).all (fun x => (readV mine x).isSome) = true then some ((Txt.split t blank).filterMap (readV mine)) else none)) := hq
      refine ⟨_, rfl, _, rfl, by rw [List.length_map, sizeLine_eq]; omega, ?_⟩
      refine compD_map D.str (fun x => optD (readV mine x)) (init ++ [l]) _ (fun x hx k hk => ⟨_, rfl, _, rfl, w, mine, x, rfl, M, ?_, hk⟩) ?_
      · have : x ∈ Txt.split t blank := by rw [sp]; exact hx
        have := part_short this
        omega
      · rw [sp] at hq
        have em : (init ++ [l]).map (fun x => optD (readV mine x)) = ((init ++ [l]).map (readV mine)).map optD := by rw [List.map_map]; rfl
        have sh := opt_shaped M ((init ++ [l]).map (readV mine)) fun o ho r hr => by
          obtain ⟨x, _, rfl⟩ := List.mem_map.mp ho
          exact (readV_ok hr).1
        have s2 : SeqAt.shaped (.list (((init ++ [l]).map (readV mine)).map pyOpt)) = true := by
          unfold SeqAt.shaped PyData.canLay0 PyData.depth
          rw [sh.1]
          simp only [Bool.true_and]
          exact decide_eq_true (by have := sh.2; omega)
        have s1 : SeqAt.shaped PyData.none = true := by decide +kernel
        refine ⟨_, rfl, .inr ⟨.none, ((init ++ [l]).map (readV mine)).map pyOpt, (by unfold D.py; rfl), (by rw [em]; exact pys_map optD pyOpt py_opt _), s1, s2, _, rfl, ?_⟩⟩
        have ea : ((((init ++ [l]).map (readV mine)).map pyOpt).any fun z => PyData.eqv z .none) = !(init ++ [l]).all (fun x => (readV mine x).isSome) := by
          rw [any_none, List.all_map]; rfl
        by_cases q : (init ++ [l]).all (fun x => (readV mine x).isSome) = true
        · rw [if_pos q] at hq
          refine iteF (by show ((((init ++ [l]).map (readV mine)).map pyOpt).any fun z => PyData.eqv z .none) = false; rw [ea, q]; rfl) ?_
          refine ⟨_, rfl, ?_⟩
          have ef : ∀ xs : List Str, xs.all (fun x => (readV mine x).isSome) = true → xs.map (fun x => optD (readV mine x)) = (xs.filterMap (readV mine)).map runD := by
            intro xs
            induction xs with
            | nil => intro _; rfl
            | cons x xs ih =>
              intro hh
              rw [List.all_cons, Bool.and_eq_true] at hh
              obtain ⟨r, hr⟩ := Option.isSome_iff_exists.mp hh.1
              rw [List.map_cons, List.filterMap_cons_some hr, List.map_cons, ih hh.2, hr]; rfl
          show Qd (.lst ((init ++ [l]).map (fun x => optD (readV mine x))))
          rw [ef _ q]
          exact hq
        · rw [if_neg q] at hq
          refine iteT (by show ((((init ++ [l]).map (readV mine)).map pyOpt).any fun z => PyData.eqv z .none) = true; rw [ea]; rw [Bool.not_eq_true] at q; rw [q]; rfl) ?_
          exact hq
    | cons c todo ih =>
      intro init l done s3 e1 e2 e3 e4
      have l9 : done.length ≤ 5200 := by
        have := congrArg List.length e1
        rw [List.length_append, ← len_tl] at this
        omega
      refine ⟨_, rfl, _, rfl, ?_⟩
      by_cases q : (⟨#[c]⟩ : Str) = " "
      · have ec : c = 32 := by
          have := congrArg tl q
          rw [show tl (" " : Str) = [32] from tl_blank] at this
          exact (List.cons.inj this).1
        refine iteT (decide_eq_true q) ?_
        refine ⟨_, rfl, by decide, by rw [List.length_map, List.length_append, sizeLine_eq]; show init.length + 1 < _; omega, ?_⟩
        have := ih (init ++ [l]) "" (done ++ [32]) (.val (.str ⟨#[c]⟩)) (by rw [e1, ec, List.append_assoc]; rfl) (by
          rw [List.map_append, List.map_cons, List.map_nil, tl_empty, jl_snoc 32 _ _ (by simp), e2]) (fun x hx => by
            rcases List.mem_append.mp hx with hx | hx
            · exact e3 x hx
            · rw [List.mem_singleton.mp hx, tl_empty]; simp) (by
            have e0 : ("" : Str).length = 0 := by decide +kernel
            rw [e0, List.length_append, List.length_append]
            show init.length + 1 + 0 ≤ done.length + 1
            omega)
        rw [List.map_append (l₁ := init ++ [l])] at this
        exact this
      · have ec : c ≠ 32 := fun z => q (by rw [z]; exact ext_tl (by rw [show tl (" " : Str) = [32] from tl_blank]))
        refine iteF (decide_eq_false q) ?_
        have ll : ((init ++ [l]).map D.str).length = init.length + 1 := by simp
        have ej : ((((init ++ [l]).map D.str).length : Nat) : Int) - 1 = ((init.length : Nat) : Int) := by rw [ll]; omega
        have ea : atI ((init ++ [l]).map D.str) (((((init ++ [l]).map D.str).length : Nat) : Int) - 1) = some (D.str l) := by rw [ej]; exact at_mid D.str init l []
        have ek : ixN ((init ++ [l]).map D.str).length (((((init ++ [l]).map D.str).length : Nat) : Int) - 1) = some init.length := by
          rw [ej, ll]
          unfold ixN
          rw [if_pos (by omega), if_pos (by omega), Int.toNat_natCast]
        refine ⟨_, rfl, by decide, _, rfl, _, rfl, _, _, rfl, ea, _, rfl, by rw [sizeLine_eq]; show l.length + 1 ≤ _; omega, _, rfl, _, _, rfl, ek, ?_⟩
        have := ih init (l ++ ⟨#[c]⟩) (done ++ [c]) (.val (.str ⟨#[c]⟩)) (by rw [e1, List.append_assoc]; rfl) (by
          rw [List.map_append, List.map_cons, List.map_nil, tl_append, tl_mk, jl_last]
          rw [List.map_append, List.map_cons, List.map_nil] at e2
          rw [e2]) (fun x hx => by
            rcases List.mem_append.mp hx with hx | hx
            · exact e3 x (List.mem_append_left _ hx)
            · rw [List.mem_singleton.mp hx, tl_append, List.mem_append]
              rintro (z | z)
              · exact e3 l (by simp) z
              · exact ec (List.mem_singleton.mp z).symm) (by
            rw [Str.length_append, List.length_append]
            show init.length + (l.length + 1) ≤ done.length + 1
            omega)
        have es : ((init ++ [l]).map D.str).set init.length (D.str (l ++ ⟨#[c]⟩)) = (init ++ [l ++ ⟨#[c]⟩]).map D.str := by
          rw [List.map_append, List.map_append, List.set_append_right _ _ (by rw [List.length_map]; exact Nat.le_refl _)]
          rw [List.length_map, Nat.sub_self]; rfl
        rw [← es] at this
        exact this
  exact go (tl t) [] "" [] _ rfl (by rw [List.nil_append, List.map_cons, List.map_nil, tl_empty]; rfl) (fun x hx => by
    rw [List.nil_append] at hx
    rw [List.mem_singleton.mp hx, tl_empty]; simp) (by decide +kernel)
end
end K02

namespace K02
open PySem PySem.Spec PyProof.Rows L2 EX DL PL TL
def Sane (mine : List Str) (r : Rn) : Prop := Ok mine r ∧ r.length ≤ 39
def cRunSo : DC := fun β ds Q _ => ∃ ps L r, ds = [.adr β, L, mineD (rowsOf ps), runD r] ∧ IsL ps L ∧ Parts ps ∧ Sane (rowsOf ps) r ∧ Q (.bl true)
section
variable {w : Nat} {mine : List Str}
theorem read_text (M : Mine w mine) {r : Rn} (h : Ok mine r) : readV mine (runText r) = some r := by
  cases r with
  | nil =>
    have : runText [] = dash := by unfold runText; rfl
    rw [this]; unfold readV; rw [if_pos rfl]
  | cons x r => exact read_of M (by simp) h (join_cons x r)
theorem sane_sum (M : Mine w mine) {r : Rn} (h : Sane mine r) : (r.map (·.length)).sum + r.length ≤ 200 ∧ (∀ x ∈ r, 1 ≤ x.length ∧ x.length ≤ 4) := by
  have hx : ∀ x ∈ r, 1 ≤ x.length ∧ x.length ≤ 4 := fun x hx => by
    rw [M.len x (h.1 x hx)]
    exact ⟨M.pos, M.wide⟩
  refine ⟨?_, hx⟩
  have := sum_le (fun x : Str => x.length) 4 r fun x hh => (hx x hh).2
  have := h.2
  omega
theorem blsD_map {α : Type} (p : α → Bool) : ∀ xs : List α, blsD (xs.map fun x => D.bl (p x)) = some (xs.map p)
  | [] => rfl
  | x :: xs => by
    rw [List.map_cons]
    unfold blsD
    rw [blsD_map p xs]; rfl
end
theorem vd_strs {n : Nat} (r : Rn) (h : r.length ≤ 20000) : Vd (n + 1) (runD r) := .tup n _ (fun d hd => by
  obtain ⟨x, _, rfl⟩ := List.mem_map.mp hd
  exact .str _ _) (by rw [List.length_map]; exact h)
theorem vd_key {n : Nat} (mine : List Str) (r : Rn) (h : r.length ≤ 20000) : Vd (n + 2) (keyD' mine r) := .tup _ _ (fun d hd => by
  simp only [List.mem_cons, List.not_mem_nil, or_false] at hd
  rcases hd with rfl | rfl
  · exact .int _ _
  · exact .tup _ _ (fun d hd => by
      obtain ⟨x, _, rfl⟩ := List.mem_map.mp hd
      exact .int _ _) (by rw [List.length_map]; exact h)) (by show 2 ≤ 20000; decide)
section
variable {K : PySem.W.Frag}
theorem k_run_so : Keeps (td__law_run_so K cText (cLike 6) cRunKey cReadRun cRunText cIsRun cBentRun cBentText cRead askK) ["bag", "abc", "mine", "word", "text", "due", "bent", "good", "told", "letter"] cRunSo := by
  intro β ds Qd Ed h
  obtain ⟨ps, L, r, rfl, hL, hps, hr, hq⟩ := h
  have M := hps.mine
  generalize em : rowsOf ps = mine at hr M
  have ss := sane_sum M hr
  have okr : okB mine r = true := okB_iff.mpr hr.1
  have tlen := runText_len r
  have mm : mine ≠ [] := M.ne
  have mw : ∀ x ∈ mine, 1 ≤ x.length ∧ x.length ≤ 4 := fun x hx => by rw [M.len x hx]; exact ⟨M.pos, M.wide⟩
  refine ⟨_, rfl, r, rfl, by have := ss.1; omega, fun x hx => (ss.2 x hx).1, ?_⟩
  -- due
  refine ⟨_, rfl, _, rfl, _, rfl, _, rfl, _, rfl, by rw [List.length_map, sizeLine_eq]; have := hr.2; omega, ?_⟩
  refine compD_map D.str (fun x => .int ((idx mine x : Nat) : Int)) r _ (fun x hx k hk => ?_) ?_
  · have fx := idx_first (hr.1 x hx)
    exact ⟨_, rfl, rfl, _, rfl, mine, idx mine x, rfl, fx.1, fx.2, hk⟩
  refine ⟨by (rw [sizeLine_eq]; first | omega | exact Nat.le_of_ble_eq_true rfl | (simp only [Str.length_append]; omega)), by (rw [sizeLine_eq]; first | omega | exact Nat.le_of_ble_eq_true rfl | (simp only [Str.length_append]; omega)), ?_⟩
  refine ⟨_, rfl, _, rfl, ps, L, r, rfl, hL, ?_⟩
  refine ⟨_, rfl, r, rfl, by have := ss.1; omega, ?_⟩
  refine ⟨_, rfl, _, rfl, ps, L, runText r, rfl, hL, by have := ss.1; rw [sizeLine_eq]; omega, ?_⟩
  rw [em, read_text M hr.1]
  refine ⟨_, rfl, _, rfl, ps, L, r, rfl, hL, by rw [sizeLine_eq]; have := hr.2; omega, ?_⟩
  rw [em, if_pos okr]
  refine ⟨by (rw [sizeLine_eq]; first | omega | exact Nat.le_of_ble_eq_true rfl | (simp only [Str.length_append]; omega)), _, rfl, .lst [.bl true, .str (runText r), runD r, keyD' mine r], ?_, ?_, true, rfl, iteF rfl ?_⟩
  · rw [okr]
    have : ((r.map D.str).length : Nat) = r.length := List.length_map _
    unfold keyD'
    rw [← this]
  · refine .lst 5 _ (fun d hd => ?_) (by show 4 ≤ 20000; decide)
    simp only [List.mem_cons, List.not_mem_nil, or_false] at hd
    rcases hd with rfl | rfl | rfl | rfl
    · exact .bl _ _
    · exact .str _ _
    · exact vd_strs r (by have := hr.2; omega)
    · exact vd_key mine r (by have := hr.2; omega)
  -- the bent run
  refine ⟨_, rfl, _, rfl, _, rfl, mine, r, rfl, mm, M.few, mw, by have := hr.2; omega, fun x hx => by have := (ss.2 x hx).2; omega, fun b hb hb10 => ?_⟩
  refine ⟨_, rfl, _, rfl, by rw [List.length_map, sizeLine_eq]; omega, ?_⟩
  refine compD_map D.str (fun x => .bl (decide (x ∈ mine))) b _ (fun x hx k hk => ⟨_, rfl, _, rfl, .inl ⟨rfl, flat_strs mine, ?_⟩⟩) ?_
  · show k (.bl (inD (.str x) (mine.map D.str)))
    rw [inD_strs]; exact hk
  refine ⟨_, blsD_map (fun x => decide (x ∈ mine)) b, ?_⟩
  have eg : (b.map fun x => decide (x ∈ mine)).all id = okB mine b := by unfold okB; rw [List.all_map]; rfl
  -- is_run(letters=abc, run=bent), run_text(run=word)
  refine ⟨_, rfl, _, rfl, rfl, ps, L, b, rfl, hL, _, rfl, .bl (okB mine b), by rw [em]; show [D.bl _, D.bl ((b.map fun x => decide (x ∈ mine)).all id)] = _; rw [eg], .bl _ _, true, rfl, iteF rfl ?_⟩
  refine ⟨_, rfl, rfl, r, rfl, by have := ss.1; omega, _, rfl, .str (runText r), rfl, .str _ _, true, rfl, iteF rfl ?_⟩
  -- the text bent, read
  have last : ∀ (told : D) (g : D), (∀ t' : Str, t'.length ≤ (runText r).length + 2 → True) → (ySeq (ySet [] 6 (xFn β cBentText (xCons (xVar 0) (xCons (xVar 4) xNil))))
    (ySeq (ySet [] 5 (xFn β cRead (xCons (xVar 2) (xCons (xVar 6) xNil))))
    (yRet [] (xFn β (cLike 6) (xCons (xLam β askK (xFn β cReadRun (xCons (xVar 1) (xCons (xVar 6) xNil)))) (xCons (xIf (xTest (xIsN false (xVar 5))) (xLst (xCons (xC (.str "BadText")) (xCons (xC (.int 0)) (xCons (xC (.str "form")) xNil)))) (xLst (xCons (xC (.str "told")) (xCons (xVar 5) xNil)))) xNil)))))) { nx := fun _ => Qd .non, rt := Qd, xc := fun cn fs _ => Ed cn fs }
      [.val (.adr β), .val L, .val (mineD mine), .val (runD r), .val (.str (runText r)), .val (.lst [.bl true, .str (runText r), runD r, .tup [.int ((r.map D.str).length : Nat), .tup (r.map fun x => .int ((idx mine x : Nat) : Int))]]), .val (runD b), .val g, .val told, .non] := by
    intro told g _
    refine ⟨_, rfl, _, rfl, runText r, rfl, by have := ss.1; omega, fun t ht => ?_⟩
    have tl8 : t.length ≤ 300 := by have := ss.1; omega
    refine ⟨_, rfl, _, rfl, _, mine, t, rfl, M, by omega, ?_⟩
    cases hrv : readV mine t with
    | none =>
      refine ⟨fun _ => False, fun cn fs => cn = "BadText" ∧ fs = eText, fun Q E h1 h2 => ?_, fun d hd => hd.elim, fun cn fs hs => .inr ⟨hs.1, hs.2, ?_⟩⟩
      · refine ⟨_, rfl, _, rfl, ps, L, t, rfl, hL, by rw [sizeLine_eq]; omega, ?_⟩
        rw [em, hrv]
        exact h2 _ _ ⟨rfl, rfl⟩
      · refine ⟨_, rfl, _, rfl, iteT rfl ⟨by (rw [sizeLine_eq]; first | omega | exact Nat.le_of_ble_eq_true rfl | (simp only [Str.length_append]; omega)), .lst [.str "BadText", .int 0, .str "form"], rfl, ?_, hq⟩⟩
        refine .lst 5 _ (fun d hd => ?_) (by show 3 ≤ 20000; decide)
        simp only [List.mem_cons, List.not_mem_nil, or_false] at hd
        rcases hd with rfl | rfl | rfl
        · exact .str _ _
        · exact .int _ _
        · exact .str _ _
    | some ws =>
      have wl := (readV_ok hrv).2
      refine ⟨fun d => d = runD ws, fun _ _ => False, fun Q E h1 h2 => ?_, fun d hd => ?_, fun cn fs hs => hs.elim⟩
      · refine ⟨_, rfl, _, rfl, ps, L, t, rfl, hL, by rw [sizeLine_eq]; omega, ?_⟩
        rw [em, hrv]
        exact h1 _ rfl
      · subst hd
        refine ⟨_, rfl, _, rfl, iteF rfl ⟨_, rfl, by (rw [sizeLine_eq]; first | omega | exact Nat.le_of_ble_eq_true rfl | (simp only [Str.length_append]; omega)), .lst [.str "told", runD ws], rfl, ?_, hq⟩⟩
        refine .lst 5 _ (fun d hd => ?_) (by show 2 ≤ 20000; decide)
        simp only [List.mem_cons, List.not_mem_nil, or_false] at hd
        rcases hd with rfl | rfl
        · exact .str _ _
        · exact vd_strs ws (by omega)
  by_cases q : okB mine b = true
  · refine ⟨fun d => d = keyD' mine b, fun _ _ => False, fun Q E h1 h2 => ?_, fun d hd => ?_, fun cn fs hs => hs.elim⟩
    · refine ⟨_, rfl, _, rfl, rfl, ps, L, b, rfl, hL, by rw [sizeLine_eq]; omega, ?_⟩
      rw [em, if_pos q]
      exact h1 _ rfl
    · subst hd
      refine ⟨_, rfl, _, rfl, ?_⟩
      refine iteT (eg.trans q) ?_
      refine ⟨_, rfl, _, rfl, _, rfl, iteF rfl ?_⟩
      exact last _ _ (fun _ _ => trivial)
  · refine ⟨fun _ => False, fun cn fs => cn = "BadRun" ∧ fs = eRun 0, fun Q E h1 h2 => ?_, fun d hd => hd.elim, fun cn fs hs => .inl ⟨hs.1, 0, hs.2, ?_⟩⟩
    · refine ⟨_, rfl, _, rfl, rfl, ps, L, b, rfl, hL, by rw [sizeLine_eq]; omega, ?_⟩
      rw [em, if_neg q]
      exact h2 _ _ ⟨rfl, rfl⟩
    · refine ⟨_, rfl, _, rfl, ?_⟩
      refine iteF (by rw [Bool.not_eq_true] at q; exact eg.trans q) ?_
      refine ⟨_, rfl, by (rw [sizeLine_eq]; first | omega | exact Nat.le_of_ble_eq_true rfl | (simp only [Str.length_append]; omega)), .lst [.str "BadRun", .int 0], rfl, ?_, true, rfl, iteF rfl ?_⟩
      · refine .lst 5 _ (fun d hd => ?_) (by show 2 ≤ 20000; decide)
        simp only [List.mem_cons, List.not_mem_nil, or_false] at hd
        rcases hd with rfl | rfl
        · exact .str _ _
        · exact .int _ _
      · exact last _ _ (fun _ _ => trivial)
end
end K02

namespace K02
open PySem PySem.Spec PyProof.Rows L2 EX DL PL TL
def cLotSo : DC := fun β ds Q _ => ∃ ps L runs, ds = [.adr β, L, mineD (rowsOf ps), lotD runs] ∧ IsL ps L ∧ Parts ps ∧ (∀ r ∈ runs, Sane (rowsOf ps) r) ∧ runs.length ≤ 20 ∧ Q (.bl true)
section
variable {w : Nat} {mine : List Str}
theorem told_idem {runs : List Rn} (h : ∀ r ∈ runs, Ok mine r) : toldV mine (toldV mine runs) = toldV mine runs := by
  have tv := toldV_ok h
  have h2 : ∀ r ∈ toldV mine runs, Ok mine r := fun r hr => h r ((tv.2 r).mp hr)
  have tv2 := toldV_ok h2
  refine strict_eq (lt := fun a b => aheadB mine a b = true) (fun a => by rw [ah_irr]; simp) (fun a b h1 h2 => ?_) tv2.1 tv.1 (fun z => tv2.2 z)
  have := ah_tr (mine := mine) a b a h1 h2
  rw [ah_irr] at this; cases this
theorem text_free (M : Mine w mine) {r : Rn} (h : Ok mine r) : 32 ∉ tl (runText r) ∧ runText r ≠ "" := by
  cases r with
  | nil =>
    have e : runText [] = dash := rfl
    rw [e]
    exact ⟨by rw [tl_dash]; simp, by decide +kernel⟩
  | cons x r =>
    have fx : ∀ y ∈ x :: r, 32 ∉ tl y := fun y hy => M.free (h y hy) (by omega)
    have go : ∀ r : Rn, (∀ y ∈ r, 32 ∉ tl y) → 32 ∉ joinL [46] (r.map tl) := by
      intro r
      induction r with
      | nil => intro _; simp [joinL]
      | cons y r ih =>
        intro hr
        cases r with
        | nil => exact hr y (by simp)
        | cons z r =>
          rw [List.map_cons, jl_cons 46 _ _ (by simp), List.mem_append, List.mem_cons]
          rintro (q | q | q)
          · exact hr y (by simp) q
          · cases q
          · exact ih (fun y hy => hr y (List.mem_cons_of_mem _ hy)) q
    refine ⟨by rw [join_cons]; exact go _ fx, fun z => ?_⟩
    have := congrArg tl z
    rw [join_cons, tl_empty] at this
    have lx := M.len x (h x (by simp))
    have lp := M.pos
    have l := jl_len (c := 46) (w := w) (ps := (x :: r).map tl) (by simp) fun p hp => by
      obtain ⟨y, hy, rfl⟩ := List.mem_map.mp hp
      exact M.tlen (h y hy)
    rw [this] at l
    simp only [List.length_nil, List.length_map, List.length_cons] at l
    have : w + 1 ≤ (r.length + 1) * (w + 1) := Nat.le_mul_of_pos_left (w + 1) (Nat.succ_pos r.length)
    omega
theorem read_lot_text (M : Mine w mine) {xs : List Rn} (h : ∀ r ∈ xs, Ok mine r) : readLotV mine (Txt.join blank (xs.map runText)) = some xs := by
  unfold readLotV
  cases xs with
  | nil =>
    have : Txt.join blank [] = "" := ext_tl (by rw [join_eq, tl_join, tl_empty]; rfl)
    rw [List.map_nil, this, if_pos rfl]
  | cons x xs =>
    have fr : ∀ p ∈ (x :: xs).map runText, 32 ∉ tl p := fun p hp => by
      obtain ⟨r, hr, rfl⟩ := List.mem_map.mp hp
      exact (text_free M (h r hr)).1
    have sp : Txt.split (Txt.join blank ((x :: xs).map runText)) blank = (x :: xs).map runText := split_join (y := blank) (s := 32) (S := []) tl_blank (by decide +kernel) (by simp) fr
    have ne : Txt.join blank ((x :: xs).map runText) ≠ "" := fun z => by
      rw [z] at sp
      have e0 : Txt.split ("" : Str) blank = [("" : Str)] := by decide +kernel
      rw [e0] at sp
      have := List.cons.inj sp
      exact (text_free M (h x (by simp))).2 this.1.symm
    rw [if_neg ne, sp, List.all_map, List.filterMap_map]
    have ef : ∀ ys : List Rn, (∀ r ∈ ys, Ok mine r) → ys.filterMap (readV mine ∘ runText) = ys := by
      intro ys
      induction ys with
      | nil => intro _; rfl
      | cons y ys ih =>
        intro hy
        rw [List.filterMap_cons_some (show (readV mine ∘ runText) y = some y from read_text M (hy y (by simp))), ih fun r hr => hy r (List.mem_cons_of_mem _ hr)]
    rw [if_pos, ef _ h]
    rw [List.all_eq_true]
    intro r hr
    show (readV mine (runText r)).isSome = true
    rw [read_text M (h r hr)]; rfl
theorem lot_text_len (M : Mine w mine) {xs : List Rn} (h : ∀ r ∈ xs, Sane mine r) (hl : xs.length ≤ 25) : (Txt.join blank (xs.map runText)).length ≤ 5050 ∧ ((xs.map runText).map (·.length)).sum ≤ 5025 := by
  have s := sum_le ((fun x => x.length) ∘ runText) 201 xs fun r hr => by
    have := (sane_sum M (h r hr)).1
    have := runText_len r
    show (runText r).length ≤ 201
    omega
  rw [List.map_map]
  refine ⟨?_, by omega⟩
  rw [join_eq]
  have := StrLaws.join_length_le blank (xs.map runText)
  have hb : blank.length = 1 := by decide +kernel
  rw [hb, List.map_map, List.length_map] at this
  omega
theorem sane_ok {xs : List Rn} (h : ∀ r ∈ xs, Sane mine r) : ∀ r ∈ xs, Ok mine r := fun r hr => (h r hr).1
end
theorem vd_lot {n : Nat} (xs : List Rn) (h : xs.length ≤ 20000) (hr : ∀ r ∈ xs, r.length ≤ 20000) : Vd (n + 2) (lotD xs) := .lst _ _ (fun d hd => by
  obtain ⟨r, hr', rfl⟩ := List.mem_map.mp hd
  exact vd_strs r (hr r hr')) (by rw [List.length_map]; exact h)
section
variable {K : PySem.W.Frag}
theorem k_lot_so : Keeps (td__law_lot_so K cToldL (cLike 6) oTold.d cText cLotText cReadLot cBentText cOf cReadLotL oTold askK) ["bag", "abc", "mine", "runs", "due", "kept", "told", "text", "loose", "k", "bent", "new", "want", "word"] cLotSo := by
  intro β ds Qd Ed h
  obtain ⟨ps, L, runs, rfl, hL, hps, hr, hl, hq⟩ := h
  have M := hps.mine
  generalize em : rowsOf ps = mine at hr M
  have ok := sane_ok hr
  have tv := toldV_ok ok
  have tl := told_len ok
  have idem := told_idem ok
  have hrT : ∀ r ∈ toldV mine runs, Sane mine r := fun r hr' => hr r ((tv.2 r).mp hr')
  have okT := sane_ok hrT
  have ss : ∀ r, Sane mine r → (r.map (·.length)).sum + r.length ≤ 200 ∧ (∀ x ∈ r, 1 ≤ x.length ∧ x.length ≤ 4) := fun r h => sane_sum M h
  generalize eT : toldV mine runs = T at tv tl idem hrT okT
  have bT := badAt_some okT
  have bR := badAt_some ok
  refine ⟨_, rfl, _, rfl, _, mine, _, runs, rfl, .inl rfl, M, fun r hr' => ⟨ok r hr', by have := (hr r hr').2; omega⟩, by omega, ?_⟩
  rw [eT]
  refine ⟨_, rfl, ?_⟩
  have szR : ∀ r ∈ runs, r.length ≤ sizeLine := fun r hr' => by have := (hr r hr').2; rw [sizeLine_eq]; omega
  have szT : ∀ r ∈ T, r.length ≤ sizeLine := fun r hr' => by have := (hrT r hr').2; rw [sizeLine_eq]; omega
  have suR : ∀ r ∈ runs, (r.map (·.length)).sum + r.length ≤ 1000 := fun r hr' => by have := (ss r (hr r hr')).1; omega
  have suT : ∀ r ∈ T, (r.map (·.length)).sum + r.length ≤ 1000 := fun r hr' => by have := (ss r (hrT r hr')).1; omega
  have vT : Vd 5 (lotD T) := vd_lot T (by omega) fun r hr' => by have := (hrT r hr').2; omega
  have vT4 : Vd 4 (lotD T) := vd_lot T (by omega) fun r hr' => by have := (hrT r hr').2; omega
  have vT6 : Vd 6 (lotD T) := vd_lot T (by omega) fun r hr' => by have := (hrT r hr').2; omega
  -- told
  refine ⟨_, rfl, _, rfl, ps, L, _, runs, rfl, hL, .inl rfl, by omega, szR, ?_⟩
  rw [em, bR]
  show (fun es : List D => _) ((toldV mine runs).map runD)
  rw [eT]
  refine ⟨_, rfl, _, rfl, lotD T, rfl, vT6, true, rfl, iteF rfl ?_⟩
  have pyt : D.py (.tup (runs.map runD)) = some (.tuple (runs.map pyRun)) := by
    unfold D.py
    rw [pys_map runD pyRun py_run]; rfl
  have sh := (lot_shaped M ok).2
  refine ⟨_, rfl, _, rfl, _, _, pyt, pyt, sh, sh, _, rfl, ?_⟩
  refine iteF (by show (!PyData.eqv (.tuple (runs.map pyRun)) (.tuple (runs.map pyRun))) = false; simp only [PyData.eqv, eqv_runs]; simp) ?_
  refine ⟨_, rfl, _, rfl, rfl, ps, L, _, runs, rfl, hL, .inr rfl, by omega, szR, ?_⟩
  rw [em, bR]
  show (fun es : List D => _) ((toldV mine runs).map runD)
  rw [eT]
  refine ⟨_, rfl, lotD T, rfl, vT6, true, rfl, iteF rfl ?_⟩
  -- told changed
  refine ⟨_, rfl, by decide, by (rw [sizeLine_eq]; first | omega | exact Nat.le_of_ble_eq_true rfl | (simp only [Str.length_append]; omega)), by rw [List.length_map, sizeLine_eq]; omega, ?_⟩
  refine ⟨_, rfl, rfl, ?_⟩
  -- twice
  refine ⟨_, rfl, _, rfl, ps, L, _, T, rfl, hL, .inl rfl, by omega, szT, ?_⟩
  rw [em, bT]
  show (fun es : List D => _) ((toldV mine T).map runD)
  rw [idem]
  refine ⟨_, rfl, _, rfl, ps, L, _, runs, rfl, hL, .inl rfl, by omega, szR, ?_⟩
  rw [em, bR]
  show (fun es : List D => _) ((toldV mine runs).map runD)
  rw [eT]
  refine ⟨by (rw [sizeLine_eq]; first | omega | exact Nat.le_of_ble_eq_true rfl | (simp only [Str.length_append]; omega)), _, rfl, _, rfl, by (rw [sizeLine_eq]; first | omega | exact Nat.le_of_ble_eq_true rfl | (simp only [Str.length_append]; omega)), .lst [lotD T, lotD T], rfl, .lst _ _ (fun d hd => ?_) (by show 2 ≤ 20000; decide), true, rfl, iteF rfl ?_⟩
  · simp only [List.mem_cons, List.not_mem_nil, or_false] at hd
    rcases hd with rfl | rfl <;> exact vT
  -- the text
  have cT : ∀ r, Sane mine r → (r.map (·.length)).sum + r.length ≤ 1000 ∧ ∀ x ∈ r, 1 ≤ x.length := fun r h => ⟨by have := (ss r h).1; omega, fun x hx => ((ss r h).2 x hx).1⟩
  have eb : (" " : Str).length = 1 := by decide +kernel
  have sOf : ∀ xs : List Rn, strsD (xs.map fun r => D.str (runText r)) = some (xs.map runText) := fun xs => by rw [← strsD_map, List.map_map]; rfl
  have lT := lot_text_len M hrT (by omega)
  have lR := lot_text_len M hr (by omega)
  refine ⟨rfl, _, rfl, _, rfl, by rw [List.length_map, sizeLine_eq]; omega, ?_⟩
  refine compD_map runD (fun r => .str (runText r)) T _ (fun r hr' k hk => ⟨_, rfl, r, rfl, (cT r (hrT r hr')).1, (cT r (hrT r hr')).2, hk⟩) ?_
  refine ⟨_, sOf T, by rw [eb, List.length_map]; have := lT.2; omega, ?_⟩
  refine ⟨_, rfl, _, rfl, ps, L, _, runs, rfl, hL, .inl rfl, by omega, suR, ?_⟩
  rw [em, bR]
  unfold lotText
  rw [eT]
  refine ⟨_, rfl, _, rfl, ps, L, _, T, rfl, hL, .inr rfl, by omega, suT, ?_⟩
  rw [em, bT]
  unfold lotText
  rw [idem]
  refine ⟨by (rw [sizeLine_eq]; first | omega | exact Nat.le_of_ble_eq_true rfl | (simp only [Str.length_append]; omega)), _, rfl, _, rfl, by (rw [sizeLine_eq]; first | omega | exact Nat.le_of_ble_eq_true rfl | (simp only [Str.length_append]; omega)), .lst [.str (Txt.join blank (T.map runText)), .str (Txt.join blank (T.map runText))], rfl, .lst _ _ (fun d hd => ?_) (by show 2 ≤ 20000; decide), true, rfl, iteF rfl ?_⟩
  · simp only [List.mem_cons, List.not_mem_nil, or_false] at hd
    rcases hd with rfl | rfl <;> exact .str _ _
  -- loose
  refine ⟨rfl, _, rfl, _, rfl, by rw [List.length_map, sizeLine_eq]; omega, ?_⟩
  refine compD_map runD (fun r => .str (runText r)) runs _ (fun r hr' k hk => ⟨_, rfl, r, rfl, (cT r (hr r hr')).1, (cT r (hr r hr')).2, hk⟩) ?_
  refine ⟨_, sOf runs, by rw [eb, List.length_map]; have := lR.2; omega, ?_⟩
  refine ⟨_, rfl, _, rfl, ps, L, _, rfl, hL, Nat.le_trans lT.1 (by decide), ?_⟩
  rw [em, read_lot_text M okT]
  show (fun d : D => _) (lotD (toldV mine T))
  rw [idem]
  refine ⟨_, rfl, _, rfl, ps, L, _, rfl, hL, Nat.le_trans lR.1 (by decide), ?_⟩
  rw [em, read_lot_text M ok]
  show (fun d : D => _) (lotD (toldV mine runs))
  rw [eT]
  refine ⟨by (rw [sizeLine_eq]; first | omega | exact Nat.le_of_ble_eq_true rfl | (simp only [Str.length_append]; omega)), _, rfl, _, rfl, by (rw [sizeLine_eq]; first | omega | exact Nat.le_of_ble_eq_true rfl | (simp only [Str.length_append]; omega)), .lst [lotD T, lotD T], rfl, .lst _ _ (fun d hd => ?_) (by show 2 ≤ 20000; decide), true, rfl, iteF rfl ?_⟩
  · simp only [List.mem_cons, List.not_mem_nil, or_false] at hd
    rcases hd with rfl | rfl <;> exact vT
  -- the bent texts
  have go : ∀ (ds : List D) (s6 s9 s10 s11 s12 : Sl),
      loopD (zName 9) (ySeq (ySet [] 10 (xFn β cBentText (xCons (xVar 0) (xCons (xFn β cOf (xCons (xVar 0) (xCons (xLst (xCons (xVar 7) (xCons (xVar 8) xNil))) xNil))) xNil))))
    (ySeq (ySet [] 11 (xFn β cReadLotL (xCons (xVar 2) (xCons (xVar 10) xNil))))
    (ySeq (ySet [] 12 (xIf (xTest (xIsN false (xVar 11))) (xLst (xCons (xC (.str "BadText")) (xCons (xC (.int 0)) (xCons (xC (.str "form")) xNil)))) (xLst (xCons (xC (.str "told")) (xCons (xFn β cToldL (xCons (xVar 2) (xCons (xVar 11) xNil))) xNil)))))
    (yIf [] (xNot (xTru (xFn β (cLike 6) (xCons (xLam β askK (xFn β cReadLot (xCons (xVar 1) (xCons (xVar 10) xNil)))) (xCons (xVar 12) xNil)))))
    (yRet [] (xC (.bl false)))
    yNext)))) { nx := yRet [] (xC (.bl true)) { nx := fun _ => Qd .non, rt := Qd, xc := fun cn fs _ => Ed cn fs }, rt := Qd, xc := fun cn fs _ => Ed cn fs } ds
        [.val (.adr β), .val L, .val (mineD mine), .val (lotD runs), .val (lotD T), .val (.tup (runs.map runD)), s6, .val (.str (Txt.join blank (T.map runText))), .val (.str (Txt.join blank (runs.map runText))), s9, s10, s11, s12, .non] := by
    intro ds
    induction ds with
    | nil => intro s6 s9 s10 s11 s12; exact hq
    | cons d ds ih =>
      intro s6 s9 s10 s11 s12
      refine ⟨_, rfl, _, rfl, _, rfl, _, rfl, by (rw [sizeLine_eq]; first | omega | exact Nat.le_of_ble_eq_true rfl | (simp only [Str.length_append]; omega)), _, rfl, .inl ⟨_, rfl, (by show 0 < 2; decide), (by show 2 < 1073741824; decide), fun td htd => ?_⟩⟩
      obtain ⟨tt, rfl, htt⟩ : ∃ tt : Str, td = .str tt ∧ tt.length ≤ 5050 := by
        simp only [List.mem_cons, List.not_mem_nil, or_false] at htd
        rcases htd with rfl | rfl
        · exact ⟨_, rfl, lT.1⟩
        · exact ⟨_, rfl, lR.1⟩
      refine ⟨tt, rfl, by omega, fun t ht => ?_⟩
      refine ⟨_, rfl, _, rfl, _, mine, t, rfl, M, by omega, ?_⟩
      cases hrv : readLotV mine t with
      | none =>
        refine ⟨_, rfl, _, rfl, iteT rfl ⟨by (rw [sizeLine_eq]; first | omega | exact Nat.le_of_ble_eq_true rfl | (simp only [Str.length_append]; omega)), ?_⟩⟩
        refine ⟨fun _ => False, fun cn fs => cn = "BadText" ∧ fs = eText, fun Q E h1 h2 => ?_, fun d hd => hd.elim, fun cn fs hs => .inr ⟨hs.1, hs.2, ?_⟩⟩
        · refine ⟨_, rfl, _, rfl, ps, L, t, rfl, hL, by omega, ?_⟩
          rw [em, hrv]
          exact h2 _ _ ⟨rfl, rfl⟩
        · refine ⟨_, rfl, .lst [.str "BadText", .int 0, .str "form"], rfl, ?_, true, rfl, iteF rfl ?_⟩
          · refine .lst 5 _ (fun d hd => ?_) (by show 3 ≤ 20000; decide)
            simp only [List.mem_cons, List.not_mem_nil, or_false] at hd
            rcases hd with rfl | rfl | rfl
            · exact .str _ _
            · exact .int _ _
            · exact .str _ _
          · exact ih _ _ _ _ _
      | some xs =>
        have xp : (∀ r ∈ xs, Ok mine r ∧ r.length ≤ 5300) ∧ xs.length ≤ 5300 := by
          unfold readLotV at hrv
          split at hrv
          · have := Option.some.inj hrv
            subst this
            exact ⟨fun r hr => (by cases hr), (by simp)⟩
          · split at hrv
            · have := Option.some.inj hrv
              subst this
              refine ⟨fun r hr => ?_, ?_⟩
              · obtain ⟨x, hx, e⟩ := List.mem_filterMap.mp hr
                obtain ⟨h1, h2⟩ := readV_ok e
                have := part_short hx
                exact ⟨h1, by omega⟩
              · have l2 : (List.filterMap (readV mine) (Txt.split t blank)).length ≤ (Txt.split t blank).length := List.length_filterMap_le _ _
                have := split_le t blank
                omega
            · cases hrv
        have okx : ∀ r ∈ xs, Ok mine r := fun r hr => (xp.1 r hr).1
        have txl := told_len okx
        have tvx := toldV_ok okx
        refine ⟨_, rfl, _, rfl, iteF rfl ⟨_, rfl, _, rfl, _, mine, _, xs, rfl, .inl rfl, M, fun r hr => ⟨okx r hr, by have := (xp.1 r hr).2; omega⟩, by have := xp.2; omega, by (rw [sizeLine_eq]; first | omega | exact Nat.le_of_ble_eq_true rfl | (simp only [Str.length_append]; omega)), ?_⟩⟩
        refine ⟨fun d => d = lotD (toldV mine xs), fun _ _ => False, fun Q E h1 h2 => ?_, fun d hd => ?_, fun cn fs hs => hs.elim⟩
        · refine ⟨_, rfl, _, rfl, ps, L, t, rfl, hL, by omega, ?_⟩
          rw [em, hrv]
          exact h1 _ rfl
        · subst hd
          refine ⟨_, rfl, .lst [.str "told", lotD (toldV mine xs)], rfl, ?_, true, rfl, iteF rfl ?_⟩
          · refine .lst 5 _ (fun d hd => ?_) (by show 2 ≤ 20000; decide)
            simp only [List.mem_cons, List.not_mem_nil, or_false] at hd
            rcases hd with rfl | rfl
            · exact .str _ _
            · exact vd_lot _ (by have := xp.2; omega) fun r hr => by have := (xp.1 r ((tvx.2 r).mp hr)).2; omega
          · exact ih _ _ _ _ _
  refine ⟨by decide, by decide, ?_⟩
  exact go _ _ _ _ _ _
end
end K02

namespace K02
open PySem PySem.Spec PyProof.Rows L2 EX DL PL TL
def cWrongSo : DC := cLotSo
def Odd (r : Rn) : Prop := r.length ≤ 51 ∧ ∀ x ∈ r, x.length ≤ 10
def badsF (mine : List Str) : Nat → List Rn → List Nat
  | _, [] => []
  | n, r :: rs => if okB mine r = true then badsF mine (n + 1) rs else n :: badsF mine (n + 1) rs
theorem badsF_head (mine : List Str) : ∀ (rs : List Rn) (n : Nat), (badsF mine n rs).head? = (badAt mine rs).map (· + n)
  | [], n => by
    unfold badsF badAt; rfl
  | r :: rs, n => by
    unfold badsF
    rw [badAt_cons]
    by_cases e : okB mine r = true
    · rw [if_pos e, if_pos e, badsF_head mine rs (n + 1), Option.map_map]
      congr 1
      funext k
      show k + (n + 1) = k + 1 + n
      omega
    · rw [if_neg e, if_neg e]
      show some n = some (0 + n)
      rw [Nat.zero_add]
theorem badsF_len (mine : List Str) : ∀ (rs : List Rn) (n : Nat), (badsF mine n rs).length ≤ rs.length
  | [], n => by unfold badsF; exact Nat.le_refl _
  | r :: rs, n => by
    unfold badsF
    have := badsF_len mine rs (n + 1)
    split
    · rw [List.length_cons]; omega
    · rw [List.length_cons, List.length_cons]; omega
theorem odd_sum {r : Rn} (h : Odd r) : (r.map (·.length)).sum + r.length ≤ 600 := by
  have := sum_le (fun x : Str => x.length) 10 r h.2
  have := h.1
  omega
section
variable {K : PySem.W.Frag}
theorem bads_comp {s0 s1 s3 s6 s7 s8 s9 s10 : Sl} {mine : List Str} {ys : List Rn} : ∀ (todo pre : List Rn) (k : List D → Prop), ys = pre ++ todo → (∀ r ∈ ys, r.length ≤ 100) → k ((badsF mine pre.length todo).map fun n => .int ((n : Nat) : Int)) →
    compD (zName 5) (xNot (xTru (xCall (dAll fun ks => ks.all id) (xCons (xLcE [11] (xiAny (xIxO 4 (xVar 5))) (zName 11) xYes (xOp (dInA false) (xVar 11) (xVar 2))) xNil)))) (xVar 5) [s0, s1, .val (mineD mine), s3, .own (.lst (ys.map runD)), .non, s6, s7, s8, s9, s10, .non, .non] ((List.range' pre.length todo.length).map fun n => .int ((n : Nat) : Int)) k
  | [], pre, k, _, _, q => q
  | r :: todo, pre, k, e, hl, q => by
    rw [List.length_cons, List.range'_succ, List.map_cons]
    unfold compD
    have ea : atI (ys.map runD) ((pre.length : Nat) : Int) = some (runD r) := by rw [e]; exact at_mid runD pre r todo
    have lr := hl r (by rw [e]; simp)
    refine ⟨_, rfl, _, rfl, _, _, rfl, ea, _, rfl, by rw [List.length_map, sizeLine_eq]; omega, ?_⟩
    refine compD_map D.str (fun x => .bl (decide (x ∈ mine))) r _ (fun x hx k hk => ⟨_, rfl, _, rfl, .inl ⟨rfl, flat_strs mine, ?_⟩⟩) ?_
    · show k (.bl (inD (.str x) (mine.map D.str)))
      rw [inD_strs]; exact hk
    refine ⟨_, blsD_map (fun x => decide (x ∈ mine)) r, _, rfl, ?_⟩
    have eg : (r.map fun x => decide (x ∈ mine)).all id = okB mine r := by unfold okB; rw [List.all_map]; rfl
    have ih := fun k => bads_comp (s0 := s0) (s1 := s1) (s3 := s3) (s6 := s6) (s7 := s7) (s8 := s8) (s9 := s9) (s10 := s10) (mine := mine) (ys := ys) todo (pre ++ [r]) k (by rw [e, List.append_assoc]; rfl) hl
    rw [List.length_append] at ih
    unfold badsF at q
    by_cases o : okB mine r = true
    · rw [if_pos o] at q
      refine iteF (by show (!(r.map fun x => decide (x ∈ mine)).all id) = false; rw [eg, o]; rfl) ?_
      exact ih k q
    · rw [if_neg o] at q
      refine iteT (by show (!(r.map fun x => decide (x ∈ mine)).all id) = true; rw [eg]; rw [Bool.not_eq_true] at o; rw [o]; rfl) ?_
      refine ⟨_, rfl, ?_⟩
      exact ih _ q
theorem lay_ints : ∀ ns : List Nat, PyData.canLayAll0 (ns.map fun n => PyData.int ((n : Nat) : Int)) = true ∧ PyData.depthAll (ns.map fun n => PyData.int ((n : Nat) : Int)) = 0
  | [] => ⟨by unfold PyData.canLayAll0; rfl, by unfold PyData.depthAll; rfl⟩
  | n :: ns => by
    obtain ⟨a1, a2⟩ := lay_ints ns
    rw [List.map_cons]
    unfold PyData.canLayAll0 PyData.depthAll PyData.canLay0 PyData.depth
    exact ⟨by rw [a1]; rfl, by rw [a2]; rfl⟩
theorem ints_shaped (ns : List Nat) : SeqAt.shaped (.list (ns.map fun n => PyData.int ((n : Nat) : Int))) = true := by
  unfold SeqAt.shaped PyData.canLay0 PyData.depth
  rw [(lay_ints ns).1, (lay_ints ns).2]; rfl
theorem py_ints (ns : List Nat) : D.py (.lst (ns.map fun n => D.int ((n : Nat) : Int))) = some (.list (ns.map fun n => PyData.int ((n : Nat) : Int))) := by
  unfold D.py
  rw [pys_map (fun n : Nat => D.int ((n : Nat) : Int)) (fun n : Nat => PyData.int ((n : Nat) : Int)) (fun n => by unfold D.py; rfl)]; rfl
theorem eqv_nil (ns : List Nat) : PyData.eqv (.list (ns.map fun n => PyData.int ((n : Nat) : Int))) (.list []) = decide (ns = []) := by
  cases ns with
  | nil => simp [PyData.eqv, PyData.eqvAll]
  | cons n ns => simp [PyData.eqv, PyData.eqvAll]
theorem py_nil : D.py (.lst []) = some (.list []) := by unfold D.py D.pys; rfl
theorem nil_shaped : SeqAt.shaped (.list []) = true := by decide +kernel
theorem k_wrong_so : Keeps (td__law_wrong_so K cDraw cBentRun cRunOf cToldL cText (cLike 6) oTold.d cLotText askK) ["bag", "abc", "mine", "runs", "some", "k", "spot", "bad", "due", "text", "want", "letter", "word"] cWrongSo := by
  intro β ds Qd Ed h
  obtain ⟨ps, L, runs, rfl, hL, hps, hr, hl, hq⟩ := h
  have M := hps.mine
  generalize em : rowsOf ps = mine at hr M
  have mm : mine ≠ [] := M.ne
  have mw : ∀ x ∈ mine, 1 ≤ x.length ∧ x.length ≤ 4 := fun x hx => by rw [M.len x hx]; exact ⟨M.pos, M.wide⟩
  have odd0 : ∀ r ∈ runs, Odd r := fun r hr' => by
    have := (sane_sum M (hr r hr')).2
    have := (hr r hr').2
    exact ⟨by omega, fun x hx => by have := ((sane_sum M (hr r hr')).2 x hx).2; omega⟩
  refine ⟨_, rfl, _, .inl rfl, ?_⟩
  refine ⟨_, rfl, _, rfl, by decide, by decide, fun m h0 h1 => ?_⟩
  -- behind the loop
  have rest : ∀ (ys : List Rn) (s5 s6 : Sl), ys.length ≤ 30 → (∀ r ∈ ys, Odd r) → (ySeq (ySetLc [] 7 [5] (xiRng1 (xCons (xLenO 4) xNil)) (zName 5) (xNot (xTru (xCall (dAll fun ks => ks.all id) (xCons (xLcE [11] (xiAny (xIxO 4 (xVar 5))) (zName 11) xYes (xOp (dInA false) (xVar 11) (xVar 2))) xNil)))) (xVar 5))
    (ySeq (ySet [4] 8 (xIf (xTest (xOp (dEq false) (xVar 7) (xLst xNil))) (xFn β cToldL (xCons (xVar 2) (xCons (xVar 4) xNil))) (xLst xNil)))
    (ySeq (ySet [] 9 (xMeth "str" dJoin (xC (.str " ")) (xCons (xLcE [12] (xiAny (xVar 8)) (zName 12) xYes (xFn β cText (xCons (xVar 12) xNil))) xNil)))
    (ySeq (ySet [] 10 (xIf (xTest (xOp (dEq true) (xVar 7) (xLst xNil))) (xLst (xCons (xC (.str "BadRun")) (xCons (xOp dIx (xVar 7) (xC (.int 0))) xNil))) (xLst (xCons (xC (.str "told")) (xCons (xVar 8) xNil)))))
    (ySeq (yIf [] (xNot (xTru (xFn β (cLike 6) (xCons (xLam β askK (xFn β oTold.d (xCons (xVar 1) (xCons (xVar 4) xNil)))) (xCons (xVar 10) xNil)))))
    (yRet [] (xC (.bl false)))
    yNext)
    (yRet [] (xFn β (cLike 6) (xCons (xLam β askK (xFn β cLotText (xCons (xVar 1) (xCons (xVar 4) xNil)))) (xCons (xIf (xTest (xOp (dEq false) (xVar 7) (xLst xNil))) (xLst (xCons (xC (.str "told")) (xCons (xVar 9) xNil))) (xVar 10)) xNil))))))))) { nx := fun _ => Qd .non, rt := Qd, xc := fun cn fs _ => Ed cn fs } [.val (.adr β), .val L, .val (mineD mine), .val (lotD runs), .own (.lst (ys.map runD)), s5, s6, .non, .non, .non, .non, .non, .non] := by
    intro ys s5 s6 yl yo
    have yl' : (ys.map runD).length = ys.length := List.length_map _
    refine ⟨_, rfl, by rw [yl']; omega, by rw [yl']; omega, by rw [rangeD_len, Int.toNat_natCast, yl', sizeLine_eq]; omega, ?_⟩
    have er : rangeD 0 (((ys.map runD).length : Nat) : Int).toNat = (List.range' 0 ys.length).map fun k => .int ((k : Nat) : Int) := by
      rw [Int.toNat_natCast, yl']
      unfold rangeD
      rw [List.range_eq_range']
      refine List.map_congr_left fun k _ => ?_
      rw [Int.zero_add]
    rw [er]
    refine bads_comp (mine := mine) (ys := ys) ys [] _ rfl (fun r hr => by have := (yo r hr).1; omega) ?_
    have hb := badsF_head mine ys 0
    have bl := badsF_len mine ys 0
    show (fun bs : List Nat => _) (badsF mine ([] : List Rn).length ys)
    generalize eB : badsF mine ([] : List Rn).length ys = bs
    have eB : badsF mine 0 ys = bs := eB
    rw [eB] at hb bl
    refine ⟨_, rfl, by rw [sizeLine_eq]; decide, _, _, py_ints bs, py_nil, ints_shaped bs, nil_shaped, _, rfl, ?_⟩
    have szs : ∀ r ∈ ys, r.length ≤ sizeLine := fun r hr => by have := (yo r hr).1; rw [sizeLine_eq]; omega
    cases hbad : badAt mine ys with
    | none =>
      have eb : bs = [] := by
        rw [hbad] at hb
        cases bs with
        | nil => rfl
        | cons b bs => simp at hb
      subst eb
      have ok := badAt_none hbad
      have tv := toldV_ok ok
      have tl := told_len ok
      refine iteT (by show PyData.eqv (.list (([] : List Nat).map fun n => PyData.int ((n : Nat) : Int))) (.list []) = true; rw [eqv_nil]; rfl) ?_
      refine ⟨_, rfl, _, rfl, _, mine, _, ys, rfl, .inl rfl, M, fun r hr => ⟨ok r hr, by have := (yo r hr).1; omega⟩, by omega, ?_⟩
      generalize eT : toldV mine ys = T at tv tl
      have oT : ∀ r ∈ T, Odd r ∧ Ok mine r := fun r hr => ⟨yo r ((tv.2 r).mp hr), ok r ((tv.2 r).mp hr)⟩
      have ebl : (" " : Str).length = 1 := by decide +kernel
      refine ⟨rfl, _, rfl, _, rfl, by rw [List.length_map, sizeLine_eq]; omega, ?_⟩
      refine compD_map runD (fun r => .str (runText r)) T _ (fun r hr' k hk => ⟨_, rfl, r, rfl, by have := odd_sum (oT r hr').1; omega, fun x hx => (mw x ((oT r hr').2 x hx)).1, hk⟩) ?_
      have sums := sum_le ((fun x => x.length) ∘ runText) 601 T fun r hr' => by
        have := odd_sum (oT r hr').1
        have := runText_len r
        show (runText r).length ≤ 601
        omega
      refine ⟨T.map runText, by rw [← strsD_map, List.map_map]; rfl, by rw [ebl, List.map_map, List.length_map]; omega, ?_⟩
      refine ⟨_, rfl, by rw [sizeLine_eq]; decide, _, _, py_ints [], py_nil, ints_shaped [], nil_shaped, _, rfl, ?_⟩
      refine iteF (by show (!PyData.eqv (.list (([] : List Nat).map fun n => PyData.int ((n : Nat) : Int))) (.list [])) = false; rw [eqv_nil]; rfl) ?_
      refine ⟨_, rfl, by (rw [sizeLine_eq]; first | omega | exact Nat.le_of_ble_eq_true rfl | (simp only [Str.length_append]; omega)), ?_⟩
      have vT : Vd 5 (lotD T) := vd_lot T (by omega) fun r hr' => by have := (oT r hr').1.1; omega
      refine ⟨fun d => d = lotD T, fun _ _ => False, fun Q E h1 h2 => ?_, fun d hd => ?_, fun cn fs hs => hs.elim⟩
      · refine ⟨_, rfl, _, rfl, ps, L, _, ys, rfl, hL, .inl rfl, by omega, szs, ?_⟩
        rw [em, hbad]
        show Q (.lst ((toldV mine ys).map runD))
        rw [eT]
        exact h1 _ rfl
      · subst hd
        refine ⟨_, rfl, .lst [.str "told", lotD T], rfl, .lst _ _ (fun d hd => ?_) (by show 2 ≤ 20000; decide), true, rfl, iteF rfl ?_⟩
        · simp only [List.mem_cons, List.not_mem_nil, or_false] at hd
          rcases hd with rfl | rfl
          · exact .str _ _
          · exact vT
        refine ⟨fun d => d = .str (Txt.join blank (T.map runText)), fun _ _ => False, fun Q E h1 h2 => ?_, fun d hd => ?_, fun cn fs hs => hs.elim⟩
        · refine ⟨_, rfl, _, rfl, ps, L, _, ys, rfl, hL, .inl rfl, by omega, fun r hr => by have := odd_sum (yo r hr); omega, ?_⟩
          rw [em, hbad]
          show Q (.str (Txt.join blank ((toldV mine ys).map runText)))
          rw [eT]
          exact h1 _ rfl
        · subst hd
          refine ⟨_, rfl, by rw [sizeLine_eq]; decide, _, _, py_ints [], py_nil, ints_shaped [], nil_shaped, _, rfl, ?_⟩
          refine iteT (by show PyData.eqv (.list (([] : List Nat).map fun n => PyData.int ((n : Nat) : Int))) (.list []) = true; rw [eqv_nil]; rfl) ?_
          refine ⟨_, rfl, by (rw [sizeLine_eq]; first | omega | exact Nat.le_of_ble_eq_true rfl | (simp only [Str.length_append]; omega)), .lst [.str "told", .str (Txt.join blank (T.map runText))], rfl, .lst _ _ (fun d hd => ?_) (by show 2 ≤ 20000; decide), hq⟩
          simp only [List.mem_cons, List.not_mem_nil, or_false] at hd
          rcases hd with rfl | rfl <;> exact .str _ _
    | some k =>
      obtain ⟨b, bs', rfl⟩ : ∃ b bs', bs = b :: bs' := by
        rw [hbad] at hb
        cases bs with
        | nil => simp at hb
        | cons b bs' => exact ⟨b, bs', rfl⟩
      have ek : b = k := by rw [hbad] at hb; simpa using hb
      subst ek
      refine iteF (by show PyData.eqv (.list ((b :: bs').map fun n => PyData.int ((n : Nat) : Int))) (.list []) = false; rw [eqv_nil]; rfl) ?_
      refine ⟨by rw [sizeLine_eq]; decide, ?_⟩
      have ebl : (" " : Str).length = 1 := by decide +kernel
      refine ⟨rfl, _, rfl, _, rfl, by rw [sizeLine_eq]; decide, [], rfl, by show 0 + 0 * _ ≤ _; omega, ?_⟩
      refine ⟨_, rfl, by rw [sizeLine_eq]; decide, _, _, py_ints (b :: bs'), py_nil, ints_shaped (b :: bs'), nil_shaped, _, rfl, ?_⟩
      refine iteT (by show (!PyData.eqv (.list ((b :: bs').map fun n => PyData.int ((n : Nat) : Int))) (.list [])) = true; rw [eqv_nil]; rfl) ?_
      refine ⟨_, rfl, _, (atI_nat (j := 0) rfl : atI ((b :: bs').map fun n => D.int ((n : Nat) : Int)) 0 = some (D.int ((b : Nat) : Int))), by (rw [sizeLine_eq]; first | omega | exact Nat.le_of_ble_eq_true rfl | (simp only [Str.length_append]; omega)), ?_⟩
      refine ⟨fun _ => False, fun cn fs => cn = "BadRun" ∧ fs = eRun ((b : Nat) : Int), fun Q E h1 h2 => ?_, fun d hd => hd.elim, fun cn fs hs => .inl ⟨hs.1, _, hs.2, ?_⟩⟩
      · refine ⟨_, rfl, _, rfl, ps, L, _, ys, rfl, hL, .inl rfl, by omega, szs, ?_⟩
        rw [em, hbad]
        exact h2 _ _ ⟨rfl, rfl⟩
      · have vW : Vd 6 (.lst [.str "BadRun", .int ((b : Nat) : Int)]) := .lst 5 _ (fun d hd => by
          simp only [List.mem_cons, List.not_mem_nil, or_false] at hd
          rcases hd with rfl | rfl
          · exact .str _ _
          · exact .int _ _) (by show 2 ≤ 20000; decide)
        refine ⟨_, rfl, .lst [.str "BadRun", .int ((b : Nat) : Int)], rfl, vW, true, rfl, iteF rfl ?_⟩
        refine ⟨fun _ => False, fun cn fs => cn = "BadRun" ∧ fs = eRun ((b : Nat) : Int), fun Q E h1 h2 => ?_, fun d hd => hd.elim, fun cn fs hs => .inl ⟨hs.1, _, hs.2, ?_⟩⟩
        · refine ⟨_, rfl, _, rfl, ps, L, _, ys, rfl, hL, .inl rfl, by omega, fun r hr => by have := odd_sum (yo r hr); omega, ?_⟩
          rw [em, hbad]
          exact h2 _ _ ⟨rfl, rfl⟩
        · refine ⟨_, rfl, by rw [sizeLine_eq]; decide, _, _, py_ints (b :: bs'), py_nil, ints_shaped (b :: bs'), nil_shaped, _, rfl, ?_⟩
          refine iteF (by show PyData.eqv (.list ((b :: bs').map fun n => PyData.int ((n : Nat) : Int))) (.list []) = false; rw [eqv_nil]; rfl) ?_
          exact ⟨_, rfl, .lst [.str "BadRun", .int ((b : Nat) : Int)], rfl, vW, hq⟩
  have go : ∀ (ds : List D) (ys : List Rn) (s5 s6 : Sl), ys.length + ds.length ≤ 30 → (∀ r ∈ ys, Odd r) → loopD (zName 5) (ySeq (ySet [] 6 (xFn β cDraw (xCons (xVar 0) (xCons (xOp dAdd (xLenO 4) (xC (.int 1))) xNil))))
    (yOM [] 4 oInsert (xCons (xVar 6) (xCons (xFn β cBentRun (xCons (xVar 0) (xCons (xVar 2) (xCons (xFn β cRunOf (xCons (xVar 0) (xCons (xVar 2) (xCons (xC (.int 2)) xNil)))) xNil)))) xNil)))) { nx := (ySeq (ySetLc [] 7 [5] (xiRng1 (xCons (xLenO 4) xNil)) (zName 5) (xNot (xTru (xCall (dAll fun ks => ks.all id) (xCons (xLcE [11] (xiAny (xIxO 4 (xVar 5))) (zName 11) xYes (xOp (dInA false) (xVar 11) (xVar 2))) xNil)))) (xVar 5)) (ySeq (ySet [4] 8 (xIf (xTest (xOp (dEq false) (xVar 7) (xLst xNil))) (xFn β cToldL (xCons (xVar 2) (xCons (xVar 4) xNil))) (xLst xNil))) (ySeq (ySet [] 9 (xMeth "str" dJoin (xC (.str " ")) (xCons (xLcE [12] (xiAny (xVar 8)) (zName 12) xYes (xFn β cText (xCons (xVar 12) xNil))) xNil))) (ySeq (ySet [] 10 (xIf (xTest (xOp (dEq true) (xVar 7) (xLst xNil))) (xLst (xCons (xC (.str "BadRun")) (xCons (xOp dIx (xVar 7) (xC (.int 0))) xNil))) (xLst (xCons (xC (.str "told")) (xCons (xVar 8) xNil))))) (ySeq (yIf [] (xNot (xTru (xFn β (cLike 6) (xCons (xLam β askK (xFn β oTold.d (xCons (xVar 1) (xCons (xVar 4) xNil)))) (xCons (xVar 10) xNil))))) (yRet [] (xC (.bl false))) yNext) (yRet [] (xFn β (cLike 6) (xCons (xLam β askK (xFn β cLotText (xCons (xVar 1) (xCons (xVar 4) xNil)))) (xCons (xIf (xTest (xOp (dEq false) (xVar 7) (xLst xNil))) (xLst (xCons (xC (.str "told")) (xCons (xVar 9) xNil))) (xVar 10)) xNil))))))))) { nx := fun _ => Qd .non, rt := Qd, xc := fun cn fs _ => Ed cn fs }, rt := Qd, xc := fun cn fs _ => Ed cn fs } ds [.val (.adr β), .val L, .val (mineD mine), .val (lotD runs), .own (.lst (ys.map runD)), s5, s6, .non, .non, .non, .non, .non, .non] := by
    intro ds
    induction ds with
    | nil => intro ys s5 s6 yl yo; exact rest ys s5 s6 (by simpa using yl) yo
    | cons d ds ih =>
      intro ys s5 s6 yl yo
      rw [List.length_cons] at yl
      refine ⟨_, rfl, _, rfl, _, rfl, ?_, ?_, fun sp h0 h1 => ?_⟩
      · show (0 : Int) < ((ys.map runD).length : Nat) + 1
        omega
      · show (((ys.map runD).length : Nat) : Int) + 1 < 1073741824
        rw [List.length_map]; omega
      obtain ⟨n, rfl⟩ := Int.eq_ofNat_of_zero_le h0
      refine ⟨_, rfl, by decide, _, rfl, _, rfl, _, rfl, _, rfl, _, rfl, mine, 2, rfl, mm, M.few, by decide, fun r hok hrl => ?_⟩
      have rw_ : ∀ x ∈ r, 1 ≤ x.length ∧ x.length ≤ 4 := fun x hx => mw x (hok x hx)
      refine ⟨mine, r, rfl, mm, M.few, mw, by omega, fun x hx => by have := (rw_ x hx).2; omega, fun b hb hb10 => ?_⟩
      refine ⟨by rw [List.length_map, sizeLine_eq]; omega, by omega, by
        have h1 : ((n : Nat) : Int) < ((ys.map runD).length : Nat) + 1 := h1
        rw [List.length_map] at h1; omega, ?_⟩
      have ei : (ys.map runD).take (((n : Nat) : Int)).toNat ++ [runD b] ++ (ys.map runD).drop (((n : Nat) : Int)).toNat = (ys.take n ++ [b] ++ ys.drop n).map runD := by
        rw [Int.toNat_natCast, List.map_append, List.map_append, List.map_take, List.map_drop]; rfl
      have := ih (ys.take n ++ [b] ++ ys.drop n) (.val d) (.val (.int ((n : Nat) : Int))) (by
        rw [List.length_append, List.length_append, List.length_take, List.length_drop]
        show min n ys.length + 1 + (ys.length - n) + ds.length ≤ 30
        omega) (fun r hr => by
          rw [List.mem_append, List.mem_append, List.mem_singleton] at hr
          rcases hr with (hr | rfl) | hr
          · exact yo r (List.mem_of_mem_take hr)
          · exact ⟨hb, hb10⟩
          · exact yo r (List.mem_of_mem_drop hr))
      rw [← ei] at this
      exact this
  refine ⟨by omega, by omega, ?_⟩
  exact go _ runs _ _ (by rw [rangeD_len]; omega) odd0
end
end K02

namespace K02
open PySem PySem.Spec PyProof.Rows L2 EX DL PL TL
def l0 (β : Addr) : TDS := (ySet [] 3 (xFn β cParts (xCons (xVar 1) (xCons (xFn β cOf (xCons (xVar 1) (xCons (xLst (xCons (xTup (xCons (xC (.int 2)) xNil)) (xCons (xTup (xCons (xC (.int 2)) (xCons (xC (.int 2)) xNil))) (xCons (xTup (xCons (xC (.int 3)) xNil)) (xCons (xTup (xCons (xC (.int 1)) xNil)) (xCons (xTup (xCons (xC (.int 2)) (xCons (xC (.int 1)) (xCons (xC (.int 2)) xNil)))) (xCons (xTup (xCons (xC (.int 4)) xNil)) (xCons (xTup (xCons (xC (.int 3)) (xCons (xC (.int 5)) xNil))) (xCons (xTup (xCons (xC (.int 12)) xNil)) (xCons (xTup (xCons (xC (.int 1)) (xCons (xC (.int 2)) xNil))) xNil)))))))))) xNil))) xNil))))
def l1 (β : Addr) : TDS := (yAsg [] (xTup (xCons (xFn β cLetters (xCons (xVar 3) xNil)) (xCons (xFn β cListed (xCons (xVar 3) xNil)) xNil))) (zTup 2 (zCons (zName 4) (zCons (zName 5) zNil))))
def l2 (β : Addr) : TDS := (ySetLcO [] 6 [7] (xiRng1 (xCons (xFn β cDraw (xCons (xVar 1) (xCons (xC (.int 7)) xNil))) xNil)) (zName 7) xYes (xFn β cRunOf (xCons (xVar 1) (xCons (xVar 5) (xCons (xFn β cOf (xCons (xVar 1) (xCons (xLst (xCons (xC (.int 1)) (xCons (xC (.int 2)) (xCons (xC (.int 2)) (xCons (xC (.int 3)) (xCons (xC (.int 4)) xNil)))))) xNil))) xNil)))))
def l3 (β : Addr) : TDS := (yIf [] (xTest (xOp (dEq false) (xFn β cDraw (xCons (xVar 1) (xCons (xC (.int 6)) xNil))) (xC (.int 0)))) (yOM [] 6 oAppend (xCons (xCall dTuple (xCons (xLcE [7] (xiRng1 (xCons (xC (.int 39)) xNil)) (zName 7) xYes (xFn β cOf (xCons (xVar 1) (xCons (xVar 5) xNil)))) xNil)) xNil)) yNext)
def l4 (β : Addr) : TDS := (yFor [] (xiRng1 (xCons (xFn β cDraw (xCons (xVar 1) (xCons (xC (.int 4)) xNil))) xNil)) (zName 7) (yOM [] 6 oInsert (xCons (xFn β cDraw (xCons (xVar 1) (xCons (xOp dAdd (xLenO 6) (xC (.int 1))) xNil))) (xCons (xFn β cOf (xCons (xVar 1) (xCons (xCatO 6 (xLst (xCons (xTup xNil) xNil))) xNil))) xNil))))
def l5 (β : Addr) : TDS := (yIf [] (xNot (xTru (xCall (dAll fun ks => ks.all id) (xCons (xLcE [12] (xiAny (xOp dAdd (xSlO 6 xNoPart (xPart (xC (.int 4)))) (xLst (xCons (xTup xNil) xNil)))) (zName 12) xYes (xFn β cRunSo (xCons (xVar 1) (xCons (xVar 4) (xCons (xVar 5) (xCons (xVar 12) xNil)))))) xNil)))) (yRet [] (xC (.bl false))) yNext)
def l6 (β : Addr) : TDS := (yIf [6] (xOr (xNot (xTru (xFn β cLotSo (xCons (xVar 1) (xCons (xVar 4) (xCons (xVar 5) (xCons (xVar 6) xNil))))))) (xNot (xTru (xFn β cWrongSo (xCons (xVar 1) (xCons (xVar 4) (xCons (xVar 5) (xCons (xVar 6) xNil)))))))) (yRet [] (xC (.bl false))) yNext)
def l7 (β : Addr) : TDS := (yFor [] (xiAny (xSlO 6 xNoPart (xPart (xC (.int 4))))) (zName 8) (yFor [] (xiAny (xSlO 6 (xPart (xC (.int 2))) (xPart (xC (.int 7))))) (zName 9) (ySeq (yPar [] 10 11 (xCons (xFn β cRunKey (xCons (xVar 4) (xCons (xVar 8) xNil))) (xCons (xFn β cRunKey (xCons (xVar 4) (xCons (xVar 9) xNil))) xNil))) (yIf [] (xNot (xTru (xFn β (cLike 6) (xCons (xLst (xCons (xOp dLtN (xVar 10) (xVar 11)) (xCons (xOp (dEq false) (xVar 10) (xVar 11)) xNil))) (xCons (xLst (xCons (xFn β cAhead (xCons (xVar 5) (xCons (xVar 8) (xCons (xVar 9) xNil)))) (xCons (xOp (dEq false) (xVar 8) (xVar 9)) xNil))) xNil))))) (yRet [] (xC (.bl false))) yNext))))
abbrev stt (a β : Addr) (s2 s3 s4 s5 s6 s7 s8 s9 s10 s11 s12 : Sl) : DSt := [.val (.adr a), .val (.adr β), s2, s3, s4, s5, s6, s7, s8, s9, s10, s11, s12]
theorem law_eq (K : PySem.W.Frag) (β : Addr) : td_law K cParts cOf cListed cLetters cDraw cRunOf cRunSo cWrongSo cLotSo cRunKey (cLike 6) cAhead β = ySeq (yFor [] (xiRng1 (xCons (xC (.int 3)) xNil)) (zName 2) (ySeq (l0 β) (ySeq (l1 β) (ySeq (l2 β) (ySeq (l3 β) (ySeq (l4 β) (ySeq (l5 β) (ySeq (l6 β) (l7 β))))))))) (yRet [] (xC (.bl true))) := rfl
section
variable {a β : Addr} {s2 s3 s4 s5 s6 s7 s8 s9 s10 s11 s12 : Sl} {Dd : DEnds}
theorem l0_ok (h : ∀ ps, Parts ps → Dd.nx (stt a β s2 (.val (partsD ps)) s4 s5 s6 s7 s8 s9 s10 s11 s12)) : l0 β Dd (stt a β s2 s3 s4 s5 s6 s7 s8 s9 s10 s11 s12) := by
  repeat (first | refine ⟨_, rfl, ?_⟩ | refine ⟨by (rw [sizeLine_eq]; first | omega | exact Nat.le_of_ble_eq_true rfl | (simp only [Str.length_append]; omega)), ?_⟩)
  refine .inl ⟨_, rfl, (by show 0 < 9; decide), (by show 9 < 1073741824; decide), fun d hd => ?_⟩
  obtain ⟨sizes, rfl, h1, h2, h3, h4⟩ : ∃ sizes : List Nat, d = .tup (sizes.map fun s => .int ((s : Nat) : Int)) ∧ sizes ≠ [] ∧ sizes.length ≤ 3 ∧ (∀ s ∈ sizes, 1 ≤ s ∧ s ≤ 16) ∧ prodL sizes ≤ 16 := by
    simp only [List.mem_cons, List.not_mem_nil, or_false] at hd
    rcases hd with rfl | rfl | rfl | rfl | rfl | rfl | rfl | rfl | rfl
    · exact ⟨[2], rfl, by decide, by decide, by decide, by decide⟩
    · exact ⟨[2, 2], rfl, by decide, by decide, by decide, by decide⟩
    · exact ⟨[3], rfl, by decide, by decide, by decide, by decide⟩
    · exact ⟨[1], rfl, by decide, by decide, by decide, by decide⟩
    · exact ⟨[2, 1, 2], rfl, by decide, by decide, by decide, by decide⟩
    · exact ⟨[4], rfl, by decide, by decide, by decide, by decide⟩
    · exact ⟨[3, 5], rfl, by decide, by decide, by decide, by decide⟩
    · exact ⟨[12], rfl, by decide, by decide, by decide, by decide⟩
    · exact ⟨[1, 2], rfl, by decide, by decide, by decide, by decide⟩
  exact ⟨sizes, rfl, h1, h2, h3, h4, fun ps hps => h ps hps⟩
theorem l1_ok {ps : List Part} (hps : Parts ps) (h : ∀ L, IsL ps L → Dd.nx (stt a β s2 s3 (.val L) (.val (mineD (rowsOf ps))) s6 s7 s8 s9 s10 s11 s12)) (e3 : s3 = .val (partsD ps)) : l1 β Dd (stt a β s2 s3 s4 s5 s6 s7 s8 s9 s10 s11 s12) := by
  subst e3
  refine ⟨_, rfl, ps, rfl, hps, fun L hL => ?_⟩
  exact ⟨_, rfl, ps, rfl, hps, by (rw [sizeLine_eq]; first | omega | exact Nat.le_of_ble_eq_true rfl | (simp only [Str.length_append]; omega)), rfl, rfl, h L hL⟩
section
variable {w : Nat} {mine : List Str} {L : D}
theorem of_mine (M : Mine w mine) {Q : QD} {E : XD} (h : ∀ x ∈ mine, Q (.str x)) : cOf β [.adr β, mineD mine] Q E := ⟨_, rfl, .inl ⟨_, rfl, by rw [List.length_map]; exact List.length_pos_iff.mpr M.ne, by rw [List.length_map]; have := M.few; omega, fun d hd => by
  obtain ⟨x, hx, rfl⟩ := List.mem_map.mp hd
  exact h x hx⟩⟩
theorem l2_ok (M : Mine w mine) (h : ∀ xs : List Rn, xs.length ≤ 6 → (∀ r ∈ xs, Sane mine r) → Dd.nx (stt a β s2 s3 s4 (.val (mineD mine)) (.own (.lst (xs.map runD))) s7 s8 s9 s10 s11 s12)) : l2 β Dd (stt a β s2 s3 s4 (.val (mineD mine)) s6 s7 s8 s9 s10 s11 s12) := by
  refine ⟨_, rfl, _, rfl, by decide, by decide, fun m h0 h1 => ?_⟩
  have ml : (rangeD 0 m.toNat).length ≤ 6 := by rw [rangeD_len]; omega
  refine ⟨by omega, by omega, by rw [sizeLine_eq]; omega, ?_⟩
  refine compD_all (Sane mine) runD _ _ (fun d _ k hk => ⟨_, rfl, _, rfl, _, rfl, by (rw [sizeLine_eq]; first | omega | exact Nat.le_of_ble_eq_true rfl | (simp only [Str.length_append]; omega)), _, rfl, .inl ⟨_, rfl, (by show 0 < 5; decide), (by show 5 < 1073741824; decide), fun d hd => ?_⟩⟩) fun xs hl hx => h xs (by omega) hx
  obtain ⟨j, rfl, hj⟩ : ∃ j : Nat, d = .int ((j : Nat) : Int) ∧ j ≤ 4 := by
    simp only [List.mem_cons, List.not_mem_nil, or_false] at hd
    rcases hd with rfl | rfl | rfl | rfl | rfl
    · exact ⟨1, rfl, by decide⟩
    · exact ⟨2, rfl, by decide⟩
    · exact ⟨2, rfl, by decide⟩
    · exact ⟨3, rfl, by decide⟩
    · exact ⟨4, rfl, by decide⟩
  exact ⟨mine, j, rfl, M.ne, M.few, hj, fun r hr hl => hk r ⟨hr, by omega⟩⟩
theorem l3_ok (M : Mine w mine) {xs : List Rn} (hl : xs.length ≤ 6) (hx : ∀ r ∈ xs, Sane mine r) (h : ∀ xs : List Rn, xs.length ≤ 7 → (∀ r ∈ xs, Sane mine r) → Dd.nx (stt a β s2 s3 s4 (.val (mineD mine)) (.own (.lst (xs.map runD))) s7 s8 s9 s10 s11 s12)) : l3 β Dd (stt a β s2 s3 s4 (.val (mineD mine)) (.own (.lst (xs.map runD))) s7 s8 s9 s10 s11 s12) := by
  refine ⟨_, rfl, _, rfl, by decide, by decide, fun m h0 h1 => ⟨_, rfl, ?_⟩⟩
  by_cases e : m = 0
  · refine iteT (decide_eq_true e) ?_
    refine ⟨_, rfl, by decide, by decide, by decide, by rw [rangeD_len, sizeLine_eq]; decide, ?_⟩
    refine compD_all (fun x => x ∈ mine) D.str _ _ (fun d _ k hk => ⟨_, rfl, _, rfl, of_mine (E := fun _ _ => False) M hk⟩) fun ys yl yx => ?_
    refine ⟨by rw [List.length_map, sizeLine_eq]; omega, ?_⟩
    have := h (xs ++ [ys]) (by rw [List.length_append]; show _ + 1 ≤ 7; omega) (fun r hr => by
      rcases List.mem_append.mp hr with hr | hr
      · exact hx r hr
      · rw [List.mem_singleton.mp hr]
        refine ⟨yx, ?_⟩
        rw [rangeD_len] at yl
        have : ys.length = 39 := yl
        omega)
    rw [List.map_append] at this
    exact this
  · refine iteF (decide_eq_false e) ?_
    exact h xs (by omega) hx
theorem l4_ok (M : Mine w mine) {xs : List Rn} (hl : xs.length ≤ 7) (hx : ∀ r ∈ xs, Sane mine r) (h : ∀ (xs : List Rn) (s7 : Sl), xs.length ≤ 10 → (∀ r ∈ xs, Sane mine r) → Dd.nx (stt a β s2 s3 s4 (.val (mineD mine)) (.own (.lst (xs.map runD))) s7 s8 s9 s10 s11 s12)) : l4 β Dd (stt a β s2 s3 s4 (.val (mineD mine)) (.own (.lst (xs.map runD))) s7 s8 s9 s10 s11 s12) := by
  refine ⟨_, rfl, _, rfl, by decide, by decide, fun m h0 h1 => ?_⟩
  refine ⟨by omega, by omega, ?_⟩
  have go : ∀ (ds : List D) (xs : List Rn) (s7 : Sl), xs.length + ds.length ≤ 10 → (∀ r ∈ xs, Sane mine r) → loopD (zName 7) (yOM [] 6 oInsert (xCons (xFn β cDraw (xCons (xVar 1) (xCons (xOp dAdd (xLenO 6) (xC (.int 1))) xNil))) (xCons (xFn β cOf (xCons (xVar 1) (xCons (xCatO 6 (xLst (xCons (xTup xNil) xNil))) xNil))) xNil))) Dd ds (stt a β s2 s3 s4 (.val (mineD mine)) (.own (.lst (xs.map runD))) s7 s8 s9 s10 s11 s12) := by
    intro ds
    induction ds with
    | nil => intro xs s7 hl hx; exact h xs s7 (by simpa using hl) hx
    | cons d ds ih =>
      intro xs s7 hl hx
      rw [List.length_cons] at hl
      refine ⟨_, rfl, by decide, _, rfl, _, rfl, _, rfl, ?_, ?_, fun sp h0 h1 => ?_⟩
      · show (0 : Int) < ((xs.map runD).length : Nat) + 1
        omega
      · show (((xs.map runD).length : Nat) : Int) + 1 < 1073741824
        rw [List.length_map]; omega
      obtain ⟨n, rfl⟩ := Int.eq_ofNat_of_zero_le h0
      refine ⟨_, rfl, _, rfl, by (rw [sizeLine_eq]; first | omega | exact Nat.le_of_ble_eq_true rfl | (simp only [Str.length_append]; omega)), by (rw [sizeLine_eq]; first | omega | exact Nat.le_of_ble_eq_true rfl | (simp only [Str.length_append]; omega)), _, rfl, by rw [List.length_map, sizeLine_eq]; show _ + 1 ≤ _; omega, _, rfl, .inl ⟨_, rfl, by rw [List.length_append]; show 0 < _ + 1; omega, by rw [List.length_append, List.length_map]; show _ + 1 < _; omega, fun d hd => ?_⟩⟩
      obtain ⟨r, rfl, hr⟩ : ∃ r, d = runD r ∧ Sane mine r := by
        rcases List.mem_append.mp hd with hd | hd
        · obtain ⟨r, hr, rfl⟩ := List.mem_map.mp hd
          exact ⟨r, rfl, hx r hr⟩
        · rw [List.mem_singleton.mp hd]
          exact ⟨[], rfl, ⟨fun x hx => (by cases hx), (by decide)⟩⟩
      refine ⟨by rw [List.length_map, sizeLine_eq]; omega, by omega, by
        have h1 : ((n : Nat) : Int) < ((xs.map runD).length : Nat) + 1 := h1
        rw [List.length_map] at h1; omega, ?_⟩
      have ei : (xs.map runD).take (((n : Nat) : Int)).toNat ++ [runD r] ++ (xs.map runD).drop (((n : Nat) : Int)).toNat = (xs.take n ++ [r] ++ xs.drop n).map runD := by
        rw [Int.toNat_natCast, List.map_append, List.map_append, List.map_take, List.map_drop]; rfl
      have := ih (xs.take n ++ [r] ++ xs.drop n) (.val d) (by
        rw [List.length_append, List.length_append, List.length_take, List.length_drop]
        show min n xs.length + 1 + (xs.length - n) + ds.length ≤ 10
        omega) (fun q hq => by
          rw [List.mem_append, List.mem_append, List.mem_singleton] at hq
          rcases hq with (hq | rfl) | hq
          · exact hx q (List.mem_of_mem_take hq)
          · exact hr
          · exact hx q (List.mem_of_mem_drop hq))
      rw [← ei] at this
      exact this
  exact go _ xs _ (by rw [rangeD_len]; omega) hx
theorem l5_ok {ps : List Part} {xs : List Rn} (hL : IsL ps L) (hps : Parts ps) (hl : xs.length ≤ 10) (hx : ∀ r ∈ xs, Sane (rowsOf ps) r) (h : Dd.nx (stt a β s2 s3 (.val L) (.val (mineD (rowsOf ps))) (.own (.lst (xs.map runD))) s7 s8 s9 s10 s11 s12)) : l5 β Dd (stt a β s2 s3 (.val L) (.val (mineD (rowsOf ps))) (.own (.lst (xs.map runD))) s7 s8 s9 s10 s11 s12) := by
  have ec : DL.cutD (xs.map runD) none (some 4) ++ [D.tup []] = (DL.cutD xs none (some 4) ++ [[]]).map runD := by rw [cutD_map, List.map_append]; rfl
  have hc : (DL.cutD xs none (some 4)).length ≤ 10 := by
    unfold DL.cutD
    rw [List.length_take, List.length_drop]; omega
  have lc : (DL.cutD (xs.map runD) none (some 4)).length ≤ 10 := by rw [cutD_map, List.length_map]; exact hc
  refine ⟨_, rfl, _, rfl, by (rw [sizeLine_eq]; first | omega | exact Nat.le_of_ble_eq_true rfl | (simp only [Str.length_append]; omega)), by (rw [sizeLine_eq]; first | omega | exact Nat.le_of_ble_eq_true rfl | (simp only [Str.length_append]; omega)), by rw [sizeLine_eq]; show _ + 1 ≤ _; omega, _, rfl, by rw [List.length_append, sizeLine_eq]; show _ + 1 ≤ _; omega, ?_⟩
  show compD _ _ _ _ (DL.cutD (xs.map runD) none (some 4) ++ [D.tup []]) _
  rw [ec]
  refine compD_map runD (fun _ => .bl true) _ _ (fun r hr k hk => ?_) ?_
  · refine ⟨_, rfl, _, rfl, _, rfl, _, rfl, ps, L, r, rfl, hL, hps, ?_, hk⟩
    rcases List.mem_append.mp hr with hr | hr
    · exact hx r (cutD_mem hr)
    · rw [List.mem_singleton.mp hr]
      exact ⟨fun x hx => (by cases hx), (by decide)⟩
  · refine ⟨_, blsD_map (fun _ => true) _, _, rfl, ?_⟩
    refine iteF (by
      show (!((DL.cutD xs none (some 4) ++ [[]]).map fun _ => true).all id) = false
      rw [List.all_map]
      have e1 : ∀ zs : List Rn, zs.all (id ∘ fun _ => true) = true := fun zs => List.all_eq_true.mpr fun _ _ => rfl
      rw [e1]; rfl) h
theorem l6_ok {ps : List Part} {xs : List Rn} (hL : IsL ps L) (hps : Parts ps) (hl : xs.length ≤ 10) (hx : ∀ r ∈ xs, Sane (rowsOf ps) r) (h : Dd.nx (stt a β s2 s3 (.val L) (.val (mineD (rowsOf ps))) (.own (.lst (xs.map runD))) s7 s8 s9 s10 s11 s12)) : l6 β Dd (stt a β s2 s3 (.val L) (.val (mineD (rowsOf ps))) (.own (.lst (xs.map runD))) s7 s8 s9 s10 s11 s12) := by
  refine ⟨_, rfl, _, rfl, _, rfl, _, rfl, ps, L, xs, rfl, hL, hps, hx, by omega, true, rfl, iteF rfl ?_⟩
  exact ⟨_, rfl, _, rfl, _, rfl, _, rfl, ps, L, xs, rfl, hL, hps, hx, by omega, true, rfl, iteF rfl h⟩
theorem py_key (mine : List Str) (r : Rn) : (keyD' mine r).py = some (.tuple [.int r.length, .tuple ((r.map fun x => ((idx mine x : Nat) : Int)).map PyData.int)]) := by
  have e1 : D.pys (r.map fun x => D.int ((idx mine x : Nat) : Int)) = some ((r.map fun x => ((idx mine x : Nat) : Int)).map PyData.int) := by
    rw [List.map_map]
    exact pys_map _ _ (fun x => by unfold D.py; rfl) r
  have e2 : (D.tup (r.map fun x => D.int ((idx mine x : Nat) : Int))).py = some (.tuple ((r.map fun x => ((idx mine x : Nat) : Int)).map PyData.int)) := by
    rw [show (D.tup (r.map fun x => D.int ((idx mine x : Nat) : Int))).py = (D.pys (r.map fun x => D.int ((idx mine x : Nat) : Int))).map PyData.tuple from by conv => lhs; unfold D.py]
    rw [e1]; rfl
  have e3 : D.pys [D.int r.length, D.tup (r.map fun x => D.int ((idx mine x : Nat) : Int))] = some [.int r.length, .tuple ((r.map fun x => ((idx mine x : Nat) : Int)).map PyData.int)] := by
    have a1 : (D.int (r.length : Int)).py = some (.int r.length) := by unfold D.py; rfl
    have a0 : D.pys [] = some [] := by unfold D.pys; rfl
    conv => lhs; unfold D.pys
    rw [a1]
    conv => lhs; unfold D.pys
    rw [e2, a0]; rfl
  show (D.tup [D.int r.length, D.tup (r.map fun x => D.int ((idx mine x : Nat) : Int))]).py = _
  rw [show (D.tup [D.int r.length, D.tup (r.map fun x => D.int ((idx mine x : Nat) : Int))]).py = (D.pys [D.int r.length, D.tup (r.map fun x => D.int ((idx mine x : Nat) : Int))]).map PyData.tuple from by conv => lhs; unfold D.py]
  rw [e3]; rfl
theorem lay_is : ∀ ns : List Int, PyData.canLayAll0 (ns.map PyData.int) = true
  | [] => by unfold PyData.canLayAll0; rfl
  | n :: ns => by
    rw [List.map_cons]
    unfold PyData.canLayAll0 PyData.canLay0
    rw [lay_is ns]; rfl
theorem key_shaped (mine : List Str) (r : Rn) : SeqAt.shaped (.tuple [.int r.length, .tuple ((r.map fun x => ((idx mine x : Nat) : Int)).map PyData.int)]) = true := by
  unfold SeqAt.shaped
  simp only [PyData.canLay0, PyData.canLayAll0, lay_is, PyData.depth, PyData.depthAll, depth_ints]; rfl
theorem eqv_key {mine : List Str} {x y : Rn} (hx : Ok mine x) (hy : Ok mine y) : PyData.eqv (.tuple [.int x.length, .tuple ((x.map fun z => ((idx mine z : Nat) : Int)).map PyData.int)]) (.tuple [.int y.length, .tuple ((y.map fun z => ((idx mine z : Nat) : Int)).map PyData.int)]) = decide (x = y) := by
  simp only [PyData.eqv, PyData.eqvAll, eqv_ints]
  by_cases h : x = y
  · subst h; simp
  · have : ¬ (x.map fun z => ((idx mine z : Nat) : Int)) = y.map fun z => ((idx mine z : Nat) : Int) := fun e => h (map_idx_inj hx hy e)
    simp [h, this]
theorem l7_ok {ps : List Part} {xs : List Rn} (hL : IsL ps L) (hps : Parts ps) (hl : xs.length ≤ 10) (hx : ∀ r ∈ xs, Sane (rowsOf ps) r) (h : ∀ s8 s9 s10 s11, Dd.nx (stt a β s2 s3 (.val L) (.val (mineD (rowsOf ps))) (.own (.lst (xs.map runD))) s7 s8 s9 s10 s11 s12)) : l7 β Dd (stt a β s2 s3 (.val L) (.val (mineD (rowsOf ps))) (.own (.lst (xs.map runD))) s7 s8 s9 s10 s11 s12) := by
  have M := hps.mine
  refine ⟨_, rfl, _, rfl, _, rfl, ?_⟩
  have ec : ∀ lo hi, DL.cutD (xs.map runD) lo hi = (DL.cutD xs lo hi).map runD := fun lo hi => cutD_map _ _ _ _
  refine loopD_inv (fun δ => ∃ s8 s9 s10 s11, δ = stt a β s2 s3 (.val L) (.val (mineD (rowsOf ps))) (.own (.lst (xs.map runD))) s7 s8 s9 s10 s11 s12) _ (fun d hd δ hI nx hnx => ?_) (fun δ hI => by
    obtain ⟨_, _, _, _, rfl⟩ := hI
    exact h _ _ _ _) _ ⟨_, _, _, _, rfl⟩
  obtain ⟨t8, t9, t10, t11, rfl⟩ := hI
  rw [ec] at hd
  obtain ⟨x, hx1, rfl⟩ := List.mem_map.mp hd
  have sx := hx x (cutD_mem hx1)
  refine ⟨_, rfl, _, rfl, _, rfl, _, rfl, ?_⟩
  refine loopD_inv (fun δ => ∃ s9 s10 s11, δ = stt a β s2 s3 (.val L) (.val (mineD (rowsOf ps))) (.own (.lst (xs.map runD))) s7 (.val (runD x)) s9 s10 s11 s12) _ (fun d hd δ hI nx2 hnx2 => ?_) (fun δ hI => by
    obtain ⟨_, _, _, rfl⟩ := hI
    exact hnx _ ⟨_, _, _, _, rfl⟩) _ ⟨_, _, _, rfl⟩
  obtain ⟨t9, t10, t11, rfl⟩ := hI
  rw [ec] at hd
  obtain ⟨y, hy1, rfl⟩ := List.mem_map.mp hd
  have sy := hx y (cutD_mem hy1)
  have key : ∀ (r : Rn) (Q : QD) (E : XD), Sane (rowsOf ps) r → Q (keyD' (rowsOf ps) r) → (if okB (rowsOf ps) r = true then Q (keyD' (rowsOf ps) r) else E "BadRun" (eRun 0)) := fun r Q E hr q => by
    rw [if_pos (okB_iff.mpr hr.1)]; exact q
  refine ⟨_, rfl, _, rfl, ps, L, x, rfl, hL, by have := sx.2; rw [sizeLine_eq]; omega, ?_⟩
  rw [if_pos (okB_iff.mpr sx.1)]
  refine ⟨_, rfl, _, rfl, ps, L, y, rfl, hL, by have := sy.2; rw [sizeLine_eq]; omega, ?_⟩
  rw [if_pos (okB_iff.mpr sy.1)]
  refine ⟨_, _, rfl, ?_⟩
  have lx := sx.2
  have ly := sy.2
  refine ⟨_, rfl, _, rfl, keyN (rowsOf ps) x, keyN (rowsOf ps) y, (keyD_n _ _).symm, (keyD_n _ _).symm, key_alike _ _ _, key_depth _ _, ?_⟩
  refine ⟨_, rfl, _, rfl, _, _, py_key _ x, py_key _ y, key_shaped _ x, key_shaped _ y, by (rw [sizeLine_eq]; first | omega | exact Nat.le_of_ble_eq_true rfl | (simp only [Str.length_append]; omega)), ?_⟩
  refine ⟨_, rfl, _, rfl, _, rfl, rowsOf ps, x, y, rfl, M.nd, sx.1, sy.1, by omega, by omega, ?_⟩
  refine ⟨_, rfl, _, rfl, _, _, py_run x, py_run y, run_shaped M sx.1, run_shaped M sy.1, by (rw [sizeLine_eq]; first | omega | exact Nat.le_of_ble_eq_true rfl | (simp only [Str.length_append]; omega)), ?_⟩
  refine ⟨.lst [.bl (aheadB (rowsOf ps) x y), .bl (decide (x = y))], ?_, .lst 5 _ (fun d hd => ?_) (by show 2 ≤ 20000; decide), true, rfl, iteF rfl (hnx2 _ ⟨_, _, _, rfl⟩)⟩
  · show [D.lst [D.bl (PySem.W.dataLt (NestedKey.tup (keyN (rowsOf ps) x)).data (NestedKey.tup (keyN (rowsOf ps) y)).data), D.bl (PyData.eqv (.tuple [.int x.length, .tuple ((x.map fun z => ((idx (rowsOf ps) z : Nat) : Int)).map PyData.int)]) (.tuple [.int y.length, .tuple ((y.map fun z => ((idx (rowsOf ps) z : Nat) : Int)).map PyData.int)]))], D.lst [D.bl _, D.bl (PyData.eqv (pyRun x) (pyRun y))]] = _
    rw [key_lt, eqv_key sx.1 sy.1, eqv_run]
  · simp only [List.mem_cons, List.not_mem_nil, or_false] at hd
    rcases hd with rfl | rfl <;> exact .bl _ _
end
theorem k_law {K : PySem.W.Frag} : ∀ (a β : Addr) (Qd : QD) (Dd : DEnds), Dd.rt = Qd → Qd (.bl true) → td_law K cParts cOf cListed cLetters cDraw cRunOf cRunSo cWrongSo cLotSo cRunKey (cLike 6) cAhead β Dd (.val (.adr a) :: .val (.adr β) :: List.replicate (N_law.length - 2) .non) := by
  intro a β Qd Dd hrt hq
  rw [law_eq]
  refine ⟨by decide, by decide, ?_⟩
  refine loopD_inv (fun δ => ∃ s2 s3 s4 s5 s6 s7 s8 s9 s10 s11 s12, δ = stt a β s2 s3 s4 s5 s6 s7 s8 s9 s10 s11 s12) _ (fun d _ δ hI nx hnx => ?_) (fun δ hI => by
    show Dd.rt (.bl true)
    rw [hrt]; exact hq) _ ⟨_, _, _, _, _, _, _, _, _, _, _, rfl⟩
  obtain ⟨s2, s3, s4, s5, s6, s7, s8, s9, s10, s11, s12, rfl⟩ := hI
  refine l0_ok (s2 := .val d) fun ps hps => ?_
  refine l1_ok hps (fun L hL => ?_) rfl
  refine l2_ok hps.mine fun xs hl hx => ?_
  refine l3_ok hps.mine hl hx fun xs hl hx => ?_
  refine l4_ok hps.mine hl hx fun xs s7 hl hx => ?_
  refine l5_ok hL hps hl hx ?_
  refine l6_ok hL hps hl hx ?_
  refine l7_ok hL hps hl hx fun s8 s9 s10 s11 => ?_
  exact hnx _ ⟨_, _, _, _, _, _, _, _, _, _, _, rfl⟩
end
end K02


namespace K02
open PySem PySem.Spec PyProof.Rows L2 EX DL PL TL
section
variable {P : Program} {w : World} {K : PySem.W.Frag} {mg : Str → Option Value} {base : Heap} {T : TbL}
def cNo : DC := fun _ _ _ _ => False
/-- a def of which nothing is promised -/
theorem okD_no {x qual : Str} {st : Stmt} {fd : FuncData} {ps : List Str} (g : mg x = some (.ref (He.ga K x))) (F : Fun K x qual st (He.ga K x) fd) (b : Binds K fd ps []) (k : Nat) : OkD P w K mg base T k x ps cNo :=
  ⟨fd, g, F.kp, b, ⟨fun vs H Q E ⟨_, _, _, _, _, _, _, _, _, z, _⟩ => z.elim, fun A outer s H args us vs Q E _ _ _ _ ⟨_, _, _, _, _, _, _, _, _, z, _⟩ => z.elim⟩⟩

theorem r_draw (e : En K mg) : OkD P w K mg base T 1 "_law_draw" ["bag", "size"] cDraw :=
  ok__law_draw e
theorem r_of (e : En K mg) : OkD P w K mg base T 2 "_law_of" ["bag", "things"] cOf :=
  ok__law_of e (r_draw e) (fun β ds Q E h => by obtain ⟨_, rfl, _⟩ := h; rfl) k_of
theorem r_name (e : En K mg) : OkD P w K mg base T 3 "_law_name" ["bag"] cLawName :=
  ok__law_name e ((r_draw e).mono (by decide)) ((r_of e).mono (by decide)) (fun β ds Q E h => by obtain ⟨rfl, _⟩ := h; rfl) k_name
theorem r_fresh (e : En K mg) : OkD P w K mg base T 4 "_law_fresh" ["bag", "taken"] cFresh :=
  ok__law_fresh e ((r_name e).mono (by decide)) ((r_draw e).mono (by decide)) (fun β ds Q E h => by obtain ⟨_, rfl, _⟩ := h; rfl) k_fresh
theorem r_parts (e : En K mg) : OkD P w K mg base T 5 "_law_parts" ["bag", "sizes"] cParts :=
  ok__law_parts e ((r_of e).mono (by decide)) ((r_draw e).mono (by decide)) ((r_fresh e).mono (by decide)) (fun β ds Q E h => by obtain ⟨_, rfl, _⟩ := h; rfl) k_parts
theorem r_is_name (e : En K mg) : OkD P w K mg base T 1 "is_name" ["text"] cName :=
  ok_is_name (k := 0) e (fun β ds Q E h => by obtain ⟨_, rfl, _⟩ := h; rfl) k_is_name
theorem r_signs (e : En K mg) : OkD P w K mg base T 1 "_are_signs" ["text"] cSigns :=
  ok__are_signs (k := 0) e (fun β ds Q E h => by obtain ⟨_, rfl, _⟩ := h; rfl) k_signs
theorem r_init (e : En K mg) : OkI P w K mg base T 3 "Letters" cInit :=
  ok_Letters___init__ (k := 2) e ((r_signs e).mono (by decide)) ((r_is_name e).mono (by decide)) (mkc_TooMany e) (mkc_BadLetters e) (by decide) (fun β ds Q E h => by obtain ⟨ps, rfl, hp, _⟩ := h; rw [List.length_map, sizeLine_eq]; have := hp.few; omega) k_init
theorem r_letters (e : En K mg) : OkD P w K mg base T 5 "_law_letters" ["parts"] cLetters :=
  ok__law_letters (k := 4) e (r_init e) (by decide) (fun β ds Q E h => by obtain ⟨_, rfl, _⟩ := h; rfl) k_letters
theorem r_listed (e : En K mg) : OkD P w K mg base T 1 "_law_listed" ["parts"] cListed :=
  ok__law_listed (k := 0) e (fun β ds Q E h => by obtain ⟨_, rfl, _⟩ := h; rfl) k_listed
theorem r_is_letter (e : En K mg) : OkM P w K mg base T 1 "Letters" "is_letter" ["self", "text"] cLet :=
  ok_Letters_is_letter (k := 0) e (fun β ds Q E h => by obtain ⟨_, _, _, rfl, _⟩ := h; rfl) k_is_letter
theorem r_place (e : En K mg) : OkM P w K mg base T 3 "Letters" "place" ["self", "letter"] cPlace :=
  ok_Letters_place (k := 2) e (mkc_BadNumber e) (by decide) (fun β ds Q E h => by obtain ⟨_, _, _, rfl, _⟩ := h; rfl) k_place
theorem r_is_run (e : En K mg) : OkD P w K mg base T 2 "is_run" ["letters", "run"] cIsRun :=
  ok_is_run (k := 1) e (r_is_letter e) (fun β ds Q E h => by obtain ⟨_, _, _, rfl, _⟩ := h; rfl) k_is_run
theorem rK_is_run (e : En K mg) : OkK P w K mg base T 2 "is_run" ["letters", "run"] cIsRun 0 ["letters", "run"] [0, 1] :=
  okK_is_run_0_letters_run (k := 1) e (r_is_letter e) (fun β ds Q E h => by obtain ⟨_, _, _, rfl, _⟩ := h; rfl) k_is_run
theorem r_run_text (e : En K mg) : OkD P w K mg base T 1 "run_text" ["run"] cRunText :=
  ok_run_text (k := 0) e (fun β ds Q E h => by obtain ⟨_, rfl, _⟩ := h; rfl) k_run_text
theorem rK_run_text (e : En K mg) : OkK P w K mg base T 1 "run_text" ["run"] cRunText 0 ["run"] [0] :=
  okK_run_text_0_run (k := 0) e (fun β ds Q E h => by obtain ⟨_, rfl, _⟩ := h; rfl) k_run_text
theorem r_read_run (e : En K mg) : OkD P w K mg base T 3 "read_run" ["letters", "text"] cReadRun :=
  ok_read_run (k := 2) e (r_is_run e) (mkc_BadText e) (by decide) (fun β ds Q E h => by obtain ⟨_, _, _, rfl, _⟩ := h; rfl) k_read_run
theorem r_run_key (e : En K mg) : OkD P w K mg base T 4 "run_key" ["letters", "run"] cRunKey :=
  ok_run_key (k := 3) e ((r_is_run e).mono (by decide)) (r_place e) (mkc_BadRun e) (by decide) (fun β ds Q E h => by obtain ⟨_, _, _, rfl, _⟩ := h; rfl) k_run_key
theorem rK_run_key (e : En K mg) : OkK P w K mg base T 4 "run_key" ["letters", "run"] cRunKey 0 ["letters", "run"] [0, 1] :=
  okK_run_key_0_letters_run (k := 3) e ((r_is_run e).mono (by decide)) (r_place e) (mkc_BadRun e) (by decide) (fun β ds Q E h => by obtain ⟨_, _, _, rfl, _⟩ := h; rfl) k_run_key
theorem r_told (e : En K mg) : OkO P w K mg base T 5 "told_lot" ["letters", "lot"] oTold :=
  ok_told_lot (k := 4) e ((r_is_run e).mono (by decide)) (r_run_key e) (mkc_BadRun e) (by decide) (fun β ds Q E h => by obtain ⟨_, _, _, _, rfl, _⟩ := h; rfl) k_told_lot
theorem rK_told (e : En K mg) : OkK P w K mg base T 5 "told_lot" ["letters", "lot"] oTold.d 0 ["letters", "lot"] [0, 1] :=
  okK_told_lot_0_letters_lot (k := 4) e ((r_is_run e).mono (by decide)) (r_run_key e) (mkc_BadRun e) (by decide) (fun β ds Q E h => by obtain ⟨_, _, _, _, rfl, _⟩ := h; rfl) k_told_lot
theorem r_lot_text (e : En K mg) : OkD P w K mg base T 6 "lot_text" ["letters", "lot"] cLotText :=
  ok_lot_text (k := 5) e (r_told e).d ((r_run_text e).mono (by decide)) (fun β ds Q E h => by obtain ⟨_, _, _, _, rfl, _⟩ := h; rfl) k_lot_text
theorem r_read_lot (e : En K mg) : OkD P w K mg base T 6 "read_lot" ["letters", "text"] cReadLot :=
  ok_read_lot (k := 5) e (r_told e).d ((r_read_run e).mono (by decide)) (fun β ds Q E h => by obtain ⟨_, _, _, rfl, _⟩ := h; rfl) k_read_lot
theorem r_like (e : En K mg) : ∀ n : Nat, OkD P w K mg base T (n + 1) "_law_like" ["told", "due"] (cLike n)
  | 0 => by
    obtain ⟨fd, F⟩ := e.d__law_like
    have O0 : OkD P w K mg base T 0 "_law_like" ["told", "due"] cNo := okD_no e.g__law_like F (F.binds fun _ _ _ _ _ _ us hl => match us, hl with | [_, _], _ => rfl) 0
    exact ok__law_like e O0 (fun β ds Q E h => by obtain ⟨_, rfl, _⟩ := h; rfl) (k_like 0 fun m h => by omega)
  | n + 1 => ok__law_like e (r_like e n) (fun β ds Q E h => by obtain ⟨_, rfl, _⟩ := h; rfl) (k_like (n + 1) fun m h β d Q E v q => by
      have : m = n := by omega
      subst this
      exact ⟨d, rfl, v, q⟩)
theorem r_fault (e : En K mg) : OkN P w K mg base T 1 "_law_fault" ["error"] cFault :=
  ok__law_fault (k := 0) e (fun β ds Q E h => by rcases h with ⟨_, rfl, _⟩ | ⟨rfl, _⟩ <;> rfl) (k_fault e.kd)
theorem r_odd (e : En K mg) : OkD P w K mg base T 3 "_law_odd" ["bag", "mine"] cOdd :=
  ok__law_odd (k := 2) e (r_of e) ((r_draw e).mono (by decide)) (fun β ds Q E h => by obtain ⟨_, rfl, _⟩ := h; rfl) k_odd
theorem r_text (e : En K mg) : OkD P w K mg base T 1 "_law_text" ["word"] cText :=
  ok__law_text (k := 0) e (fun β ds Q E h => by obtain ⟨_, rfl, _⟩ := h; rfl) k_text
theorem r_read (e : En K mg) : OkD P w K mg base T 1 "_law_read" ["mine", "text"] cRead :=
  ok__law_read (k := 0) e (fun β ds Q E h => by obtain ⟨_, _, _, rfl, _⟩ := h; rfl) k_read
theorem r_read_lot_l (e : En K mg) : OkD P w K mg base T 2 "_law_read_lot" ["mine", "text"] cReadLotL :=
  ok__law_read_lot (k := 1) e (r_read e) (fun β ds Q E h => by obtain ⟨_, _, _, rfl, _⟩ := h; rfl) k_read_lot_l
theorem r_ahead (e : En K mg) : OkD P w K mg base T 1 "_law_ahead" ["mine", "a", "b"] cAhead :=
  ok__law_ahead (k := 0) e (fun β ds Q E h => by obtain ⟨_, _, _, rfl, _⟩ := h; rfl) k_ahead
theorem r_told_l (e : En K mg) : OkD P w K mg base T 2 "_law_told" ["mine", "runs"] cToldL :=
  ok__law_told (k := 1) e (r_ahead e) (fun β ds Q E h => by obtain ⟨_, _, _, _, rfl, _⟩ := h; rfl) k_told_l
theorem r_run (e : En K mg) : OkD P w K mg base T 3 "_law_run" ["bag", "mine", "most"] cRunOf :=
  ok__law_run (k := 2) e ((r_draw e).mono (by decide)) (r_of e) (fun β ds Q E h => by obtain ⟨_, _, rfl, _⟩ := h; rfl) k_run
theorem r_bent_run (e : En K mg) : OkD P w K mg base T 4 "_law_bent_run" ["bag", "mine", "word"] cBentRun :=
  ok__law_bent_run (k := 3) e ((r_draw e).mono (by decide)) (r_odd e) ((r_of e).mono (by decide)) (fun β ds Q E h => by obtain ⟨_, _, rfl, _⟩ := h; rfl) k_bent_run
theorem r_bent_text (e : En K mg) : OkD P w K mg base T 3 "_law_bent_text" ["bag", "text"] cBentText :=
  ok__law_bent_text (k := 2) e ((r_draw e).mono (by decide)) (r_of e) (fun β ds Q E h => by obtain ⟨_, rfl, _⟩ := h; rfl) k_bent_text
/-- what the heap says of the tables of lambdas -/
structure Lam3 (K : PySem.W.Frag) (mg : Str → Option Value) (base : Heap) (T : TbL) : Prop where
  a : ∀ cdv, codeV K (He.ga K "_law_run_so") = cdv → LMk K mg base T cdv q__law_run_so
  b : ∀ cdv, codeV K (He.ga K "_law_lot_so") = cdv → LMk K mg base T cdv q__law_lot_so
  c : ∀ cdv, codeV K (He.ga K "_law_wrong_so") = cdv → LMk K mg base T cdv q__law_wrong_so
theorem r_run_so (e : En K mg) (l : Lam3 K mg base T) : OkD P w K mg base T 10 "_law_run_so" ["bag", "abc", "mine", "word"] cRunSo :=
  ok__law_run_so (k := 7) e ((r_text e).mono (by decide)) (r_like e 6) ((r_run_key e).mono (by decide)) ((r_read_run e).mono (by decide)) ((r_run_text e).mono (by decide)) ((r_is_run e).mono (by decide)) ((r_bent_run e).mono (by decide)) ((r_bent_text e).mono (by decide)) ((r_read e).mono (by decide)) ((rK_run_text e).mono (by decide)) ((rK_is_run e).mono (by decide)) ((rK_run_key e).mono (by decide)) ((r_fault e).mono (by decide)) (k_askK e.em) l.a (fun β ds Q E h => by obtain ⟨_, _, _, rfl, _⟩ := h; rfl) k_run_so
theorem r_lot_so (e : En K mg) (l : Lam3 K mg base T) : OkD P w K mg base T 10 "_law_lot_so" ["bag", "abc", "mine", "runs"] cLotSo :=
  ok__law_lot_so (k := 7) e ((r_told_l e).mono (by decide)) (r_like e 6) ((r_told e).d.mono (by decide)) ((r_text e).mono (by decide)) ((r_lot_text e).mono (by decide)) ((r_read_lot e).mono (by decide)) ((r_bent_text e).mono (by decide)) ((r_of e).mono (by decide)) ((r_read_lot_l e).mono (by decide)) ((rK_told e).mono (by decide)) ((r_told e).mono (by decide)) ((r_fault e).mono (by decide)) (k_askK e.em) l.b (fun β ds Q E h => by obtain ⟨_, _, _, rfl, _⟩ := h; rfl) k_lot_so
theorem r_wrong_so (e : En K mg) (l : Lam3 K mg base T) : OkD P w K mg base T 10 "_law_wrong_so" ["bag", "abc", "mine", "runs"] cWrongSo :=
  ok__law_wrong_so (k := 7) e ((r_draw e).mono (by decide)) ((r_bent_run e).mono (by decide)) ((r_run e).mono (by decide)) ((r_told_l e).mono (by decide)) ((r_text e).mono (by decide)) (r_like e 6) ((r_told e).d.mono (by decide)) ((r_lot_text e).mono (by decide)) ((r_fault e).mono (by decide)) (k_askK e.em) l.c (fun β ds Q E h => by obtain ⟨_, _, _, rfl, _⟩ := h; rfl) k_wrong_so
theorem ok_law (e : En K mg) (l : Lam3 K mg base T) : ∃ fd, Fun K "law" "law" s_law (He.ga K "law") fd ∧ FnOk P w K mg base (L2.CX P w) 11 (He.ga K "law") fd ["script"] (spLaw K T) :=
  law_ok e (k := 10) (by decide) (fun cdv A outer s H p E hT hP hcv hr => w_law e ((r_parts e).mono (by decide)) ((r_of e).mono (by decide)) ((r_listed e).mono (by decide)) ((r_letters e).mono (by decide)) ((r_draw e).mono (by decide)) ((r_run e).mono (by decide)) (r_run_so e l) (r_wrong_so e l) (r_lot_so e l) ((r_run_key e).mono (by decide)) ((r_like e 6).mono (by decide)) ((r_ahead e).mono (by decide)) cdv A outer s H p E hT hP hcv hr) k_law
end
end K02

namespace K02
open PySem PySem.Spec PyProof.Rows L2 EX DL
def fa : List He.Fa := ([.free "all", .free "bool", .free "enumerate", .free "int", .free "isinstance", .free "len", .free "list", .free "max", .free "range", .free "set", .free "sorted", .free "str", .free "tuple", .free "zip", .glo "RuleError", .glo "BadText", .glo "BadLetters", .glo "BadRun", .glo "BadNumber", .glo "TooMany", .glo "Letters", .glo "is_run", .glo "run_text", .glo "read_run", .glo "run_key", .glo "told_lot", .glo "lot_text", .glo "read_lot", .glo "is_name", .glo "_are_signs"] : List He.Fa) ++ ([.glo "_law_bag", .glo "_law_draw", .glo "_law_of", .glo "_law_like", .glo "_law_name", .glo "_law_fresh", .glo "_law_parts", .glo "_law_letters", .glo "_law_listed", .glo "_law_run", .glo "_law_fault", .glo "_law_ask", .glo "_law_odd", .glo "_law_text", .glo "_law_read", .glo "_law_read_lot", .glo "_law_ahead", .glo "_law_told", .glo "_law_bent_run", .glo "_law_bent_text", .glo "_law_run_so", .glo "_law_lot_so", .glo "_law_wrong_so", .glo "law", .str "EMPTY_RUN" "-", .int "LONGEST_NAME" 6, .int "MOST_LETTERS" 16, .int "MOST_PARTS" 4, .str "SIGNS" "0123456789abcdefghijklmnopqrstuvwxyz", .str "SMALL" "abcdefghijklmnopqrstuvwxyz"] : List He.Fa) ++ ([.cls "Letters", .mkr "Letters", .meth "Letters" "is_letter", .meth "Letters" "place", .meth "Letters" "__str__", .meth "Letters" "__repr__", .meth "Letters" "__eq__", .meth "Letters" "__len__", .meth "Letters" "__contains__"] : List He.Fa)
def fn : List He.DefD := ([⟨("is_run", none), "is_run", "is_run", defArgs (top 10), defBody (top 10), defScope (top 10), [], []⟩, ⟨("run_text", none), "run_text", "run_text", defArgs (top 11), defBody (top 11), defScope (top 11), [], []⟩, ⟨("read_run", none), "read_run", "read_run", defArgs (top 12), defBody (top 12), defScope (top 12), [], []⟩, ⟨("run_key", none), "run_key", "run_key", defArgs (top 13), defBody (top 13), defScope (top 13), [], []⟩, ⟨("told_lot", none), "told_lot", "told_lot", defArgs (top 14), defBody (top 14), defScope (top 14), [], []⟩, ⟨("lot_text", none), "lot_text", "lot_text", defArgs (top 15), defBody (top 15), defScope (top 15), [], []⟩, ⟨("read_lot", none), "read_lot", "read_lot", defArgs (top 16), defBody (top 16), defScope (top 16), [], []⟩, ⟨("is_name", none), "is_name", "is_name", defArgs (top 23), defBody (top 23), defScope (top 23), [], []⟩, ⟨("_are_signs", none), "_are_signs", "_are_signs", defArgs (top 24), defBody (top 24), defScope (top 24), [], []⟩, ⟨("_law_bag", none), "_law_bag", "_law_bag", defArgs (top 27), defBody (top 27), defScope (top 27), [], []⟩, ⟨("_law_draw", none), "_law_draw", "_law_draw", defArgs (top 28), defBody (top 28), defScope (top 28), [], []⟩, ⟨("_law_of", none), "_law_of", "_law_of", defArgs (top 29), defBody (top 29), defScope (top 29), [], []⟩, ⟨("_law_like", none), "_law_like", "_law_like", defArgs (top 30), defBody (top 30), defScope (top 30), [], []⟩, ⟨("_law_name", none), "_law_name", "_law_name", defArgs (top 31), defBody (top 31), defScope (top 31), [], []⟩, ⟨("_law_fresh", none), "_law_fresh", "_law_fresh", defArgs (top 32), defBody (top 32), defScope (top 32), [], []⟩, ⟨("_law_parts", none), "_law_parts", "_law_parts", defArgs (top 33), defBody (top 33), defScope (top 33), [], []⟩, ⟨("_law_letters", none), "_law_letters", "_law_letters", defArgs (top 34), defBody (top 34), defScope (top 34), [], []⟩, ⟨("_law_listed", none), "_law_listed", "_law_listed", defArgs (top 35), defBody (top 35), defScope (top 35), [], []⟩, ⟨("_law_run", none), "_law_run", "_law_run", defArgs (top 36), defBody (top 36), defScope (top 36), [], []⟩, ⟨("_law_fault", none), "_law_fault", "_law_fault", defArgs (top 37), defBody (top 37), defScope (top 37), [], []⟩, ⟨("_law_ask", none), "_law_ask", "_law_ask", defArgs (top 38), defBody (top 38), defScope (top 38), [], []⟩, ⟨("_law_odd", none), "_law_odd", "_law_odd", defArgs (top 39), defBody (top 39), defScope (top 39), [], []⟩, ⟨("_law_text", none), "_law_text", "_law_text", defArgs (top 40), defBody (top 40), defScope (top 40), [], []⟩, ⟨("_law_read", none), "_law_read", "_law_read", defArgs (top 41), defBody (top 41), defScope (top 41), [], []⟩, ⟨("_law_read_lot", none), "_law_read_lot", "_law_read_lot", defArgs (top 42), defBody (top 42), defScope (top 42), [], []⟩, ⟨("_law_ahead", none), "_law_ahead", "_law_ahead", defArgs (top 43), defBody (top 43), defScope (top 43), [], []⟩, ⟨("_law_told", none), "_law_told", "_law_told", defArgs (top 44), defBody (top 44), defScope (top 44), [], []⟩, ⟨("_law_bent_run", none), "_law_bent_run", "_law_bent_run", defArgs (top 45), defBody (top 45), defScope (top 45), [], []⟩, ⟨("_law_bent_text", none), "_law_bent_text", "_law_bent_text", defArgs (top 46), defBody (top 46), defScope (top 46), [], []⟩, ⟨("_law_run_so", none), "_law_run_so", "_law_run_so", defArgs (top 47), defBody (top 47), defScope (top 47), [], []⟩] : List He.DefD) ++ ([⟨("_law_lot_so", none), "_law_lot_so", "_law_lot_so", defArgs (top 48), defBody (top 48), defScope (top 48), [], []⟩, ⟨("_law_wrong_so", none), "_law_wrong_so", "_law_wrong_so", defArgs (top 49), defBody (top 49), defScope (top 49), [], []⟩, ⟨("law", none), "law", "law", defArgs (top 50), defBody (top 50), defScope (top 50), [], []⟩, ⟨("BadText", some "__init__"), "__init__", "BadText.__init__", defArgs (inClass (top 3) 0), defBody (inClass (top 3) 0), defScope (inClass (top 3) 0), [], []⟩, ⟨("BadLetters", some "__init__"), "__init__", "BadLetters.__init__", defArgs (inClass (top 4) 0), defBody (inClass (top 4) 0), defScope (inClass (top 4) 0), [], []⟩, ⟨("BadRun", some "__init__"), "__init__", "BadRun.__init__", defArgs (inClass (top 5) 0), defBody (inClass (top 5) 0), defScope (inClass (top 5) 0), [], []⟩, ⟨("BadNumber", some "__init__"), "__init__", "BadNumber.__init__", defArgs (inClass (top 6) 0), defBody (inClass (top 6) 0), defScope (inClass (top 6) 0), [], []⟩, ⟨("TooMany", some "__init__"), "__init__", "TooMany.__init__", defArgs (inClass (top 7) 0), defBody (inClass (top 7) 0), defScope (inClass (top 7) 0), [], []⟩, ⟨("Letters", some "__init__"), "__init__", "Letters.__init__", defArgs (inClass (top 25) 0), defBody (inClass (top 25) 0), defScope (inClass (top 25) 0), [], []⟩, ⟨("Letters", some "is_letter"), "is_letter", "Letters.is_letter", defArgs (inClass (top 25) 2), defBody (inClass (top 25) 2), defScope (inClass (top 25) 2), [], []⟩, ⟨("Letters", some "place"), "place", "Letters.place", defArgs (inClass (top 25) 3), defBody (inClass (top 25) 3), defScope (inClass (top 25) 3), [], []⟩, ⟨("Letters", some "__str__"), "__str__", "Letters.__str__", defArgs (inClass (top 25) 6), defBody (inClass (top 25) 6), defScope (inClass (top 25) 6), [], []⟩, ⟨("Letters", some "__repr__"), "__repr__", "Letters.__repr__", defArgs (inClass (top 25) 7), defBody (inClass (top 25) 7), defScope (inClass (top 25) 7), [], []⟩, ⟨("Letters", some "__eq__"), "__eq__", "Letters.__eq__", defArgs (inClass (top 25) 8), defBody (inClass (top 25) 8), defScope (inClass (top 25) 8), [], []⟩, ⟨("Letters", some "__len__"), "__len__", "Letters.__len__", defArgs (inClass (top 25) 9), defBody (inClass (top 25) 9), defScope (inClass (top 25) 9), [], []⟩, ⟨("Letters", some "__contains__"), "__contains__", "Letters.__contains__", defArgs (inClass (top 25) 10), defBody (inClass (top 25) 10), defScope (inClass (top 25) 10), [], []⟩] : List He.DefD)
def tf : List He.Defn := [("_law_run_so", none), ("_law_lot_so", none), ("_law_wrong_so", none)]
def qs : List Str := [q__law_run_so ++ "<lambda>", q__law_lot_so ++ "<lambda>", q__law_wrong_so ++ "<lambda>"]
def initB (K : PySem.W.Frag) : Bool := oxt.all fun p => He.eqO (PySem.W.findIn K (.ref (He.ga K p.1)) "__init__") (some (some (.ref (He.ma K (He.ga K p.1) "__init__")))) && decide (PySem.W.typeIn K (.ref (He.ma K (He.ga K p.1) "__init__")) = some (.type "function"))
def obB (K : PySem.W.Frag) : Bool := obt.all fun p => p.2.all fun f => He.eqO (PySem.W.findIn K (.ref (He.ga K p.1)) f) (some none)
def ndB (K : PySem.W.Frag) : Bool := decide ((tf.map fun p => (He.cT K p).2).Nodup)
def ex (K : PySem.W.Frag) : Bool := oxtB K oxt && (initB K && (obB K && (ndB K && (kdB K && (emB K)))))
def loose : List Str := (["RuleError", "BadText", "BadLetters", "BadRun", "BadNumber", "TooMany", "Letters", "_wall", "is_run", "run_text", "read_run", "run_key", "told_lot", "lot_text", "read_lot", "is_name", "_are_signs", "_law_bag", "_law_draw", "_law_of", "_law_like", "_law_name", "_law_fresh", "_law_parts", "_law_letters", "_law_listed", "_law_run", "_law_fault", "_law_ask", "_law_odd"] : List Str) ++ (["_law_text", "_law_read", "_law_read_lot", "_law_ahead", "_law_told", "_law_bent_run", "_law_bent_text", "_law_run_so", "_law_lot_so", "_law_wrong_so", "EMPTY_RUN", "LONGEST_NAME", "MOST_LETTERS", "MOST_PARTS", "SIGNS", "SMALL"] : List Str)
end K02

namespace K02
open PySem PySem.Spec PyProof.Rows L2 EX DL
abbrev R : PySem.W.OpenRow := PySem.W.OpenLaw.row PySem.Challenge.rw_fewbreak_k02_whole_runs_and_lots_read_ba
abbrev hk : PySem.W.Hook := He.hookX 4 fa fn [] tf ex
def ob (s : PySem.W.SharedT) : He.AlX := He.obsX 4 fa fn [] tf ex (HandSHeadRun.getT s)
theorem ob_eq (s : PySem.W.SharedT) : ob s = hk.obs s.abs := He.obsX_eq (HandSHeadRun.getT_eq s)
theorem run (w : World) : HandSHeadRun.RunEq R (PySem.W.view R.prog [50]) hk ob 60000 loose w := by
  intro os
  kernel_rfl
end K02

namespace K02
open PySem PySem.Spec PyProof.Rows L2 EX DL
theorem init_at {K : PySem.W.Frag} (h : initB K = true) {c : Str} {fs : List Str} (hc : (c, fs) ∈ oxt) : PySem.W.findIn K (.ref (He.ga K c)) "__init__" = some (some (.ref (He.ma K (He.ga K c) "__init__"))) ∧ PySem.W.typeIn K (.ref (He.ma K (He.ga K c) "__init__")) = some (.type "function") := by
  obtain ⟨h1, h2⟩ := He.ba (List.all_eq_true.mp h _ hc)
  exact ⟨He.eqO_ok h1, of_decide_eq_true h2⟩
theorem nd_of {K : PySem.W.Frag} {w : World} {h : Heap} (c : He.SaysX fa fn [] tf ex w h K) : (tf.map fun p => (He.cT K p).2).Nodup := by
  obtain ⟨h1, h2⟩ := He.ba c.more
  obtain ⟨m0, h2⟩ := He.ba h2
  obtain ⟨m1, h2⟩ := He.ba h2
  obtain ⟨m2, h2⟩ := He.ba h2
  obtain ⟨m3, h2⟩ := He.ba h2
  exact of_decide_eq_true m2
theorem en_of {K : PySem.W.Frag} {w : World} {h : Heap} {mg : Str → Option Value} (X : K.In h) (G : h.Ns mainGlobals mg) (c : He.SaysX fa fn [] tf ex w h K) : En K mg := by
  obtain ⟨h1, h2⟩ := He.ba c.more
  obtain ⟨m0, h2⟩ := He.ba h2
  obtain ⟨m1, h2⟩ := He.ba h2
  obtain ⟨m2, h2⟩ := He.ba h2
  obtain ⟨m3, h2⟩ := He.ba h2
  have hI := m0
  exact {
    f_all := He.free_ok X G (c.t.d.fact 0 rfl)
    f_bool := He.free_ok X G (c.t.d.fact 1 rfl)
    f_enumerate := He.free_ok X G (c.t.d.fact 2 rfl)
    f_int := He.free_ok X G (c.t.d.fact 3 rfl)
    f_isinstance := He.free_ok X G (c.t.d.fact 4 rfl)
    f_len := He.free_ok X G (c.t.d.fact 5 rfl)
    f_list := He.free_ok X G (c.t.d.fact 6 rfl)
    f_max := He.free_ok X G (c.t.d.fact 7 rfl)
    f_range := He.free_ok X G (c.t.d.fact 8 rfl)
    f_set := He.free_ok X G (c.t.d.fact 9 rfl)
    f_sorted := He.free_ok X G (c.t.d.fact 10 rfl)
    f_str := He.free_ok X G (c.t.d.fact 11 rfl)
    f_tuple := He.free_ok X G (c.t.d.fact 12 rfl)
    f_zip := He.free_ok X G (c.t.d.fact 13 rfl)
    g_RuleError := He.glo_ok X G (c.t.d.fact 14 rfl)
    g_BadText := He.glo_ok X G (c.t.d.fact 15 rfl)
    g_BadLetters := He.glo_ok X G (c.t.d.fact 16 rfl)
    g_BadRun := He.glo_ok X G (c.t.d.fact 17 rfl)
    g_BadNumber := He.glo_ok X G (c.t.d.fact 18 rfl)
    g_TooMany := He.glo_ok X G (c.t.d.fact 19 rfl)
    g_Letters := He.glo_ok X G (c.t.d.fact 20 rfl)
    g_is_run := He.glo_ok X G (c.t.d.fact 21 rfl)
    g_run_text := He.glo_ok X G (c.t.d.fact 22 rfl)
    g_read_run := He.glo_ok X G (c.t.d.fact 23 rfl)
    g_run_key := He.glo_ok X G (c.t.d.fact 24 rfl)
    g_told_lot := He.glo_ok X G (c.t.d.fact 25 rfl)
    g_lot_text := He.glo_ok X G (c.t.d.fact 26 rfl)
    g_read_lot := He.glo_ok X G (c.t.d.fact 27 rfl)
    g_is_name := He.glo_ok X G (c.t.d.fact 28 rfl)
    g__are_signs := He.glo_ok X G (c.t.d.fact 29 rfl)
    g__law_bag := He.glo_ok X G (c.t.d.fact 30 rfl)
    g__law_draw := He.glo_ok X G (c.t.d.fact 31 rfl)
    g__law_of := He.glo_ok X G (c.t.d.fact 32 rfl)
    g__law_like := He.glo_ok X G (c.t.d.fact 33 rfl)
    g__law_name := He.glo_ok X G (c.t.d.fact 34 rfl)
    g__law_fresh := He.glo_ok X G (c.t.d.fact 35 rfl)
    g__law_parts := He.glo_ok X G (c.t.d.fact 36 rfl)
    g__law_letters := He.glo_ok X G (c.t.d.fact 37 rfl)
    g__law_listed := He.glo_ok X G (c.t.d.fact 38 rfl)
    g__law_run := He.glo_ok X G (c.t.d.fact 39 rfl)
    g__law_fault := He.glo_ok X G (c.t.d.fact 40 rfl)
    g__law_ask := He.glo_ok X G (c.t.d.fact 41 rfl)
    g__law_odd := He.glo_ok X G (c.t.d.fact 42 rfl)
    g__law_text := He.glo_ok X G (c.t.d.fact 43 rfl)
    g__law_read := He.glo_ok X G (c.t.d.fact 44 rfl)
    g__law_read_lot := He.glo_ok X G (c.t.d.fact 45 rfl)
    g__law_ahead := He.glo_ok X G (c.t.d.fact 46 rfl)
    g__law_told := He.glo_ok X G (c.t.d.fact 47 rfl)
    g__law_bent_run := He.glo_ok X G (c.t.d.fact 48 rfl)
    g__law_bent_text := He.glo_ok X G (c.t.d.fact 49 rfl)
    g__law_run_so := He.glo_ok X G (c.t.d.fact 50 rfl)
    g__law_lot_so := He.glo_ok X G (c.t.d.fact 51 rfl)
    g__law_wrong_so := He.glo_ok X G (c.t.d.fact 52 rfl)
    g_law := He.glo_ok X G (c.t.d.fact 53 rfl)
    c_EMPTY_RUN := by obtain ⟨t, g⟩ := He.str_ok X G (c.t.d.fact 54 rfl); exact ⟨_, g, t, rfl⟩
    c_LONGEST_NAME := by obtain ⟨t, g⟩ := He.int_ok X G (c.t.d.fact 55 rfl); exact ⟨_, g, t, rfl⟩
    c_MOST_LETTERS := by obtain ⟨t, g⟩ := He.int_ok X G (c.t.d.fact 56 rfl); exact ⟨_, g, t, rfl⟩
    c_MOST_PARTS := by obtain ⟨t, g⟩ := He.int_ok X G (c.t.d.fact 57 rfl); exact ⟨_, g, t, rfl⟩
    c_SIGNS := by obtain ⟨t, g⟩ := He.str_ok X G (c.t.d.fact 58 rfl); exact ⟨_, g, t, rfl⟩
    c_SMALL := by obtain ⟨t, g⟩ := He.str_ok X G (c.t.d.fact 59 rfl); exact ⟨_, g, t, rfl⟩
    d_is_run := by obtain ⟨fd, F⟩ := c.t.d.def_ 0 rfl; exact ⟨fd, He5.fun_of F⟩
    d_run_text := by obtain ⟨fd, F⟩ := c.t.d.def_ 1 rfl; exact ⟨fd, He5.fun_of F⟩
    d_read_run := by obtain ⟨fd, F⟩ := c.t.d.def_ 2 rfl; exact ⟨fd, He5.fun_of F⟩
    d_run_key := by obtain ⟨fd, F⟩ := c.t.d.def_ 3 rfl; exact ⟨fd, He5.fun_of F⟩
    d_told_lot := by obtain ⟨fd, F⟩ := c.t.d.def_ 4 rfl; exact ⟨fd, He5.fun_of F⟩
    d_lot_text := by obtain ⟨fd, F⟩ := c.t.d.def_ 5 rfl; exact ⟨fd, He5.fun_of F⟩
    d_read_lot := by obtain ⟨fd, F⟩ := c.t.d.def_ 6 rfl; exact ⟨fd, He5.fun_of F⟩
    d_is_name := by obtain ⟨fd, F⟩ := c.t.d.def_ 7 rfl; exact ⟨fd, He5.fun_of F⟩
    d__are_signs := by obtain ⟨fd, F⟩ := c.t.d.def_ 8 rfl; exact ⟨fd, He5.fun_of F⟩
    d__law_bag := by obtain ⟨fd, F⟩ := c.t.d.def_ 9 rfl; exact ⟨fd, He5.fun_of F⟩
    d__law_draw := by obtain ⟨fd, F⟩ := c.t.d.def_ 10 rfl; exact ⟨fd, He5.fun_of F⟩
    d__law_of := by obtain ⟨fd, F⟩ := c.t.d.def_ 11 rfl; exact ⟨fd, He5.fun_of F⟩
    d__law_like := by obtain ⟨fd, F⟩ := c.t.d.def_ 12 rfl; exact ⟨fd, He5.fun_of F⟩
    d__law_name := by obtain ⟨fd, F⟩ := c.t.d.def_ 13 rfl; exact ⟨fd, He5.fun_of F⟩
    d__law_fresh := by obtain ⟨fd, F⟩ := c.t.d.def_ 14 rfl; exact ⟨fd, He5.fun_of F⟩
    d__law_parts := by obtain ⟨fd, F⟩ := c.t.d.def_ 15 rfl; exact ⟨fd, He5.fun_of F⟩
    d__law_letters := by obtain ⟨fd, F⟩ := c.t.d.def_ 16 rfl; exact ⟨fd, He5.fun_of F⟩
    d__law_listed := by obtain ⟨fd, F⟩ := c.t.d.def_ 17 rfl; exact ⟨fd, He5.fun_of F⟩
    d__law_run := by obtain ⟨fd, F⟩ := c.t.d.def_ 18 rfl; exact ⟨fd, He5.fun_of F⟩
    d__law_fault := by obtain ⟨fd, F⟩ := c.t.d.def_ 19 rfl; exact ⟨fd, He5.fun_of F⟩
    d__law_ask := by obtain ⟨fd, F⟩ := c.t.d.def_ 20 rfl; exact ⟨fd, He5.fun_of F⟩
    d__law_odd := by obtain ⟨fd, F⟩ := c.t.d.def_ 21 rfl; exact ⟨fd, He5.fun_of F⟩
    d__law_text := by obtain ⟨fd, F⟩ := c.t.d.def_ 22 rfl; exact ⟨fd, He5.fun_of F⟩
    d__law_read := by obtain ⟨fd, F⟩ := c.t.d.def_ 23 rfl; exact ⟨fd, He5.fun_of F⟩
    d__law_read_lot := by obtain ⟨fd, F⟩ := c.t.d.def_ 24 rfl; exact ⟨fd, He5.fun_of F⟩
    d__law_ahead := by obtain ⟨fd, F⟩ := c.t.d.def_ 25 rfl; exact ⟨fd, He5.fun_of F⟩
    d__law_told := by obtain ⟨fd, F⟩ := c.t.d.def_ 26 rfl; exact ⟨fd, He5.fun_of F⟩
    d__law_bent_run := by obtain ⟨fd, F⟩ := c.t.d.def_ 27 rfl; exact ⟨fd, He5.fun_of F⟩
    d__law_bent_text := by obtain ⟨fd, F⟩ := c.t.d.def_ 28 rfl; exact ⟨fd, He5.fun_of F⟩
    d__law_run_so := by obtain ⟨fd, F⟩ := c.t.d.def_ 29 rfl; exact ⟨fd, He5.fun_of F⟩
    d__law_lot_so := by obtain ⟨fd, F⟩ := c.t.d.def_ 30 rfl; exact ⟨fd, He5.fun_of F⟩
    d__law_wrong_so := by obtain ⟨fd, F⟩ := c.t.d.def_ 31 rfl; exact ⟨fd, He5.fun_of F⟩
    d_law := by obtain ⟨fd, F⟩ := c.t.d.def_ 32 rfl; exact ⟨fd, He5.fun_of F⟩
    i_BadText := by obtain ⟨fd, F⟩ := c.t.d.def_ 33 rfl; exact ⟨_, fd, (init_at hI (c := "BadText") (fs := ["code", "line", "why"]) (by decide +kernel)).1, (init_at hI (c := "BadText") (fs := ["code", "line", "why"]) (by decide +kernel)).2, He5.fun_of F⟩
    i_BadLetters := by obtain ⟨fd, F⟩ := c.t.d.def_ 34 rfl; exact ⟨_, fd, (init_at hI (c := "BadLetters") (fs := ["code", "at"]) (by decide +kernel)).1, (init_at hI (c := "BadLetters") (fs := ["code", "at"]) (by decide +kernel)).2, He5.fun_of F⟩
    i_BadRun := by obtain ⟨fd, F⟩ := c.t.d.def_ 35 rfl; exact ⟨_, fd, (init_at hI (c := "BadRun") (fs := ["code", "at"]) (by decide +kernel)).1, (init_at hI (c := "BadRun") (fs := ["code", "at"]) (by decide +kernel)).2, He5.fun_of F⟩
    i_BadNumber := by obtain ⟨fd, F⟩ := c.t.d.def_ 36 rfl; exact ⟨_, fd, (init_at hI (c := "BadNumber") (fs := ["code", "value"]) (by decide +kernel)).1, (init_at hI (c := "BadNumber") (fs := ["code", "value"]) (by decide +kernel)).2, He5.fun_of F⟩
    i_TooMany := by obtain ⟨fd, F⟩ := c.t.d.def_ 37 rfl; exact ⟨_, fd, (init_at hI (c := "TooMany") (fs := ["code", "what", "found"]) (by decide +kernel)).1, (init_at hI (c := "TooMany") (fs := ["code", "what", "found"]) (by decide +kernel)).2, He5.fun_of F⟩
    cl_Letters := He.cls_ok (c.t.d.fact 60 rfl)
    mk_Letters := He.mkr_ok (c.t.d.fact 61 rfl)
    dm_Letters___init__ := by obtain ⟨fd, F⟩ := c.t.d.def_ 38 rfl; exact ⟨fd, He5.fun_of F⟩
    me_Letters_is_letter := He.meth_ok (c.t.d.fact 62 rfl)
    dm_Letters_is_letter := by obtain ⟨fd, F⟩ := c.t.d.def_ 39 rfl; exact ⟨fd, He5.fun_of F⟩
    me_Letters_place := He.meth_ok (c.t.d.fact 63 rfl)
    dm_Letters_place := by obtain ⟨fd, F⟩ := c.t.d.def_ 40 rfl; exact ⟨fd, He5.fun_of F⟩
    me_Letters___str__ := He.meth_ok (c.t.d.fact 64 rfl)
    dm_Letters___str__ := by obtain ⟨fd, F⟩ := c.t.d.def_ 41 rfl; exact ⟨fd, He5.fun_of F⟩
    me_Letters___repr__ := He.meth_ok (c.t.d.fact 65 rfl)
    dm_Letters___repr__ := by obtain ⟨fd, F⟩ := c.t.d.def_ 42 rfl; exact ⟨fd, He5.fun_of F⟩
    me_Letters___eq__ := He.meth_ok (c.t.d.fact 66 rfl)
    dm_Letters___eq__ := by obtain ⟨fd, F⟩ := c.t.d.def_ 43 rfl; exact ⟨fd, He5.fun_of F⟩
    me_Letters___len__ := He.meth_ok (c.t.d.fact 67 rfl)
    dm_Letters___len__ := by obtain ⟨fd, F⟩ := c.t.d.def_ 44 rfl; exact ⟨fd, He5.fun_of F⟩
    me_Letters___contains__ := He.meth_ok (c.t.d.fact 68 rfl)
    dm_Letters___contains__ := by obtain ⟨fd, F⟩ := c.t.d.def_ 45 rfl; exact ⟨fd, He5.fun_of F⟩
    ox := oxtB_ok h1
    ob := fun p hp => ⟨by
      simp only [obt, List.mem_cons, List.not_mem_nil, or_false] at hp
      rcases hp with rfl <;> first | exact He.cls_ok (c.t.d.fact 60 rfl), fun f hf => He.eqO_ok (List.all_eq_true.mp (List.all_eq_true.mp m1 p hp) f hf)⟩
    kd := m3
    em := h2 }
end K02

namespace END2
open PySem PySem.Spec PyProof.Rows L2 LamX
theorem walk_ofTE {l : PySem.W.OpenLaw} {n k : Nat} {q : Program} {loose : List Str} {XP : (Str → Option Value) → Heap → Prop} {YP : World → Heap → Prop} {d : DefRec} {CX : World → CXT} {x : Str}
    (hn : l.most = some n) (hn2 : n ≤ sizeLine) (hdf : d.params.defaults = []) (hr : Room k callerA)
    (F : ∀ (w : World) (mg : Str → Option Value) (fa : Addr) (h : Heap), YP w h → h.Ns mainGlobals mg → mg d.name = some (.ref fa) → ∃ K : PySem.W.Frag, K.In h ∧ LawAtS l w K (CX w) k n x mg fa h)
    (hCX : ∀ (w : World) (H : Hp) (s : Shared) (e : Value) (s' : Shared), CX w [] H s (fun _ _ _ => False) e s' → False) :
    PySem.W.WalkO q loose XP YP l.row.toRowW d [] (fun f vs => PySem.call f vs) := by
  refine Att.attach_callB hn hdf fun w s₀ s₁ mg mb fa o pm cd doc a vs ns G Y ho hd hcd hmg hobj hints hlen hbits hg => ?_
  obtain ⟨K, KX, fd, cs, sp, hT, nT, C, hb, hsp, hF⟩ := F w mg fa _ Y G.T.g hmg
  exact law_callTs KX G.T.g G.T.b G.T.builtins G.T.nolimit hg hT nT C G.T.bmain hobj hints (Nat.le_trans hlen hn2) hr hF hb (fun H hH hS => hsp H a ns hlen hbits hH hS) fun H e s' => hCX w H s₁ e s'
/-- the tables of the defs that make lambdas -/
def tabL (K : PySem.W.Frag) (tf : List He.Defn) (qs : List Str) : List (Addr × Str) := (tf.map fun p => (He.cT K p).2).zip qs
end END2

namespace K02
open PySem PySem.Spec PyProof.Rows L2 EX DL
theorem lmk {K : PySem.W.Frag} {base : Heap} {mg : Str → Option Value} {n q : Str} {st : Stmt} {fd : FuncData} (i : Nat) (F : Fun K n n st (He.ga K n) fd) (hB : ∀ p ∈ tf.map (He.cT K), LamX.TabB base mg p.1 p.2) (nd : (tf.map fun p => (He.cT K p).2).Nodup)
    (hi : tf[i]? = some (n, none)) (hq : qs[i]? = some (q ++ "<lambda>")) : ∀ cdv, codeV K (He.ga K n) = cdv → LMk K mg base (END2.tabL K tf qs) cdv q := by
  intro cdv hcv
  obtain ⟨oc, od, kV, doc, pm, an, cd, ct, osl, rfl, lk, hcd⟩ := F.ex
  obtain ⟨c, rfl⟩ := He.codeIn_ref hcd
  have e : He.codeOf K (n, none) = c := He.codeOf_eq lk rfl
  have hm : (n, none) ∈ tf := List.mem_of_getElem? hi
  have ei : (tf.map fun p => (He.cT K p).2)[i]? = some (He.tabOf K c) := by
    rw [List.getElem?_map, hi]
    show some (He.tabOf K (He.codeOf K (n, none))) = _
    rw [e]
  refine ⟨c, He.tabOf K c, ?_, ?_, ?_, ?_⟩
  · rw [← hcv]
    unfold codeV
    rw [lk] <;> rfl
  · have := hB (He.cT K (n, none)) (List.mem_map_of_mem hm)
    unfold He.cT at this
    rw [e] at this
    exact this
  · exact List.mem_of_getElem? (i := i) (List.getElem?_zip_eq_some.mpr ⟨ei, hq⟩)
  · intro p hp hpe
    obtain ⟨j, hj⟩ := List.getElem?_of_mem hp
    obtain ⟨h1, h2⟩ := List.getElem?_zip_eq_some.mp hj
    rw [hpe] at h1
    have lt : i < (tf.map fun p => (He.cT K p).2).length := by
      cases Nat.lt_or_ge i (tf.map fun p => (He.cT K p).2).length with
      | inl h => exact h
      | inr h => rw [List.getElem?_eq_none h] at ei; cases ei
    have ij : i = j := (List.getElem?_inj lt nd).mp (ei.trans h1.symm)
    subst ij
    rw [hq] at h2
    exact (Option.some.inj h2).symm
theorem facts {P : Program} {w : World} {K : PySem.W.Frag} {h : Heap} {mg : Str → Option Value} {f : Addr} (X : K.In h) (G : h.Ns mainGlobals mg) (hfa : mg ("law" : Str) = some (.ref f)) (c : He.SaysX fa fn [] tf ex w h K) :
    ∃ fd : FuncData, (∀ (s : Shared) (v : Value), BindsTo s fd ⟨[v], []⟩ [("script", v)]) ∧ ∀ base : Heap, K.In base → base.Ns mainGlobals mg → (∀ p ∈ tf.map (He.cT K), LamX.TabB base mg p.1 p.2) → FnOk P w K mg base L2.CX0 11 f fd ["script"] (spLaw K (END2.tabL K tf qs)) := by
  have e := en_of X G c
  have nd := nd_of c
  have e1 := hfa.symm.trans e.g_law
  cases e1
  obtain ⟨fd, F⟩ := e.d_law
  have b : Binds K fd ["script"] [] := F.binds fun _ _ _ _ _ _ us hl => match us, hl with | [_], _ => rfl
  refine ⟨fd, fun s v => ?_, fun base _ _ hB => ?_⟩
  · obtain ⟨oc, od, kV, doc, pm, an, cdv, ct, osl, rfl, lk, hcd⟩ := F.ex
    exact BindsTo.of_eq rfl
  · have l : Lam3 K mg base (END2.tabL K tf qs) := by
      obtain ⟨fd0, F0⟩ := e.d__law_run_so
      obtain ⟨fd1, F1⟩ := e.d__law_lot_so
      obtain ⟨fd2, F2⟩ := e.d__law_wrong_so
      exact ⟨lmk 0 F0 hB nd rfl rfl, lmk 1 F1 hB nd rfl rfl, lmk 2 F2 hB nd rfl rfl⟩
    obtain ⟨fd', F', G'⟩ := ok_law (P := P) (w := w) (base := base) e l
    obtain ⟨oc, od, kV, doc, pm, an, cdv, ct, osl, rfl, lk, hcd⟩ := F.ex
    obtain ⟨oc', od', kV', doc', pm', an', cdv', ct', osl', rfl, lk', hcd'⟩ := F'.ex
    rw [lk] at lk'
    cases lk'
    exact law_ok0 G'
end K02
open PySem PySem.W PySem.Calls PyProof.Rows
theorem PySem.Challenge.cw_fewbreak_k02_whole_runs_and_lots_read_ba_holds : PySem.Challenge.rw_fewbreak_k02_whole_runs_and_lots_read_ba.Holds := by
  w_on; o_law
  refine HandSHeadRun.head_any (r := OpenLaw.row PySem.Challenge.rw_fewbreak_k02_whole_runs_and_lots_read_ba) (q := view (OpenLaw.row PySem.Challenge.rw_fewbreak_k02_whole_runs_and_lots_read_ba).prog [50]) (H := K02.hk) (ob := K02.ob) (M := 60000) (loose := K02.loose) (d := HandSHeadRun.topDef (OpenLaw.row PySem.Challenge.rw_fewbreak_k02_whole_runs_and_lots_read_ba).prog 50) (kwd := []) K02.ob_eq
    (by kernel_rfl) (fun s => by kernel_rfl) K02.run (by kernel_rfl) (by kernel_rfl) (by kernel_rfl) (by rfl) (by first | assumption | decide +kernel) (by decide +kernel) ⟨rfl, rfl, rfl, rfl, rfl, by decide +kernel⟩ ?hw ?hc
  case hw => w_witness2
  case hc =>
    refine END2.walk_ofTE (l := PySem.Challenge.rw_fewbreak_k02_whole_runs_and_lots_read_ba) (n := 63) (k := 11) (x := "script") (CX := fun _ => L2.CX0) rfl (by decide) (by kernel_rfl) ⟨rfl, by decide, by decide⟩ ?F (fun _ _ _ _ _ z => z)
    intro w mg fa h Y G hmg0
    obtain ⟨K, KX, c⟩ := Y
    have hmg : mg ("law" : PySem.Str) = some (.ref fa) := by
      have e : (HandSHeadRun.topDef (OpenLaw.row PySem.Challenge.rw_fewbreak_k02_whole_runs_and_lots_read_ba).prog 50).name = ("law" : PySem.Str) := by kernel_rfl
      rw [← e]
      exact hmg0
    obtain ⟨fd, hb, hF⟩ := K02.facts (P := (PySem.Challenge.rw_fewbreak_k02_whole_runs_and_lots_read_ba).prog) (w := w) KX G hmg c
    refine ⟨K, KX, fd, K02.tf.map (He.cT K), K02.spLaw K (END2.tabL K K02.tf K02.qs), fun p hp => ?_, fun p hp => ?_, fun p hp => ?_, hb, fun H a ns hl _ hH hS => ⟨a, ns, rfl, hS, fun p hp => ?_, fun _ => rfl⟩, hF⟩
    · obtain ⟨d, hd, rfl⟩ := List.mem_map.mp hp
      exact c.empty d hd
    · obtain ⟨d, hd, rfl⟩ := List.mem_map.mp hp
      exact c.out d hd
    · obtain ⟨d, hd, rfl⟩ := List.mem_map.mp hp
      exact PySem.W.codeHd_of_K KX (c.hd d hd)
    · obtain ⟨d, hd, e⟩ := List.mem_map.mp (List.of_mem_zip hp).1
      rw [← e]
      exact hH _ (List.mem_map_of_mem hd)

