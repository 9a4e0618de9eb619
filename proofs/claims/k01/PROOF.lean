import PyProof.Rows.All
import Wide.All
import OpenK.AllK
import Wide.FinOn
import HandS.ForMost
import HandS.Exc
import HandS.ExcOwn
import HandS.Lambda
import HandS.Walk
import HandS.Wide
import HandS.TupAny
import HandS.TupMul
import HandS.Zip
import HandS.IsInst
import HandS.TryOnly
import HandS.Defaults
import HandS.HeadHook1
import HandS.Style
import HandS.Conv
import HandS.Codes
import PyProof.ReprRoads
import PyProof.Rows.StrOr
import KE.KExcSuper
import HandS.ExcInit
import KE.KDflt
import HandS.EndTab
import HandS.Head4
import HandS.Head2
import HandS.HeadHook4
import PyProof.ReprLen
import PySem.Challenge.RW_gridturns_k01_whole_tables_of_sixty_four
section
set_option Elab.async false
set_option linter.all false
set_option maxRecDepth 100000
/-! A layer over HandS: values as data D, the heap hidden. DE, DT, DA, DS: judgements whose readings speak of data alone. -/
namespace G2
open PySem PySem.Spec PyProof.Rows L2

/-- data -/
inductive D where
  | non | bl (b : Bool) | int (i : Int) | str (x : Str) | ty (n : String) | ref (a : Addr)
  | tup (xs : List D) | lst (xs : List D) | frz (xs : List D)
  | ins (c : Str) (ns : List Str) (xs : List D)
  | dic (ks : List Key) (xs : List D)

/-- the lists that may change -/
abbrev Mu := Addr → Option (List D)

/-- a tuple that stands: in the heap, not where a tracked list is; or in the written part -/
def TupAt (K : PySem.W.Frag) (Z : Addr → Prop) (μ : Mu) (H : Hp) (a : Addr) (vs : List V) : Prop :=
  (μ a = none ∧ ¬ Z a ∧ Rd H a (.tup vs)) ∨ ∃ (o : Obj) (its : Array Value) (n : Nat), K.lookup a = some o ∧ o.cls = .type "tuple" ∧ o.data = .seq its n ∧ its.size ≤ sizeLine ∧ Vals vs its.toList
/-- a list that nobody writes (the script) -/
def FrzAt (K : PySem.W.Frag) (Z : Addr → Prop) (μ : Mu) (H : Hp) (a : Addr) (vs : List V) : Prop :=
  (μ a = none ∧ ¬ Z a ∧ ∃ o, H a = some (.frz o (.lst vs))) ∨ ∃ (o : Obj) (its : Array Value) (n : Nat), K.lookup a = some o ∧ o.cls = .type "list" ∧ o.dict = none ∧ o.data = .seq its n ∧ its.size ≤ sizeLine ∧ Vals vs its.toList
theorem FrzAt.sq {K : PySem.W.Frag} {Z : Addr → Prop} {μ : Mu} {H : Hp} {a : Addr} {vs : List V} (h : FrzAt K Z μ H a vs) : SqL K H a vs := h.imp (fun x => .inr x.2.2) id
theorem TupAt.sq {K : PySem.W.Frag} {Z : Addr → Prop} {μ : Mu} {H : Hp} {a : Addr} {vs : List V} (h : TupAt K Z μ H a vs) : SqT K H a vs := h.imp (fun x => x.2.2) id

mutual
def Rep (K : PySem.W.Frag) (Z : Addr → Prop) (μ : Mu) (H : Hp) : D → V → Prop
  | .non, v => v = .non
  | .bl b, v => v = .bl b
  | .int i, v => v = .int i
  | .str x, v => v = .str x
  | .ty n, v => v = .ty n
  | .ref a, v => v = .ref a
  | .tup ds, v => ∃ a vs, v = .ref a ∧ TupAt K Z μ H a vs ∧ Reps K Z μ H ds vs
  | .lst ds, v => ∃ a vs, v = .ref a ∧ (μ a = none ∧ ¬ Z a) ∧ H a = some (.lst vs) ∧ Reps K Z μ H ds vs
  | .frz ds, v => ∃ a vs, v = .ref a ∧ FrzAt K Z μ H a vs ∧ Reps K Z μ H ds vs
  | .ins c ns ds, v => ∃ a dx vs, v = .ref a ∧ (μ a = none ∧ ¬ Z a) ∧ H a = some (.ins (He.ga K c) dx (ns.zip vs)) ∧ ns.length = vs.length ∧ Reps K Z μ H ds vs
  | .dic ks ds, v => ∃ a vs, v = .ref a ∧ (μ a = none ∧ ¬ Z a) ∧ Rd H a (.dK (ks.zip vs)) ∧ ks.length = vs.length ∧ Reps K Z μ H ds vs
def Reps (K : PySem.W.Frag) (Z : Addr → Prop) (μ : Mu) (H : Hp) : List D → List V → Prop
  | [], vs => vs = []
  | d :: ds, vs => ∃ v r, vs = v :: r ∧ Rep K Z μ H d v ∧ Reps K Z μ H ds r
end

theorem Reps.length {K : PySem.W.Frag} {Z : Addr → Prop} {μ : Mu} {H : Hp} : ∀ {ds : List D} {vs : List V}, Reps K Z μ H ds vs → ds.length = vs.length
  | [], vs, h => by simp only [Reps] at h; subst h; rfl
  | d :: ds, vs, h => by
    simp only [Reps] at h
    obtain ⟨v, r, rfl, _, h2⟩ := h
    simp [Reps.length h2]
theorem Reps.get {K : PySem.W.Frag} {Z : Addr → Prop} {μ : Mu} {H : Hp} : ∀ {ds : List D} {vs : List V} {i : Nat} {d : D}, Reps K Z μ H ds vs → ds[i]? = some d → ∃ v, vs[i]? = some v ∧ Rep K Z μ H d v
  | [], vs, i, d, h, e => by simp at e
  | d' :: ds, vs, 0, d, h, e => by
    simp only [Reps] at h
    obtain ⟨v, r, rfl, h1, h2⟩ := h
    simp at e; subst e
    exact ⟨v, rfl, h1⟩
  | d' :: ds, vs, i + 1, d, h, e => by
    simp only [Reps] at h
    obtain ⟨v, r, rfl, h1, h2⟩ := h
    obtain ⟨w, e1, e2⟩ := Reps.get (i := i) h2 (by simpa using e)
    exact ⟨w, by simpa using e1, e2⟩
theorem Reps.getV {K : PySem.W.Frag} {Z : Addr → Prop} {μ : Mu} {H : Hp} {ds : List D} {vs : List V} {i : Nat} {v : V} (h : Reps K Z μ H ds vs) (e : vs[i]? = some v) : ∃ d, ds[i]? = some d ∧ Rep K Z μ H d v := by
  have hl := h.length
  have hi : i < vs.length := (List.getElem?_eq_some_iff.mp e).1
  have hi2 : i < ds.length := by omega
  obtain ⟨w, e1, e2⟩ := h.get (i := i) (d := ds[i]) (by simp [hi2])
  rw [e] at e1; cases e1
  exact ⟨ds[i], by simp [hi2], e2⟩
theorem Reps.nil {K : PySem.W.Frag} {Z : Addr → Prop} {μ : Mu} {H : Hp} : Reps K Z μ H [] [] := by simp only [Reps]
theorem Reps.cons {K : PySem.W.Frag} {Z : Addr → Prop} {μ : Mu} {H : Hp} {d : D} {v : V} {ds : List D} {vs : List V} (h1 : Rep K Z μ H d v) (h2 : Reps K Z μ H ds vs) : Reps K Z μ H (d :: ds) (v :: vs) := by
  simp only [Reps]; exact ⟨v, vs, rfl, h1, h2⟩
theorem Reps.append {K : PySem.W.Frag} {Z : Addr → Prop} {μ : Mu} {H : Hp} : ∀ {ds es : List D} {vs ws : List V}, Reps K Z μ H ds vs → Reps K Z μ H es ws → Reps K Z μ H (ds ++ es) (vs ++ ws)
  | [], _, _, _, h, g => by simp only [Reps] at h; subst h; exact g
  | d :: ds, es, vs, ws, h, g => by
    simp only [Reps] at h
    obtain ⟨v, r, rfl, h1, h2⟩ := h
    exact Reps.cons h1 (Reps.append h2 g)
theorem Reps.set {K : PySem.W.Frag} {Z : Addr → Prop} {μ : Mu} {H : Hp} {d : D} {v : V} (hd : Rep K Z μ H d v) : ∀ {ds : List D} {vs : List V} (i : Nat), Reps K Z μ H ds vs → Reps K Z μ H (ds.set i d) (vs.set i v)
  | [], vs, i, h => by simp only [Reps] at h; subst h; exact Reps.nil
  | d' :: ds, vs, 0, h => by
    simp only [Reps] at h
    obtain ⟨w, r, rfl, h1, h2⟩ := h
    exact Reps.cons hd h2
  | d' :: ds, vs, i + 1, h => by
    simp only [Reps] at h
    obtain ⟨w, r, rfl, h1, h2⟩ := h
    exact Reps.cons h1 (Reps.set hd i h2)
theorem Reps.drop {K : PySem.W.Frag} {Z : Addr → Prop} {μ : Mu} {H : Hp} : ∀ {ds : List D} {vs : List V} (i : Nat), Reps K Z μ H ds vs → Reps K Z μ H (ds.drop i) (vs.drop i)
  | ds, vs, 0, h => h
  | [], vs, i + 1, h => by simp only [Reps] at h; subst h; exact Reps.nil
  | d' :: ds, vs, i + 1, h => by
    simp only [Reps] at h
    obtain ⟨w, r, rfl, h1, h2⟩ := h
    exact Reps.drop i h2
theorem Reps.take {K : PySem.W.Frag} {Z : Addr → Prop} {μ : Mu} {H : Hp} : ∀ {ds : List D} {vs : List V} (i : Nat), Reps K Z μ H ds vs → Reps K Z μ H (ds.take i) (vs.take i)
  | ds, vs, 0, h => by simp only [List.take_zero]; exact Reps.nil
  | [], vs, i + 1, h => by simp only [Reps] at h; subst h; exact Reps.nil
  | d' :: ds, vs, i + 1, h => by
    simp only [Reps] at h
    obtain ⟨w, r, rfl, h1, h2⟩ := h
    exact Reps.cons h1 (Reps.take i h2)
theorem Reps.eraseIdx {K : PySem.W.Frag} {Z : Addr → Prop} {μ : Mu} {H : Hp} : ∀ {ds : List D} {vs : List V} (i : Nat), Reps K Z μ H ds vs → Reps K Z μ H (ds.eraseIdx i) (vs.eraseIdx i)
  | [], vs, i, h => by simp only [Reps] at h; subst h; exact Reps.nil
  | d' :: ds, vs, 0, h => by
    simp only [Reps] at h
    obtain ⟨w, r, rfl, h1, h2⟩ := h
    exact h2
  | d' :: ds, vs, i + 1, h => by
    simp only [Reps] at h
    obtain ⟨w, r, rfl, h1, h2⟩ := h
    exact Reps.cons h1 (Reps.eraseIdx i h2)
theorem Reps.dropLast {K : PySem.W.Frag} {Z : Addr → Prop} {μ : Mu} {H : Hp} {ds : List D} {vs : List V} (h : Reps K Z μ H ds vs) : Reps K Z μ H ds.dropLast vs.dropLast := by
  rw [List.dropLast_eq_take, List.dropLast_eq_take, h.length]
  exact h.take _
theorem Reps.replicate {K : PySem.W.Frag} {Z : Addr → Prop} {μ : Mu} {H : Hp} {ds : List D} {vs : List V} (h : Reps K Z μ H ds vs) : ∀ n : Nat, Reps K Z μ H (List.replicate n ds).flatten (List.replicate n vs).flatten
  | 0 => Reps.nil
  | n + 1 => by
    rw [List.replicate_succ, List.replicate_succ, List.flatten_cons, List.flatten_cons]
    exact h.append (Reps.replicate h n)

/-- from here to there: what is not tracked stays, what was there and not tracked is not tracked -/
structure Evo (μ : Mu) (H : Hp) (μ' : Mu) (H' : Hp) : Prop where
  keep : ∀ p o, H p = some o → μ p = none → (∀ ps, o ≠ .tbl ps) → H' p = some o
  trk : ∀ p, H p ≠ none → μ p = none → μ' p = none
  there : ∀ p, H p ≠ none → H' p ≠ none

/-- the tracked lists, the tables of code objects -/
structure MemOk (K : PySem.W.Frag) (T : List (Addr × Str)) (Z : Addr → Prop) (μ : Mu) (H : Hp) : Prop where
  mem : ∀ a xs, μ a = some xs → ∃ vs, H a = some (.lst vs) ∧ Reps K Z μ H xs vs
  tabs : LamX.Tabs T H
  pen : ∀ a, Z a → H a ≠ none ∧ μ a = none

theorem Evo.refl {μ : Mu} {H : Hp} : Evo μ H μ H := ⟨fun _ _ h _ _ => h, fun _ _ h => h, fun _ h => h⟩
theorem Evo.trans {μ μ1 μ2 : Mu} {H H1 H2 : Hp} (a : Evo μ H μ1 H1) (b : Evo μ1 H1 μ2 H2) : Evo μ H μ2 H2 where
  keep := fun p o h m n => b.keep p o (a.keep p o h m n) (a.trk p (by rw [h]; simp) m) n
  trk := fun p h m => b.trk p (a.there p h) (a.trk p h m)
  there := fun p h => b.there p (a.there p h)

theorem rd_keep {μ μ' : Mu} {H H' : Hp} (e : Evo μ H μ' H') {a : Addr} {u : HO} (m : μ a = none) (n : ∀ ps, u ≠ .tbl ps) (h : Rd H a u) : Rd H' a u := by
  rcases h with h | ⟨o, h⟩
  · exact .inl (e.keep a _ h m n)
  · exact .inr ⟨o, e.keep a _ h m (fun ps z => by cases z)⟩
theorem rd_there {H : Hp} {a : Addr} {u : HO} (h : Rd H a u) : H a ≠ none := by
  rcases h with h | ⟨o, h⟩ <;> rw [h] <;> simp

mutual
theorem Rep.step {K : PySem.W.Frag} {Z : Addr → Prop} {μ μ' : Mu} {H H' : Hp} (e : Evo μ H μ' H') : ∀ (d : D) (v : V), Rep K Z μ H d v → Rep K Z μ' H' d v
  | .non, v, h => by simp only [Rep] at h ⊢; exact h
  | .bl b, v, h => by simp only [Rep] at h ⊢; exact h
  | .int i, v, h => by simp only [Rep] at h ⊢; exact h
  | .str x, v, h => by simp only [Rep] at h ⊢; exact h
  | .ty n, v, h => by simp only [Rep] at h ⊢; exact h
  | .ref a, v, h => by simp only [Rep] at h ⊢; exact h
  | .tup ds, v, h => by
    simp only [Rep] at h ⊢
    obtain ⟨a, vs, rfl, hs, hr⟩ := h
    refine ⟨a, vs, rfl, ?_, Reps.step e ds vs hr⟩
    rcases hs with ⟨m, mz, hs⟩ | hs
    · exact .inl ⟨e.trk a (rd_there hs) m, mz, rd_keep e m (fun ps z => by cases z) hs⟩
    · exact .inr hs
  | .lst ds, v, h => by
    simp only [Rep] at h ⊢
    obtain ⟨a, vs, rfl, ⟨m, mz⟩, hs, hr⟩ := h
    exact ⟨a, vs, rfl, ⟨e.trk a (by rw [hs]; simp) m, mz⟩, e.keep a _ hs m (fun ps z => by cases z), Reps.step e ds vs hr⟩
  | .frz ds, v, h => by
    simp only [Rep] at h ⊢
    obtain ⟨a, vs, rfl, hs, hr⟩ := h
    refine ⟨a, vs, rfl, ?_, Reps.step e ds vs hr⟩
    rcases hs with ⟨m, mz, o, hs⟩ | hs
    · exact .inl ⟨e.trk a (by rw [hs]; simp) m, mz, o, e.keep a _ hs m (fun ps z => by cases z)⟩
    · exact .inr hs
  | .ins c ns ds, v, h => by
    simp only [Rep] at h ⊢
    obtain ⟨a, dx, vs, rfl, ⟨m, mz⟩, hs, hl, hr⟩ := h
    exact ⟨a, dx, vs, rfl, ⟨e.trk a (by rw [hs]; simp) m, mz⟩, e.keep a _ hs m (fun ps z => by cases z), hl, Reps.step e ds vs hr⟩
  | .dic ks ds, v, h => by
    simp only [Rep] at h ⊢
    obtain ⟨a, vs, rfl, ⟨m, mz⟩, hs, hl, hr⟩ := h
    exact ⟨a, vs, rfl, ⟨e.trk a (rd_there hs) m, mz⟩, rd_keep e m (fun ps z => by cases z) hs, hl, Reps.step e ds vs hr⟩
theorem Reps.step {K : PySem.W.Frag} {Z : Addr → Prop} {μ μ' : Mu} {H H' : Hp} (e : Evo μ H μ' H') : ∀ (ds : List D) (vs : List V), Reps K Z μ H ds vs → Reps K Z μ' H' ds vs
  | [], vs, h => by simp only [Reps] at h ⊢; exact h
  | d :: ds, vs, h => by
    simp only [Reps] at h ⊢
    obtain ⟨v, r, rfl, h1, h2⟩ := h
    exact ⟨v, r, rfl, Rep.step e d v h1, Reps.step e ds r h2⟩
end
end G2
end
section
set_option Elab.async false
set_option linter.all false
set_option maxRecDepth 100000
namespace G2
open PySem PySem.Spec PyProof.Rows L2

abbrev Ro := List (Option D)
abbrev KD := D → Mu → Prop
/-- an exception of the program's own: its class, its fields -/
structure Exn where
  cls : Str
  ns : List Str
  ds : List D
abbrev KX := Exn → Mu → Prop
abbrev WE := Ro → Mu → KD → KX → Prop
abbrev WTt := Ro → Mu → (Bool → Mu → Prop) → KX → Prop
abbrev WA := Ro → Mu → (List D → Mu → Prop) → KX → Prop
structure DEnds where
  nx : Ro → Mu → Prop
  rt : KD
  ex : KX
  bk : Ro → Mu → Prop := fun _ _ => False
  ct : Ro → Mu → Prop := fun _ _ => False
abbrev WS := DEnds → Ro → Mu → Prop

/-- the slots bear the data -/
structure Bear (K : PySem.W.Frag) (T : List (Addr × Str)) (Z : Addr → Prop) (σ : L2.St) (H : Hp) (ρ : Ro) (μ : Mu) : Prop where
  m : MemOk K T Z μ H
  len : ρ.length = σ.length
  at_ : ∀ (i : Nat) (d : D), ρ[i]? = some (some d) → ∃ v, σ[i]? = some (some v) ∧ Rep K Z μ H d v
def RepX (K : PySem.W.Frag) (Z : Addr → Prop) (μ : Mu) (H : Hp) (x : Exn) (cls : Value) (dd : Option Addr) : Prop :=
  cls = .ref (He.ga K x.cls) ∧ (x.ns = [] ∨ ∃ dx vs, dd = some dx ∧ (μ dx = none ∧ ¬ Z dx) ∧ H dx = some (.xd (x.ns.zip vs)) ∧ x.ns.length = vs.length ∧ Reps K Z μ H x.ds vs)
/-- what is wanted of exceptions, from here on -/
def LkX (K : PySem.W.Frag) (T : List (Addr × Str)) (Z : Addr → Prop) (W : WX) (EX : KX) (σ : L2.St) (μ : Mu) (H : Hp) : Prop :=
  ∀ cls dd H' x μ', Evo μ H μ' H' → MemOk K T Z μ' H' → RepX K Z μ' H' x cls dd → EX x μ' → W cls dd σ H'
structure Lk (K : PySem.W.Frag) (T : List (Addr × Str)) (Z : Addr → Prop) (W : WX) (D' : DEnds) (De : Ends) (μ : Mu) (H : Hp) : Prop where
  nx : ∀ σ' H' ρ' μ', Evo μ H μ' H' → Bear K T Z σ' H' ρ' μ' → D'.nx ρ' μ' → De.nx σ' H'
  rt : ∀ v H' d μ', Evo μ H μ' H' → MemOk K T Z μ' H' → Rep K Z μ' H' d v → D'.rt d μ' → De.rt v H'
  bk : ∀ σ' H' ρ' μ', Evo μ H μ' H' → Bear K T Z σ' H' ρ' μ' → D'.bk ρ' μ' → De.bk σ' H'
  ct : ∀ σ' H' ρ' μ', Evo μ H μ' H' → Bear K T Z σ' H' ρ' μ' → D'.ct ρ' μ' → De.ct σ' H'
  ex : ∀ σ', LkX K T Z W D'.ex σ' μ H
section
variable {K : PySem.W.Frag} {T : List (Addr × Str)} {Z : Addr → Prop} {W : WX} {EX : KX} {σ : L2.St} {μ μ' : Mu} {H H' : Hp} {ρ : Ro} {D' : DEnds} {De : Ends}
theorem Bear.step (b : Bear K T Z σ H ρ μ) (e : Evo μ H μ' H') (m : MemOk K T Z μ' H') : Bear K T Z σ H' ρ μ' :=
  ⟨m, b.len, fun i d h => let ⟨v, h1, h2⟩ := b.at_ i d h; ⟨v, h1, h2.step e d v⟩⟩
theorem LkX.step (l : LkX K T Z W EX σ μ H) (e : Evo μ H μ' H') : LkX K T Z W EX σ μ' H' := fun cls dd H2 x μ2 e2 m r q => l cls dd H2 x μ2 (e.trans e2) m r q
theorem Lk.step (l : Lk K T Z W D' De μ H) (e : Evo μ H μ' H') : Lk K T Z W D' De μ' H' :=
  ⟨fun σ2 H2 ρ2 μ2 e2 => l.nx σ2 H2 ρ2 μ2 (e.trans e2), fun v H2 d μ2 e2 => l.rt v H2 d μ2 (e.trans e2), fun σ2 H2 ρ2 μ2 e2 => l.bk σ2 H2 ρ2 μ2 (e.trans e2), fun σ2 H2 ρ2 μ2 e2 => l.ct σ2 H2 ρ2 μ2 (e.trans e2), fun σ2 => (l.ex σ2).step e⟩
end

def tD (K : PySem.W.Frag) (T : List (Addr × Str)) (W : WX) (w : WE) : TE := fun σ H Q' => ∃ Z ρ μ Q EX, Bear K T Z σ H ρ μ ∧ LkX K T Z W EX σ μ H ∧ w ρ μ Q EX ∧
  ∀ v H' d μ', Evo μ H μ' H' → MemOk K T Z μ' H' → Rep K Z μ' H' d v → Q d μ' → Q' v H'
def tDT (K : PySem.W.Frag) (T : List (Addr × Str)) (W : WX) (w : WTt) : TT := fun σ H Q' => ∃ Z ρ μ Q EX, Bear K T Z σ H ρ μ ∧ LkX K T Z W EX σ μ H ∧ w ρ μ Q EX ∧
  ∀ b H' μ', Evo μ H μ' H' → MemOk K T Z μ' H' → Q b μ' → Q' b H'
def tDA (K : PySem.W.Frag) (T : List (Addr × Str)) (W : WX) (w : WA) : TA := fun σ H Q' => ∃ Z ρ μ Q EX, Bear K T Z σ H ρ μ ∧ LkX K T Z W EX σ μ H ∧ w ρ μ Q EX ∧
  ∀ vs H' ds μ', Evo μ H μ' H' → MemOk K T Z μ' H' → Reps K Z μ' H' ds vs → Q ds μ' → Q' vs H'
def tDS (K : PySem.W.Frag) (T : List (Addr × Str)) (W : WX) (w : WS) : TS := fun De σ H => ∃ Z ρ μ D', Bear K T Z σ H ρ μ ∧ Lk K T Z W D' De μ H ∧ w D' ρ μ
def tDG (K : PySem.W.Frag) (T : List (Addr × Str)) (is : List Nat) (w : D → Ro → Mu → (Ro → Mu → Prop) → Prop) : TG := fun v σ H Q' => ∃ Z d ρ μ Q, Bear K T Z σ H ρ μ ∧ Rep K Z μ H d v ∧ w d ρ μ Q ∧
  ∀ σ' ρ' μ', Evo μ H μ' H → Bear K T Z σ' H ρ' μ' → (∀ vs : List Nat, (∀ i ∈ is, i ∈ vs) → wipe σ' vs = wipe σ vs) → Q ρ' μ' → Q' σ' H

def DE (X : Cx) (T : List (Addr × Str)) (W : WX) (e : Expr) (w : WE) : Prop := PE X e (tD X.K T W w)
def DT (X : Cx) (T : List (Addr × Str)) (W : WX) (e : Expr) (w : WTt) : Prop := PT X e (tDT X.K T W w)
def DW (X : Cx) (T : List (Addr × Str)) (W : WX) (e : Expr) (w : WTt) : Prop := PW X e (tDT X.K T W w)
def DA (X : Cx) (T : List (Addr × Str)) (W : WX) (e : List Expr) (w : WA) : Prop := PA X e (tDA X.K T W w)
def DS (X : Cx) (T : List (Addr × Str)) (W : WX) (s : Stmt) (w : WS) : Prop := PS X s (tDS X.K T W w)
def DSs (X : Cx) (T : List (Addr × Str)) (W : WX) (s : List Stmt) (w : WS) : Prop := PSs X s (tDS X.K T W w)
abbrev WG := D → Ro → Mu → (Ro → Mu → Prop) → Prop
def DG (X : Cx) (T : List (Addr × Str)) (is : List Nat) (e : Expr) (w : WG) : Prop := PG X e (tDG X.K T is w)

theorem pe_imp {X : Cx} {e : Expr} {t t' : TE} (h : PE X e t) (i : ∀ σ H Q, t' σ H Q → t σ H Q) : PE X e t' := ⟨fun pins s σ H Q I q => h.run pins s σ H Q I (i σ H Q q)⟩
theorem pt_imp {X : Cx} {e : Expr} {t t' : TT} (h : PT X e t) (i : ∀ σ H Q, t' σ H Q → t σ H Q) : PT X e t' := ⟨fun pins s σ H Q I q => h.run pins s σ H Q I (i σ H Q q)⟩
theorem pw_imp {X : Cx} {e : Expr} {t t' : TT} (h : PW X e t) (i : ∀ σ H Q, t' σ H Q → t σ H Q) : PW X e t' := ⟨fun wh pins s σ H Q I q => h.run wh pins s σ H Q I (i σ H Q q)⟩
theorem pa_imp {X : Cx} {e : List Expr} {t t' : TA} (h : PA X e t) (i : ∀ σ H Q, t' σ H Q → t σ H Q) : PA X e t' := ⟨fun pos pins s σ H Q I q => h.run pos pins s σ H Q I (i σ H Q q)⟩
theorem ps_imp {X : Cx} {e : Stmt} {t t' : TS} (h : PS X e t) (i : ∀ De σ H, t' De σ H → t De σ H) : PS X e t' := ⟨fun pins s σ H De I q => h.run pins s σ H De I (i De σ H q)⟩
theorem pss_imp {X : Cx} {e : List Stmt} {t t' : TS} (h : PSs X e t) (i : ∀ De σ H, t' De σ H → t De σ H) : PSs X e t' := ⟨fun pins s σ H De I q => h.run pins s σ H De I (i De σ H q)⟩
theorem pg_imp {X : Cx} {e : Expr} {t t' : TG} (h : PG X e t) (i : ∀ v σ H Q, t' v σ H Q → t v σ H Q) : PG X e t' := ⟨fun pins s σ H v u Q I r q => h.run pins s σ H v u Q I r (i v σ H Q q)⟩

section
variable {X : Cx} {T : List (Addr × Str)} {W : WX} {a b c e : Expr} {wa wb wc : WE} {pos : Pos} {w : WE}
/-! ### names and constants -/
def wVar (i : Nat) : WE := fun ρ μ Q _ => ∃ d, ρ[i]? = some (some d) ∧ Q d μ
def wC (d : D) : WE := fun _ μ Q _ => Q d μ
theorem de_var {i : Nat} {x : Str} (hN : X.N[i]? = some x) (hv : Vis X.env.scope x) (hd : (x == ("__debug__" : Str)) = false := by decide) (hcd : (x == ("__classdict__" : Str)) = false := by decide) : DE X T W (.Name x pos) (wVar i) := by
  refine pe_imp (pe_var (i := i) hN hv hd hcd) ?_
  rintro σ H Q' ⟨Z, ρ, μ, Q, EX, b, l, ⟨d, e, q⟩, k⟩
  obtain ⟨v, h1, h2⟩ := b.at_ i d e
  exact ⟨v, h1, k v H d μ Evo.refl b.m h2 q⟩
/-- constants that lie in no heap -/
def flat : D → Option V
  | .non => some .non
  | .bl b => some (.bl b)
  | .int i => some (.int i)
  | .str x => some (.str x)
  | .ty n => some (.ty n)
  | .ref a => some (.ref a)
  | _ => none
theorem rep_flat {K : PySem.W.Frag} {Z : Addr → Prop} {μ : Mu} {H : Hp} {d : D} {v : V} (h : flat d = some v) : Rep K Z μ H d v := by
  cases d <;> simp only [flat, Option.some.injEq, reduceCtorEq] at h <;> subst h <;> simp only [Rep]
theorem de_tC {v : V} {d : D} (h : PE X e (tC v)) (hf : flat d = some v) : DE X T W e (wC d) := by
  refine pe_imp h ?_
  rintro σ H Q' ⟨Z, ρ, μ, Q, EX, b, l, q, k⟩
  exact k v H d μ Evo.refl b.m (rep_flat hf) q
theorem de_int {i : Int} {j : Nat} : DE X T W (.Constant (.int i) j pos) (wC (.int i)) := de_tC pe_int rfl
theorem de_bl {i : Bool} {j : Nat} : DE X T W (.Constant (.bool i) j pos) (wC (.bl i)) := de_tC pe_bl rfl
theorem de_non {j : Nat} : DE X T W (.Constant .none j pos) (wC .non) := de_tC pe_non rfl
theorem de_str {x : Str} {j : Nat} : DE X T W (.Constant (.str x) j pos) (wC (.str x)) := de_tC pe_str rfl
theorem de_glob {x : Str} {v : V} {d : D} (hg : Gl X x) (hm : ∃ u, X.mg x = some u ∧ RelV v u) (hf : flat d = some v) (hd : (x == ("__debug__" : Str)) = false := by decide) : DE X T W (.Name x pos) (wC d) := by
  obtain ⟨u, h1, h2⟩ := hm
  exact de_tC (pe_glob hg h1 h2 hd) hf
/-- a built-in's name as a value -/
theorem de_blt {x : Str} {v : V} {d : D} {u : Value} (hg : Gl X x) (hm : X.mg x = none) (hv : bootBuiltins x = some u) (r : RelV v u) (hf : flat d = some v) (hn : x ≠ "__name__" := by decide) (hd : (x == ("__debug__" : Str)) = false := by decide) : DE X T W (.Name x pos) (wC d) :=
  de_tC (pe_bltn hg hm hv r hn hd) hf
/-- a module's tuple of flat things -/
theorem de_globT {x : Str} {a : Addr} {vs : List V} {ds : List D} (hg : Gl X x) (hm : X.mg x = some (.ref a)) (hs : ∃ (o : Obj) (its : Array Value) (n : Nat), X.K.lookup a = some o ∧ o.cls = .type "tuple" ∧ o.data = .seq its n ∧ its.size ≤ sizeLine ∧ Vals vs its.toList) (hf : ds.map flat = vs.map some)
    (hd : (x == ("__debug__" : Str)) = false := by decide) : DE X T W (.Name x pos) (wC (.tup ds)) := by
  refine pe_imp (pe_glob (v := .ref a) hg hm rfl hd) ?_
  rintro σ H Q' ⟨Z, ρ, μ, Q, EX, b, l, q, k⟩
  refine k (.ref a) H (.tup ds) μ Evo.refl b.m ?_ q
  simp only [Rep]
  refine ⟨a, vs, rfl, .inr hs, ?_⟩
  clear hs q
  induction ds generalizing vs with
  | nil =>
    cases vs with
    | nil => exact Reps.nil
    | cons v r => simp at hf
  | cons d ds ih =>
    cases vs with
    | nil => simp at hf
    | cons v r =>
      simp only [List.map_cons, List.cons.injEq] at hf
      exact Reps.cons (rep_flat hf.1) (ih hf.2)

/-! ### two values to one -/
/-- an operation by data -/
abbrev RD := D → D → Mu → KD → Prop
def OpD (X : Cx) (T : List (Addr × Str)) (f : Value → Value → Sem Value) (r : RD) : Prop :=
  OpR X f (fun x y H Q' => ∃ Z dx dy μ Q, MemOk X.K T Z μ H ∧ Rep X.K Z μ H dx x ∧ Rep X.K Z μ H dy y ∧ r dx dy μ Q ∧ ∀ v H' d μ', Evo μ H μ' H' → MemOk X.K T Z μ' H' → Rep X.K Z μ' H' d v → Q d μ' → Q' v H')
theorem opd {f : Value → Value → Sem Value} {r : RD} {r2 : R2} (h : OpR X f r2) (i : ∀ x y H Q' Z dx dy μ Q, MemOk X.K T Z μ H → Rep X.K Z μ H dx x → Rep X.K Z μ H dy y → r dx dy μ Q →
    (∀ v H' d μ', Evo μ H μ' H' → MemOk X.K T Z μ' H' → Rep X.K Z μ' H' d v → Q d μ' → Q' v H') → r2 x y H Q') : OpD X T f r := by
  intro pins s σ H x y v u Q' I rx ry ⟨Z, dx, dy, μ, Q, m, r1, r2, q, k⟩
  exact h pins s σ H x y v u Q' I rx ry (i x y H Q' Z dx dy μ Q m r1 r2 q k)
def wOp (r : RD) (wa wb : WE) : WE := fun ρ μ Q EX => wa ρ μ (fun d1 μ1 => wb ρ μ1 (fun d2 μ2 => r d1 d2 μ2 Q) EX) EX
theorem two_D {σ : L2.St} {H : Hp} {Q' : VK} {r : RD} {r2 : R2} (h : tD X.K T W (wOp r wa wb) σ H Q')
    (i : ∀ x y H Q', (∃ Z dx dy μ Q, MemOk X.K T Z μ H ∧ Rep X.K Z μ H dx x ∧ Rep X.K Z μ H dy y ∧ r dx dy μ Q ∧ ∀ v H' d μ', Evo μ H μ' H' → MemOk X.K T Z μ' H' → Rep X.K Z μ' H' d v → Q d μ' → Q' v H') → r2 x y H Q') :
    tD X.K T W wa σ H fun x H1 => tD X.K T W wb σ H1 fun y H2 => r2 x y H2 Q' := by
  obtain ⟨Z, ρ, μ, Q, EX, b, l, q, k⟩ := h
  refine ⟨Z, ρ, μ, _, EX, b, l, q, fun x H1 d1 μ1 e1 m1 r1 q1 => ⟨Z, ρ, μ1, _, EX, b.step e1 m1, l.step e1, q1, fun y H2 d2 μ2 e2 m2 r2 q2 => ?_⟩⟩
  exact i x y H2 Q' ⟨Z, d1, d2, μ2, Q, m2, r1.step e2 d1 x, r2, q2, fun v H' d μ' e3 => k v H' d μ' ((e1.trans e2).trans e3)⟩
theorem de_op {op : Operator} {r : RD} (ho : OpD X T (binaryOp op) r) (ha : DE X T W a wa) (hb : DE X T W b wb) : DE X T W (.BinOp a op b pos) (wOp r wa wb) :=
  pe_imp (pe_op ho ha hb) fun σ H Q h => two_D h fun _ _ _ _ q => q
theorem de_cmp {op : CmpOp} {r : RD} (ho : OpD X T (compareOp op) r) (ha : DE X T W a wa) (hb : DE X T W b wb) (hm : behindInMarks op b = false) : DE X T W (.Compare a [op] [b] pos) (wOp r wa wb) :=
  pe_imp (pe_cmpR ho ha hb hm) fun σ H Q h => two_D h fun _ _ _ _ q => q
/-- a value that is a truth value, as a test -/
def wTest (w : WE) : WTt := fun ρ μ Q EX => w ρ μ (fun d μ' => ∃ k, d = .bl k ∧ Q k μ') EX
theorem test_D {σ : L2.St} {H : Hp} {Q' : Bool → Hp → Prop} (h : tDT X.K T W (wTest w) σ H Q') : tD X.K T W w σ H fun x H' => ∃ k, x = .bl k ∧ Q' k H' := by
  obtain ⟨Z, ρ, μ, Q, EX, b, l, q, k⟩ := h
  refine ⟨Z, ρ, μ, _, EX, b, l, q, fun v H' d μ' e m r q => ?_⟩
  obtain ⟨kk, rfl, q⟩ := q
  simp only [Rep] at r
  exact ⟨kk, r, k kk H' μ' e m q⟩
theorem dt_cmp {op : CmpOp} {r : RD} (ho : OpD X T (compareOp op) r) (ha : DE X T W a wa) (hb : DE X T W b wb) (hm : behindInMarks op b = false) : DT X T W (.Compare a [op] [b] pos) (wTest (wOp r wa wb)) :=
  pt_imp (pt_cmpR ho ha hb hm) fun σ H Q h => two_D (test_D h) fun _ _ _ _ q => q
theorem dt_val (h : DE X T W e w) (he : ∀ whole, isTrue e X.env whole = (do let v ← whole; standAt e.pos; holding [v] (truthy v)) := by intro _; rfl) : DT X T W e (wTest w) :=
  pt_imp (pt_val h he) fun σ H Q h => test_D h
def wUn (r : D → Mu → KD → Prop) (wa : WE) : WE := fun ρ μ Q EX => wa ρ μ (fun d μ1 => r d μ1 Q) EX
def UnD (X : Cx) (T : List (Addr × Str)) (f : Value → Sem Value) (r : D → Mu → KD → Prop) : Prop :=
  UnR X f (fun x H Q' => ∃ Z dx μ Q, MemOk X.K T Z μ H ∧ Rep X.K Z μ H dx x ∧ r dx μ Q ∧ ∀ v H' d μ', Evo μ H μ' H' → MemOk X.K T Z μ' H' → Rep X.K Z μ' H' d v → Q d μ' → Q' v H')
theorem de_un {op : UnaryOp} {r : D → Mu → KD → Prop} (ho : UnD X T (unaryOp op) r) (ha : DE X T W a wa) : DE X T W (.UnaryOp op a pos) (wUn r wa) :=
  pe_imp (pe_un ho ha) fun σ H Q' ⟨Z, ρ, μ, Q, EX, b, l, q, k⟩ => ⟨Z, ρ, μ, _, EX, b, l, q, fun x H1 d1 μ1 e1 m1 r1 q1 => ⟨Z, d1, μ1, Q, m1, r1, q1, fun v H' d μ' e3 => k v H' d μ' (e1.trans e3)⟩⟩
/-! ### a < b < c -/
def wChain (r r' : RD) (wa wb wc : WE) : WE := fun ρ μ Q EX => wa ρ μ (fun d1 μ1 => wb ρ μ1 (fun d2 μ2 => r d1 d2 μ2 fun z μ3 => ∃ k, z = .bl k ∧ if k = true then wc ρ μ3 (fun d3 μ4 => r' d2 d3 μ4 Q) EX else Q (.bl false) μ3) EX) EX
end
end G2
end
section
set_option Elab.async false
set_option linter.all false
set_option maxRecDepth 100000
namespace G2
open PySem PySem.Spec PyProof.Rows L2

/-! ### new objects, tracked lists -/
def setM (μ : Mu) (a : Addr) (xs : List D) : Mu := fun b => if b = a then some xs else μ b
def delM (μ : Mu) (a : Addr) : Mu := fun b => if b = a then none else μ b
theorem setM_same {μ : Mu} {a : Addr} {xs : List D} : setM μ a xs a = some xs := by unfold setM; rw [if_pos rfl]
theorem setM_ne {μ : Mu} {a b : Addr} {xs : List D} (h : b ≠ a) : setM μ a xs b = μ b := by unfold setM; rw [if_neg h]
theorem setM_setM {μ : Mu} {a : Addr} {xs ys : List D} : setM (setM μ a xs) a ys = setM μ a ys := by funext b; unfold setM; split <;> rfl
theorem setM_self {μ : Mu} {a : Addr} {xs : List D} (h : μ a = some xs) : setM μ a xs = μ := by
  funext b; unfold setM; split
  · rename_i e; rw [e, h]
  · rfl
section
variable {K : PySem.W.Frag} {T : List (Addr × Str)} {Z : Addr → Prop} {μ μ' : Mu} {H H' : Hp} {p a : Addr} {o : HO} {xs ys : List D} {vs : List V}
theorem MemOk.fresh (m : MemOk K T Z μ H) (h : H p = none) : μ p = none := by
  cases e : μ p with
  | none => rfl
  | some xs =>
    obtain ⟨vs, e2, _⟩ := m.mem p xs e
    rw [h] at e2; cases e2
theorem evo_new (h : H p = none) : Evo μ H μ (upd H p o) :=
  ⟨fun q u e _ _ => by rw [upd_ne (ne_of_none e h)]; exact e, fun _ _ e => e, fun q e => by
    by_cases hq : q = p
    · rw [hq, upd_same]; simp
    · rw [upd_ne hq]; exact e⟩
theorem mem_new (m : MemOk K T Z μ H) (h : H p = none) : MemOk K T Z μ (upd H p o) := by
  refine ⟨fun b ys e => ?_, m.tabs.ext fun b u e => by rw [upd_ne (ne_of_none e h)]; exact e, fun b hb => ⟨(evo_new (μ := μ) (o := o) h).there b (m.pen b hb).1, (m.pen b hb).2⟩⟩
  obtain ⟨vs, e1, e2⟩ := m.mem b ys e
  exact ⟨vs, by rw [upd_ne (ne_of_none e1 h)]; exact e1, e2.step (evo_new h) _ _⟩
theorem evo_trk (h : H p = none) : Evo μ H (setM μ p xs) (upd H p o) :=
  ⟨(evo_new (μ := μ) (o := o) h).keep, fun q e e2 => by rw [setM_ne (fun z => e (by rw [z]; exact h))]; exact e2, (evo_new (μ := μ) (o := o) h).there⟩
theorem mem_trk (m : MemOk K T Z μ H) (h : H p = none) (r : Reps K Z μ H xs vs) : MemOk K T Z (setM μ p xs) (upd H p (.lst vs)) := by
  refine ⟨fun b ys e => ?_, m.tabs.ext fun b u e => by rw [upd_ne (ne_of_none e h)]; exact e, fun b hb => ⟨(evo_trk (μ := μ) (o := .lst vs) (xs := xs) h).there b (m.pen b hb).1, (evo_trk (μ := μ) (o := .lst vs) (xs := xs) h).trk b (m.pen b hb).1 (m.pen b hb).2⟩⟩
  by_cases hb : b = p
  · rw [hb, setM_same] at e
    cases e
    exact ⟨vs, by rw [hb, upd_same], r.step (evo_trk h) _ _⟩
  · rw [setM_ne hb] at e
    obtain ⟨ws, e1, e2⟩ := m.mem b ys e
    exact ⟨ws, by rw [upd_ne hb]; exact e1, e2.step (evo_trk h) _ _⟩
theorem evo_upd (h : μ a = some xs) : Evo μ H (setM μ a ys) (upd H a o) :=
  ⟨fun q u e e2 _ => by rw [upd_ne (fun z => by rw [z, h] at e2; cases e2)]; exact e, fun q e e2 => by rw [setM_ne (fun z => by rw [z, h] at e2; cases e2)]; exact e2, fun q e => by
    by_cases hq : q = a
    · rw [hq, upd_same]; simp
    · rw [upd_ne hq]; exact e⟩
theorem mem_upd (m : MemOk K T Z μ H) (h : μ a = some xs) (r : Reps K Z μ H ys vs) : MemOk K T Z (setM μ a ys) (upd H a (.lst vs)) := by
  have nt : ∀ b ps, H b = some (.tbl ps) → b ≠ a := fun b ps e z => by
    obtain ⟨ws, e1, _⟩ := m.mem a xs h
    rw [z, e1] at e; cases e
  refine ⟨fun b zs e => ?_, fun q hq => ?_, fun b hb => ⟨(evo_upd (o := .lst vs) (ys := ys) h).there b (m.pen b hb).1, (evo_upd (o := .lst vs) (ys := ys) h).trk b (m.pen b hb).1 (m.pen b hb).2⟩⟩
  · by_cases hb : b = a
    · rw [hb, setM_same] at e
      cases e
      exact ⟨vs, by rw [hb, upd_same], r.step (evo_upd h) _ _⟩
    · rw [setM_ne hb] at e
      obtain ⟨ws, e1, e2⟩ := m.mem b zs e
      exact ⟨ws, by rw [upd_ne hb]; exact e1, e2.step (evo_upd h) _ _⟩
  · obtain ⟨ps, h1, h2, h3⟩ := m.tabs q hq
    refine ⟨ps, by rw [upd_ne (nt _ _ h1)]; exact h1, h2, fun pos cv hc => ?_⟩
    obtain ⟨c, e1, e2⟩ := h3 pos cv hc
    refine ⟨c, e1, ?_⟩
    rw [upd_ne (fun z => ?_)]
    · exact e2
    · obtain ⟨ws, e3, _⟩ := m.mem a xs h
      rw [z, e3] at e2
      unfold LamX.CodeO at e2
      cases e2
theorem evo_del : Evo μ H (delM μ a) H := ⟨fun _ _ e _ _ => e, fun q _ e => by unfold delM; split <;> first | rfl | exact e, fun _ e => e⟩
theorem mem_del (m : MemOk K T Z μ H) : MemOk K T Z (delM μ a) H := by
  refine ⟨fun b ys e => ?_, m.tabs, fun b hb => ⟨(m.pen b hb).1, by unfold delM; split <;> first | rfl | exact (m.pen b hb).2⟩⟩
  unfold delM at e
  split at e
  · cases e
  · obtain ⟨vs, e1, e2⟩ := m.mem b ys e
    exact ⟨vs, e1, e2.step evo_del _ _⟩
/-- a new tuple, a new list that stays as it is -/
theorem MemOk.fresh2 (m : MemOk K T Z μ H) (h : H p = none) : μ p = none ∧ ¬ Z p := ⟨m.fresh h, fun z => (m.pen p z).1 h⟩
theorem rep_tup (m : MemOk K T Z μ H) (h : H p = none) (r : Reps K Z μ H xs vs) : Rep K Z μ (upd H p (.tup vs)) (.tup xs) (.ref p) := by
  simp only [Rep]
  exact ⟨p, vs, rfl, .inl ⟨m.fresh h, (m.fresh2 h).2, .inl upd_same⟩, r.step (evo_new h) _ _⟩
theorem rep_lst (m : MemOk K T Z μ H) (h : H p = none) (r : Reps K Z μ H xs vs) : Rep K Z μ (upd H p (.lst vs)) (.lst xs) (.ref p) := by
  simp only [Rep]
  exact ⟨p, vs, rfl, m.fresh2 h, upd_same, r.step (evo_new h) _ _⟩
end

section
variable {X : Cx} {T : List (Addr × Str)} {W : WX} {a b c e : Expr} {wa wb wc : WE} {pos : Pos} {w : WE} {rest es : List Expr} {t t' : WTt} {ws : WA}
/-! ### a < b < c; and, or, not; a if t else b -/
theorem de_chain {op op' : CmpOp} {r r' : RD} (ho : OpD X T (compareOp op) r) (ho' : OpD X T (compareOp op') r') (ha : DE X T W a wa) (hb : DE X T W b wb) (hc : DE X T W c wc)
    (hm : lastMarks [op, op'] [b, c] = false := by with_unfolding_all rfl) : DE X T W (.Compare a [op, op'] [b, c] pos) (wChain r r' wa wb wc) := by
  refine pe_imp (pe_chain ho ho' ha hb hc hm) ?_
  rintro σ H Q' ⟨Z, ρ, μ, Q, EX, bb, l, q, k⟩
  refine ⟨Z, ρ, μ, _, EX, bb, l, q, fun x H1 d1 μ1 e1 m1 r1 q1 => ⟨Z, ρ, μ1, _, EX, bb.step e1 m1, l.step e1, q1, fun y H2 d2 μ2 e2 m2 r2 q2 => ?_⟩⟩
  refine ⟨Z, d1, d2, μ2, _, m2, r1.step e2 d1 x, r2, q2, fun z H3 d3 μ3 e3 m3 r3 ⟨kk, hz, q3⟩ => ?_⟩
  subst hz
  simp only [Rep] at r3
  refine ⟨kk, r3, ?_⟩
  cases kk with
  | false =>
    rw [if_neg Bool.false_ne_true] at q3 ⊢
    exact k (.bl false) H3 (.bl false) μ3 ((e1.trans e2).trans e3) m3 (by simp only [Rep]) q3
  | true =>
    rw [if_pos rfl] at q3 ⊢
    have e0 := (e1.trans e2).trans e3
    exact ⟨Z, ρ, μ3, _, EX, bb.step e0 m3, l.step e0, q3, fun u H4 d4 μ4 e4 m4 r4 q4 => ⟨Z, d2, d4, μ4, Q, m4, (r2.step e3 d2 y).step e4 d2 y, r4, q4, fun v H' d μ' e5 => k v H' d μ' ((e0.trans e4).trans e5)⟩⟩
theorem dt_chain {op op' : CmpOp} {r r' : RD} (ho : OpD X T (compareOp op) r) (ho' : OpD X T (compareOp op') r') (ha : DE X T W a wa) (hb : DE X T W b wb) (hc : DE X T W c wc)
    (hm : lastMarks [op, op'] [b, c] = false := by with_unfolding_all rfl) : DT X T W (.Compare a [op, op'] [b, c] pos) (wTest (wChain r r' wa wb wc)) := by
  refine pt_imp (pt_chain ho ho' ha hb hc hm) ?_
  rintro σ H Q' ⟨Z, ρ, μ, Q, EX, bb, l, q, k⟩
  refine ⟨Z, ρ, μ, _, EX, bb, l, q, fun x H1 d1 μ1 e1 m1 r1 q1 => ⟨Z, ρ, μ1, _, EX, bb.step e1 m1, l.step e1, q1, fun y H2 d2 μ2 e2 m2 r2 q2 => ?_⟩⟩
  refine ⟨Z, d1, d2, μ2, _, m2, r1.step e2 d1 x, r2, q2, fun z H3 d3 μ3 e3 m3 r3 ⟨kk, hz, q3⟩ => ?_⟩
  subst hz
  simp only [Rep] at r3
  refine ⟨kk, r3, ?_⟩
  cases kk with
  | false =>
    rw [if_neg Bool.false_ne_true] at q3 ⊢
    obtain ⟨k2, hk, q4⟩ := q3
    cases hk
    exact ⟨false, rfl, k false H3 μ3 ((e1.trans e2).trans e3) m3 q4⟩
  | true =>
    rw [if_pos rfl] at q3 ⊢
    have e0 := (e1.trans e2).trans e3
    exact ⟨Z, ρ, μ3, _, EX, bb.step e0 m3, l.step e0, q3, fun u H4 d4 μ4 e4 m4 r4 q4 => ⟨Z, d2, d4, μ4, _, m4, (r2.step e3 d2 y).step e4 d2 y, r4, q4, fun v H' d μ' e5 m5 r5 ⟨k2, hk, q5⟩ => by
      subst hk
      simp only [Rep] at r5
      exact ⟨k2, r5, k k2 H' μ' ((e0.trans e4).trans e5) m5 q5⟩⟩⟩
def wAnd (t u : WTt) : WTt := fun ρ μ Q EX => t ρ μ (fun c μ1 => if c = true then u ρ μ1 Q EX else Q false μ1) EX
def wOr (t u : WTt) : WTt := fun ρ μ Q EX => t ρ μ (fun c μ1 => if c = true then Q true μ1 else u ρ μ1 Q EX) EX
def wNot (t : WTt) : WTt := fun ρ μ Q EX => t ρ μ (fun c μ1 => Q (!c) μ1) EX
theorem dw_and1 (h : DT X T W a t) : DW X T W (.BoolOp .And [a] pos) t := pw_and1 h
theorem dw_or1 (h : DT X T W a t) : DW X T W (.BoolOp .Or [a] pos) t := pw_or1 h
theorem dw_and (h : DT X T W a t) (h' : DW X T W (.BoolOp .And (b :: rest) pos) t') : DW X T W (.BoolOp .And (a :: b :: rest) pos) (wAnd t t') := by
  refine pw_imp (pw_and h h') ?_
  rintro σ H Q' ⟨Z, ρ, μ, Q, EX, bb, l, q, k⟩
  refine ⟨Z, ρ, μ, _, EX, bb, l, q, fun c H1 μ1 e1 m1 q1 => ?_⟩
  cases c with
  | false =>
    rw [if_neg Bool.false_ne_true] at q1 ⊢
    exact k _ _ _ e1 m1 q1
  | true =>
    rw [if_pos rfl] at q1 ⊢
    exact ⟨Z, ρ, μ1, Q, EX, bb.step e1 m1, l.step e1, q1, fun b2 H' μ' e2 => k b2 H' μ' (e1.trans e2)⟩
theorem dw_or (h : DT X T W a t) (h' : DW X T W (.BoolOp .Or (b :: rest) pos) t') : DW X T W (.BoolOp .Or (a :: b :: rest) pos) (wOr t t') := by
  refine pw_imp (pw_or h h') ?_
  rintro σ H Q' ⟨Z, ρ, μ, Q, EX, bb, l, q, k⟩
  refine ⟨Z, ρ, μ, _, EX, bb, l, q, fun c H1 μ1 e1 m1 q1 => ?_⟩
  cases c with
  | true =>
    rw [if_pos rfl] at q1 ⊢
    exact k _ _ _ e1 m1 q1
  | false =>
    rw [if_neg Bool.false_ne_true] at q1 ⊢
    exact ⟨Z, ρ, μ1, Q, EX, bb.step e1 m1, l.step e1, q1, fun b2 H' μ' e2 => k b2 H' μ' (e1.trans e2)⟩
theorem dt_w (h : DW X T W a t) : DT X T W a t := h.pt
theorem dt_not (h : DT X T W a t) : DT X T W (.UnaryOp .Not a pos) (wNot t) := by
  refine pt_imp (pt_not h) ?_
  rintro σ H Q' ⟨Z, ρ, μ, Q, EX, bb, l, q, k⟩
  exact ⟨Z, ρ, μ, _, EX, bb, l, q, fun c H1 μ1 e1 m1 q1 => k _ _ _ e1 m1 q1⟩
def wAndV (wa wb : WE) : WE := fun ρ μ Q EX => wa ρ μ (fun d μ1 => ∃ c, d = .bl c ∧ if c = true then wb ρ μ1 Q EX else Q (.bl false) μ1) EX
def wOrV (wa wb : WE) : WE := fun ρ μ Q EX => wa ρ μ (fun d μ1 => ∃ c, d = .bl c ∧ if c = true then Q (.bl true) μ1 else wb ρ μ1 Q EX) EX
def wNotV (wa : WE) : WE := fun ρ μ Q EX => wa ρ μ (fun d μ1 => ∃ c, d = .bl c ∧ Q (.bl (!c)) μ1) EX
theorem de_one {op : BoolOp} (h : DE X T W a wa) : DE X T W (.BoolOp op [a] pos) wa := pe_one h
theorem de_and (h : DE X T W a wa) (h' : DE X T W (.BoolOp .And (b :: rest) pos) wb) : DE X T W (.BoolOp .And (a :: b :: rest) pos) (wAndV wa wb) := by
  refine pe_imp (pe_and h h') ?_
  rintro σ H Q' ⟨Z, ρ, μ, Q, EX, bb, l, q, k⟩
  refine ⟨Z, ρ, μ, _, EX, bb, l, q, fun c H1 d1 μ1 e1 m1 r1 ⟨cc, hd, q1⟩ => ?_⟩
  subst hd
  simp only [Rep] at r1
  refine ⟨cc, r1, ?_⟩
  cases cc with
  | false =>
    rw [if_neg Bool.false_ne_true] at q1 ⊢
    exact k _ _ _ _ e1 m1 (by simp only [Rep]) q1
  | true =>
    rw [if_pos rfl] at q1 ⊢
    exact ⟨Z, ρ, μ1, Q, EX, bb.step e1 m1, l.step e1, q1, fun b2 H' d' μ' e2 => k b2 H' d' μ' (e1.trans e2)⟩
theorem de_or (h : DE X T W a wa) (h' : DE X T W (.BoolOp .Or (b :: rest) pos) wb) : DE X T W (.BoolOp .Or (a :: b :: rest) pos) (wOrV wa wb) := by
  refine pe_imp (pe_or h h') ?_
  rintro σ H Q' ⟨Z, ρ, μ, Q, EX, bb, l, q, k⟩
  refine ⟨Z, ρ, μ, _, EX, bb, l, q, fun c H1 d1 μ1 e1 m1 r1 ⟨cc, hd, q1⟩ => ?_⟩
  subst hd
  simp only [Rep] at r1
  refine ⟨cc, r1, ?_⟩
  cases cc with
  | true =>
    rw [if_pos rfl] at q1 ⊢
    exact k _ _ _ _ e1 m1 (by simp only [Rep]) q1
  | false =>
    rw [if_neg Bool.false_ne_true] at q1 ⊢
    exact ⟨Z, ρ, μ1, Q, EX, bb.step e1 m1, l.step e1, q1, fun b2 H' d' μ' e2 => k b2 H' d' μ' (e1.trans e2)⟩
theorem de_not (h : DE X T W a wa) : DE X T W (.UnaryOp .Not a pos) (wNotV wa) := by
  refine pe_imp (pe_not h) ?_
  rintro σ H Q' ⟨Z, ρ, μ, Q, EX, bb, l, q, k⟩
  refine ⟨Z, ρ, μ, _, EX, bb, l, q, fun c H1 d1 μ1 e1 m1 r1 ⟨cc, hd, q1⟩ => ?_⟩
  subst hd
  simp only [Rep] at r1
  exact ⟨cc, r1, k _ _ _ _ e1 m1 (by simp only [Rep]) q1⟩
def wIfE (t : WTt) (wa wb : WE) : WE := fun ρ μ Q EX => t ρ μ (fun c μ1 => if c = true then wa ρ μ1 Q EX else wb ρ μ1 Q EX) EX
theorem de_if (hc : DT X T W c t) (ha : DE X T W a wa) (hb : DE X T W b wb) : DE X T W (.IfExp c a b pos) (wIfE t wa wb) := by
  refine pe_imp (pe_ifExp hc ha hb) ?_
  rintro σ H Q' ⟨Z, ρ, μ, Q, EX, bb, l, q, k⟩
  refine ⟨Z, ρ, μ, _, EX, bb, l, q, fun c H1 μ1 e1 m1 q1 => ?_⟩
  cases c with
  | true =>
    rw [if_pos rfl] at q1 ⊢
    exact ⟨Z, ρ, μ1, Q, EX, bb.step e1 m1, l.step e1, q1, fun b2 H' d' μ' e2 => k b2 H' d' μ' (e1.trans e2)⟩
  | false =>
    rw [if_neg Bool.false_ne_true] at q1 ⊢
    exact ⟨Z, ρ, μ1, Q, EX, bb.step e1 m1, l.step e1, q1, fun b2 H' d' μ' e2 => k b2 H' d' μ' (e1.trans e2)⟩
/-! ### arguments, displays -/
def wNil : WA := fun _ μ Q _ => Q [] μ
def wCons (we : WE) (ws : WA) : WA := fun ρ μ Q EX => we ρ μ (fun d μ1 => ws ρ μ1 (fun ds μ2 => Q (d :: ds) μ2) EX) EX
theorem da_nil : DA X T W [] wNil := by
  refine pa_imp pa_nil ?_
  rintro σ H Q' ⟨Z, ρ, μ, Q, EX, bb, l, q, k⟩
  exact k [] H [] μ Evo.refl bb.m Reps.nil q
theorem da_cons (he : DE X T W e w) (hr : DA X T W es ws) (hs : starEach (e :: es) X.env = (false, eval e X.env) :: starEach es X.env := by rfl) : DA X T W (e :: es) (wCons w ws) := by
  refine pa_imp (pa_cons he hr hs) ?_
  rintro σ H Q' ⟨Z, ρ, μ, Q, EX, bb, l, q, k⟩
  refine ⟨Z, ρ, μ, _, EX, bb, l, q, fun v H1 d1 μ1 e1 m1 r1 q1 => ⟨Z, ρ, μ1, _, EX, bb.step e1 m1, l.step e1, q1, fun vs H2 ds μ2 e2 m2 r2 q2 => ?_⟩⟩
  exact k _ _ _ _ (e1.trans e2) m2 (Reps.cons (r1.step e2 d1 v) r2) q2
def wTup (ws : WA) : WE := fun ρ μ Q EX => ws ρ μ (fun ds μ1 => ds.length ≤ 16777216 ∧ Q (.tup ds) μ1) EX
/-- a list that stays as it is; one that may change (its address any) -/
def wLst (ws : WA) : WE := fun ρ μ Q EX => ws ρ μ (fun ds μ1 => ds.length ≤ 16777216 ∧ Q (.lst ds) μ1) EX
def wLstM (ws : WA) : WE := fun ρ μ Q EX => ws ρ μ (fun ds μ1 => ds.length ≤ 16777216 ∧ ∀ p, μ1 p = none → Q (.ref p) (setM μ1 p ds)) EX
theorem szl : sizeLine = 16777216 := sizeLine_eq
theorem de_tup {x1 : Nat} (h : DA X T W es ws) : DE X T W (.Tuple es x1 pos) (wTup ws) := by
  refine pe_imp (pe_tup h) ?_
  rintro σ H Q' ⟨Z, ρ, μ, Q, EX, bb, l, q, k⟩
  refine ⟨Z, ρ, μ, _, EX, bb, l, q, fun vs H1 ds μ1 e1 m1 r1 ⟨hl, q1⟩ => ⟨by rw [← r1.length, szl]; exact hl, fun p hp => ?_⟩⟩
  exact k _ _ _ _ (e1.trans (evo_new hp)) (mem_new m1 hp) (rep_tup m1 hp r1) q1
theorem de_lst (h : DA X T W es ws) : DE X T W (.List es pos) (wLst ws) := by
  refine pe_imp (pe_lst h) ?_
  rintro σ H Q' ⟨Z, ρ, μ, Q, EX, bb, l, q, k⟩
  refine ⟨Z, ρ, μ, _, EX, bb, l, q, fun vs H1 ds μ1 e1 m1 r1 ⟨hl, q1⟩ => ⟨by rw [← r1.length, szl]; exact hl, fun p hp => ?_⟩⟩
  exact k _ _ _ _ (e1.trans (evo_new hp)) (mem_new m1 hp) (rep_lst m1 hp r1) q1
theorem de_lstM (h : DA X T W es ws) : DE X T W (.List es pos) (wLstM ws) := by
  refine pe_imp (pe_lst h) ?_
  rintro σ H Q' ⟨Z, ρ, μ, Q, EX, bb, l, q, k⟩
  refine ⟨Z, ρ, μ, _, EX, bb, l, q, fun vs H1 ds μ1 e1 m1 r1 ⟨hl, q1⟩ => ⟨by rw [← r1.length, szl]; exact hl, fun p hp => ?_⟩⟩
  exact k _ _ _ _ (e1.trans (evo_trk hp)) (mem_trk m1 hp r1) (by simp only [Rep]) (q1 p (m1.fresh hp))
/-- a tracked list is from here on one that stays as it is -/
def wFrz (w : WE) : WE := fun ρ μ Q EX => w ρ μ (fun d μ1 => match d with
  | .ref a => ∃ xs, μ1 a = some xs ∧ Q (.lst xs) (delM μ1 a)
  | _ => False) EX
theorem de_frz (h : DE X T W e w) : DE X T W e (wFrz w) := by
  refine pe_imp h ?_
  rintro σ H Q' ⟨Z, ρ, μ, Q, EX, bb, l, q, k⟩
  refine ⟨Z, ρ, μ, _, EX, bb, l, q, fun v H1 d1 μ1 e1 m1 r1 q1 => ?_⟩
  cases d1 with
  | ref a =>
    obtain ⟨xs, hx, q1⟩ := q1
    simp only [Rep] at r1
    subst r1
    obtain ⟨vs, h1, h2⟩ := m1.mem a xs hx
    refine k _ _ _ _ (e1.trans evo_del) (mem_del m1) ?_ q1
    simp only [Rep]
    exact ⟨a, vs, rfl, ⟨by unfold delM; rw [if_pos rfl], fun z => by rw [(m1.pen a z).2] at hx; cases hx⟩, h1, h2.step evo_del _ _⟩
  | _ => exact q1.elim
/-! ### calls of built-ins -/
abbrev RC := List D → Mu → KD → Prop
def CallD (X : Cx) (T : List (Addr × Str)) (f : Value) (r : RC) : Prop :=
  CallR X f (fun xs H Q' => ∃ Z ds μ Q, MemOk X.K T Z μ H ∧ Reps X.K Z μ H ds xs ∧ r ds μ Q ∧ ∀ v H' d μ', Evo μ H μ' H' → MemOk X.K T Z μ' H' → Rep X.K Z μ' H' d v → Q d μ' → Q' v H')
theorem calld {f : Value} {r : RC} {r2 : List V → Hp → VK → Prop} (h : CallR X f r2) (i : ∀ xs H Q' Z ds μ Q, MemOk X.K T Z μ H → Reps X.K Z μ H ds xs → r ds μ Q →
    (∀ v H' d μ', Evo μ H μ' H' → MemOk X.K T Z μ' H' → Rep X.K Z μ' H' d v → Q d μ' → Q' v H') → r2 xs H Q') : CallD X T f r := by
  intro pins s σ H xs us Q I rx ⟨Z, ds, μ, Q2, m, r1, q, k⟩
  exact h pins s σ H xs us Q I rx (i _ _ _ _ _ _ _ m r1 q k)
def wCall (r : RC) (ws : WA) : WE := fun ρ μ Q EX => ws ρ μ (fun ds μ1 => r ds μ1 Q) EX
theorem call_D {σ : L2.St} {H : Hp} {Q' : VK} {r : RC} (h : tD X.K T W (wCall r ws) σ H Q') :
    tDA X.K T W ws σ H fun xs H1 => ∃ Z ds μ Q, MemOk X.K T Z μ H1 ∧ Reps X.K Z μ H1 ds xs ∧ r ds μ Q ∧ ∀ v H' d μ', Evo μ H1 μ' H' → MemOk X.K T Z μ' H' → Rep X.K Z μ' H' d v → Q d μ' → Q' v H' := by
  obtain ⟨Z, ρ, μ, Q, EX, bb, l, q, k⟩ := h
  exact ⟨Z, ρ, μ, _, EX, bb, l, q, fun vs H1 ds μ1 e1 m1 r1 q1 => ⟨Z, ds, μ1, Q, m1, r1, q1, fun v H' d μ' e2 => k v H' d μ' (e1.trans e2)⟩⟩
theorem de_callB {x : Str} {p : Pos} {id : String} {r : RC} (hc : CallD X T (.builtin id) r) (hg : Gl X x) (hm : X.mg x = none) (hv : bootBuiltins x = some (.builtin id)) (ha : DA X T W (e :: es) ws) (hn : x ≠ "__name__" := by decide) (hdb : (x == ("__debug__" : Str)) = false := by decide)
    (he : starEach (e :: es) X.env = (false, eval e X.env) :: starEach es X.env := by rfl) (hpl : (backTo pos (starEach es X.env)).any (·.1) = false := by rfl) : DE X T W (.Call (.Name x p) (e :: es) [] pos) (wCall r ws) :=
  pe_imp (pe_callB hc hg hm hv ha hn hdb he hpl) fun σ H Q h => call_D h
theorem de_callTy {x : Str} {p : Pos} {id : String} {r : RC} (hc : CallD X T (.type id) r) (hg : Gl X x) (hm : X.mg x = none) (hv : bootBuiltins x = some (.type id)) (ha : DA X T W (e :: es) ws) (hn : x ≠ "__name__" := by decide) (hdb : (x == ("__debug__" : Str)) = false := by decide)
    (he : starEach (e :: es) X.env = (false, eval e X.env) :: starEach es X.env := by rfl) (hpl : (backTo pos (starEach es X.env)).any (·.1) = false := by rfl) : DE X T W (.Call (.Name x p) (e :: es) [] pos) (wCall r ws) :=
  pe_imp (pe_callTy hc hg hm hv ha hn hdb he hpl) fun σ H Q h => call_D h
end
end G2
end
section
set_option Elab.async false
set_option linter.all false
set_option maxRecDepth 100000
namespace G2
open PySem PySem.Spec PyProof.Rows L2

section
variable {X : Cx} {T : List (Addr × Str)} {W : WX} {a b c e : Expr} {wa wb wc : WE} {pos : Pos} {w : WE} {rest es : List Expr} {t t' : WTt} {ws : WA}
/-! ### reading a sequence -/
theorem rep_seqL {K : PySem.W.Frag} {Z : Addr → Prop} {μ : Mu} {H : Hp} {T : List (Addr × Str)} (m : MemOk K T Z μ H) {a : Addr} {xs : List D} (h : μ a = some xs) : ∃ vs, SqL K H a vs ∧ H a = some (.lst vs) ∧ Reps K Z μ H xs vs := by
  obtain ⟨vs, h1, h2⟩ := m.mem a xs h
  exact ⟨vs, .inl (.inl h1), h1, h2⟩
/-- the items of a sequence value -/
def seqOf (μ : Mu) : D → Option (List D)
  | .tup xs => some xs
  | .lst xs => some xs
  | .frz xs => some xs
  | .ref a => μ a
  | _ => none
theorem seq_rep {K : PySem.W.Frag} {Z : Addr → Prop} {μ : Mu} {H : Hp} {T : List (Addr × Str)} (m : MemOk K T Z μ H) {d : D} {v : V} {xs : List D} (r : Rep K Z μ H d v) (h : seqOf μ d = some xs) : ∃ a vs, v = .ref a ∧ (SqL K H a vs ∨ SqT K H a vs) ∧ Reps K Z μ H xs vs := by
  cases d with
  | tup ys =>
    simp only [seqOf, Option.some.injEq] at h; subst h
    simp only [Rep] at r
    obtain ⟨a, vs, rfl, h1, h2⟩ := r
    exact ⟨a, vs, rfl, .inr h1.sq, h2⟩
  | lst ys =>
    simp only [seqOf, Option.some.injEq] at h; subst h
    simp only [Rep] at r
    obtain ⟨a, vs, rfl, h1, h2, h3⟩ := r
    exact ⟨a, vs, rfl, .inl (.inl (.inl h2)), h3⟩
  | frz ys =>
    simp only [seqOf, Option.some.injEq] at h; subst h
    simp only [Rep] at r
    obtain ⟨a, vs, rfl, h1, h3⟩ := r
    exact ⟨a, vs, rfl, .inl h1.sq, h3⟩
  | ref a =>
    simp only [Rep] at r
    obtain ⟨vs, h1, _, h2⟩ := rep_seqL m h
    exact ⟨a, vs, r, .inl h1, h2⟩
  | _ => simp [seqOf] at h
/-! ### operators on whole numbers -/
def rInt2 (C : Int → Int → Prop) (g : Int → Int → D) : RD := fun x y μ Q => match x, y with
  | .int i, .int j => C i j ∧ Q (g i j) μ
  | _, _ => False
theorem opd_I {f : Value → Value → Sem Value} {C : Int → Int → Prop} {g : Int → Int → V} {g' : Int → Int → D} (h : OpR X f (rI C g)) (hf : ∀ i j, flat (g' i j) = some (g i j)) : OpD X T f (rInt2 C g') :=
  opd h fun x y H Q' Z dx dy μ Q m r1 r2 q k => by
    unfold rInt2 at q
    split at q
    · rename_i i j
      simp only [Rep] at r1 r2
      exact ⟨i, j, r1, r2, q.1, k _ _ _ _ Evo.refl m (rep_flat (hf i j)) q.2⟩
    · exact q.elim
theorem opd_I0 {f : Value → Value → Sem Value} {g : Int → Int → V} {g' : Int → Int → D} (h : OpR X f (rI0 g)) (hf : ∀ i j, flat (g' i j) = some (g i j)) : OpD X T f (rInt2 (fun _ _ => True) g') :=
  opd h fun x y H Q' Z dx dy μ Q m r1 r2 q k => by
    unfold rInt2 at q
    split at q
    · rename_i i j
      simp only [Rep] at r1 r2
      exact ⟨i, j, r1, r2, k _ _ _ _ Evo.refl m (rep_flat (hf i j)) q.2⟩
    · exact q.elim
abbrev rLt : RD := rInt2 (fun _ _ => True) fun i j => .bl (decide (i < j))
abbrev rLe : RD := rInt2 (fun _ _ => True) fun i j => .bl (decide (i ≤ j))
abbrev rGt : RD := rInt2 (fun _ _ => True) fun i j => .bl (decide (j < i))
abbrev rGe : RD := rInt2 (fun _ _ => True) fun i j => .bl (decide (j ≤ i))
theorem od_lt : OpD X T (compareOp .Lt) rLt := opd_I0 op_lt fun _ _ => rfl
theorem od_le : OpD X T (compareOp .LtE) rLe := opd_I0 op_le fun _ _ => rfl
theorem od_gt : OpD X T (compareOp .Gt) rGt := opd_I0 op_gt fun _ _ => rfl
theorem od_ge : OpD X T (compareOp .GtE) rGe := opd_I0 op_ge fun _ _ => rfl
/-- % by a number that is not nought -/
abbrev rMod : RD := rInt2 (fun _ j => j ≠ 0) fun i j => .int (i.fmod j)
theorem od_mod : OpD X T (binaryOp .Mod) rMod := opd_I op_modN fun _ _ => rfl
/-- // by a number that is not nought, of less than 9,000 bits -/
def CDivA (_ j : Int) : Prop := j ≠ 0 ∧ j.natAbs.log2 < 9000
theorem op_fdivA : OpR X (binaryOp .FloorDiv) (rI CDivA fun i j => .int (i.fdiv j)) := opI fun i j _ _ _ _ _ hc q =>
  floordiv_int hc.1 q (.inl (PyProof.noPylong_of_log2 hc.2))
abbrev rDiv : RD := rInt2 CDivA fun i j => .int (i.fdiv j)
theorem od_div : OpD X T (binaryOp .FloorDiv) rDiv := opd_I op_fdivA fun _ _ => rfl
/-- ** : the bits of the base, times the exponent: at most a million -/
def CPowA (i j : Int) : Prop := 0 ≤ j ∧ (i.natAbs.log2 + 1) * j.toNat ≤ 1000000
theorem op_powA {X : Cx} : OpR X (binaryOp .Pow) (rI CPowA fun i j => .int (i ^ j.toNat)) := opI fun i j _ _ _ _ _ hc q => by
  refine PyProof.Rows.pow_int hc.1 ?_ q
  have h1 : Builtin.Int.intBits i ≤ i.natAbs.log2 + 1 := by unfold Builtin.Int.intBits; split <;> omega
  have h2 : Builtin.Int.intBits i * j.toNat ≤ 1000000 := Nat.le_trans (Nat.mul_le_mul_right _ h1) hc.2
  have h3 : ((Builtin.Int.intBits i : Nat) : Int) * j = ((Builtin.Int.intBits i * j.toNat : Nat) : Int) := by
    rw [Int.natCast_mul, Int.toNat_of_nonneg hc.1]
  rw [h3]
  have h4 : (1000000 : Int) ≤ bitsLine := by decide
  omega
abbrev rPow : RD := rInt2 CPowA fun i j => .int (i ^ j.toNat)
theorem od_pow : OpD X T (binaryOp .Pow) rPow := opd_I op_powA fun _ _ => rfl
def lstOf (μ : Mu) : D → Option (List D)
  | .lst xs => some xs
  | .ref a => μ a
  | _ => none
theorem lst_rep {K : PySem.W.Frag} {Z : Addr → Prop} {μ : Mu} {H : Hp} {T : List (Addr × Str)} (m : MemOk K T Z μ H) {d : D} {v : V} {xs : List D} (r : Rep K Z μ H d v) (h : lstOf μ d = some xs) : ∃ a vs, v = .ref a ∧ H a = some (.lst vs) ∧ Reps K Z μ H xs vs := by
  cases d with
  | lst ys =>
    simp only [lstOf, Option.some.injEq] at h; subst h
    simp only [Rep] at r
    obtain ⟨a, vs, rfl, h1, h2, h3⟩ := r
    exact ⟨a, vs, rfl, h2, h3⟩
  | ref a =>
    simp only [Rep] at r
    obtain ⟨vs, h1, h0, h2⟩ := rep_seqL m h
    exact ⟨a, vs, r, h0, h2⟩
  | _ => simp [lstOf] at h
/-- + : numbers, texts, tuples, lists (a new one) -/
def rAdd : RD := fun x y μ Q => match x, y with
  | .int i, .int j => Q (.int (i + j)) μ
  | .str i, .str j => i.length + j.length ≤ 16777216 ∧ Q (.str (i ++ j)) μ
  | .tup xs, .tup ys => xs.length + ys.length ≤ 16777216 ∧ Q (.tup (xs ++ ys)) μ
  | x, y => ∃ xs ys, lstOf μ x = some xs ∧ lstOf μ y = some ys ∧ xs.length + ys.length ≤ 16777216 ∧ Q (.lst (xs ++ ys)) μ
theorem od_add : OpD X T (binaryOp .Add) rAdd := by
  refine opd (OpR.or op_add (OpR.or op_add_str (OpR.or op_catA op_cat))) ?_
  intro x y H Q' Z dx dy μ Q m r1 r2 q k
  unfold rAdd at q
  split at q
  · simp only [Rep] at r1 r2
    exact .inl ⟨_, _, r1, r2, k _ _ _ _ Evo.refl m (by simp only [Rep]) q⟩
  · simp only [Rep] at r1 r2
    exact .inr (.inl ⟨_, _, r1, r2, by rw [szl]; exact q.1, k _ _ _ _ Evo.refl m (by simp only [Rep]) q.2⟩)
  · rename_i xs ys
    have r1' := r1
    have r2' := r2
    simp only [Rep] at r1 r2
    obtain ⟨a, vs, rfl, h1, h2⟩ := r1
    obtain ⟨b, ws, rfl, h3, h4⟩ := r2
    refine .inr (.inr (.inl ⟨a, b, vs, ws, rfl, rfl, h1.sq, h3.sq, by rw [szl, ← h2.length, ← h4.length]; exact q.1, fun e => ?_, fun _ e => ?_, fun _ _ p hp => ?_⟩))
    · subst e
      have : xs = [] := List.eq_nil_of_length_eq_zero h2.length
      subst this
      exact k _ _ _ _ Evo.refl m r2' (by simpa using q.2)
    · subst e
      have : ys = [] := List.eq_nil_of_length_eq_zero h4.length
      subst this
      exact k _ _ _ _ Evo.refl m r1' (by simpa using q.2)
    · exact k _ _ _ _ (evo_new hp) (mem_new m hp) (rep_tup m hp (h2.append h4)) q.2
  · obtain ⟨xs, ys, hx, hy, hl, q⟩ := q
    obtain ⟨a, vs, rfl, h1, h2⟩ := lst_rep m r1 hx
    obtain ⟨b, ws, rfl, h3, h4⟩ := lst_rep m r2 hy
    exact .inr (.inr (.inr ⟨a, b, vs, ws, rfl, rfl, h1, h3, by rw [szl, ← h2.length, ← h4.length]; exact hl, fun p hp => k _ _ _ _ (evo_new hp) (mem_new m hp) (rep_lst m hp (h2.append h4)) q⟩))
abbrev rSub : RD := rInt2 (fun _ _ => True) fun i j => .int (i - j)
theorem od_sub : OpD X T (binaryOp .Sub) rSub := opd_I0 op_sub fun _ _ => rfl
end
end G2
end
section
set_option Elab.async false
set_option linter.all false
set_option maxRecDepth 100000
set_option maxHeartbeats 4000000
namespace G2
open PySem PySem.Spec PyProof.Rows L2
theorem tuple_mul_same (l : Addr) (items : Array Value) (n : Nat) (dd : Option Addr) (sl : Array (Option Value)) (x : Int) (u : Tok) (c0 : (decide (x < -(2 ^ 63)) || decide (x ≥ 2 ^ 63)) = false) (c1 : (items.isEmpty || x == 1) = true) :
    Meets (Builtin.«tuple.__mul__» ⟨[.ref l, .int x u], []⟩) (fun _ R s => s.heap.get? l = some { cls := .type "tuple", dict := dd, data := .seq items n, slots := sl } ∧
      R (.ok (.ret (Value.ref l))) s) :=
  .of_wp fun prog w A R s h => by
    obtain ⟨hp, g, d, tk, os⟩ := s
    obtain ⟨hl, h⟩ := h
    have f1 := AutoSeq1.idx_int
    wp_walk using wpAny_loadPart' hl
    repeat (first
      | (refine wpAny_ite_false (decide_eq_false (by rw [c0]; exact Bool.false_ne_true)) ?_; wp_walk using wpAny_loadPart' hl)
      | (refine wpAny_ite_true (decide_eq_true c1) ?_; wp_walk using wpAny_loadPart' hl))
    exact ⟨_, rfl, h⟩
theorem tuple_mul_none (l : Addr) (items : Array Value) (n : Nat) (dd : Option Addr) (sl : Array (Option Value)) (x : Int) (u : Tok) (c0 : (decide (x < -(2 ^ 63)) || decide (x ≥ 2 ^ 63)) = false) (c1 : (items.isEmpty || x == 1) = false) (c2 : (decide (x ≤ 0) || items.isEmpty) = true) :
    Meets (Builtin.«tuple.__mul__» ⟨[.ref l, .int x u], []⟩) (fun _ R s => s.heap.get? l = some { cls := .type "tuple", dict := dd, data := .seq items n, slots := sl } ∧
      R (.ok (.ret (Value.ref s.heap.objs.size))) { s with heap := s.heap.push { cls := Value.type "tuple", data := Data.seq #[] }, toks := s.toks }) :=
  .of_wp fun prog w A R s h => by
    obtain ⟨hp, g, d, tk, os⟩ := s
    obtain ⟨hl, h⟩ := h
    have f1 := AutoSeq1.idx_int
    wp_walk using wpAny_loadPart' hl
    repeat (first
      | (refine wpAny_ite_false (decide_eq_false (by rw [c0]; exact Bool.false_ne_true)) ?_; wp_walk using wpAny_loadPart' hl)
      | (refine wpAny_ite_false (decide_eq_false (by rw [c1]; exact Bool.false_ne_true)) ?_; wp_walk using wpAny_loadPart' hl)
      | (refine wpAny_ite_true (decide_eq_true c2) ?_; wp_walk using wpAny_loadPart' hl))
    exact ⟨_, rfl, h⟩
/-- tuple * int, any -/
def rRepA (K : PySem.W.Frag) : R2 := fun x y H Q => ∃ l k xs, x = .ref l ∧ y = .int k ∧ SqT K H l xs ∧ -(2 ^ 63) ≤ k ∧ k < 2 ^ 63 ∧ xs.length * k.toNat ≤ sizeLine ∧
  (xs = [] ∨ k = 1 → Q (.ref l) H) ∧ (xs ≠ [] → k ≠ 1 → ∀ p, H p = none → Q (.ref p) (upd H p (.tup (List.replicate k.toNat xs).flatten)))
theorem op_repA {X : Cx} : OpR X (binaryOp .Mult) (rRepA X.K) := by
  intro pins s σ H x y v u Q I rx ry h
  obtain ⟨l, k, xs, rfl, rfl, hT, h1, h2, hz, q1, q2⟩ := h
  cases rx
  obtain ⟨t, rfl⟩ := ry
  obtain ⟨its, r, ⟨⟨cls, dd, data, sl⟩, ho, hc, n, hd⟩, hs⟩ := I.tuple hT
  simp only at hc hd
  subst hc hd
  have hle : its.length = xs.length := r.length.symm
  have hsz0 : its.toArray.size = xs.length := by rw [List.size_toArray, hle]
  have c0 : (decide (k < -(2 ^ 63)) || decide (k ≥ 2 ^ 63)) = false := by
    rw [decide_eq_false (by omega), decide_eq_false (by omega)] <;> rfl
  have road : ∀ {R : Result → Shared → Prop}, Meets (Builtin.«tuple.__mul__» ⟨[.ref l, .int k t], []⟩) (fun _ R' s' => s'.heap.get? l = some { cls := .type "tuple", dict := dd, data := .seq its.toArray n, slots := sl } ∧ (∀ r2 s2, R r2 s2 → R' r2 s2) ∧ s' = s) → True := fun _ => trivial
  by_cases e1 : (its.toArray.isEmpty || k == 1) = true
  · refine wpAny_binaryOp_repeat_ref (T := "tuple") (U := "int") (by decide) ⟨_, ho, rfl⟩ (fun s' => typeIs_int s' k t) noFill_tuple_mul F.fills_int_mul F.slot_int_rmul repeat_tuple F.slot_int_index.lookup
      (call_meets F.slot_int_rmul (typeIs_int s k t) F.entry_int_rmul (F.args_int_rmul_2 _ _) (int_rmul_tuple k t l its.toArray n dd sl)
        ⟨ho, rfl, ⟨_, ho, rfl⟩, call_meets F.slot_tuple_mul ⟨_, ho, rfl⟩ F.entry_tuple_mul (F.args_tuple_mul_2 _ _) (tuple_mul_same l its.toArray n dd sl k t c0 e1) ⟨ho, ?_⟩⟩)
    refine ⟨.ref l, H, I, rfl, q1 ?_⟩
    rcases Bool.or_eq_true_iff.mp e1 with z | z
    · refine .inl (List.eq_nil_of_length_eq_zero ?_)
      rw [← hle]
      simpa using z
    · exact .inr (by simpa using z)
  · have e1 : (its.toArray.isEmpty || k == 1) = false := by simpa using e1
    have hk1 : k ≠ 1 := by
      intro z
      rw [z] at e1
      simp at e1
    have hne : xs ≠ [] := by
      intro z
      rw [z] at hle
      have : its = [] := List.eq_nil_of_length_eq_zero hle
      rw [this] at e1
      simp at e1
    by_cases e2 : (decide (k ≤ 0) || its.toArray.isEmpty) = true
    · refine wpAny_binaryOp_repeat_ref (T := "tuple") (U := "int") (by decide) ⟨_, ho, rfl⟩ (fun s' => typeIs_int s' k t) noFill_tuple_mul F.fills_int_mul F.slot_int_rmul repeat_tuple F.slot_int_index.lookup
        (call_meets F.slot_int_rmul (typeIs_int s k t) F.entry_int_rmul (F.args_int_rmul_2 _ _) (int_rmul_tuple k t l its.toArray n dd sl)
          ⟨ho, rfl, ⟨_, ho, rfl⟩, call_meets F.slot_tuple_mul ⟨_, ho, rfl⟩ F.entry_tuple_mul (F.args_tuple_mul_2 _ _) (tuple_mul_none l its.toArray n dd sl k t c0 e1 e2) ⟨ho, ?_⟩⟩)
      have hk0 : k.toNat = 0 := by
        rcases Bool.or_eq_true_iff.mp e2 with z | z
        · have := of_decide_eq_true z; omega
        · have : its = [] := by simpa using z
          rw [this] at hle
          exact absurd (List.eq_nil_of_length_eq_zero hle.symm) hne
      refine ⟨.ref s.heap.objs.size, _, I.laid (t' := s.toks) (o := .tup []) (fun b ob q => Heap.get?_push_of_some _ q) (Nat.le_refl _) ?_, rfl, ?_⟩
      · exact ⟨Nat.zero_le _, [], .nil, IsTup.new _ _⟩
      · have z := q2 hne hk1 _ (I.hok.fresh (Nat.le_refl _))
        rw [hk0] at z
        exact z
    · have e2 : (decide (k ≤ 0) || its.toArray.isEmpty) = false := by simpa using e2
      have hk0 : 0 < k := by
        have z := (Bool.or_eq_false_iff.mp e2).1
        have := of_decide_eq_false z
        omega
      have flen : (List.replicate k.toNat its).flatten.length ≤ sizeLine := by
        rw [PyProof.Rows.lm_len_rep_flat, hle, Nat.mul_comm]
        exact hz
      have hm : ((its.toArray.size : Nat) : Int) * k ≤ 16777216 := by
        rw [hsz0]
        have : ((xs.length * k.toNat : Nat) : Int) ≤ 16777216 := by rw [szl] at hz; omega
        rw [Int.natCast_mul, Int.toNat_of_nonneg (by omega)] at this
        exact this
      have c4 : Builtin.Tuple.tupleTooMany (((its.toArray.size : Nat) : Int) * k) = false := by
        unfold Builtin.Tuple.tupleTooMany
        rw [sizeLine_eq]
        exact decide_eq_false (by omega)
      refine wpAny_binaryOp_repeat_ref (T := "tuple") (U := "int") (by decide) ⟨_, ho, rfl⟩ (fun s' => typeIs_int s' k t) noFill_tuple_mul F.fills_int_mul F.slot_int_rmul repeat_tuple F.slot_int_index.lookup
        (call_meets F.slot_int_rmul (typeIs_int s k t) F.entry_int_rmul (F.args_int_rmul_2 _ _) (int_rmul_tuple k t l its.toArray n dd sl)
          ⟨ho, rfl, ⟨_, ho, rfl⟩, call_meets F.slot_tuple_mul ⟨_, ho, rfl⟩ F.entry_tuple_mul (F.args_tuple_mul_2 _ _) (tuple_mulW l its.toArray n dd sl k t c0 e1 e2 (by omega) c4 (by rw [size_rep, List.size_toArray]; exact flen)) ⟨ho, ?_⟩⟩)
      rw [size_rep]
      refine ⟨.ref s.heap.objs.size, _, I.laid (t' := s.toks) (o := .tup (List.replicate k.toNat xs).flatten) (fun b ob q => Heap.get?_push_of_some _ q) (Nat.le_refl _) ?_, rfl, q2 hne hk1 _ (I.hok.fresh (Nat.le_refl _))⟩
      exact ⟨by rw [PyProof.Rows.lm_len_rep_flat, Nat.mul_comm]; exact hz, _, r.rep k.toNat, IsTup.new _ _⟩
/-- numbers of together less than a million bits -/
def CMulA (i j : Int) : Prop := i.natAbs.log2 + j.natAbs.log2 < 1000000
/-- * : numbers, a tuple or a list and a number -/
def rMul : RD := fun x y μ Q => match x, y with
  | .int i, .int j => CMulA i j ∧ Q (.int (i * j)) μ
  | .tup xs, .int k => -(2 ^ 63) ≤ k ∧ k < 2 ^ 63 ∧ xs.length * k.toNat ≤ 16777216 ∧ Q (.tup (List.replicate k.toNat xs).flatten) μ
  | x, .int k => ∃ xs, lstOf μ x = some xs ∧ -(2 ^ 63) ≤ k ∧ k < 2 ^ 63 ∧ xs.length * k.toNat ≤ 16777216 ∧ Q (.lst (List.replicate k.toNat xs).flatten) μ
  | _, _ => False
theorem od_mul {X : Cx} {T : List (Addr × Str)} : OpD X T (binaryOp .Mult) rMul := by
  refine opd (OpR.or op_mulW (OpR.or op_repA op_rep)) ?_
  intro x y H Q' Z dx dy μ Q m r1 r2 q k
  unfold rMul at q
  split at q
  · simp only [Rep] at r1 r2
    exact .inl ⟨_, _, r1, r2, q.1, k _ _ _ _ Evo.refl m (by simp only [Rep]) q.2⟩
  · rename_i xs kk
    obtain ⟨c1, c2, c3, q⟩ := q
    have r1' := r1
    simp only [Rep] at r1 r2
    obtain ⟨a, vs, rfl, h1, h2⟩ := r1
    refine .inr (.inl ⟨a, kk, vs, rfl, r2, h1.sq, c1, c2, by rw [szl, ← h2.length]; exact c3, fun e => ?_, fun _ _ p hp => ?_⟩)
    · refine k _ _ _ _ Evo.refl m r1' ?_
      rcases e with e | e
      · subst e
        have : xs = [] := List.eq_nil_of_length_eq_zero h2.length
        subst this
        have z : (List.replicate kk.toNat ([] : List D)).flatten = [] := by simp
        rw [z] at q
        exact q
      · subst e
        simpa using q
    · exact k _ _ _ _ (evo_new hp) (mem_new m hp) (rep_tup m hp (h2.replicate _)) q
  · rename_i kk _ _
    obtain ⟨xs, hx, c1, c2, c3, q⟩ := q
    obtain ⟨a, vs, rfl, h1, h2⟩ := lst_rep m r1 hx
    simp only [Rep] at r2
    exact .inr (.inr ⟨a, kk, vs, rfl, r2, h1, c1, c2, by rw [szl, ← h2.length]; exact c3, fun p hp => k _ _ _ _ (evo_new hp) (mem_new m hp) (rep_lst m hp (h2.replicate _)) q⟩)
  · exact q.elim
end G2
end
section
set_option Elab.async false
set_option linter.all false
set_option maxRecDepth 100000
namespace G2
open PySem PySem.Spec PyProof.Rows L2

section
variable {X : Cx} {T : List (Addr × Str)} {W : WX} {a b c e o i lo hi : Expr} {wa wb wc wo wi wv : WE} {pos p2 apos : Pos} {w : WE} {rest es : List Expr} {t t' : WTt} {ws : WA}
/-! ### == and != -/
mutual
def pd : D → Option PyData
  | .non => some .none
  | .bl b => some (.bool b)
  | .int i => some (.int i)
  | .str x => some (.str x)
  | .tup xs => (pds xs).map .tuple
  | .lst xs => (pds xs).map .list
  | .frz xs => (pds xs).map .list
  | _ => none
def pds : List D → Option (List PyData)
  | [] => some []
  | d :: ds => match pd d, pds ds with
    | some p, some ps => some (p :: ps)
    | _, _ => none
end
def pdT (μ : Mu) : D → Option PyData
  | .ref a => match μ a with
    | some xs => (pds xs).map .list
    | none => none
  | d => pd d
mutual
theorem dp_of {K : PySem.W.Frag} {Z : Addr → Prop} {μ : Mu} {H : Hp} : ∀ (d : D) (v : V) (p : PyData), Rep K Z μ H d v → pd d = some p → Dp K H v p
  | .non, v, p, r, h => by simp only [Rep] at r; simp only [pd, Option.some.injEq] at h; subst r; subst h; exact .non
  | .bl b, v, p, r, h => by simp only [Rep] at r; simp only [pd, Option.some.injEq] at h; subst r; subst h; exact .bl _
  | .int b, v, p, r, h => by simp only [Rep] at r; simp only [pd, Option.some.injEq] at h; subst r; subst h; exact .int _
  | .str b, v, p, r, h => by simp only [Rep] at r; simp only [pd, Option.some.injEq] at h; subst r; subst h; exact .str _
  | .ty n, v, p, r, h => by simp only [pd, reduceCtorEq] at h
  | .ref n, v, p, r, h => by simp only [pd, reduceCtorEq] at h
  | .ins _ _ _, v, p, r, h => by simp only [pd, reduceCtorEq] at h
  | .dic _ _, v, p, r, h => by simp only [pd, reduceCtorEq] at h
  | .tup xs, v, p, r, h => by
    simp only [Rep] at r
    obtain ⟨a, vs, rfl, h1, h2⟩ := r
    simp only [pd, Option.map_eq_some_iff] at h
    obtain ⟨ps, e, rfl⟩ := h
    exact .tup h1.sq (dps_of xs vs ps h2 e)
  | .lst xs, v, p, r, h => by
    simp only [Rep] at r
    obtain ⟨a, vs, rfl, _, h1, h2⟩ := r
    simp only [pd, Option.map_eq_some_iff] at h
    obtain ⟨ps, e, rfl⟩ := h
    exact .lst (SqL.of h1) (dps_of xs vs ps h2 e)
  | .frz xs, v, p, r, h => by
    simp only [Rep] at r
    obtain ⟨a, vs, rfl, h1, h2⟩ := r
    simp only [pd, Option.map_eq_some_iff] at h
    obtain ⟨ps, e, rfl⟩ := h
    exact .lst h1.sq (dps_of xs vs ps h2 e)
theorem dps_of {K : PySem.W.Frag} {Z : Addr → Prop} {μ : Mu} {H : Hp} : ∀ (ds : List D) (vs : List V) (ps : List PyData), Reps K Z μ H ds vs → pds ds = some ps → DpAll K H vs ps
  | [], vs, ps, r, h => by simp only [Reps] at r; simp only [pds, Option.some.injEq] at h; subst r; subst h; exact .nil
  | d :: ds, vs, ps, r, h => by
    simp only [Reps] at r
    obtain ⟨v, rr, rfl, h1, h2⟩ := r
    simp only [pds] at h
    split at h
    · rename_i p ps' e1 e2
      cases h
      exact .cons (dp_of d v p h1 e1) (dps_of ds rr ps' h2 e2)
    · cases h
end
theorem dp_ofT {K : PySem.W.Frag} {Z : Addr → Prop} {μ : Mu} {H : Hp} {T : List (Addr × Str)} (m : MemOk K T Z μ H) {d : D} {v : V} {p : PyData} (r : Rep K Z μ H d v) (h : pdT μ d = some p) : Dp K H v p := by
  cases d with
  | ref a =>
    simp only [pdT] at h
    split at h
    · rename_i xs hx
      simp only [Option.map_eq_some_iff] at h
      obtain ⟨ps, e, rfl⟩ := h
      obtain ⟨vs, h1, _, h2⟩ := rep_seqL m hx
      simp only [Rep] at r
      subst r
      exact .lst h1 (dps_of xs vs ps h2 e)
    · cases h
  | _ => exact dp_of _ v p r h
def rEqN (f : Bool → Bool) : RD := fun x y μ Q => match x, y with
  | .int i, .int j => Q (.bl (f (decide (i = j)))) μ
  | .bl i, .bl j => Q (.bl (f (decide (i = j)))) μ
  | .str i, .str j => Q (.bl (f (decide (i = j)))) μ
  | x, y => ∃ p q, pdT μ x = some p ∧ pdT μ y = some q ∧ SeqAt.shaped p = true ∧ SeqAt.shaped q = true ∧ Q (.bl (f (PyData.eqv p q))) μ
abbrev rEq : RD := rEqN fun b => b
abbrev rNe : RD := rEqN fun b => !b
theorem dec_of {α β : Type} [DecidableEq α] [DecidableEq β] {f : α → β} (hf : ∀ a b, f a = f b → a = b) (a b : α) : decide (f a = f b) = decide (a = b) := by
  by_cases e : a = b
  · rw [e]; simp
  · rw [decide_eq_false e, decide_eq_false (fun z => e (hf _ _ z))]
theorem od_eq (hu : X.A.units + 64 < cLine) : OpD X T (compareOp .Eq) rEq := by
  refine opd (OpR.or op_eq (op_eqD hu)) ?_
  intro x y H Q' Z dx dy μ Q m r1 r2 q k
  unfold rEq rEqN at q
  split at q
  · simp only [Rep] at r1 r2
    subst r1 r2
    exact .inl ⟨rfl, k _ _ _ _ Evo.refl m (by simp only [Rep]; rw [dec_of (f := V.int) (fun a b h => by injection h)]) q⟩
  · simp only [Rep] at r1 r2
    subst r1 r2
    exact .inl ⟨rfl, k _ _ _ _ Evo.refl m (by simp only [Rep]; rw [dec_of (f := V.bl) (fun a b h => by injection h)]) q⟩
  · simp only [Rep] at r1 r2
    subst r1 r2
    exact .inl ⟨rfl, k _ _ _ _ Evo.refl m (by simp only [Rep]; rw [dec_of (f := V.str) (fun a b h => by injection h)]) q⟩
  · obtain ⟨p, q', h1, h2, h3, h4, q⟩ := q
    exact .inr ⟨p, q', dp_ofT m r1 h1, dp_ofT m r2 h2, h3, h4, k _ _ _ _ Evo.refl m (by simp only [Rep]) q⟩
theorem od_ne (hu : X.A.units + 64 < cLine) : OpD X T (compareOp .NotEq) rNe := by
  refine opd (OpR.or op_ne (op_neD hu)) ?_
  intro x y H Q' Z dx dy μ Q m r1 r2 q k
  unfold rNe rEqN at q
  split at q
  · simp only [Rep] at r1 r2
    subst r1 r2
    exact .inl ⟨rfl, k _ _ _ _ Evo.refl m (by simp only [Rep]; rw [dec_of (f := V.int) (fun a b h => by injection h)]) q⟩
  · simp only [Rep] at r1 r2
    subst r1 r2
    exact .inl ⟨rfl, k _ _ _ _ Evo.refl m (by simp only [Rep]; rw [dec_of (f := V.bl) (fun a b h => by injection h)]) q⟩
  · simp only [Rep] at r1 r2
    subst r1 r2
    exact .inl ⟨rfl, k _ _ _ _ Evo.refl m (by simp only [Rep]; rw [dec_of (f := V.str) (fun a b h => by injection h)]) q⟩
  · obtain ⟨p, q', h1, h2, h3, h4, q⟩ := q
    exact .inr ⟨p, q', dp_ofT m r1 h1, dp_ofT m r2 h2, h3, h4, k _ _ _ _ Evo.refl m (by simp only [Rep]) q⟩
/-! ### is -/
def isNon : D → Bool
  | .non => true
  | _ => false
theorem isNon_rep {K : PySem.W.Frag} {Z : Addr → Prop} {μ : Mu} {H : Hp} {d : D} {v : V} (r : Rep K Z μ H d v) : decide (v = V.non) = isNon d := by
  cases d <;> simp only [Rep] at r <;> first
    | (subst r; simp [isNon])
    | (obtain ⟨_, _, rfl, _⟩ := r; simp [isNon])
    | (obtain ⟨_, _, _, rfl, _⟩ := r; simp [isNon])
/-- x is None; x is True (x a truth value) -/
def rIsN (f : Bool → Bool) : RD := fun x y μ Q => match y with
  | .non => Q (.bl (f (isNon x))) μ
  | .bl j => ∃ i, x = .bl i ∧ Q (.bl (f (decide (i = j)))) μ
  | _ => False
abbrev rIs : RD := rIsN fun b => b
abbrev rIsNot : RD := rIsN fun b => !b
theorem od_is : OpD X T (compareOp .Is) rIs := by
  refine opd (OpR.or op_isN op_isBl) ?_
  intro x y H Q' Z dx dy μ Q m r1 r2 q k
  unfold rIs rIsN at q
  split at q
  · simp only [Rep] at r2
    exact .inl ⟨r2, k _ _ _ _ Evo.refl m (by simp only [Rep]; rw [isNon_rep r1]) q⟩
  · obtain ⟨i, rfl, q⟩ := q
    simp only [Rep] at r1 r2
    exact .inr ⟨_, _, r1, r2, k _ _ _ _ Evo.refl m (by simp only [Rep]) q⟩
  · exact q.elim
theorem od_isnot : OpD X T (compareOp .IsNot) rIsNot := by
  refine opd (OpR.or op_notN op_notBl) ?_
  intro x y H Q' Z dx dy μ Q m r1 r2 q k
  unfold rIsNot rIsN at q
  split at q
  · simp only [Rep] at r2
    exact .inl ⟨r2, k _ _ _ _ Evo.refl m (by simp only [Rep]; rw [isNon_rep r1]) q⟩
  · obtain ⟨i, rfl, q⟩ := q
    simp only [Rep] at r1 r2
    exact .inr ⟨_, _, r1, r2, k _ _ _ _ Evo.refl m (by simp only [Rep]) q⟩
  · exact q.elim
/-! ### isinstance with a built-in class -/
inductive Tg where
  | non | bl | int | str | tup | lst | dic
  deriving DecidableEq
def Tg.name : Tg → String
  | .non => "NoneType" | .bl => "bool" | .int => "int" | .str => "str" | .tup => "tuple" | .lst => "list" | .dic => "dict"
def tgOf (n : String) : Option Tg := if n = "bool" then some .bl else if n = "int" then some .int else if n = "str" then some .str else if n = "tuple" then some .tup else if n = "list" then some .lst else if n = "dict" then some .dic else none
theorem tgOf_name {n : String} {g : Tg} (h : tgOf n = some g) : n = g.name := by
  unfold tgOf at h
  repeat' split at h
  all_goals (first | cases h | skip) <;> first | rfl | assumption
  all_goals (cases h; assumption)
def isTag (a b : Tg) : Bool := decide (a = b) || (decide (a = .bl) && decide (b = .int))
theorem kit_tag (a b : Tg) : kitB a.name b.name = some (isTag a b) := by cases a <;> cases b <;> decide +kernel
def tagOf (μ : Mu) : D → Option Tg
  | .non => some .non
  | .bl _ => some .bl
  | .int _ => some .int
  | .str _ => some .str
  | .tup _ => some .tup
  | .lst _ => some .lst
  | .dic _ _ => some .dic
  | .ref a => match μ a with
    | some _ => some .lst
    | none => none
  | _ => none
theorem tag_ty {K : PySem.W.Frag} {Z : Addr → Prop} {μ : Mu} {H : Hp} {T : List (Addr × Str)} (m : MemOk K T Z μ H) {d : D} {v : V} {g : Tg} (r : Rep K Z μ H d v) (h : tagOf μ d = some g) : TyX K H v (.type g.name) := by
  cases d with
  | non => simp only [Rep] at r; simp only [tagOf, Option.some.injEq] at h; subst r h; exact .base .non
  | bl b => simp only [Rep] at r; simp only [tagOf, Option.some.injEq] at h; subst r h; exact .base (.bl _)
  | int b => simp only [Rep] at r; simp only [tagOf, Option.some.injEq] at h; subst r h; exact .base (.int _)
  | str b => simp only [Rep] at r; simp only [tagOf, Option.some.injEq] at h; subst r h; exact .base (.str _)
  | ty b => simp only [tagOf, reduceCtorEq] at h
  | ins _ _ _ => simp only [tagOf, reduceCtorEq] at h
  | ref a =>
    simp only [tagOf] at h
    split at h
    · rename_i xs hx
      cases h
      obtain ⟨vs, _, h1, _⟩ := rep_seqL m hx
      simp only [Rep] at r
      subst r
      exact .base (.lst h1)
    · cases h
  | tup xs =>
    simp only [tagOf, Option.some.injEq] at h; subst h
    simp only [Rep] at r
    obtain ⟨a, vs, rfl, h1, _⟩ := r
    rcases h1 with ⟨_, _, h1 | ⟨o, h1⟩⟩ | ⟨o, its, n, h1, h2, _⟩
    · exact .base (.tup h1)
    · exact .fTuple h1
    · exact .kTuple h1 h2
  | lst xs =>
    simp only [tagOf, Option.some.injEq] at h; subst h
    simp only [Rep] at r
    obtain ⟨a, vs, rfl, _, h1, _⟩ := r
    exact .base (.lst h1)
  | frz xs => simp only [tagOf, reduceCtorEq] at h
  | dic ks xs =>
    simp only [tagOf, Option.some.injEq] at h; subst h
    simp only [Rep] at r
    obtain ⟨a, vs, rfl, _, h1, _⟩ := r
    rcases h1 with h1 | ⟨o, h1⟩
    · exact .base (.dK h1)
    · exact .fDict h1
def cIsi : RC := fun ds μ Q => match ds with
  | [x, .ty n] => ∃ g g', tagOf μ x = some g ∧ tgOf n = some g' ∧ Q (.bl (isTag g g')) μ
  | _ => False
theorem cd_isi : CallD X T (.builtin "isinstance") cIsi := by
  refine calld call_isi ?_
  intro xs H Q' Z ds μ Q m r q k
  unfold cIsi at q
  split at q
  · rename_i x n
    obtain ⟨g, g', h1, h2, q⟩ := q
    simp only [Reps, Rep] at r
    obtain ⟨v, _, rfl, r1, _, _, rfl, rfl, rfl⟩ := r
    refine ⟨v, .ty n, _, _, isTag g g', rfl, .ty n, tag_ty m r1 h1, ?_, k _ _ _ _ Evo.refl m (by simp only [Rep]) q⟩
    rw [tgOf_name h2]
    exact kit_ty (kit_tag g g')
  · exact q.elim
/-! ### len, abs, int, max, min, sum, all, any, tuple, list -/
theorem reps1 {K : PySem.W.Frag} {Z : Addr → Prop} {μ : Mu} {H : Hp} {d : D} {vs : List V} (r : Reps K Z μ H [d] vs) : ∃ v, vs = [v] ∧ Rep K Z μ H d v := by
  simp only [Reps] at r
  obtain ⟨v, _, rfl, r1, rfl⟩ := r
  exact ⟨v, rfl, r1⟩
theorem reps2 {K : PySem.W.Frag} {Z : Addr → Prop} {μ : Mu} {H : Hp} {d d' : D} {vs : List V} (r : Reps K Z μ H [d, d'] vs) : ∃ v v', vs = [v, v'] ∧ Rep K Z μ H d v ∧ Rep K Z μ H d' v' := by
  simp only [Reps] at r
  obtain ⟨v, _, rfl, r1, v2, _, rfl, r2, rfl⟩ := r
  exact ⟨v, v2, rfl, r1, r2⟩
def cLen : RC := fun ds μ Q => match ds with
  | [.str z] => z.length ≤ 16777216 ∧ Q (.int z.length) μ
  | [.dic ks xs] => Q (.int ks.length) μ
  | [d] => ∃ xs, seqOf μ d = some xs ∧ Q (.int xs.length) μ
  | _ => False
end
end G2
end
section
set_option Elab.async false
set_option linter.all false
set_option maxRecDepth 100000
namespace G2
open PySem PySem.Spec PyProof.Rows L2

section
variable {X : Cx} {T : List (Addr × Str)} {W : WX} {a b c e o i lo hi : Expr} {wa wb wc wo wi wv : WE} {pos p2 apos : Pos} {w : WE} {rest es : List Expr} {t t' : WTt} {ws : WA}
theorem call_lenR : CallR X (.builtin "len") (fun xs H Q => ∃ a kvs, xs = [V.ref a] ∧ Rd H a (.dK kvs) ∧ Q (.int kvs.length) H) := by
  intro pins s σ H xs us Q I r h
  obtain ⟨a, kvs, rfl, ha, q⟩ := h
  obtain ⟨u, rfl, ru⟩ := vals1 r
  cases ru
  exact d_len I ha fun t s' I' => ⟨.int kvs.length, H, I', ⟨t, rfl⟩, q⟩
theorem cd_len : CallD X T (.builtin "len") cLen := by
  refine calld (CallR.or call_len_str (CallR.or call_len_seq call_lenR)) ?_
  intro xs H Q' Z ds μ Q m r q k
  unfold cLen at q
  split at q
  · obtain ⟨v, rfl, r1⟩ := reps1 r
    simp only [Rep] at r1
    exact .inl ⟨_, by rw [r1], by rw [szl]; exact q.1, k _ _ _ _ Evo.refl m (by simp only [Rep]) q.2⟩
  · obtain ⟨v, rfl, r1⟩ := reps1 r
    rename_i ks ys
    simp only [Rep] at r1
    obtain ⟨a, vs, rfl, _, h1, h2, _⟩ := r1
    have hz : (ks.zip vs).length = ks.length := by rw [List.length_zip, h2, Nat.min_self]
    exact .inr (.inr ⟨a, _, rfl, h1, k _ _ _ _ Evo.refl m (by simp only [Rep]; rw [hz]) q⟩)
  · obtain ⟨v, rfl, r1⟩ := reps1 r
    obtain ⟨xs, hx, q⟩ := q
    obtain ⟨a, vs, rfl, h1, h2⟩ := seq_rep m r1 hx
    exact .inr (.inl ⟨a, vs, rfl, h1, k _ _ _ _ Evo.refl m (by simp only [Rep]; rw [h2.length]) q⟩)
  · exact q.elim
def cAbs : RC := fun ds μ Q => match ds with
  | [.int i] => Q (.int (if i < 0 then -i else i)) μ
  | _ => False
theorem cd_abs : CallD X T (.builtin "abs") cAbs := by
  refine calld call_abs ?_
  intro xs H Q' Z ds μ Q m r q k
  unfold cAbs at q
  split at q
  · obtain ⟨v, rfl, r1⟩ := reps1 r
    simp only [Rep] at r1
    exact ⟨_, by rw [r1], k _ _ _ _ Evo.refl m (by simp only [Rep]) q⟩
  · exact q.elim
def cInt : RC := fun ds μ Q => match ds with
  | [.int i] => Q (.int i) μ
  | [.bl b] => Q (.int (if b then 1 else 0)) μ
  | _ => False
theorem cd_int : CallD X T (.type "int") cInt := by
  refine calld call_int1 ?_
  intro xs H Q' Z ds μ Q m r q k
  unfold cInt at q
  split at q
  · obtain ⟨v, rfl, r1⟩ := reps1 r
    simp only [Rep] at r1
    exact .inl ⟨_, by rw [r1], k _ _ _ _ Evo.refl m (by simp only [Rep]) q⟩
  · obtain ⟨v, rfl, r1⟩ := reps1 r
    simp only [Rep] at r1
    exact .inr ⟨_, by rw [r1], k _ _ _ _ Evo.refl m (by simp only [Rep]) q⟩
  · exact q.elim
def cMax2 : RC := fun ds μ Q => match ds with
  | [.int i, .int j] => Q (.int (if j > i then j else i)) μ
  | _ => False
theorem cd_max2 (hc : X.calm = true) : CallD X T (.builtin "max") cMax2 := by
  refine calld (call_max2 hc) ?_
  intro xs H Q' Z ds μ Q m r q k
  unfold cMax2 at q
  split at q
  · obtain ⟨v, v', rfl, r1, r2⟩ := reps2 r
    simp only [Rep] at r1 r2
    exact ⟨_, _, by rw [r1, r2], k _ _ _ _ Evo.refl m (by simp only [Rep]) q⟩
  · exact q.elim
def cMin2 : RC := fun ds μ Q => match ds with
  | [.int i, .int j] => Q (.int (if j < i then j else i)) μ
  | _ => False
theorem cd_min2 (hc : X.calm = true) : CallD X T (.builtin "min") cMin2 := by
  refine calld (call_min2 hc) ?_
  intro xs H Q' Z ds μ Q m r q k
  unfold cMin2 at q
  split at q
  · obtain ⟨v, v', rfl, r1, r2⟩ := reps2 r
    simp only [Rep] at r1 r2
    exact ⟨_, _, by rw [r1, r2], k _ _ _ _ Evo.refl m (by simp only [Rep]) q⟩
  · exact q.elim
theorem reps_ints {K : PySem.W.Frag} {Z : Addr → Prop} {μ : Mu} {H : Hp} : ∀ {ns : List Int} {vs : List V}, Reps K Z μ H (ns.map D.int) vs → vs = ns.map V.int
  | [], vs, h => by simp only [List.map_nil, Reps] at h; exact h
  | n :: ns, vs, h => by
    simp only [List.map_cons, Reps, Rep] at h
    obtain ⟨v, r, rfl, rfl, h2⟩ := h
    rw [reps_ints h2]; rfl
theorem reps_bls {K : PySem.W.Frag} {Z : Addr → Prop} {μ : Mu} {H : Hp} : ∀ {ns : List Bool} {vs : List V}, Reps K Z μ H (ns.map D.bl) vs → vs = ns.map V.bl
  | [], vs, h => by simp only [List.map_nil, Reps] at h; exact h
  | n :: ns, vs, h => by
    simp only [List.map_cons, Reps, Rep] at h
    obtain ⟨v, r, rfl, rfl, h2⟩ := h
    rw [reps_bls h2]; rfl
theorem lst_sq {K : PySem.W.Frag} {Z : Addr → Prop} {μ : Mu} {H : Hp} {m : MemOk K T Z μ H} {d : D} {v : V} {xs : List D} (r : Rep K Z μ H d v) (h : lstOf μ d = some xs) : ∃ a vs, v = .ref a ∧ SqL K H a vs ∧ Reps K Z μ H xs vs := by
  obtain ⟨a, vs, rfl, h1, h2⟩ := lst_rep m r h
  exact ⟨a, vs, rfl, SqL.of h1, h2⟩
/-- sum of a list of whole numbers -/
def cSum : RC := fun ds μ Q => match ds with
  | [d] => ∃ ns : List Int, lstOf μ d = some (ns.map D.int) ∧ Q (.int ns.sum) μ
  | _ => False
theorem cd_sum (hc : X.calm = true) : CallD X T (.builtin "sum") cSum := by
  refine calld (cr_sum hc) ?_
  intro xs H Q' Z ds μ Q m r q k
  unfold cSum at q
  split at q
  · obtain ⟨v, rfl, r1⟩ := reps1 r
    obtain ⟨ns, hx, q⟩ := q
    obtain ⟨a, vs, rfl, h1, h2⟩ := lst_rep m r1 hx
    rw [reps_ints h2] at h1
    exact ⟨a, ns, rfl, SqL.of h1, k _ _ _ _ Evo.refl m (by simp only [Rep]) q⟩
  · exact q.elim
def cAll : RC := fun ds μ Q => match ds with
  | [d] => ∃ bs : List Bool, lstOf μ d = some (bs.map D.bl) ∧ Q (.bl (bs.all id)) μ
  | _ => False
theorem cd_all (hc : X.calm = true) : CallD X T (.builtin "all") cAll := by
  refine calld (cr_all hc) ?_
  intro xs H Q' Z ds μ Q m r q k
  unfold cAll at q
  split at q
  · obtain ⟨v, rfl, r1⟩ := reps1 r
    obtain ⟨ns, hx, q⟩ := q
    obtain ⟨a, vs, rfl, h1, h2⟩ := lst_rep m r1 hx
    rw [reps_bls h2] at h1
    exact ⟨a, ns, rfl, SqL.of h1, k _ _ _ _ Evo.refl m (by simp only [Rep]) q⟩
  · exact q.elim
def cAny : RC := fun ds μ Q => match ds with
  | [d] => ∃ bs : List Bool, lstOf μ d = some (bs.map D.bl) ∧ Q (.bl (bs.any id)) μ
  | _ => False
theorem cd_any (hc : X.calm = true) : CallD X T (.builtin "any") cAny := by
  refine calld (cr_any hc) ?_
  intro xs H Q' Z ds μ Q m r q k
  unfold cAny at q
  split at q
  · obtain ⟨v, rfl, r1⟩ := reps1 r
    obtain ⟨ns, hx, q⟩ := q
    obtain ⟨a, vs, rfl, h1, h2⟩ := lst_rep m r1 hx
    rw [reps_bls h2] at h1
    exact ⟨a, ns, rfl, SqL.of h1, k _ _ _ _ Evo.refl m (by simp only [Rep]) q⟩
  · exact q.elim
def cTuple : RC := fun ds μ Q => match ds with
  | [.tup xs] => Q (.tup xs) μ
  | [d] => ∃ xs, lstOf μ d = some xs ∧ Q (.tup xs) μ
  | _ => False
theorem cd_tuple : CallD X T (.type "tuple") cTuple := by
  refine calld call_tuple_of ?_
  intro xs H Q' Z ds μ Q m r q k
  unfold cTuple at q
  split at q
  · obtain ⟨v, rfl, r1⟩ := reps1 r
    have r1' := r1
    simp only [Rep] at r1
    obtain ⟨a, vs, rfl, h1, h2⟩ := r1
    exact ⟨a, vs, rfl, .inr ⟨h1.sq, k _ _ _ _ Evo.refl m r1' q⟩⟩
  · obtain ⟨v, rfl, r1⟩ := reps1 r
    obtain ⟨xs, hx, q⟩ := q
    obtain ⟨a, vs, rfl, h1, h2⟩ := lst_rep m r1 hx
    exact ⟨a, vs, rfl, .inl ⟨SqL.of h1, fun p hp => k _ _ _ _ (evo_new hp) (mem_new m hp) (rep_tup m hp h2) q⟩⟩
  · exact q.elim
/-- list(s): one that stays; one that may change -/
def cList : RC := fun ds μ Q => match ds with
  | [d] => ∃ xs, seqOf μ d = some xs ∧ Q (.lst xs) μ
  | _ => False
def cListM : RC := fun ds μ Q => match ds with
  | [d] => ∃ xs, seqOf μ d = some xs ∧ ∀ p, μ p = none → Q (.ref p) (setM μ p xs)
  | _ => False
theorem cd_list : CallD X T (.type "list") cList := by
  refine calld call_list_of ?_
  intro xs H Q' Z ds μ Q m r q k
  unfold cList at q
  split at q
  · obtain ⟨v, rfl, r1⟩ := reps1 r
    obtain ⟨xs, hx, q⟩ := q
    obtain ⟨a, vs, rfl, h1, h2⟩ := seq_rep m r1 hx
    exact ⟨a, vs, rfl, h1, fun p hp => k _ _ _ _ (evo_new hp) (mem_new m hp) (rep_lst m hp h2) q⟩
  · exact q.elim
theorem cd_listM : CallD X T (.type "list") cListM := by
  refine calld call_list_of ?_
  intro xs H Q' Z ds μ Q m r q k
  unfold cListM at q
  split at q
  · obtain ⟨v, rfl, r1⟩ := reps1 r
    obtain ⟨xs, hx, q⟩ := q
    obtain ⟨a, vs, rfl, h1, h2⟩ := seq_rep m r1 hx
    exact ⟨a, vs, rfl, h1, fun p hp => k _ _ _ _ (evo_trk hp) (mem_trk m hp h2) (by simp only [Rep]) (q p (m.fresh hp))⟩
  · exact q.elim
/-- list(range(n)), tuple(range(n)) -/
def rgD (a b : Int) : List D := (List.range (b - a).toNat).map fun j => .int (a + (j : Nat))
theorem reps_rg {K : PySem.W.Frag} {Z : Addr → Prop} {μ : Mu} {H : Hp} (a b : Int) : Reps K Z μ H (rgD a b) (rgV a b) := by
  unfold rgD rgV
  generalize (List.range (b - a).toNat) = l
  induction l with
  | nil => exact Reps.nil
  | cons x l ih => exact Reps.cons (by simp only [Rep]) ih
abbrev WR := Ro → Mu → (Int → Int → Mu → Prop) → KX → Prop
def tDR (K : PySem.W.Frag) (T : List (Addr × Str)) (W : WX) (w : WR) : L2.St → Hp → (Int → Int → Hp → Prop) → Prop := fun σ H Q' => ∃ Z ρ μ Q EX, Bear K T Z σ H ρ μ ∧ LkX K T Z W EX σ μ H ∧ w ρ μ Q EX ∧
  ∀ i j H' μ', Evo μ H μ' H' → MemOk K T Z μ' H' → Q i j μ' → Q' i j H'
def DR (X : Cx) (T : List (Addr × Str)) (W : WX) (e : Expr) (w : WR) : Prop := PRg X e (tDR X.K T W w)
def wRg1 (wa : WE) : WR := fun ρ μ Q EX => wa ρ μ (fun d μ1 => ∃ n, d = .int n ∧ Q 0 n μ1) EX
def wRg2 (wa wb : WE) : WR := fun ρ μ Q EX => wa ρ μ (fun d μ1 => wb ρ μ1 (fun d2 μ2 => ∃ i j, d = .int i ∧ d2 = .int j ∧ Q i j μ2) EX) EX
theorem prg_imp {e : Expr} {t t' : L2.St → Hp → (Int → Int → Hp → Prop) → Prop} (h : PRg X e t) (i : ∀ σ H Q, t' σ H Q → t σ H Q) : PRg X e t' := fun pins s σ H Q I q => h pins s σ H Q I (i σ H Q q)
theorem dr_1 {p : Pos} (hg : Gl X "range") (hm : X.mg "range" = none) (ha : DE X T W a wa) (na : starEach [a] X.env = (false, eval a X.env) :: starEach [] X.env := by rfl) : DR X T W (.Call (.Name "range" p) [a] [] pos) (wRg1 wa) := by
  refine prg_imp (prg_1 hg hm ha na) ?_
  rintro σ H Q' ⟨Z, ρ, μ, Q, EX, bb, l, q, k⟩
  refine ⟨Z, ρ, μ, _, EX, bb, l, q, fun v H1 d μ1 e1 m1 r1 ⟨n, hd, q1⟩ => ?_⟩
  subst hd
  simp only [Rep] at r1
  exact ⟨n, r1, k _ _ _ _ e1 m1 q1⟩
theorem dr_2 {p : Pos} (hg : Gl X "range") (hm : X.mg "range" = none) (ha : DE X T W a wa) (hb : DE X T W b wb) (na : starEach [a, b] X.env = (false, eval a X.env) :: starEach [b] X.env := by rfl)
    (nb : starEach [b] X.env = (false, eval b X.env) :: starEach [] X.env := by rfl) (hp : (backTo pos (starEach [b] X.env)).any (·.1) = false := by rfl) : DR X T W (.Call (.Name "range" p) [a, b] [] pos) (wRg2 wa wb) := by
  refine prg_imp (prg_2 hg hm ha hb na nb hp) ?_
  rintro σ H Q' ⟨Z, ρ, μ, Q, EX, bb, l, q, k⟩
  refine ⟨Z, ρ, μ, _, EX, bb, l, q, fun v H1 d μ1 e1 m1 r1 q1 => ⟨Z, ρ, μ1, _, EX, bb.step e1 m1, l.step e1, q1, fun v2 H2 d2 μ2 e2 m2 r2 ⟨i, j, hi, hj, q2⟩ => ?_⟩⟩
  subst hi hj
  simp only [Rep] at r1 r2
  exact ⟨i, j, r1, r2, k _ _ _ _ (e1.trans e2) m2 q2⟩
def RgB (a b : Int) : Prop := -(2 ^ 62) ≤ a ∧ a < 2 ^ 62 ∧ -(2 ^ 62) ≤ b ∧ b < 2 ^ 62 ∧ (b - a).toNat ≤ 16777216
def wLstRg (wr : WR) : WE := fun ρ μ Q EX => wr ρ μ (fun i j μ1 => RgB i j ∧ Q (.lst (rgD i j)) μ1) EX
def wLstRgM (wr : WR) : WE := fun ρ μ Q EX => wr ρ μ (fun i j μ1 => RgB i j ∧ ∀ p, μ1 p = none → Q (.ref p) (setM μ1 p (rgD i j))) EX
def wTupRg (wr : WR) : WE := fun ρ μ Q EX => wr ρ μ (fun i j μ1 => RgB i j ∧ Q (.tup (rgD i j)) μ1) EX
theorem de_lstRg {wr : WR} {p : Pos} (hc : X.calm = true) (hg : Gl X "list") (hm : X.mg "list" = none) (he : DR X T W e wr) (na : starEach [e] X.env = (false, eval e X.env) :: starEach [] X.env := by rfl) : DE X T W (.Call (.Name "list" p) [e] [] pos) (wLstRg wr) := by
  refine pe_imp (pe_listRg hc hg hm he na) ?_
  rintro σ H Q' ⟨Z, ρ, μ, Q, EX, bb, l, q, k⟩
  exact ⟨Z, ρ, μ, _, EX, bb, l, q, fun i j H1 μ1 e1 m1 ⟨hb, q1⟩ => ⟨hb, fun p hp => k _ _ _ _ (e1.trans (evo_new hp)) (mem_new m1 hp) (rep_lst m1 hp (reps_rg i j)) q1⟩⟩
theorem de_lstRgM {wr : WR} {p : Pos} (hc : X.calm = true) (hg : Gl X "list") (hm : X.mg "list" = none) (he : DR X T W e wr) (na : starEach [e] X.env = (false, eval e X.env) :: starEach [] X.env := by rfl) : DE X T W (.Call (.Name "list" p) [e] [] pos) (wLstRgM wr) := by
  refine pe_imp (pe_listRg hc hg hm he na) ?_
  rintro σ H Q' ⟨Z, ρ, μ, Q, EX, bb, l, q, k⟩
  exact ⟨Z, ρ, μ, _, EX, bb, l, q, fun i j H1 μ1 e1 m1 ⟨hb, q1⟩ => ⟨hb, fun p hp => k _ _ _ _ (e1.trans (evo_trk hp)) (mem_trk m1 hp (reps_rg i j)) (by simp only [Rep]) (q1 p (m1.fresh hp))⟩⟩
theorem de_tupRg {wr : WR} {p : Pos} (hc : X.calm = true) (hg : Gl X "tuple") (hm : X.mg "tuple" = none) (he : DR X T W e wr) (na : starEach [e] X.env = (false, eval e X.env) :: starEach [] X.env := by rfl) : DE X T W (.Call (.Name "tuple" p) [e] [] pos) (wTupRg wr) := by
  refine pe_imp (pe_tupRg hc hg hm he na) ?_
  rintro σ H Q' ⟨Z, ρ, μ, Q, EX, bb, l, q, k⟩
  exact ⟨Z, ρ, μ, _, EX, bb, l, q, fun i j H1 μ1 e1 m1 ⟨hb, q1⟩ => ⟨hb, fun p hp => k _ _ _ _ (e1.trans (evo_new hp)) (mem_new m1 hp) (rep_tup m1 hp (reps_rg i j)) q1⟩⟩
/-! ### subscripts, slices -/
theorem atI_rep {K : PySem.W.Frag} {Z : Addr → Prop} {μ : Mu} {H : Hp} {ds : List D} {vs : List V} {i : Int} {d : D} (r : Reps K Z μ H ds vs) (h : atI ds i = some d) : ∃ v, atI vs i = some v ∧ Rep K Z μ H d v := by
  unfold atI at h ⊢
  rw [← r.length]
  cases e : ixN ds.length i with
  | none => rw [e] at h; cases h
  | some j =>
    rw [e] at h
    exact r.get h
def rIx : RD := fun x y μ Q => match y with
  | .int i => match x with
    | .str z => ∃ c, z.length ≤ 16777216 ∧ atI z.cps.toList i = some c ∧ Q (.str ⟨#[c]⟩) μ
    | x => ∃ xs d, seqOf μ x = some xs ∧ atI xs i = some d ∧ Q d μ
  | _ => False
theorem de_ix (ha : DE X T W a wa) (hb : DE X T W b wb) (hs : PlainIx b := by exact fun _ _ => rfl) : DE X T W (.Subscript a b pos) (wOp rIx wa wb) := by
  refine pe_imp (pe_ix ix_seq ha hb hs) fun σ H Q h => two_D h ?_
  rintro x y H Q' ⟨Z, dx, dy, μ, Q, m, r1, r2, q, k⟩
  unfold rIx at q
  split at q
  · simp only [Rep] at r2
    split at q
    · obtain ⟨c, h1, h2, q⟩ := q
      simp only [Rep] at r1
      exact .inr (.inr ⟨_, _, c, r1, r2, by rw [szl]; exact h1, h2, k _ _ _ _ Evo.refl m (by simp only [Rep]) q⟩)
    · obtain ⟨xs, d, hx, ha, q⟩ := q
      obtain ⟨p, vs, rfl, h1, h2⟩ := seq_rep m r1 hx
      obtain ⟨v, e1, e2⟩ := atI_rep h2 ha
      rcases h1 with h1 | h1
      · exact .inl ⟨p, vs, _, v, rfl, r2, h1, e1, k _ _ _ _ Evo.refl m e2 q⟩
      · exact .inr (.inl ⟨p, vs, _, v, rfl, r2, h1, e1, k _ _ _ _ Evo.refl m e2 q⟩)
  · exact q.elim
def cutD (xs : List D) (lo hi : Option Int) : List D := (xs.drop (HT.sIx xs.length 0 lo)).take (HT.sIx xs.length xs.length hi - HT.sIx xs.length 0 lo)
theorem reps_cut {K : PySem.W.Frag} {Z : Addr → Prop} {μ : Mu} {H : Hp} {ds : List D} {vs : List V} (r : Reps K Z μ H ds vs) (lo hi : Option Int) : Reps K Z μ H (cutD ds lo hi) (cutV vs lo hi) := by
  unfold cutD cutV
  rw [r.length]
  exact (r.drop _).take _
abbrev WO := Ro → Mu → (Option Int → Mu → Prop) → KX → Prop
def tDO (K : PySem.W.Frag) (T : List (Addr × Str)) (W : WX) (w : WO) : TO := fun σ H Q' => ∃ Z ρ μ Q EX, Bear K T Z σ H ρ μ ∧ LkX K T Z W EX σ μ H ∧ w ρ μ Q EX ∧ ∀ i H' μ', Evo μ H μ' H' → MemOk K T Z μ' H' → Q i μ' → Q' i H'
def DO (X : Cx) (T : List (Addr × Str)) (W : WX) (e : Option Expr) (w : WO) : Prop := PO X e (tDO X.K T W w)
theorem po_imp {e : Option Expr} {t t' : TO} (h : PO X e t) (i : ∀ σ H Q, t' σ H Q → t σ H Q) : PO X e t' := ⟨fun pins s σ H Q I q => h.run pins s σ H Q I (i σ H Q q)⟩
def wNo : WO := fun _ μ Q _ => Q none μ
def wPart (w : WE) : WO := fun ρ μ Q EX => w ρ μ (fun d μ1 => ∃ i, d = .int i ∧ Q (some i) μ1) EX
theorem do_no : DO X T W none wNo := by
  refine po_imp po_none ?_
  rintro σ H Q' ⟨Z, ρ, μ, Q, EX, bb, l, q, k⟩
  exact k _ _ _ Evo.refl bb.m q
theorem do_part (h : DE X T W e w) : DO X T W (some e) (wPart w) := by
  refine po_imp (po_some h) ?_
  rintro σ H Q' ⟨Z, ρ, μ, Q, EX, bb, l, q, k⟩
  refine ⟨Z, ρ, μ, _, EX, bb, l, q, fun v H1 d μ1 e1 m1 r1 ⟨i, hd, q1⟩ => ?_⟩
  subst hd
  simp only [Rep] at r1
  exact ⟨i, r1, k _ _ _ e1 m1 q1⟩
def rSl (x : D) (l u : Option Int) (μ : Mu) (Q : KD) : Prop := match x with
  | .tup xs => Q (.tup (cutD xs l u)) μ
  | .str z => z.length ≤ 16777216 ∧ Q (.str (Txt.slice z l u)) μ
  | x => ∃ xs, lstOf μ x = some xs ∧ Q (.lst (cutD xs l u)) μ
def wSl (we : WE) (wl wu : WO) : WE := fun ρ μ Q EX => we ρ μ (fun d μ1 => wl ρ μ1 (fun l μ2 => wu ρ μ2 (fun u μ3 => rSl d l u μ3 Q) EX) EX) EX
theorem de_sl {lo hi : Option Expr} {wl wu : WO} (he : DE X T W e w) (hl : DO X T W lo wl) (hu : DO X T W hi wu) : DE X T W (.Subscript e (.Slice lo hi none p2) pos) (wSl w wl wu) := by
  refine pe_imp (pe_slice (SlR.or sl_tupA (SlR.or sl_list C8.sl_txt)) he hl hu) ?_
  rintro σ H Q' ⟨Z, ρ, μ, Q, EX, bb, lk, q, k⟩
  refine ⟨Z, ρ, μ, _, EX, bb, lk, q, fun v H1 d μ1 e1 m1 r1 q1 => ⟨Z, ρ, μ1, _, EX, bb.step e1 m1, lk.step e1, q1, fun l H2 μ2 e2 m2 q2 => ⟨Z, ρ, μ2, _, EX, (bb.step e1 m1).step e2 m2, (lk.step e1).step e2, q2, fun u H3 μ3 e3 m3 q3 => ?_⟩⟩⟩
  have r3 := (r1.step e2 d v).step e3 d v
  have e0 := (e1.trans e2).trans e3
  unfold rSl at q3
  split at q3
  · rename_i xs
    have r3' := r3
    simp only [Rep] at r3
    obtain ⟨a, vs, rfl, h1, h2⟩ := r3
    refine .inl ⟨a, vs, rfl, h1.sq, fun hw => ?_, fun _ p hp => k _ _ _ _ (e0.trans (evo_new hp)) (mem_new m3 hp) (rep_tup m3 hp (reps_cut h2 l u)) q3⟩
    refine k _ _ _ _ e0 m3 r3' ?_
    have hc : cutD xs l u = xs := by
      unfold cutD
      rw [h2.length, hw.1, hw.2, ← h2.length]
      simp
    rw [hc] at q3
    exact q3
  · simp only [Rep] at r3
    exact .inr (.inr ⟨_, r3, by rw [szl]; exact q3.1, k _ _ _ _ e0 m3 (by simp only [Rep]) q3.2⟩)
  · obtain ⟨xs, hx, q3⟩ := q3
    obtain ⟨a, vs, rfl, h1, h2⟩ := lst_rep m3 r3 hx
    exact .inr (.inl ⟨a, vs, rfl, SqL.of h1, fun p hp => k _ _ _ _ (e0.trans (evo_new hp)) (mem_new m3 hp) (rep_lst m3 hp (reps_cut h2 l u)) q3⟩)
end
end G2
end
section
set_option Elab.async false
set_option linter.all false
set_option maxRecDepth 100000
namespace G2
open PySem PySem.Spec PyProof.Rows L2

section
variable {X : Cx} {T : List (Addr × Str)} {W : WX} {a b c e o i : Expr} {wa wb wc wo wi wv we : WE} {pos p2 apos cpos : Pos} {w : WE} {es : List Expr} {t t' : WTt} {ws : WA} {st : Stmt} {rest body : List Stmt} {s1 s2 : WS}
/-! ### methods of lists that may change -/
abbrev RM := D → List D → Mu → KD → Prop
def MtD (X : Cx) (T : List (Addr × Str)) (id : String) (r : RM) : Prop :=
  MtR X id (fun x xs H Q' => ∃ Z dx ds μ Q, MemOk X.K T Z μ H ∧ Rep X.K Z μ H dx x ∧ Reps X.K Z μ H ds xs ∧ r dx ds μ Q ∧ ∀ v H' d μ', Evo μ H μ' H' → MemOk X.K T Z μ' H' → Rep X.K Z μ' H' d v → Q d μ' → Q' v H')
theorem mtd {id : String} {r : RM} {r2 : V → List V → Hp → VK → Prop} (h : MtR X id r2) (i : ∀ x xs H Q' Z dx ds μ Q, MemOk X.K T Z μ H → Rep X.K Z μ H dx x → Reps X.K Z μ H ds xs → r dx ds μ Q →
    (∀ v H' d μ', Evo μ H μ' H' → MemOk X.K T Z μ' H' → Rep X.K Z μ' H' d v → Q d μ' → Q' v H') → r2 x xs H Q') : MtD X T id r := by
  rintro pins s σ H x xs v us Q' I rx rs ⟨Z, dx, ds, μ, Q, m, r1, r2', q, k⟩
  exact h pins s σ H x xs v us Q' I rx rs (i _ _ _ _ _ _ _ _ _ m r1 r2' q k)
def mAppend : RM := fun x ds μ Q => match x, ds with
  | .ref a, [d] => ∃ xs, μ a = some xs ∧ xs.length < 16777216 ∧ Q .non (setM μ a (xs ++ [d]))
  | _, _ => False
theorem md_append : MtD X T "list.append" mAppend := by
  refine mtd mt_append ?_
  intro x xs H Q' Z dx ds μ Q m r1 r2 q k
  unfold mAppend at q
  split at q
  · rename_i a d
    obtain ⟨ys, hx, hl, q⟩ := q
    obtain ⟨v, rfl, r3⟩ := reps1 r2
    simp only [Rep] at r1
    obtain ⟨vs, h1, h2⟩ := m.mem a ys hx
    exact ⟨a, vs, v, r1, rfl, h1, by rw [szl, ← h2.length]; exact hl, k _ _ _ _ (evo_upd hx) (mem_upd m hx (h2.append (Reps.cons r3 Reps.nil))) (by simp only [Rep]) q⟩
  · exact q.elim
def mPop : RM := fun x ds μ Q => match x, ds with
  | .ref a, [] => ∃ xs d, μ a = some xs ∧ xs[xs.length - 1]? = some d ∧ Q d (setM μ a xs.dropLast)
  | _, _ => False
theorem md_pop : MtD X T "list.pop" mPop := by
  refine mtd mt_pop ?_
  intro x xs H Q' Z dx ds μ Q m r1 r2 q k
  unfold mPop at q
  split at q
  · rename_i a
    obtain ⟨ys, d, hx, hl, q⟩ := q
    simp only [Reps] at r2
    simp only [Rep] at r1
    obtain ⟨vs, h1, h2⟩ := m.mem a ys hx
    obtain ⟨v, e1, e2⟩ := h2.get hl
    exact ⟨a, vs, v, r1, r2, h1, by rw [← h2.length]; exact e1, k _ _ _ _ (evo_upd hx) (mem_upd m hx h2.dropLast) (e2.step (evo_upd hx) _ _) q⟩
  · exact q.elim
def mPopAt : RM := fun x ds μ Q => match x, ds with
  | .ref a, [.int i] => ∃ xs d k, μ a = some xs ∧ -(2 ^ 63) ≤ i ∧ i < 2 ^ 63 ∧ seqIndex? i xs.length = some k ∧ xs[k]? = some d ∧ Q d (setM μ a (xs.eraseIdx k))
  | _, _ => False
theorem md_popAt : MtD X T "list.pop" mPopAt := by
  refine mtd mt_popAt ?_
  intro x xs H Q' Z dx ds μ Q m r1 r2 q k
  unfold mPopAt at q
  split at q
  · rename_i a i
    obtain ⟨ys, d, kk, hx, hi1, hi2, hk, hl, q⟩ := q
    obtain ⟨v, rfl, r3⟩ := reps1 r2
    simp only [Rep] at r1 r3
    obtain ⟨vs, h1, h2⟩ := m.mem a ys hx
    obtain ⟨v2, e1, e2⟩ := h2.get hl
    exact ⟨a, vs, i, kk, v2, r1, by rw [r3], h1, hi1, hi2, by rw [← h2.length]; exact hk, e1, k _ _ _ _ (evo_upd hx) (mem_upd m hx (h2.eraseIdx kk)) (e2.step (evo_upd hx) _ _) q⟩
  · exact q.elim
def wMth (r : RM) (wo : WE) (ws : WA) : WE := fun ρ μ Q EX => wo ρ μ (fun d μ1 => (∃ a, d = .ref a ∧ (μ1 a).isSome = true) ∧ ws ρ μ1 (fun ds μ2 => r d ds μ2 Q) EX) EX
theorem ty_list {K : PySem.W.Frag} {Z : Addr → Prop} {μ : Mu} {H : Hp} {x : V} {d : D} (m : MemOk K T Z μ H) (r : Rep K Z μ H d x) (h : ∃ a, d = .ref a ∧ (μ a).isSome = true) : tyV K "list" x H := by
  obtain ⟨a, rfl, hs⟩ := h
  simp only [Rep] at r
  subst r
  obtain ⟨xs, hx⟩ := Option.isSome_iff_exists.mp hs
  obtain ⟨vs, h1, _⟩ := rep_seqL m hx
  exact .inl ⟨rfl, vs, h1⟩
theorem de_mth {name : Str} {id : String} {r : RM} (slot : Slot "list" name id) (hty : typeOf (.builtin id) = pure (.type "method_descriptor")) (hm : MtD X T id r) (ho : DE X T W o wo) (ha : DA X T W (e :: es) ws)
    (hbase : attributeBase o name X.env (eval o X.env) = eval o X.env := by rfl)
    (hfew : ((backTo cpos (starEach (e :: es) X.env)).all (fun x => !x.1) && (backToKw cpos (keywordEach [] X.env)).all (fun x => x.1.isSome)
      && decide ((e :: es).length + ([] : List Keyword).length + (if ([] : List Keyword).isEmpty then 0 else 1) < 30)) = true := by rfl)
    (hline : (apos.endLine == cpos.line) = true := by rfl) (hs : starEach (e :: es) X.env = (false, eval e X.env) :: starEach es X.env := by rfl) (hplain : (backTo cpos (starEach es X.env)).any (·.1) = false := by rfl) :
    DE X T W (.Call (.Attribute o name apos) (e :: es) [] cpos) (wMth r wo ws) := by
  refine pe_imp (pe_bm PySem.F.plainAttrs_list slot hty hm ho ha hbase hfew hline hs hplain) ?_
  rintro σ H Q' ⟨Z, ρ, μ, Q, EX, bb, l, q, k⟩
  refine ⟨Z, ρ, μ, _, EX, bb, l, q, fun v H1 d μ1 e1 m1 r1 ⟨hd, q1⟩ => ⟨ty_list m1 r1 hd, Z, ρ, μ1, _, EX, bb.step e1 m1, l.step e1, q1, fun vs H2 ds μ2 e2 m2 r2 q2 => ?_⟩⟩
  exact ⟨Z, d, ds, μ2, Q, m2, r1.step e2 d v, r2, q2, fun v H' d μ' e3 => k v H' d μ' ((e1.trans e2).trans e3)⟩
theorem de_mth0 {name : Str} {id : String} {r : RM} (slot : Slot "list" name id) (hty : typeOf (.builtin id) = pure (.type "method_descriptor")) (hm : MtD X T id r) (ho : DE X T W o wo)
    (hbase : attributeBase o name X.env (eval o X.env) = eval o X.env := by rfl) (hline : (apos.endLine == cpos.line) = true := by rfl) :
    DE X T W (.Call (.Attribute o name apos) [] [] cpos) (wMth r wo wNil) := by
  refine pe_imp (pe_bm0 PySem.F.plainAttrs_list slot hty hm ho hbase hline) ?_
  rintro σ H Q' ⟨Z, ρ, μ, Q, EX, bb, l, q, k⟩
  refine ⟨Z, ρ, μ, _, EX, bb, l, q, fun v H1 d μ1 e1 m1 r1 ⟨hd, q1⟩ => ⟨ty_list m1 r1 hd, Z, d, [], μ1, Q, m1, r1, Reps.nil, q1, fun v H' d μ' e3 => k v H' d μ' (e1.trans e3)⟩⟩
/-! ### statements -/
def wNext : WS := fun D' ρ μ => D'.nx ρ μ
def wSeq (s1 s2 : WS) : WS := fun D' ρ μ => s1 { D' with nx := s2 D' } ρ μ
theorem dss_nil : DSs X T W [] wNext := pss_imp pss_nil fun De σ H ⟨Z, ρ, μ, D', b, l, q⟩ => l.nx σ H ρ μ Evo.refl b q
theorem dss_cons (h1 : DS X T W st s1) (h2 : DSs X T W rest s2) : DSs X T W (st :: rest) (wSeq s1 s2) :=
  pss_imp (pss_cons h1 h2) fun De σ H ⟨Z, ρ, μ, D', b, l, q⟩ => ⟨Z, ρ, μ, { D' with nx := s2 D' }, b, ⟨fun σ' H' ρ' μ' e' b' q' => ⟨Z, ρ', μ', D', b', l.step e', q'⟩, l.rt, l.bk, l.ct, l.ex⟩, q⟩
theorem dss_one (h1 : DS X T W st s1) : DSs X T W [st] s1 := pss_one h1
theorem ds_pass : DS X T W (.Pass pos) wNext := ps_imp ps_pass fun De σ H ⟨Z, ρ, μ, D', b, l, q⟩ => l.nx σ H ρ μ Evo.refl b q
def wBreak : WS := fun D' ρ μ => D'.bk ρ μ
def wCont : WS := fun D' ρ μ => D'.ct ρ μ
theorem ds_break : DS X T W (.Break pos) wBreak := ps_imp ps_break fun De σ H ⟨Z, ρ, μ, D', b, l, q⟩ => l.bk σ H ρ μ Evo.refl b q
theorem ds_cont : DS X T W (.Continue pos) wCont := ps_imp ps_continue fun De σ H ⟨Z, ρ, μ, D', b, l, q⟩ => l.ct σ H ρ μ Evo.refl b q
def wExpr (w : WE) : WS := fun D' ρ μ => w ρ μ (fun _ μ1 => D'.nx ρ μ1) D'.ex
theorem ds_expr (he : DE X T W e w) (hs : swapsWith e none pos.line X.env = pure false := by rfl) : DS X T W (.Expr e pos) (wExpr w) :=
  ps_imp (ps_expr he hs) fun De σ H ⟨Z, ρ, μ, D', b, l, q⟩ => ⟨Z, ρ, μ, _, D'.ex, b, l.ex σ, q, fun v H' d μ' e' m' r' q' => l.nx σ H' ρ μ' e' (b.step e' m') q'⟩
def wRet (w : WE) : WS := fun D' ρ μ => w ρ μ D'.rt D'.ex
theorem ds_ret (he : DE X T W e w) : DS X T W (.Return (some e) pos) (wRet w) :=
  ps_imp (ps_ret he) fun De σ H ⟨Z, ρ, μ, D', b, l, q⟩ => ⟨Z, ρ, μ, _, D'.ex, b, l.ex σ, q, fun v H' d μ' e' m' r' q' => l.rt v H' d μ' e' m' r' q'⟩
def wRetN : WS := fun D' _ μ => D'.rt .non μ
theorem ds_retN : DS X T W (.Return none pos) wRetN :=
  ps_imp ps_retN fun De σ H ⟨Z, ρ, μ, D', b, l, q⟩ => l.rt .non H .non μ Evo.refl b.m (by simp only [Rep]) q
def wIf (t : WTt) (s1 s2 : WS) : WS := fun D' ρ μ => t ρ μ (fun c μ1 => if c = true then s1 D' ρ μ1 else s2 D' ρ μ1) D'.ex
theorem ds_if {x y : List Stmt} (hc : DT X T W c t) (h1 : DSs X T W x s1) (h2 : DSs X T W y s2) : DS X T W (.If c x y pos) (wIf t s1 s2) := by
  refine ps_imp (ps_if hc h1 h2) ?_
  rintro De σ H ⟨Z, ρ, μ, D', b, l, q⟩
  refine ⟨Z, ρ, μ, _, D'.ex, b, l.ex σ, q, fun c H' μ' e' m' q' => ?_⟩
  cases c with
  | true =>
    rw [if_pos rfl] at q' ⊢
    exact ⟨Z, ρ, μ', D', b.step e' m', l.step e', q'⟩
  | false =>
    rw [if_neg Bool.false_ne_true] at q' ⊢
    exact ⟨Z, ρ, μ', D', b.step e' m', l.step e', q'⟩
/-! ### targets -/
theorem bear_set {K : PySem.W.Frag} {Z : Addr → Prop} {σ : L2.St} {H : Hp} {ρ : Ro} {μ : Mu} {d : D} {v : V} (b : Bear K T Z σ H ρ μ) (r : Rep K Z μ H d v) (i : Nat) : Bear K T Z (σ.set i (some v)) H (ρ.set i (some d)) μ := by
  refine ⟨b.m, by simp [b.len], fun j d' h => ?_⟩
  by_cases hj : j = i
  · subst hj
    have hl : j < ρ.length := by
      have := (List.getElem?_eq_some_iff.mp h).1
      simpa using this
    rw [List.getElem?_set_self hl] at h
    cases h
    exact ⟨v, by rw [List.getElem?_set_self (by rw [← b.len]; exact hl)], r⟩
  · rw [List.getElem?_set_ne (Ne.symm hj)] at h
    obtain ⟨v', h1, h2⟩ := b.at_ j d' h
    exact ⟨v', by rw [List.getElem?_set_ne (Ne.symm hj)]; exact h1, h2⟩
theorem wipe_set {σ : L2.St} {i : Nat} {x : Option V} : ∀ {vs : List Nat}, i ∈ vs → wipe (σ.set i x) vs = wipe σ vs
  | [], h => by simp at h
  | v :: vs, h => by
    simp only [wipe]
    by_cases hv : i ∈ vs
    · rw [wipe_set hv]
    · have e : i = v := by
        rcases List.mem_cons.mp h with h | h
        · exact h
        · exact absurd h hv
      subst e
      have key : ∀ (us : List Nat), i ∉ us → (wipe (σ.set i x) us).set i none = (wipe σ us).set i none := by
        intro us
        induction us with
        | nil => intro _; simp [wipe, List.set_set]
        | cons u us ih =>
          intro hn
          simp only [wipe]
          have h1 : i ≠ u := fun z => hn (by rw [z]; exact List.mem_cons_self)
          rw [List.set_comm _ _ (Ne.symm h1), ih (fun z => hn (List.mem_cons_of_mem _ z)), List.set_comm _ _ h1]
      exact key vs hv
def gN (i : Nat) : WG := fun d ρ μ Q => Q (ρ.set i (some d)) μ
theorem dg_name {i : Nat} {x : Str} (hN : X.N.Nodup) (hi : X.N[i]? = some x) (hx : Loc X.env.scope x) (hf : X.fn x = true ∨ X.env.scope.names.lookup x = some .local := by first | exact .inl rfl | exact .inr rfl | assumption) : DG X T [i] (.Name x pos) (gN i) :=
  pg_imp (pg_name hN hi hx hf) fun v σ H Q' ⟨Z, d, ρ, μ, Q, b, r, q, k⟩ => k _ _ _ Evo.refl (bear_set b r i) (fun vs h => wipe_set (h i (by simp))) q
abbrev WGs := List D → Ro → Mu → (Ro → Mu → Prop) → Prop
def tDGs (K : PySem.W.Frag) (T : List (Addr × Str)) (is : List Nat) (w : WGs) : TGs := fun vs σ H Q' => ∃ Z ds ρ μ Q, Bear K T Z σ H ρ μ ∧ Reps K Z μ H ds vs ∧ w ds ρ μ Q ∧
  ∀ σ' ρ' μ', Evo μ H μ' H → Bear K T Z σ' H ρ' μ' → (∀ vs : List Nat, (∀ i ∈ is, i ∈ vs) → wipe σ' vs = wipe σ vs) → Q ρ' μ' → Q' σ' H
def DGs (X : Cx) (T : List (Addr × Str)) (is : List Nat) (e : List Expr) (w : WGs) : Prop := PGs X e (tDGs X.K T is w)
theorem pgs_imp {e : List Expr} {t t' : TGs} (h : PGs X e t) (i : ∀ v σ H Q, t' v σ H Q → t v σ H Q) : PGs X e t' := ⟨fun pins s σ H v u Q I r q => h.run pins s σ H v u Q I r (i v σ H Q q)⟩
def gsN : WGs := fun ds ρ μ Q => ds = [] ∧ Q ρ μ
def gsC (g : WG) (gs : WGs) : WGs := fun ds ρ μ Q => match ds with
  | [] => False
  | d :: r => g d ρ μ (fun ρ1 μ1 => gs r ρ1 μ1 Q)
theorem dgs_nil : DGs X T [] [] gsN := pgs_imp pgs_nil fun vs σ H Q' ⟨Z, ds, ρ, μ, Q, b, r, ⟨hd, q⟩, k⟩ => by
  subst hd
  simp only [Reps] at r
  exact ⟨r, k σ ρ μ Evo.refl b (fun _ _ => rfl) q⟩
theorem dgs_cons {is js : List Nat} {g : WG} {gs : WGs} (h1 : DG X T is e g) (h2 : DGs X T js es gs)
    (hs : (assignEach (e :: es) X.env).map (·.2) = assign e X.env :: (assignEach es X.env).map (·.2) := by rfl) : DGs X T (is ++ js) (e :: es) (gsC g gs) := by
  refine pgs_imp (pgs_cons h1 h2 hs) ?_
  rintro vs σ H Q' ⟨Z, ds, ρ, μ, Q, b, r, q, k⟩
  cases ds with
  | nil => exact q.elim
  | cons d r' =>
    simp only [Reps] at r
    obtain ⟨v, rr, rfl, r1, r2⟩ := r
    refine ⟨v, rr, rfl, Z, d, ρ, μ, _, b, r1, q, fun σ' ρ' μ' e' b' hw q' => ⟨Z, r', ρ', μ', Q, b', r2.step e' _ _, q', fun σ2 ρ2 μ2 e2 b2 hw2 q2 => k _ _ _ (e'.trans e2) b2 (fun vs h => ?_) q2⟩⟩
    rw [hw2 vs (fun i hi => h i (List.mem_append_right _ hi)), hw vs (fun i hi => h i (List.mem_append_left _ hi))]
theorem pg_or {t t' : TG} (h : PG X e t) (h' : PG X e t') : PG X e (fun v σ H Q => t v σ H Q ∨ t' v σ H Q) :=
  ⟨fun pins s σ H v u Q I r q => q.elim (h.run pins s σ H v u Q I r) (h'.run pins s σ H v u Q I r)⟩
def gT (n : Nat) (gs : WGs) : WG := fun d ρ μ Q => ∃ xs, seqOf μ d = some xs ∧ xs.length = n ∧ gs xs ρ μ Q
theorem dg_tup {es : List Expr} {k n : Nat} {is : List Nat} {gs : WGs} (hc : X.calm = true) (h : DGs X T is es gs)
    (hn : (assignEach es X.env).length = n := by rfl) (hst : (assignEach es X.env).findIdx? (·.1) = none := by rfl) : DG X T is (.Tuple es k pos) (gT n gs) := by
  refine pg_imp (pg_or (pg_tup hc h hn hst) (pg_lst hc h hn hst)) ?_
  rintro v σ H Q' ⟨Z, d, ρ, μ, Q, b, r, ⟨xs, hx, hl, q⟩, k⟩
  obtain ⟨a, vs, rfl, h1, h2⟩ := seq_rep b.m r hx
  rcases h1 with h1 | h1
  · exact .inr ⟨a, vs, rfl, h1, by rw [← h2.length]; exact hl, Z, xs, ρ, μ, Q, b, h2, q, k⟩
  · exact .inl ⟨a, vs, rfl, h1, by rw [← h2.length]; exact hl, Z, xs, ρ, μ, Q, b, h2, q, k⟩
/-! ### assignments -/
def wAsg (w : WE) (g : WG) : WS := fun D' ρ μ => w ρ μ (fun d μ1 => g d ρ μ1 D'.nx) D'.ex
theorem ds_asg {tg : Expr} {g : WG} {is : List Nat} (he : DE X T W e w) (hg : DG X T is tg g) (hs : swapsWithSole [tg] e pos.line X.env = pure false := by rfl) (hw : swappedStores [tg] e X.env = pure none := by rfl)
    (h1 : (assignEach [tg] X.env).map (·.2) = [assign tg X.env] := by rfl) : DS X T W (.Assign [tg] e pos) (wAsg w g) :=
  ps_imp (ps_asg he hg hs hw h1) fun De σ H ⟨Z, ρ, μ, D', b, l, q⟩ => ⟨Z, ρ, μ, _, D'.ex, b, l.ex σ, q, fun v H' d μ' e' m' r' q' =>
    ⟨Z, d, ρ, μ', _, b.step e' m', r', q', fun σ2 ρ2 μ2 e2 b2 _ q2 => l.nx _ _ _ _ (e'.trans e2) b2 q2⟩⟩
theorem ds_set {i : Nat} {x : Str} {pos' : Pos} (hN : X.N.Nodup) (hi : X.N[i]? = some x) (hx : Loc X.env.scope x) (he : DE X T W e w) (hs : swapsWith e (some (.Name x pos')) pos.line X.env = pure false := by rfl) (hf : X.fn x = true ∨ X.env.scope.names.lookup x = some .local := by first | exact .inl rfl | exact .inr rfl | assumption) :
    DS X T W (.Assign [.Name x pos'] e pos) (wAsg w (gN i)) :=
  ps_imp (ps_set hN hi hx he hs hf) fun De σ H ⟨Z, ρ, μ, D', b, l, q⟩ => ⟨Z, ρ, μ, _, D'.ex, b, l.ex σ, q, fun v H' d μ' e' m' r' q' => l.nx _ _ _ _ e' (bear_set (b.step e' m') r' i) q'⟩
/-- a, b = x, y -/
def wPar (i j : Nat) (wa wb : WE) : WS := fun D' ρ μ => wa ρ μ (fun d μ1 => wb ρ μ1 (fun d2 μ2 => D'.nx ((ρ.set i (some d)).set j (some d2)) μ2) D'.ex) D'.ex
theorem ds_par {i j : Nat} {x y : Str} {px py pt : Pos} {kt k2 : Nat} {pt2 : Pos} (hc : X.calm = true) (hN : X.N.Nodup) (hi : X.N[i]? = some x) (hj : X.N[j]? = some y) (hij : i ≠ j)
    (hx : X.env.scope.names.lookup x = some .local) (hy : X.env.scope.names.lookup y = some .local) (ha : DE X T W a wa) (hb : DE X T W b wb)
    (hw : swappedStores [.Tuple [.Name x px, .Name y py] kt pt] (.Tuple [a, b] k2 pt2) X.env = pure (some [x, y]))
    (hs : swapsWithSole [.Tuple [.Name x px, .Name y py] kt pt] (.Tuple [a, b] k2 pt2) pos.line X.env = pure false := by rfl)
    (h1 : starEach [a, b] X.env = (false, eval a X.env) :: starEach [b] X.env := by rfl) (h2 : starEach [b] X.env = (false, eval b X.env) :: starEach [] X.env := by rfl) :
    DS X T W (.Assign [.Tuple [.Name x px, .Name y py] kt pt] (.Tuple [a, b] k2 pt2) pos) (wPar i j wa wb) := by
  refine ps_imp (ps_par hc hN hi hj hij hx hy (pa_cons ha (pa_cons hb pa_nil h2) h1) hw hs) ?_
  rintro De σ H ⟨Z, ρ, μ, D', bb, l, q⟩
  refine ⟨Z, ρ, μ, _, D'.ex, bb, l.ex σ, q, fun v H1 d μ1 e1 m1 r1 q1 => ⟨Z, ρ, μ1, _, D'.ex, bb.step e1 m1, (l.ex σ).step e1, q1, fun v2 H2 d2 μ2 e2 m2 r2 q2 => ⟨v, v2, rfl, ?_⟩⟩⟩
  exact l.nx _ _ _ _ (e1.trans e2) (bear_set (bear_set (bb.step (e1.trans e2) m2) (r1.step e2 d v) i) r2 j) q2
/-- o[i] = e, o a list that may change -/
def wSetIx (we wo wi : WE) : WS := fun D' ρ μ => we ρ μ (fun v μ1 => wo ρ μ1 (fun x μ2 => wi ρ μ2 (fun y μ3 => ∃ a xs k j, x = .ref a ∧ μ3 a = some xs ∧ y = .int k ∧ ixN xs.length k = some j ∧ D'.nx ρ (setM μ3 a (xs.set j v))) D'.ex) D'.ex) D'.ex
theorem ds_setix {tpos : Pos} (he : DE X T W e we) (ho : DE X T W o wo) (hi : DE X T W i wi)
    (ha : ∀ v, assign (.Subscript o i tpos) X.env v = (do
      let ov ← holding [v] (eval o X.env)
      let iv ← holding [v, ov] (eval i X.env)
      standAt tpos
      holding [v, ov, iv] (setItem ov iv v)
      release [v, ov, iv] []) := by intro _; rfl)
    (hs : swapsWithSole [.Subscript o i tpos] e pos.line X.env = pure false := by rfl) (hw : swappedStores [.Subscript o i tpos] e X.env = pure none := by rfl)
    (h1 : (assignEach [.Subscript o i tpos] X.env).map (·.2) = [assign (.Subscript o i tpos) X.env] := by rfl) : DS X T W (.Assign [.Subscript o i tpos] e pos) (wSetIx we wo wi) := by
  refine ps_imp (ps_asg he (pg_sub ho hi set_list ha) hs hw h1) ?_
  rintro De σ H ⟨Z, ρ, μ, D', b, l, q⟩
  refine ⟨Z, ρ, μ, _, D'.ex, b, l.ex σ, q, fun v H1 d μ1 e1 m1 r1 q1 => ⟨Z, ρ, μ1, _, D'.ex, b.step e1 m1, (l.ex σ).step e1, q1, fun x H2 dx μ2 e2 m2 r2 q2 => ⟨Z, ρ, μ2, _, D'.ex, (b.step e1 m1).step e2 m2, ((l.ex σ).step e1).step e2, q2, fun y H3 dy μ3 e3 m3 r3 q3 => ?_⟩⟩⟩
  obtain ⟨p, xs, k, j, hx, hm, hy, hj, q3⟩ := q3
  subst hx hy
  have r2' := r2.step e3 _ _
  simp only [Rep] at r2' r3
  obtain ⟨vs, h1, h2⟩ := m3.mem p xs hm
  have rv := (r1.step e2 d v).step e3 d v
  exact ⟨p, vs, k, j, r2', r3, h1, by rw [← h2.length]; exact hj, l.nx _ _ _ _ (((e1.trans e2).trans e3).trans (evo_upd hm)) (((b.step e1 m1).step e2 m2).step (e3.trans (evo_upd hm)) (mem_upd m3 hm (h2.set rv j))) q3⟩
end
end G2
end
section
set_option Elab.async false
set_option linter.all false
set_option maxRecDepth 100000
namespace G2
open PySem PySem.Spec PyProof.Rows L2

/-- the walk gives these items, as long as nothing that is not tracked changes -/
def Walks (K : PySem.W.Frag) (T : List (Addr × Str)) (Z : Addr → Prop) (J : It) (items : List D) (μ : Mu) (H : Hp) : Prop :=
  ∃ G Y, Walk J items.length G Y ∧ (∀ H2 μ2, Evo μ H μ2 H2 → G H2) ∧
    ∀ i H2 μ2 x H3 (Z2 : Addr → Prop), i < items.length → Evo μ H μ2 H2 → MemOk K T Z2 μ2 H2 → (∀ a, Z a → Z2 a) → (∀ a, Z2 a → Z a ∨ H a = none) → Y i H2 x H3 → Evo μ2 H2 μ2 H3 ∧ MemOk K T Z2 μ2 H3 ∧ ∃ d, items[i]? = some d ∧ Rep K Z2 μ2 H3 d x
abbrev WI := Ro → Mu → (List D → Mu → Prop) → KX → Prop
def tDI (K : PySem.W.Frag) (T : List (Addr × Str)) (W : WX) (w : WI) : TI := fun σ H R' => ∃ Z ρ μ R EX, Bear K T Z σ H ρ μ ∧ LkX K T Z W EX σ μ H ∧ w ρ μ R EX ∧
  ∀ J H' items μ', Evo μ H μ' H' → MemOk K T Z μ' H' → Walks K T Z J items μ' H' → R items μ' → R' J H'
def DI (X : Cx) (T : List (Addr × Str)) (W : WX) (tg e : Expr) (w : WI) : Prop := PI X tg e (tDI X.K T W w)
theorem pi_imp {X : Cx} {tg e : Expr} {t t' : TI} (h : PI X tg e t) (i : ∀ σ H Q, t' σ H Q → t σ H Q) : PI X tg e t' := ⟨fun pins s σ H Q I q => h.run pins s σ H Q I (i σ H Q q)⟩

/-! widening the pending addresses -/
mutual
theorem Rep.widen {K : PySem.W.Frag} {Z Z2 : Addr → Prop} {μ : Mu} {H H0 : Hp} (h : ∀ a, Z2 a → Z a ∨ H a = none) : ∀ (d : D) (v : V), Rep K Z μ H d v → Rep K Z2 μ H d v
  | .non, v, r => by simp only [Rep] at r ⊢; exact r
  | .bl b, v, r => by simp only [Rep] at r ⊢; exact r
  | .int i, v, r => by simp only [Rep] at r ⊢; exact r
  | .str x, v, r => by simp only [Rep] at r ⊢; exact r
  | .ty n, v, r => by simp only [Rep] at r ⊢; exact r
  | .ref a, v, r => by simp only [Rep] at r ⊢; exact r
  | .tup ds, v, r => by
    simp only [Rep] at r ⊢
    obtain ⟨a, vs, rfl, hs, hr⟩ := r
    refine ⟨a, vs, rfl, ?_, Reps.widen (H0 := H0) h ds vs hr⟩
    rcases hs with ⟨m, mz, hs⟩ | hs
    · exact .inl ⟨m, fun z => (h a z).elim mz (fun e => rd_there hs e), hs⟩
    · exact .inr hs
  | .lst ds, v, r => by
    simp only [Rep] at r ⊢
    obtain ⟨a, vs, rfl, ⟨m, mz⟩, hs, hr⟩ := r
    exact ⟨a, vs, rfl, ⟨m, fun z => (h a z).elim mz (fun e => by rw [hs] at e; cases e)⟩, hs, Reps.widen (H0 := H0) h ds vs hr⟩
  | .frz ds, v, r => by
    simp only [Rep] at r ⊢
    obtain ⟨a, vs, rfl, hs, hr⟩ := r
    refine ⟨a, vs, rfl, ?_, Reps.widen (H0 := H0) h ds vs hr⟩
    rcases hs with ⟨m, mz, o, hs⟩ | hs
    · exact .inl ⟨m, fun z => (h a z).elim mz (fun e => by rw [hs] at e; cases e), o, hs⟩
    · exact .inr hs
  | .ins c ns ds, v, r => by
    simp only [Rep] at r ⊢
    obtain ⟨a, dx, vs, rfl, ⟨m, mz⟩, hs, hl, hr⟩ := r
    exact ⟨a, dx, vs, rfl, ⟨m, fun z => (h a z).elim mz (fun e => by rw [hs] at e; cases e)⟩, hs, hl, Reps.widen (H0 := H0) h ds vs hr⟩
  | .dic ks ds, v, r => by
    simp only [Rep] at r ⊢
    obtain ⟨a, vs, rfl, ⟨m, mz⟩, hs, hl, hr⟩ := r
    exact ⟨a, vs, rfl, ⟨m, fun z => (h a z).elim mz (fun e => rd_there hs e)⟩, hs, hl, Reps.widen (H0 := H0) h ds vs hr⟩
theorem Reps.widen {K : PySem.W.Frag} {Z Z2 : Addr → Prop} {μ : Mu} {H H0 : Hp} (h : ∀ a, Z2 a → Z a ∨ H a = none) : ∀ (ds : List D) (vs : List V), Reps K Z μ H ds vs → Reps K Z2 μ H ds vs
  | [], vs, r => by simp only [Reps] at r ⊢; exact r
  | d :: ds, vs, r => by
    simp only [Reps] at r ⊢
    obtain ⟨v, rr, rfl, h1, h2⟩ := r
    exact ⟨v, rr, rfl, Rep.widen (H0 := H0) h d v h1, Reps.widen (H0 := H0) h ds rr h2⟩
end
mutual
theorem Rep.narrow {K : PySem.W.Frag} {Z Z2 : Addr → Prop} {μ : Mu} {H : Hp} (h : ∀ a, Z a → Z2 a) : ∀ (d : D) (v : V), Rep K Z2 μ H d v → Rep K Z μ H d v
  | .non, v, r => by simp only [Rep] at r ⊢; exact r
  | .bl b, v, r => by simp only [Rep] at r ⊢; exact r
  | .int i, v, r => by simp only [Rep] at r ⊢; exact r
  | .str x, v, r => by simp only [Rep] at r ⊢; exact r
  | .ty n, v, r => by simp only [Rep] at r ⊢; exact r
  | .ref a, v, r => by simp only [Rep] at r ⊢; exact r
  | .tup ds, v, r => by
    simp only [Rep] at r ⊢
    obtain ⟨a, vs, rfl, hs, hr⟩ := r
    refine ⟨a, vs, rfl, ?_, Reps.narrow h ds vs hr⟩
    rcases hs with ⟨m, mz, hs⟩ | hs
    · exact .inl ⟨m, fun z => mz (h a z), hs⟩
    · exact .inr hs
  | .lst ds, v, r => by
    simp only [Rep] at r ⊢
    obtain ⟨a, vs, rfl, ⟨m, mz⟩, hs, hr⟩ := r
    exact ⟨a, vs, rfl, ⟨m, fun z => mz (h a z)⟩, hs, Reps.narrow h ds vs hr⟩
  | .frz ds, v, r => by
    simp only [Rep] at r ⊢
    obtain ⟨a, vs, rfl, hs, hr⟩ := r
    refine ⟨a, vs, rfl, ?_, Reps.narrow h ds vs hr⟩
    rcases hs with ⟨m, mz, o, hs⟩ | hs
    · exact .inl ⟨m, fun z => mz (h a z), o, hs⟩
    · exact .inr hs
  | .ins c ns ds, v, r => by
    simp only [Rep] at r ⊢
    obtain ⟨a, dx, vs, rfl, ⟨m, mz⟩, hs, hl, hr⟩ := r
    exact ⟨a, dx, vs, rfl, ⟨m, fun z => mz (h a z)⟩, hs, hl, Reps.narrow h ds vs hr⟩
  | .dic ks ds, v, r => by
    simp only [Rep] at r ⊢
    obtain ⟨a, vs, rfl, ⟨m, mz⟩, hs, hl, hr⟩ := r
    exact ⟨a, vs, rfl, ⟨m, fun z => mz (h a z)⟩, hs, hl, Reps.narrow h ds vs hr⟩
theorem Reps.narrow {K : PySem.W.Frag} {Z Z2 : Addr → Prop} {μ : Mu} {H : Hp} (h : ∀ a, Z a → Z2 a) : ∀ (ds : List D) (vs : List V), Reps K Z2 μ H ds vs → Reps K Z μ H ds vs
  | [], vs, r => by simp only [Reps] at r ⊢; exact r
  | d :: ds, vs, r => by
    simp only [Reps] at r ⊢
    obtain ⟨v, rr, rfl, h1, h2⟩ := r
    exact ⟨v, rr, rfl, Rep.narrow h d v h1, Reps.narrow h ds rr h2⟩
end
section
variable {K : PySem.W.Frag} {T : List (Addr × Str)} {Z : Addr → Prop} {μ : Mu} {H : Hp} {a b : Addr} {xs ys : List D} {vs us : List V}
theorem getSome {α : Type} {l : List α} {i : Nat} (h : i < l.length) : ∃ x, l[i]? = some x := ⟨l[i], by simp [h]⟩
theorem walks_list (h : SqL K H a vs) (hk : ∀ H2 μ2, Evo μ H μ2 H2 → SqL K H2 a vs) (r : Reps K Z μ H xs vs) : Walks K T Z (Itl K a) xs μ H := by
  have w := walk_list (K := K) (a := a) (xs := vs)
  rw [← r.length] at w
  refine ⟨_, _, w, hk, fun i H2 μ2 x H3 Z2 hi e m hz hz2 y => ?_⟩
  obtain ⟨rfl, hx⟩ := y
  obtain ⟨d, h1, h2⟩ := r.getV hx
  exact ⟨Evo.refl, m, d, h1, (h2.widen (H0 := H) hz2 d x).step e d x⟩
theorem walks_tup (h : SqT K H a vs) (hk : ∀ H2 μ2, Evo μ H μ2 H2 → SqT K H2 a vs) (r : Reps K Z μ H xs vs) : Walks K T Z (Itt K a) xs μ H := by
  have w := walk_tup (K := K) (a := a) (xs := vs)
  rw [← r.length] at w
  refine ⟨_, _, w, hk, fun i H2 μ2 x H3 Z2 hi e m hz hz2 y => ?_⟩
  obtain ⟨rfl, hx⟩ := y
  obtain ⟨d, h1, h2⟩ := r.getV hx
  exact ⟨Evo.refl, m, d, h1, (h2.widen (H0 := H) hz2 d x).step e d x⟩
theorem walks_range {lo : Int} {n : Nat} : Walks K T Z (Itr lo n) ((List.range n).map fun i => .int (lo + (i : Nat))) μ H := by
  have e : ((List.range n).map fun i => D.int (lo + (i : Nat))).length = n := by simp
  have w : Walk (Itr lo n) ((List.range n).map fun i => D.int (lo + (i : Nat))).length (fun _ => True) (YFn fun i => .int (lo + i)) := by rw [e]; exact walk_range
  refine ⟨_, _, w, fun _ _ _ => trivial, fun i H2 μ2 x H3 Z2 hi ev m hz hz2 y => ?_⟩
  obtain ⟨rfl, rfl⟩ := y
  have hi' : i < n := by rw [e] at hi; exact hi
  exact ⟨Evo.refl, m, .int (lo + (i : Nat)), by simp [hi'], by simp only [Rep]⟩
def zipD (xs ys : List D) : List D := (xs.zip ys).map fun p => .tup [p.1, p.2]
def enumD (n : Nat) : List D → List D
  | [] => []
  | x :: xs => .tup [.int (n : Nat), x] :: enumD (n + 1) xs
theorem enumD_length : ∀ (n : Nat) (xs : List D), (enumD n xs).length = xs.length
  | _, [] => rfl
  | n, x :: xs => by simp [enumD, enumD_length (n + 1) xs]
theorem enumD_get : ∀ (n : Nat) (xs : List D) (i : Nat) (d : D), xs[i]? = some d → (enumD n xs)[i]? = some (.tup [.int ((n + i : Nat) : Int), d])
  | n, [], i, d, h => by simp at h
  | n, x :: xs, 0, d, h => by simp at h; subst h; rfl
  | n, x :: xs, i + 1, d, h => by
    have h' := enumD_get (n + 1) xs i d (by simpa using h)
    have e : n + 1 + i = n + (i + 1) := by omega
    rw [e] at h'
    simpa [enumD] using h'
theorem zipD_length {xs ys : List D} : (zipD xs ys).length = min xs.length ys.length := by simp [zipD]
theorem zipD_get {xs ys : List D} {i : Nat} {d d' : D} (h : xs[i]? = some d) (h' : ys[i]? = some d') : (zipD xs ys)[i]? = some (.tup [d, d']) := by
  unfold zipD
  have e : (xs.zip ys)[i]? = some (d, d') := List.getElem?_zip_eq_some.mpr ⟨h, h'⟩
  rw [List.getElem?_map, e]
  rfl
theorem pair_new {Z2 : Addr → Prop} {μ2 : Mu} {H2 H3 : Hp} {t : Addr} {x y v : V} {d d' : D} (m : MemOk K T Z2 μ2 H2) (hv : v = .ref t) (hn : H2 t = none) (hH : H3 = upd H2 t (.tup [x, y])) (r1 : Rep K Z2 μ2 H2 d x) (r2 : Rep K Z2 μ2 H2 d' y) :
    Evo μ2 H2 μ2 H3 ∧ MemOk K T Z2 μ2 H3 ∧ Rep K Z2 μ2 H3 (.tup [d, d']) v := by
  subst hv hH
  exact ⟨evo_new hn, mem_new m hn, rep_tup m hn (Reps.cons r1 (Reps.cons r2 Reps.nil))⟩
theorem walks_enum (h : SqL K H a vs) (hk : ∀ H2 μ2, Evo μ H μ2 H2 → SqL K H2 a vs) (r : Reps K Z μ H xs vs) : Walks K T Z (Ite K a) (enumD 0 xs) μ H := by
  have w := walk_enum (K := K) (a := a) (xs := vs)
  rw [← r.length, ← enumD_length 0 xs] at w
  refine ⟨_, _, w, hk, fun i H2 μ2 x H3 Z2 hi e m hz hz2 y => ?_⟩
  obtain ⟨t, x1, y1, hv, hn, hH, h1, h2⟩ := y
  cases h1
  obtain ⟨d, h3, h4⟩ := r.getV h2
  obtain ⟨q1, q2, q3⟩ := pair_new m hv hn hH (d := .int (i : Nat)) (by simp only [Rep]) ((h4.widen (H0 := H) hz2 d _).step e d _)
  refine ⟨q1, q2, _, ?_, q3⟩
  have := enumD_get 0 xs i d h3
  rw [Nat.zero_add] at this
  exact this
theorem walks_zip (h : SqL K H a vs ∧ SqL K H b us) (hk : ∀ H2 μ2, Evo μ H μ2 H2 → SqL K H2 a vs ∧ SqL K H2 b us) (r : Reps K Z μ H xs vs) (r' : Reps K Z μ H ys us) : Walks K T Z (Itz K a b) (zipD xs ys) μ H := by
  have w := walk_zip (K := K) (a := a) (b := b) (xs := vs) (ys := us) (n := (zipD xs ys).length) (by rw [zipD_length, r.length, r'.length])
  refine ⟨_, _, w, hk, fun i H2 μ2 x H3 Z2 hi e m hz hz2 y => ?_⟩
  obtain ⟨t, x1, y1, hv, hn, hH, h1, h2⟩ := y
  obtain ⟨d, h3, h4⟩ := r.getV h1
  obtain ⟨d', h5, h6⟩ := r'.getV h2
  obtain ⟨q1, q2, q3⟩ := pair_new m hv hn hH ((h4.widen (H0 := H) hz2 d _).step e d _) ((h6.widen (H0 := H) hz2 d' _).step e d' _)
  exact ⟨q1, q2, _, zipD_get h3 h5, q3⟩
theorem walk_zipT {xs ys : List V} {n : Nat} (hn : n = min xs.length ys.length) : Walk (RZ.ItzT K a b) n (fun H => SqT K H a xs ∧ SqT K H b ys) (YPair (fun i => xs[i]?) (fun i => ys[i]?)) := by
  subst hn
  refine ⟨fun i _ hi q => ?_, fun _ q => ⟨xs, ys, q.1, q.2, by omega⟩, fun i H v H' _ q y => ?_⟩
  · have h1 : i < xs.length := by omega
    have h2 : i < ys.length := by omega
    exact ⟨xs, ys, xs[i], ys[i], q.1, q.2, by simp [h1], by simp [h2]⟩
  · obtain ⟨T, x, z, h1, h2, h3, h4, h5⟩ := y
    exact ⟨T, x, z, h1, h2, h3, h4 xs q.1, h5 ys q.2⟩
theorem walks_zipT (h : SqT K H a vs ∧ SqT K H b us) (hk : ∀ H2 μ2, Evo μ H μ2 H2 → SqT K H2 a vs ∧ SqT K H2 b us) (r : Reps K Z μ H xs vs) (r' : Reps K Z μ H ys us) : Walks K T Z (RZ.ItzT K a b) (zipD xs ys) μ H := by
  have w := walk_zipT (K := K) (a := a) (b := b) (xs := vs) (ys := us) (n := (zipD xs ys).length) (by rw [zipD_length, r.length, r'.length])
  refine ⟨_, _, w, hk, fun i H2 μ2 x H3 Z2 hi e m hz hz2 y => ?_⟩
  obtain ⟨t, x1, y1, hv, hn, hH, h1, h2⟩ := y
  obtain ⟨d, h3, h4⟩ := r.getV h1
  obtain ⟨d', h5, h6⟩ := r'.getV h2
  obtain ⟨q1, q2, q3⟩ := pair_new m hv hn hH ((h4.widen (H0 := H) hz2 d _).step e d _) ((h6.widen (H0 := H) hz2 d' _).step e d' _)
  exact ⟨q1, q2, _, zipD_get h3 h5, q3⟩
/-- what stays: lists that are not tracked, tuples -/
def stL : D → Option (List D)
  | .lst xs => some xs
  | .frz xs => some xs
  | _ => none
theorem stL_rep {d : D} {v : V} (r : Rep K Z μ H d v) (h : stL d = some xs) : ∃ a vs, v = .ref a ∧ SqL K H a vs ∧ (∀ H2 μ2, Evo μ H μ2 H2 → SqL K H2 a vs) ∧ Reps K Z μ H xs vs := by
  cases d with
  | lst ys =>
    simp only [stL, Option.some.injEq] at h; subst h
    simp only [Rep] at r
    obtain ⟨a, vs, rfl, ⟨m, _⟩, h1, h2⟩ := r
    exact ⟨a, vs, rfl, SqL.of h1, fun H2 μ2 e => SqL.of (e.keep a _ h1 m (fun ps z => by cases z)), h2⟩
  | frz ys =>
    simp only [stL, Option.some.injEq] at h; subst h
    simp only [Rep] at r
    obtain ⟨a, vs, rfl, h1, h2⟩ := r
    refine ⟨a, vs, rfl, h1.sq, fun H2 μ2 e => ?_, h2⟩
    rcases h1 with ⟨m, _, o, h1⟩ | h1
    · exact .inl (.inr ⟨o, e.keep a _ h1 m (fun ps z => by cases z)⟩)
    · exact .inr h1
  | _ => simp [stL] at h
theorem stT_rep {v : V} (r : Rep K Z μ H (.tup xs) v) : ∃ a vs, v = .ref a ∧ SqT K H a vs ∧ (∀ H2 μ2, Evo μ H μ2 H2 → SqT K H2 a vs) ∧ Reps K Z μ H xs vs := by
  simp only [Rep] at r
  obtain ⟨a, vs, rfl, h1, h2⟩ := r
  refine ⟨a, vs, rfl, h1.sq, fun H2 μ2 e => ?_, h2⟩
  rcases h1 with ⟨m, _, h1⟩ | h1
  · exact .inl (rd_keep e m (fun ps z => by cases z) h1)
  · exact .inr h1
end
section
variable {X : Cx} {T : List (Addr × Str)} {W : WX} {a b c e o i tg elt : Expr} {wa wb wc wo wi wv we : WE} {pos p2 apos cpos : Pos} {w : WE} {es : List Expr} {t t' : WTt} {ws : WA} {st : Stmt} {rest body : List Stmt} {s1 s2 : WS}
/-- a list or a tuple, walked -/
theorem pi_seq {l : Expr} {tl : TE} (hl : PE X l tl) : PI X tg l (fun σ H R => tl σ H fun x H1 => ∃ a, x = .ref a ∧ ((∃ xs, SqL X.K H1 a xs ∧ R (Itl X.K a) H1) ∨ (∃ xs, SqT X.K H1 a xs ∧ R (Itt X.K a) H1))) := by
  refine ⟨fun pins s σ H R I h => ?_⟩
  refine thn (hl.run pins s σ H _ I h) fun v s1 ⟨x, H1, I1, r1, q1⟩ => ?_
  obtain ⟨a, e, q1⟩ := q1
  subst e
  cases r1
  rcases q1 with ⟨xs, hq, q⟩ | ⟨xs, hq, q⟩
  · obtain ⟨its, rv, p, hz⟩ := I1.list hq
    refine wpAny_pyIter_list p.isList ?_
    refine ⟨s1.heap.objs.size, [s1.heap.objs.size], _, _, H1, rfl, I1.kept (t' := s1.toks) fun b o e => Heap.get?_push_of_some _ e, turn_list a _, ⟨_, Heap.get?_push_size _ rfl, rfl, rfl⟩, fun b hb => ?_, q⟩
    have e : b = s1.heap.objs.size := by simpa using hb
    subst e
    exact I1.fpOk (Nat.le_refl _) (I1.hok.fresh (Nat.le_refl _))
  · obtain ⟨its, rv, p, hz⟩ := I1.tuple hq
    refine wpAny_pyIter_tuple (show s1.heap.IsTuple a its.toArray from p) ?_
    refine ⟨s1.heap.objs.size, [s1.heap.objs.size], _, _, H1, rfl, I1.kept (t' := s1.toks) fun b o e => Heap.get?_push_of_some _ e, turn_tuple a _, ⟨_, Heap.get?_push_size _ rfl, rfl, rfl⟩, fun b hb => ?_, q⟩
    have e : b = s1.heap.objs.size := by simpa using hb
    subst e
    exact I1.fpOk (Nat.le_refl _) (I1.hok.fresh (Nat.le_refl _))
def stS (d : D) : Option (List D) := match d with
  | .tup xs => some xs
  | d => stL d
def iSeq (w : WE) : WI := fun ρ μ R EX => w ρ μ (fun d μ1 => ∃ xs, stS d = some xs ∧ R xs μ1) EX
theorem di_seq (h : DE X T W e w) : DI X T W tg e (iSeq w) := by
  refine pi_imp (pi_seq h) ?_
  rintro σ H R' ⟨Z, ρ, μ, R, EX, b, l, q, k⟩
  refine ⟨Z, ρ, μ, _, EX, b, l, q, fun v H1 d μ1 e1 m1 r1 ⟨xs, hx, q1⟩ => ?_⟩
  unfold stS at hx
  split at hx
  · cases hx
    obtain ⟨a, vs, rfl, h1, h2, h3⟩ := stT_rep r1
    exact ⟨a, rfl, .inr ⟨vs, h1, k _ _ _ _ e1 m1 (walks_tup h1 h2 h3) q1⟩⟩
  · obtain ⟨a, vs, rfl, h1, h2, h3⟩ := stL_rep r1 hx
    exact ⟨a, rfl, .inl ⟨vs, h1, k _ _ _ _ e1 m1 (walks_list h1 h2 h3) q1⟩⟩
def iRg1 (w : WE) : WI := fun ρ μ R EX => w ρ μ (fun d μ1 => ∃ j : Int, d = .int j ∧ -(2 ^ 62) ≤ j ∧ j < 2 ^ 62 ∧ R ((List.range j.toNat).map fun i => .int (0 + (i : Nat))) μ1) EX
theorem di_rg1 {p : Pos} (hg : Gl X "range") (hm : X.mg "range" = none) (ha : DE X T W a wa) (hs : starEach [a] X.env = [(false, eval a X.env)] := by rfl) (h1 : starEach [a] X.env = (false, eval a X.env) :: starEach [] X.env := by rfl) : DI X T W tg (.Call (.Name "range" p) [a] [] pos) (iRg1 wa) := by
  refine pi_imp (pi_range1 hg hm (pa_cons ha pa_nil h1) hs) ?_
  rintro σ H R' ⟨Z, ρ, μ, R, EX, b, l, q, k⟩
  refine ⟨Z, ρ, μ, _, EX, b, l, q, fun v H1 d μ1 e1 m1 r1 ⟨j, hd, j1, j2, q1⟩ => ?_⟩
  subst hd
  simp only [Rep] at r1
  subst r1
  exact ⟨j, rfl, j1, j2, k _ _ _ _ e1 m1 walks_range q1⟩
def iRg2 (wa wb : WE) : WI := fun ρ μ R EX => wa ρ μ (fun d μ1 => wb ρ μ1 (fun d2 μ2 => ∃ i j : Int, d = .int i ∧ d2 = .int j ∧ (-(2 ^ 62) ≤ i ∧ i < 2 ^ 62 ∧ -(2 ^ 62) ≤ j ∧ j < 2 ^ 62) ∧ R ((List.range (j - i).toNat).map fun k => .int (i + (k : Nat))) μ2) EX) EX
theorem di_rg2 {p : Pos} (hg : Gl X "range") (hm : X.mg "range" = none) (ha : DE X T W a wa) (hb : DE X T W b wb) (hs : starEach [a, b] X.env = [(false, eval a X.env), (false, eval b X.env)] := by rfl) (hs2 : starEach [b] X.env = [(false, eval b X.env)] := by rfl)
    (h1 : starEach [a, b] X.env = (false, eval a X.env) :: starEach [b] X.env := by rfl) (h2 : starEach [b] X.env = (false, eval b X.env) :: starEach [] X.env := by rfl) : DI X T W tg (.Call (.Name "range" p) [a, b] [] pos) (iRg2 wa wb) := by
  refine pi_imp (pi_range2 hg hm (pa_cons ha (pa_cons hb pa_nil h2) h1) hs hs2) ?_
  rintro σ H R' ⟨Z, ρ, μ, R, EX, bb, l, q, k⟩
  refine ⟨Z, ρ, μ, _, EX, bb, l, q, fun v H1 d μ1 e1 m1 r1 q1 => ⟨Z, ρ, μ1, _, EX, bb.step e1 m1, l.step e1, q1, fun v2 H2 d2 μ2 e2 m2 r2 ⟨i, j, hi, hj, hb, q2⟩ => ?_⟩⟩
  subst hi hj
  simp only [Rep] at r1 r2
  subst r1 r2
  exact ⟨i, j, rfl, hb, k _ _ _ _ (e1.trans e2) m2 walks_range q2⟩
def iEnumW (w : WE) : WI := fun ρ μ R EX => w ρ μ (fun d μ1 => ∃ xs, stL d = some xs ∧ R (enumD 0 xs) μ1) EX
theorem di_enum {p tpos : Pos} {elts : List Expr} {kk : Nat} (hg : Gl X "enumerate") (hm : X.mg "enumerate" = none) (ha : DE X T W a wa) (hs : starEach [a] X.env = [(false, eval a X.env)] := by rfl) (h1 : starEach [a] X.env = (false, eval a X.env) :: starEach [] X.env := by rfl) :
    DI X T W (.Tuple elts kk tpos) (.Call (.Name "enumerate" p) [a] [] pos) (iEnumW wa) := by
  refine pi_imp (pi_enum hg hm (pa_cons ha pa_nil h1) hs) ?_
  rintro σ H R' ⟨Z, ρ, μ, R, EX, b, l, q, k⟩
  refine ⟨Z, ρ, μ, _, EX, b, l, q, fun v H1 d μ1 e1 m1 r1 ⟨xs, hd, q1⟩ => ?_⟩
  obtain ⟨a', vs, rfl, h1, h2, h3⟩ := stL_rep r1 hd
  exact ⟨a', vs, rfl, h1, k _ _ _ _ e1 m1 (walks_enum h1 h2 h3) q1⟩
def iZipW (wa wb : WE) : WI := fun ρ μ R EX => wa ρ μ (fun d μ1 => wb ρ μ1 (fun d2 μ2 => match d, d2 with
  | .tup xs, .tup ys => R (zipD xs ys) μ2
  | d, d2 => ∃ xs ys, stL d = some xs ∧ stL d2 = some ys ∧ R (zipD xs ys) μ2) EX) EX
theorem di_zip {p tpos : Pos} {elts : List Expr} {kk : Nat} (hg : Gl X "zip") (hm : X.mg "zip" = none) (ha : DE X T W a wa) (hb : DE X T W b wb) (hs : starEach [a, b] X.env = (false, eval a X.env) :: starEach [b] X.env := by rfl) (hpl : (backTo pos (starEach [b] X.env)).any (·.1) = false := by rfl)
    (h2 : starEach [b] X.env = (false, eval b X.env) :: starEach [] X.env := by rfl) :
    DI X T W (.Tuple elts kk tpos) (.Call (.Name "zip" p) [a, b] [] pos) (iZipW wa wb) := by
  refine pi_imp (RZ.pi_zipA hg hm (pa_cons ha (pa_cons hb pa_nil h2) hs) hs hpl) ?_
  rintro σ H R' ⟨Z, ρ, μ, R, EX, bb, l, q, k⟩
  refine ⟨Z, ρ, μ, _, EX, bb, l, q, fun v H1 d μ1 e1 m1 r1 q1 => ⟨Z, ρ, μ1, _, EX, bb.step e1 m1, l.step e1, q1, fun v2 H2 d2 μ2 e2 m2 r2 q2 => ?_⟩⟩
  have r1' := r1.step e2 d v
  split at q2
  · obtain ⟨a1, vs, rfl, h1, h2, h3⟩ := stT_rep r1'
    obtain ⟨a2, us, rfl, h4, h5, h6⟩ := stT_rep r2
    exact ⟨a1, a2, vs, us, rfl, .inr ⟨h1, h4, k _ _ _ _ (e1.trans e2) m2 (walks_zipT ⟨h1, h4⟩ (fun H2 μ2 e => ⟨h2 H2 μ2 e, h5 H2 μ2 e⟩) h3 h6) q2⟩⟩
  · obtain ⟨xs, ys, hx, hy, q2⟩ := q2
    obtain ⟨a1, vs, rfl, h1, h2, h3⟩ := stL_rep r1' hx
    obtain ⟨a2, us, rfl, h4, h5, h6⟩ := stL_rep r2 hy
    exact ⟨a1, a2, vs, us, rfl, .inl ⟨h1, h4, k _ _ _ _ (e1.trans e2) m2 (walks_zip ⟨h1, h4⟩ (fun H2 μ2 e => ⟨h2 H2 μ2 e, h5 H2 μ2 e⟩) h3 h6) q2⟩⟩
/-! ### for -/
def forW (g : WG) (body : WS) : List D → WS
  | [], D', ρ, μ => D'.nx ρ μ
  | x :: xs, D', ρ, μ => g x ρ μ (fun ρ1 μ1 => body { D' with nx := forW g body xs D', ct := forW g body xs D', bk := D'.nx } ρ1 μ1)
def wFor (wi : WI) (g : WG) (body : WS) : WS := fun D' ρ μ => wi ρ μ (fun items μ1 => forW g body items D' ρ μ1) D'.ex
theorem ds_for {iter : Expr} {wi : WI} {g : WG} {is : List Nat} {wb : WS} (hp : PassesOwn (model X.prog X.w) X.A X.env X.xe) (hc : X.calm = true) (hi : DI X T W tg iter wi) (hg : DG X T is tg g) (hb : DSs X T W body wb)
    (hs : ∀ x, foldedSetIterable iter X.env x = pure x := by intro _; rfl) : DS X T W (.For tg iter body [] pos) (wFor wi g wb) := by
  refine ps_imp (ps_for hp hc hi hg hb hs) ?_
  rintro De σ H ⟨Z, ρ, μ, D', b, l, q⟩
  refine ⟨Z, ρ, μ, _, D'.ex, b, l.ex σ, q, fun J H1 items μ1 e1 m1 wk q1 => ?_⟩
  obtain ⟨G, Y, w, hG, hY⟩ := wk
  have l1 := l.step e1
  have b1 := b.step e1 m1
  refine for_it w (fun i σ' H' => ∃ ρ' μ', Evo μ1 H1 μ' H' ∧ Bear X.K T Z σ' H' ρ' μ' ∧ forW g wb (items.drop i) D' ρ' μ') ⟨ρ, μ1, Evo.refl, b1, by simpa using q1⟩ (fun i σ' H' _ ⟨ρ', μ', e', b', _⟩ => hG H' μ' e') ?_ ?_
  · rintro i x σ' H' H3 hi ⟨ρ', μ', e', b', q'⟩ y
    obtain ⟨e3, m3, d, hd, r3⟩ := hY i H' μ' x H3 Z hi e' b'.m (fun _ h => h) (fun _ h => .inl h) y
    have ed : items.drop i = d :: items.drop (i + 1) := by
      rw [List.drop_eq_getElem_cons hi]
      have : items[i] = d := by
        have := List.getElem?_eq_some_iff.mp hd
        exact this.2
      rw [this]
    rw [ed] at q'
    refine ⟨Z, d, ρ', μ', _, b'.step e3 m3, r3, q', fun σ4 ρ4 μ4 e4 b4 _ q4 => ⟨Z, ρ4, μ4, _, b4, ?_, q4⟩⟩
    have e5 : Evo μ1 H1 μ4 H3 := (e'.trans e3).trans e4
    exact ⟨fun σ6 H6 ρ6 μ6 e6 b6 q6 => ⟨ρ6, μ6, e5.trans e6, b6, q6⟩, fun v H6 d6 μ6 e6 => l1.rt v H6 d6 μ6 (e5.trans e6), fun σ6 H6 ρ6 μ6 e6 => l1.nx σ6 H6 ρ6 μ6 (e5.trans e6), fun σ6 H6 ρ6 μ6 e6 b6 q6 => ⟨ρ6, μ6, e5.trans e6, b6, q6⟩, fun σ6 => (l1.ex σ6).step e5⟩
  · rintro σ' H' ⟨ρ', μ', e', b', q'⟩
    rw [List.drop_length] at q'
    exact l1.nx σ' H' ρ' μ' e' b' q'
/-! ### while -/
def whW (t : WTt) (body : WS) : Nat → WS
  | 0, _, _, _ => False
  | n + 1, D', ρ, μ => t ρ μ (fun c μ1 => if c = true then body { D' with nx := whW t body n D', ct := whW t body n D', bk := D'.nx } ρ μ1 else D'.nx ρ μ1) D'.ex
def wWhile (t : WTt) (body : WS) : WS := fun D' ρ μ => ∃ n, whW t body n D' ρ μ
theorem ds_while {wb : WS} (hp : PassesOwn (model X.prog X.w) X.A X.env X.xe) (hc : DT X T W c t) (hb : DSs X T W body wb) : DS X T W (.While c body [] pos) (wWhile t wb) := by
  refine ps_imp (ps_while hp hc hb) ?_
  rintro De σ H ⟨Z, ρ, μ, D', b, l, ⟨n, q⟩⟩
  refine ⟨fun m σ' H' => ∃ ρ' μ', Evo μ H μ' H' ∧ Bear X.K T Z σ' H' ρ' μ' ∧ whW t wb m D' ρ' μ', ⟨n, ρ, μ, Evo.refl, b, q⟩, ?_⟩
  rintro m σ' H' ⟨ρ', μ', e', b', q'⟩
  cases m with
  | zero => exact q'.elim
  | succ m =>
    refine ⟨Z, ρ', μ', _, D'.ex, b', ((l.ex σ').step e'), q', fun c H2 μ2 e2 m2 q2 => ?_⟩
    cases c with
    | false =>
      rw [if_neg Bool.false_ne_true] at q2 ⊢
      exact l.nx σ' H2 ρ' μ2 (e'.trans e2) (b'.step e2 m2) q2
    | true =>
      rw [if_pos rfl] at q2 ⊢
      have e5 := e'.trans e2
      refine ⟨fun σ6 H6 => ∃ ρ6 μ6, Evo μ H μ6 H6 ∧ Bear X.K T Z σ6 H6 ρ6 μ6 ∧ whW t wb m D' ρ6 μ6, fun σ6 H6 h6 => ⟨m, Nat.lt_succ_self m, h6⟩, Z, ρ', μ2, _, b'.step e2 m2, ?_, q2⟩
      exact ⟨fun σ6 H6 ρ6 μ6 e6 b6 q6 => ⟨ρ6, μ6, e5.trans e6, b6, q6⟩, fun v H6 d6 μ6 e6 => l.rt v H6 d6 μ6 (e5.trans e6), fun σ6 H6 ρ6 μ6 e6 => l.nx σ6 H6 ρ6 μ6 (e5.trans e6), fun σ6 H6 ρ6 μ6 e6 b6 q6 => ⟨ρ6, μ6, e5.trans e6, b6, q6⟩, fun σ6 => (l.ex σ6).step e5⟩
end
end G2
end
section
set_option Elab.async false
set_option linter.all false
set_option maxRecDepth 100000
namespace G2
open PySem PySem.Spec PyProof.Rows L2

/-! ### comprehensions -/
def wipeD (ρ : Ro) : List Nat → Ro
  | [] => ρ
  | v :: vs => (wipeD ρ vs).set v none
theorem wipeD_length (ρ : Ro) : ∀ vs : List Nat, (wipeD ρ vs).length = ρ.length
  | [] => rfl
  | v :: vs => by unfold wipeD; rw [List.length_set, wipeD_length ρ vs]
theorem wipeD_some {ρ : Ro} {i : Nat} {x : D} : ∀ {vs : List Nat}, (wipeD ρ vs)[i]? = some (some x) → ρ[i]? = some (some x) ∧ i ∉ vs
  | [], h => ⟨h, by simp⟩
  | v :: vs, h => by
    unfold wipeD at h
    by_cases e : i = v
    · subst e
      by_cases hl : i < (wipeD ρ vs).length
      · rw [List.getElem?_set_self hl] at h
        cases h
      · have := (List.getElem?_eq_some_iff.mp h).1
        rw [List.length_set] at this
        exact absurd this hl
    · rw [List.getElem?_set_ne (Ne.symm e)] at h
      obtain ⟨h1, h2⟩ := wipeD_some h
      exact ⟨h1, by simp [e, h2]⟩
theorem wipe_keep {σ : L2.St} {i : Nat} {x : V} : ∀ {vs : List Nat}, σ[i]? = some (some x) → i ∉ vs → (wipe σ vs)[i]? = some (some x)
  | [], h, _ => h
  | v :: vs, h, hn => by
    unfold wipe
    rw [List.getElem?_set_ne (fun z => hn (by rw [z]; exact List.mem_cons_self))]
    exact wipe_keep h (fun z => hn (List.mem_cons_of_mem _ z))
theorem wipe_set_none {σ : L2.St} : ∀ {vs : List Nat} {i : Nat}, wipe (σ.set i none) vs = (wipe σ vs).set i none
  | [], i => rfl
  | v :: vs, i => by
    simp only [wipe]
    rw [wipe_set_none]
    by_cases e : i = v
    · subst e; rfl
    · exact List.set_comm _ _ e
theorem wipe_wipe {σ : L2.St} : ∀ {vs : List Nat}, wipe (wipe σ vs) vs = wipe σ vs
  | [] => rfl
  | v :: vs => by
    simp only [wipe]
    rw [wipe_set_none, wipe_wipe, List.set_set]
section
variable {K : PySem.W.Frag} {T : List (Addr × Str)} {Z : Addr → Prop} {μ μ' : Mu} {H H' H1 : Hp} {p : Addr} {o : HO} {xs ys acc : List D} {vs : List V}
mutual
theorem Rep.pend (h : ∀ a, ¬ Z a → H' a = H a) : ∀ (d : D) (v : V), Rep K Z μ H d v → Rep K Z μ H' d v
  | .non, v, r => by simp only [Rep] at r ⊢; exact r
  | .bl b, v, r => by simp only [Rep] at r ⊢; exact r
  | .int i, v, r => by simp only [Rep] at r ⊢; exact r
  | .str x, v, r => by simp only [Rep] at r ⊢; exact r
  | .ty n, v, r => by simp only [Rep] at r ⊢; exact r
  | .ref a, v, r => by simp only [Rep] at r ⊢; exact r
  | .tup ds, v, r => by
    simp only [Rep] at r ⊢
    obtain ⟨a, vs, rfl, hs, hr⟩ := r
    refine ⟨a, vs, rfl, ?_, Reps.pend h ds vs hr⟩
    rcases hs with ⟨m, mz, hs⟩ | hs
    · exact .inl ⟨m, mz, by unfold Rd at hs ⊢; rw [h a mz]; exact hs⟩
    · exact .inr hs
  | .lst ds, v, r => by
    simp only [Rep] at r ⊢
    obtain ⟨a, vs, rfl, ⟨m, mz⟩, hs, hr⟩ := r
    exact ⟨a, vs, rfl, ⟨m, mz⟩, by rw [h a mz]; exact hs, Reps.pend h ds vs hr⟩
  | .frz ds, v, r => by
    simp only [Rep] at r ⊢
    obtain ⟨a, vs, rfl, hs, hr⟩ := r
    refine ⟨a, vs, rfl, ?_, Reps.pend h ds vs hr⟩
    rcases hs with ⟨m, mz, o, hs⟩ | hs
    · exact .inl ⟨m, mz, o, by rw [h a mz]; exact hs⟩
    · exact .inr hs
  | .ins c ns ds, v, r => by
    simp only [Rep] at r ⊢
    obtain ⟨a, dx, vs, rfl, ⟨m, mz⟩, hs, hl, hr⟩ := r
    exact ⟨a, dx, vs, rfl, ⟨m, mz⟩, by rw [h a mz]; exact hs, hl, Reps.pend h ds vs hr⟩
  | .dic ks ds, v, r => by
    simp only [Rep] at r ⊢
    obtain ⟨a, vs, rfl, ⟨m, mz⟩, hs, hl, hr⟩ := r
    exact ⟨a, vs, rfl, ⟨m, mz⟩, by unfold Rd at hs ⊢; rw [h a mz]; exact hs, hl, Reps.pend h ds vs hr⟩
theorem Reps.pend (h : ∀ a, ¬ Z a → H' a = H a) : ∀ (ds : List D) (vs : List V), Reps K Z μ H ds vs → Reps K Z μ H' ds vs
  | [], vs, r => by simp only [Reps] at r ⊢; exact r
  | d :: ds, vs, r => by
    simp only [Reps] at r ⊢
    obtain ⟨v, rr, rfl, h1, h2⟩ := r
    exact ⟨v, rr, rfl, Rep.pend h d v h1, Reps.pend h ds rr h2⟩
end
/-- a pending list comes to be one that may change -/
theorem reps_trk (hZ : ∀ a, Z a → True) (r : Reps K (fun a => Z a ∨ a = p) μ H xs vs) : Reps K Z (setM μ p acc) H xs vs := by
  have key : ∀ a, μ a = none → ¬ (Z a ∨ a = p) → setM μ p acc a = none ∧ ¬ Z a := fun a h1 h2 => ⟨by rw [setM_ne (fun z => h2 (.inr z))]; exact h1, fun z => h2 (.inl z)⟩
  have go : (∀ (d : D) (v : V), Rep K (fun a => Z a ∨ a = p) μ H d v → Rep K Z (setM μ p acc) H d v) ∧ True := by
    refine ⟨?_, trivial⟩
    intro d
    induction d using D.rec (motive_2 := fun ds => ∀ vs, Reps K (fun a => Z a ∨ a = p) μ H ds vs → Reps K Z (setM μ p acc) H ds vs) with
    | non => intro v r; simp only [Rep] at r ⊢; exact r
    | bl _ => intro v r; simp only [Rep] at r ⊢; exact r
    | int _ => intro v r; simp only [Rep] at r ⊢; exact r
    | str _ => intro v r; simp only [Rep] at r ⊢; exact r
    | ty _ => intro v r; simp only [Rep] at r ⊢; exact r
    | ref _ => intro v r; simp only [Rep] at r ⊢; exact r
    | tup ds ih =>
      intro v r
      simp only [Rep] at r ⊢
      obtain ⟨a, vs, rfl, hs, hr⟩ := r
      refine ⟨a, vs, rfl, ?_, ih vs hr⟩
      rcases hs with ⟨m, mz, hs⟩ | hs
      · exact .inl ⟨(key a m mz).1, (key a m mz).2, hs⟩
      · exact .inr hs
    | lst ds ih =>
      intro v r
      simp only [Rep] at r ⊢
      obtain ⟨a, vs, rfl, ⟨m, mz⟩, hs, hr⟩ := r
      exact ⟨a, vs, rfl, key a m mz, hs, ih vs hr⟩
    | frz ds ih =>
      intro v r
      simp only [Rep] at r ⊢
      obtain ⟨a, vs, rfl, hs, hr⟩ := r
      refine ⟨a, vs, rfl, ?_, ih vs hr⟩
      rcases hs with ⟨m, mz, o, hs⟩ | hs
      · exact .inl ⟨(key a m mz).1, (key a m mz).2, o, hs⟩
      · exact .inr hs
    | ins c ns ds ih =>
      intro v r
      simp only [Rep] at r ⊢
      obtain ⟨a, dx, vs, rfl, ⟨m, mz⟩, hs, hl, hr⟩ := r
      exact ⟨a, dx, vs, rfl, key a m mz, hs, hl, ih vs hr⟩
    | dic ks ds ih =>
      intro v r
      simp only [Rep] at r ⊢
      obtain ⟨a, vs, rfl, ⟨m, mz⟩, hs, hl, hr⟩ := r
      exact ⟨a, vs, rfl, key a m mz, hs, hl, ih vs hr⟩
    | nil => rename_i vs0 r; simp only [Reps] at r ⊢; exact r
    | cons d ds h1 h2 =>
      rename_i vs0 r
      simp only [Reps] at r ⊢
      obtain ⟨v, rr, rfl, r1, r2⟩ := r
      exact ⟨v, rr, rfl, h1 v r1, h2 rr r2⟩
  clear hZ
  induction xs generalizing vs with
  | nil => simp only [Reps] at r ⊢; exact r
  | cons d ds ih =>
    simp only [Reps] at r ⊢
    obtain ⟨v, rr, rfl, r1, r2⟩ := r
    exact ⟨v, rr, rfl, go.1 d v r1, ih r2⟩
theorem mem_pend (m : MemOk K T Z μ H) (h : H p = none) : MemOk K T (fun a => Z a ∨ a = p) μ (upd H p (.lst vs)) := by
  have m2 := mem_new (o := .lst vs) m h
  refine ⟨fun b ys e => ?_, m2.tabs, fun b hb => ?_⟩
  · obtain ⟨ws, e1, e2⟩ := m.mem b ys e
    refine ⟨ws, by rw [upd_ne (ne_of_none e1 h)]; exact e1, ?_⟩
    exact (Reps.widen (H0 := H) (fun a z => z.imp id (fun e => by rw [e]; exact h)) _ _ e2).step (evo_new h) _ _
  · rcases hb with hb | hb
    · exact m2.pen b hb
    · rw [hb, upd_same]
      exact ⟨by simp, m.fresh h⟩
theorem mem_write (m : MemOk K T Z μ H) (h : Z p) (hl : ∃ ws, H p = some (.lst ws)) : MemOk K T Z μ (upd H p (.lst vs)) := by
  have hp : μ p = none := (m.pen p h).2
  obtain ⟨ws0, hl⟩ := hl
  refine ⟨fun b ys e => ?_, fun q hq => ?_, fun b hb => ?_⟩
  · obtain ⟨ws, e1, e2⟩ := m.mem b ys e
    have hb : b ≠ p := fun z => by rw [z, hp] at e; cases e
    exact ⟨ws, by rw [upd_ne hb]; exact e1, e2.pend (fun a ha => upd_ne (fun z => ha (by rw [z]; exact h))) _ _⟩
  · obtain ⟨ps, h1, h2, h3⟩ := m.tabs q hq
    have n1 : q.1 ≠ p := fun z => by rw [z, hl] at h1; cases h1
    refine ⟨ps, by rw [upd_ne n1]; exact h1, h2, fun pos cv hc => ?_⟩
    obtain ⟨c, e1, e2⟩ := h3 pos cv hc
    refine ⟨c, e1, ?_⟩
    rw [upd_ne (fun z => ?_)]
    · exact e2
    · rw [z, hl] at e2
      unfold LamX.CodeO at e2
      cases e2
  · by_cases e : b = p
    · rw [e, upd_same]; exact ⟨by simp, hp⟩
    · rw [upd_ne e]; exact m.pen b hb
theorem mem_narrow {Z2 : Addr → Prop} (m : MemOk K T Z2 μ H) (h : ∀ a, Z a → Z2 a) : MemOk K T Z μ H :=
  ⟨fun b ys e => let ⟨ws, e1, e2⟩ := m.mem b ys e; ⟨ws, e1, e2.narrow h _ _⟩, m.tabs, fun b hb => m.pen b (h b hb)⟩
theorem evo_pend (e : Evo μ H1 μ' H) (h : H1 p = none) : Evo μ H1 μ' (upd H p o) :=
  ⟨fun q u e1 e2 n => by rw [upd_ne (ne_of_none e1 h)]; exact e.keep q u e1 e2 n, e.trk, fun q hq => by rw [upd_ne (fun z => hq (by rw [z]; exact h))]; exact e.there q hq⟩
end
def wYes : WTt := fun _ μ Q _ => Q true μ
def lcW (g : WG) (tt : WTt) (we : WE) (own : List Nat) : List D → List D → Ro → Mu → (List D → Mu → Prop) → Prop
  | [], acc, _, μ, Q => Q acc μ
  | x :: xs, acc, ρ, μ, Q => g x (wipeD ρ own) μ (fun ρ1 μ1 => tt ρ1 μ1 (fun c μ2 => if c = true then we ρ1 μ2 (fun d μ3 => lcW g tt we own xs (acc ++ [d]) ρ μ3 Q) (fun _ _ => False) else lcW g tt we own xs acc ρ μ2 Q) (fun _ _ => False))
def wLc (wi : WI) (g : WG) (tt : WTt) (we : WE) (own : List Nat) : WE := fun ρ μ Q EX => wi ρ μ (fun items μ1 => items.length ≤ 16777216 ∧ lcW g tt we own items [] ρ μ1 (fun ds μ2 => Q (.lst ds) μ2)) EX
def wLcM (wi : WI) (g : WG) (tt : WTt) (we : WE) (own : List Nat) : WE := fun ρ μ Q EX => wi ρ μ (fun items μ1 => items.length ≤ 16777216 ∧ lcW g tt we own items [] ρ μ1 (fun ds μ2 => ∀ p, μ2 p = none → Q (.ref p) (setM μ2 p ds))) EX
abbrev WF : WX := fun _ _ _ _ => False
def DTs (X : Cx) (T : List (Addr × Str)) (W : WX) (es : List Expr) (w : WTt) : Prop := PTs X es (tDT X.K T W w)
theorem pts_imp {X : Cx} {e : List Expr} {t t' : TT} (h : PTs X e t) (i : ∀ σ H Q, t' σ H Q → t σ H Q) : PTs X e t' := ⟨fun pins s σ H Q I q => h.run pins s σ H Q I (i σ H Q q)⟩
section
variable {X : Cx} {T : List (Addr × Str)} {W : WX} {c e o i tg elt iter : Expr} {we : WE} {pos : Pos} {t : WTt} {ifs : List Expr} {scope : Scope} {own : List (Str × Nat)} {wi : WI} {g : WG} {is : List Nat}
theorem dts_nil : DTs X T W [] wYes := pts_imp pts_nil fun σ H Q' ⟨Z, ρ, μ, Q, EX, b, l, q, k⟩ => k true H μ Evo.refl b.m q
theorem dts_one (h : DT X T W c t) : DTs X T W [c] t := pts_one h
/-- what the comprehension does, whatever its list comes to be -/
theorem lc_D {σ : L2.St} {H : Hp} {Q' : VK} {K : PySem.W.Frag} {P : List D → Mu → Prop} (his : ∀ i ∈ is, i ∈ own.map (·.2))
    (h : ∃ Z ρ μ EX, Bear K T Z σ H ρ μ ∧ LkX K T Z W EX σ μ H ∧ wi ρ μ (fun items μ1 => items.length ≤ 16777216 ∧ lcW g t we (own.map (·.2)) items [] ρ μ1 P) EX ∧
      ∀ (da : Addr) (H1 : Hp) (μ' : Mu) (H' : Hp) (acc : List D) (vs : List V), H1 da = none → Evo μ H μ' H' → MemOk K T (fun a => Z a ∨ a = da) μ' H' → ¬ Z da → H' da = some (.lst vs) → Reps K (fun a => Z a ∨ a = da) μ' H' acc vs → True → P acc μ' →
        (∀ xs, Evo μ H (setM μ' da xs) H') → Q' (.ref da) H') :
    tLc (tDI K T W wi) (tDG K T is g) (tDT K T WF t) (tD K T WF we) (own.map (·.2)) σ H Q' := by
  obtain ⟨Z, ρ, μ, EX, b, l, q, k⟩ := h
  refine ⟨Z, ρ, μ, _, EX, b, l, q, fun J H1 items μ1 e1 m1 wk ⟨hlen, q1⟩ D hD => ?_⟩
  obtain ⟨G, Y, w, hG, hY⟩ := wk
  have hZD : ¬ Z D := fun z => (m1.pen D z).1 hD
  have hz2 : ∀ a, (Z a ∨ a = D) → Z a ∨ H1 a = none := fun a z => z.imp id (fun e => by rw [e]; exact hD)
  refine lc_it w (fun i H' => ∃ μ' acc vs, Evo μ1 H1 μ' H' ∧ MemOk K T (fun a => Z a ∨ a = D) μ' H' ∧ H' D = some (.lst vs) ∧ Reps K (fun a => Z a ∨ a = D) μ' H' acc vs ∧ acc.length ≤ i ∧ lcW g t we (own.map (·.2)) (items.drop i) acc ρ μ' P)
    ⟨μ1, [], [], evo_new hD, mem_pend m1 hD, upd_same, Reps.nil, Nat.le_refl _, by simpa using q1⟩ (fun i H' _ ⟨μ', _, _, e', _⟩ => hG H' μ' e') ?_ ?_
  · rintro i x H' H3 hi ⟨μ', acc, vs, e', m', hD', r', la, q'⟩ y
    obtain ⟨e3, m3, d, hd, r3⟩ := hY i H' μ' x H3 (fun a => Z a ∨ a = D) hi e' m' (fun a z => .inl z) hz2 y
    have ed : items.drop i = d :: items.drop (i + 1) := by
      rw [List.drop_eq_getElem_cons hi]
      have : items[i] = d := (List.getElem?_eq_some_iff.mp hd).2
      rw [this]
    rw [ed] at q'
    have e13 := e'.trans e3
    have b3 : Bear K T (fun a => Z a ∨ a = D) (wipe σ (own.map (·.2))) H3 (wipeD ρ (own.map (·.2))) μ' := by
      refine ⟨m3, by rw [wipeD_length, wipe_length]; exact b.len, fun j dj hj => ?_⟩
      obtain ⟨h1, h2⟩ := wipeD_some hj
      obtain ⟨v, h3, h4⟩ := b.at_ j dj h1
      exact ⟨v, wipe_keep h3 h2, ((Rep.widen (H0 := H1) hz2 dj v (h4.step e1 dj v))).step e13 dj v⟩
    refine ⟨_, d, _, μ', _, b3, r3, q', fun σ2 ρ2 μ2 e2 b2 hw q2 => ⟨by rw [hw _ his, wipe_wipe], ?_⟩⟩
    refine ⟨_, ρ2, μ2, _, _, b2, fun _ _ _ _ _ _ _ _ z => z.elim, q2, fun c H4 μ4 e4 m4 q4 => ?_⟩
    have e14 := (e13.trans e2).trans e4
    have hD3 : H3 D = some (.lst vs) := e3.keep D _ hD' (m'.pen D (.inr rfl)).2 (fun ps z => by cases z)
    have hD4 : H4 D = some (.lst vs) := e4.keep D _ hD3 (b2.m.pen D (.inr rfl)).2 (fun ps z => by cases z)
    have r4 := ((r'.step e3 _ _).step e2 _ _).step e4 _ _
    cases c with
    | false =>
      simp only [Bool.false_eq_true, if_false] at q4 ⊢
      exact ⟨μ4, acc, vs, e14, m4, hD4, r4, by omega, q4⟩
    | true =>
      simp only [if_true] at q4 ⊢
      refine ⟨_, ρ2, μ4, _, _, b2.step e4 m4, fun _ _ _ _ _ _ _ _ z => z.elim, q4, fun y H5 d5 μ5 e5 m5 r5 q5 => ?_⟩
      have hD5 : H5 D = some (.lst vs) := e5.keep D _ hD4 (m4.pen D (.inr rfl)).2 (fun ps z => by cases z)
      have rr := (r4.step e5 _ _).append (Reps.cons r5 Reps.nil)
      refine ⟨vs, hD5, ?_, μ5, acc ++ [d5], vs ++ [y], evo_pend (e14.trans e5) hD, mem_write m5 (.inr rfl) ⟨vs, hD5⟩, upd_same, ?_, ?_, q5⟩
      · rw [szl, ← r4.length]; omega
      · exact rr.pend (fun a ha => upd_ne (fun z => ha (.inr z))) _ _
      · rw [List.length_append]; simp; omega
  · rintro H' ⟨μ', acc, vs, e', m', hD', r', la, q'⟩
    rw [List.drop_length] at q'
    refine k D H1 μ' H' acc vs hD (e1.trans e') m' hZD hD' r' trivial q' (fun xs => ?_)
    exact e1.trans ⟨e'.keep, fun p hp hm => by rw [setM_ne (fun z => hp (by rw [z]; exact hD))]; exact e'.trk p hp hm, e'.there⟩
theorem de_lc (hc : X.calm = true) (hN : X.N.Nodup) (hi : DI X T W tg iter wi) (ok : BlkOk X.N X.env.scope scope own)
    (hg : ∀ (s : Shared) (H : Hp) (C : Addr) (cl : List (Str × Addr)) (fp : List Addr), DG (X.blk s H scope (compEnvC scope cl C X.env) fp) T is tg g) (ht : ∀ (s : Shared) (H : Hp) (C : Addr) (cl : List (Str × Addr)) (fp : List Addr), DTs (X.blk s H scope (compEnvC scope cl C X.env) fp) T WF ifs t)
    (he : ∀ (s : Shared) (H : Hp) (C : Addr) (cl : List (Str × Addr)) (fp : List Addr), DE (X.blk s H scope (compEnvC scope cl C X.env) fp) T WF elt we) (his : ∀ i ∈ is, i ∈ own.map (·.2) := by decide) (hs : ∀ x, foldedSetIterable iter X.env x = pure x := by intro _; rfl) :
    DE X T W (.ListComp elt [⟨tg, iter, ifs, 0⟩] scope pos) (wLc wi g t we (own.map (·.2))) := by
  refine pe_imp (pe_lc (g := tDG X.K T is g) (tt := tDT X.K T WF t) (te := tD X.K T WF we) hc hN hi ok hg ht he hs) ?_
  rintro σ H Q' ⟨Z, ρ, μ, Q, EX, b, l, q, k⟩
  refine lc_D (P := fun ds μ2 => Q (.lst ds) μ2) his ⟨Z, ρ, μ, EX, b, l, q, fun D H1 μ' H' acc vs hD e' m' hZ hD' r' _ q' _ => ?_⟩
  refine k _ _ _ _ e' (mem_narrow m' (fun a z => .inl z)) ?_ q'
  simp only [Rep]
  exact ⟨D, vs, rfl, ⟨(m'.pen D (.inr rfl)).2, hZ⟩, hD', r'.narrow (fun a z => .inl z) _ _⟩
theorem mem_trkp {K : PySem.W.Frag} {Z : Addr → Prop} {μ : Mu} {H : Hp} {D0 : Addr} {acc : List D} {vs : List V} (m : MemOk K T (fun a => Z a ∨ a = D0) μ H) (hZ : ¬ Z D0) (h : H D0 = some (.lst vs)) (r : Reps K (fun a => Z a ∨ a = D0) μ H acc vs) : MemOk K T Z (setM μ D0 acc) H := by
  refine ⟨fun b ys e => ?_, m.tabs, fun b hb => ⟨(m.pen b (.inl hb)).1, by rw [setM_ne (fun z => hZ (by rw [← z]; exact hb))]; exact (m.pen b (.inl hb)).2⟩⟩
  by_cases hb : b = D0
  · rw [hb, setM_same] at e
    cases e
    exact ⟨vs, by rw [hb]; exact h, reps_trk (fun _ _ => trivial) r⟩
  · rw [setM_ne hb] at e
    obtain ⟨ws, e1, e2⟩ := m.mem b ys e
    exact ⟨ws, e1, reps_trk (fun _ _ => trivial) e2⟩
theorem de_lcM (hc : X.calm = true) (hN : X.N.Nodup) (hi : DI X T W tg iter wi) (ok : BlkOk X.N X.env.scope scope own)
    (hg : ∀ (s : Shared) (H : Hp) (C : Addr) (cl : List (Str × Addr)) (fp : List Addr), DG (X.blk s H scope (compEnvC scope cl C X.env) fp) T is tg g) (ht : ∀ (s : Shared) (H : Hp) (C : Addr) (cl : List (Str × Addr)) (fp : List Addr), DTs (X.blk s H scope (compEnvC scope cl C X.env) fp) T WF ifs t)
    (he : ∀ (s : Shared) (H : Hp) (C : Addr) (cl : List (Str × Addr)) (fp : List Addr), DE (X.blk s H scope (compEnvC scope cl C X.env) fp) T WF elt we) (his : ∀ i ∈ is, i ∈ own.map (·.2) := by decide) (hs : ∀ x, foldedSetIterable iter X.env x = pure x := by intro _; rfl) :
    DE X T W (.ListComp elt [⟨tg, iter, ifs, 0⟩] scope pos) (wLcM wi g t we (own.map (·.2))) := by
  refine pe_imp (pe_lc (g := tDG X.K T is g) (tt := tDT X.K T WF t) (te := tD X.K T WF we) hc hN hi ok hg ht he hs) ?_
  rintro σ H Q' ⟨Z, ρ, μ, Q, EX, b, l, q, k⟩
  refine lc_D (P := fun ds μ2 => ∀ p, μ2 p = none → Q (.ref p) (setM μ2 p ds)) his ⟨Z, ρ, μ, EX, b, l, q, fun D H1 μ' H' acc vs hD e' m' hZ hD' r' _ q' he => ?_⟩
  exact k _ _ _ _ (he acc) (mem_trkp m' hZ hD' r') (by simp only [Rep]) (q' D (m'.pen D (.inr rfl)).2)
/-- name = [..] -/
theorem ds_setLc {i : Nat} {y : Str} {py spos : Pos} (hc : X.calm = true) (hN : X.N.Nodup) (hy : X.N[i]? = some y) (hyl : X.env.scope.names.lookup y = some .local)
    (hsw : swapsWith (.ListComp elt [⟨tg, iter, ifs, 0⟩] scope pos) (some (.Name y py)) spos.line X.env = pure true) (hi : DI X T W tg iter wi) (ok : BlkOk X.N X.env.scope scope own)
    (hg : ∀ (s : Shared) (H : Hp) (C : Addr) (cl : List (Str × Addr)) (fp : List Addr), DG (X.blk s H scope (compEnvC scope cl C X.env) fp) T is tg g) (ht : ∀ (s : Shared) (H : Hp) (C : Addr) (cl : List (Str × Addr)) (fp : List Addr), DTs (X.blk s H scope (compEnvC scope cl C X.env) fp) T WF ifs t)
    (he : ∀ (s : Shared) (H : Hp) (C : Addr) (cl : List (Str × Addr)) (fp : List Addr), DE (X.blk s H scope (compEnvC scope cl C X.env) fp) T WF elt we) (his : ∀ i ∈ is, i ∈ own.map (·.2) := by decide) (hs : ∀ x, foldedSetIterable iter X.env x = pure x := by intro _; rfl) :
    DS X T W (.Assign [.Name y py] (.ListComp elt [⟨tg, iter, ifs, 0⟩] scope pos) spos) (wAsg (wLc wi g t we (own.map (·.2))) (gN i)) := by
  refine ps_imp (ps_setLc (g := tDG X.K T is g) (tt := tDT X.K T WF t) (te := tD X.K T WF we) hc hN hy hyl hsw hi ok hg ht he hs) ?_
  rintro De σ H ⟨Z, ρ, μ, D', b, l, q⟩
  refine lc_D (P := fun ds μ2 => D'.nx (ρ.set i (some (.lst ds))) μ2) his ⟨Z, ρ, μ, D'.ex, b, l.ex σ, q, fun D H1 μ' H' acc vs hD e' m' hZ hD' r' _ q' _ => ?_⟩
  refine l.nx _ _ _ _ e' (bear_set (b.step e' (mem_narrow m' (fun a z => .inl z))) ?_ i) q'
  simp only [Rep]
  exact ⟨D, vs, rfl, ⟨(m'.pen D (.inr rfl)).2, hZ⟩, hD', r'.narrow (fun a z => .inl z) _ _⟩
theorem ds_setLcM {i : Nat} {y : Str} {py spos : Pos} (hc : X.calm = true) (hN : X.N.Nodup) (hy : X.N[i]? = some y) (hyl : X.env.scope.names.lookup y = some .local)
    (hsw : swapsWith (.ListComp elt [⟨tg, iter, ifs, 0⟩] scope pos) (some (.Name y py)) spos.line X.env = pure true) (hi : DI X T W tg iter wi) (ok : BlkOk X.N X.env.scope scope own)
    (hg : ∀ (s : Shared) (H : Hp) (C : Addr) (cl : List (Str × Addr)) (fp : List Addr), DG (X.blk s H scope (compEnvC scope cl C X.env) fp) T is tg g) (ht : ∀ (s : Shared) (H : Hp) (C : Addr) (cl : List (Str × Addr)) (fp : List Addr), DTs (X.blk s H scope (compEnvC scope cl C X.env) fp) T WF ifs t)
    (he : ∀ (s : Shared) (H : Hp) (C : Addr) (cl : List (Str × Addr)) (fp : List Addr), DE (X.blk s H scope (compEnvC scope cl C X.env) fp) T WF elt we) (his : ∀ i ∈ is, i ∈ own.map (·.2) := by decide) (hs : ∀ x, foldedSetIterable iter X.env x = pure x := by intro _; rfl) :
    DS X T W (.Assign [.Name y py] (.ListComp elt [⟨tg, iter, ifs, 0⟩] scope pos) spos) (wAsg (wLcM wi g t we (own.map (·.2))) (gN i)) := by
  refine ps_imp (ps_setLc (g := tDG X.K T is g) (tt := tDT X.K T WF t) (te := tD X.K T WF we) hc hN hy hyl hsw hi ok hg ht he hs) ?_
  rintro De σ H ⟨Z, ρ, μ, D', b, l, q⟩
  refine lc_D (P := fun ds μ2 => ∀ p, μ2 p = none → D'.nx (ρ.set i (some (.ref p))) (setM μ2 p ds)) his ⟨Z, ρ, μ, D'.ex, b, l.ex σ, q, fun D H1 μ' H' acc vs hD e' m' hZ hD' r' _ q' he => ?_⟩
  exact l.nx _ _ _ _ (he acc) (bear_set (b.step (he acc) (mem_trkp m' hZ hD' r')) (by simp only [Rep]) i) (q' D (m'.pen D (.inr rfl)).2)
end
end G2
end
section
set_option Elab.async false
set_option linter.all false
set_option maxRecDepth 100000
namespace G2
open PySem PySem.Spec PyProof.Rows L2

/-! ### defs and their calls -/
abbrev WFn := List D → Mu → KD → KX → Prop
/-- what a def promises, by its reading -/
def lift (K : PySem.W.Frag) (T : List (Addr × Str)) (w : WFn) (n : Nat) : Sp := fun vs H Q E => vs.length = n ∧ ∃ Z ds μ Qd Ed, MemOk K T Z μ H ∧ Reps K Z μ H ds vs ∧ w ds μ Qd Ed ∧
  (∀ v H' d μ', Evo μ H μ' H' → MemOk K T Z μ' H' → Rep K Z μ' H' d v → Qd d μ' → Q v H') ∧
  (∀ cls dd H' x μ', Evo μ H μ' H' → MemOk K T Z μ' H' → RepX K Z μ' H' x cls dd → Ed x μ' → E cls dd H')
def startD (n : Nat) (ds : List D) : Ro := ds.map some ++ List.replicate (n - ds.length) none
/-- n names, p parameters -/
def fnW (n p : Nat) (body : WS) : WFn := fun ds μ Q E => ds.length = p ∧ body { nx := fun _ μ' => Q .non μ', rt := Q, ex := E } (startD n ds) μ
theorem takesF {X : Cx} : Takes X WF := fun _ _ x => by
  obtain ⟨_, _, _, _, _, _, _, _, _, _, _, _, _, _, _, _, z⟩ := x
  exact z.elim
theorem bear_start {K : PySem.W.Frag} {T : List (Addr × Str)} {Z : Addr → Prop} {μ : Mu} {H : Hp} {N : List Str} {ds : List D} {vs : List V} (m : MemOk K T Z μ H) (r : Reps K Z μ H ds vs) : Bear K T Z (L2.start N vs) H (startD N.length ds) μ := by
  have hl := r.length
  refine ⟨m, by unfold L2.start startD; simp [hl], fun i d h => ?_⟩
  unfold startD at h
  by_cases hi : i < ds.length
  · rw [List.getElem?_append_left (by simpa using hi), List.getElem?_map] at h
    cases e : ds[i]? with
    | none => rw [e] at h; cases h
    | some d' =>
      rw [e] at h
      cases h
      obtain ⟨v, h1, h2⟩ := r.get e
      refine ⟨v, ?_, h2⟩
      unfold L2.start
      rw [List.getElem?_append_left (by simp; omega), List.getElem?_map, h1]
      rfl
  · rw [List.getElem?_append_right (by simpa using hi)] at h
    have := List.getElem?_eq_some_iff.mp h
    obtain ⟨h1, h2⟩ := this
    rw [List.getElem_replicate] at h2
    cases h2
section
variable {P : Program} {w : World} {K : PySem.W.Frag} {mg : Str → Option Value} {base : Heap} {T : List (Addr × Str)} {x qual : Str} {params : Arguments} {body : List Stmt} {scope : Scope} {dvs : List V} {kws : List (Str × V)} {f : Addr} {fd : FuncData} {wb : WS}
/-- room, and nothing guarded -/
structure RmG (k : Nat) (A : Around) : Prop where
  r : Room k A
  g : A.guards = some []
theorem RmG.mono {j k : Nat} {A : Around} (r : RmG k A) (h : j ≤ k) : RmG j A := ⟨r.r.mono h, r.g⟩
theorem RmG.deeper {k : Nat} {A : Around} (r : RmG (k + 1) A) (env : Env) : RmG k (A.deeper env) := ⟨r.r.deeper env, r.g⟩
/-- what a def promises where nothing is guarded -/
structure FnG (P : Program) (w : World) (K : PySem.W.Frag) (mg : Str → Option Value) (base : Heap) (CX : CXT) (k : Nat) (f : Addr) (fd : FuncData) (ps : List Str) (sp : Sp) : Prop where
  len : ∀ vs H Q E, sp vs H Q E → vs.length = ps.length
  run : ∀ (A : Around) (outer : List Env) (s : Shared) (H : Hp) (args : Args) (us : List Value) (vs : List V) (Q : VK) (E : XK), RmG k A → Env0 P w K mg base A outer s H → BindsTo s fd args (ps.zip us) → Vals vs us → sp vs H Q E →
    codeAny (model P w) A (.call (.ref f) args) (CR CX outer P w H s Q E) s
/-- cdv: the code of the def at f -/
def CodeAt (K : PySem.W.Frag) (f : Addr) (qual : Str) (cdv : Value) : Prop := PySem.W.codeIn K cdv qual = true ∧ ∃ (oc : Value) (od : Option Addr) (fd : FuncData) (osl : Array (Option Value)), K.lookup f = some ⟨oc, od, .func fd, osl⟩ ∧ fd.code = cdv
theorem fn_ok {N ps : List Str} {k : Nat} (F : FunD K x qual params body scope dvs kws f fd) (S : FnScope N ps scope)
    (hb : ∀ (cdv : Value) (A : Around) (outer : List Env) (s : Shared) (H : Hp) (E : XK), RmG k (A.deeper (envOfC qual scope s.heap.objs.size f cdv)) → CodeAt K f qual cdv →
      DSs (cxOf (L2.CX P w) P w K mg base N qual scope f cdv A outer s H E) T (fun cls d _ H' => E cls d H') body wb) :
    FnG P w K mg base (L2.CX P w) (k + 1) f fd ps (lift K T (fnW N.length ps.length wb) ps.length) := by
  obtain ⟨oc, od, dV, kV, doc, pm, an, cdv, ct, osl, rfl, lk, hcd, _, _⟩ := F.ex
  refine ⟨fun vs H Q E h => h.1, fun A outer s H args us vs Q E hr e0 hbd hv h => ?_⟩
  refine LamX.run_ofS lk hcd S hr.r e0 hbd hv h.1 fun _ => ⟨_, hb cdv A outer s H E (hr.deeper _) ⟨hcd, _, _, _, _, lk, rfl⟩, ?_⟩
  obtain ⟨hl, Z, ds, μ, Qd, Ed, m, r, ⟨hn, q⟩, kr, kx⟩ := h
  refine ⟨Z, _, μ, _, bear_start m r, ?_, q⟩
  exact ⟨fun σ' H' ρ' μ' e' b' q' => kr _ _ _ _ e' b'.m (by simp only [Rep]) q', fun v H' d μ' e' m' r' q' => kr _ _ _ _ e' m' r' q', fun _ _ _ _ _ _ z => z.elim, fun _ _ _ _ _ _ z => z.elim, fun σ' cls dd H' y μ' e' m' r' q' => kx cls dd H' y μ' e' m' r' q'⟩
end
/-- a def that may be called by its name: ddv fill up -/
structure Cal (P : Program) (w : World) (K : PySem.W.Frag) (mg : Str → Option Value) (base : Heap) (T : List (Addr × Str)) (k : Nat) (x : Str) (ddv : List D) (wf : WFn) : Prop where
  ex : ∃ f fd ps ds dvs, FnG P w K mg base (L2.CX P w) k f fd ps (lift K T wf ps.length) ∧ mg x = some (.ref f) ∧ PySem.W.keepIn K (.ref f) = true ∧ Binds K fd ps ds ∧ Vals dvs ds ∧ ddv.map flat = dvs.map some ∧ (∀ ds μ Q E, wf ds μ Q E → ds.length = ps.length)
theorem reps_flat {K : PySem.W.Frag} {Z : Addr → Prop} {μ : Mu} {H : Hp} : ∀ {ds : List D} {vs : List V}, ds.map flat = vs.map some → Reps K Z μ H ds vs
  | [], [], _ => Reps.nil
  | [], _ :: _, h => by simp at h
  | _ :: _, [], h => by simp at h
  | d :: ds, v :: vs, h => by
    simp only [List.map_cons, List.cons.injEq] at h
    exact Reps.cons (rep_flat h.1) (reps_flat h.2)
section
variable {X : Cx} {T : List (Addr × Str)} {W : WX} {e : Expr} {es : List Expr} {pos p : Pos} {ws : WA} {wf : WFn}
def wFn (wf : WFn) (ddv : List D) (ws : WA) : WE := fun ρ μ Q EX => ws ρ μ (fun ds μ1 => wf (ds ++ ddv) μ1 Q EX) EX
theorem run_fnD {σ : L2.St} {CX : CXT} {k : Nat} {f : Addr} {fd : FuncData} {ps : List Str} {sp : Sp} {E : XK} {ds : List Value} {dvs : List V} {pins : List (Addr × Obj)} {H : Hp} {s : Shared} {Q : VK} {us : List Value} {vs : List V} (F : FnG X.prog X.w X.K X.mg X.base CX k f fd ps sp) (hr : RmG k X.A) (hb : Binds X.K fd ps ds) (hd : Vals dvs ds) (hx : PassesAt CX X σ E)
    (I : Inv X pins σ H s) (r : Vals vs us) (h : sp (vs ++ dvs) H Q E) : wpAny (model X.prog X.w) X.A (call (.ref f) us) (EP X pins σ Q) X.xe s := by
  have r2 : Vals (vs ++ dvs) (us ++ ds) := r.append hd
  have hl : (us ++ ds).length = ps.length := by rw [← r2.length]; exact F.len _ _ _ _ h
  refine wpAny_call (codeAny_mono (F.run X.A X.stack s H ⟨us, []⟩ (us ++ ds) (vs ++ dvs) Q E hr I.env0 (hb s us I.kIn hl) r2 h) fun r s' hq => ?_)
  cases r with
  | error e => exact hx pins H s e s' I hq
  | ok fl =>
    cases fl with
    | ret u => exact I.after hq
    | next => exact False.elim hq
    | brk => exact False.elim hq
    | cont => exact False.elim hq
theorem de_fn {j k : Nat} {x : Str} {ddv : List D} (c : Cal X.prog X.w X.K X.mg X.base T k x ddv wf) (hr : RmG j X.A) (hk : k ≤ j) (hg : Gl X x) (tk : Takes X W) (ha : DA X T W (e :: es) ws)
    (hdb : (x == ("__debug__" : Str)) = false := by decide) (he : starEach (e :: es) X.env = (false, eval e X.env) :: starEach es X.env := by rfl) (hpl : (backTo pos (starEach es X.env)).any (·.1) = false := by rfl) :
    DE X T W (.Call (.Name x p) (e :: es) [] pos) (wFn wf ddv ws) := by
  obtain ⟨f, fd, ps, ds, dvs, F, hm, hkp, hb, hd, hf, hlen⟩ := c.ex
  refine ⟨fun pins s σ H Q' I ⟨Z, ρ, μ, Q, EX, b, l, q, k⟩ => ?_⟩
  refine wpAny_Call_Name_kw (ld_glob I hg hm ?_ hdb)
  refine PySem.W.callWith_K (h₀ := X.base) I.ok.mod.kin hkp (thn (ha.run pos pins s σ H _ I ⟨Z, ρ, μ, _, EX, b, l, q, fun vs H1 ds1 μ1 e1 m1 r1 q1 => ?_⟩) fun us s1 ⟨vs, H1, I1, r, qq⟩ => ⟨I1.kIn, run_fnD F (hr.mono hk) hb hd (passAt tk σ) I1 r qq⟩) he hpl
  have rr : Reps X.K Z μ1 H1 (ds1 ++ ddv) (vs ++ dvs) := r1.append (reps_flat hf)
  refine ⟨by rw [← rr.length]; exact hlen _ _ _ _ q1, Z, ds1 ++ ddv, μ1, Q, EX, m1, rr, q1, fun v H' d μ' e' => k v H' d μ' (e1.trans e'), fun cls dd H' y μ' e' => l cls dd H' y μ' (e1.trans e')⟩
theorem de_fn0 {j k : Nat} {x : Str} {ddv : List D} (c : Cal X.prog X.w X.K X.mg X.base T k x ddv wf) (hr : RmG j X.A) (hk : k ≤ j) (hg : Gl X x) (tk : Takes X W)
    (hdb : (x == ("__debug__" : Str)) = false := by decide) : DE X T W (.Call (.Name x p) [] [] pos) (wFn wf ddv wNil) := by
  obtain ⟨f, fd, ps, ds, dvs, F, hm, hkp, hb, hd, hf, hlen⟩ := c.ex
  refine ⟨fun pins s σ H Q' I ⟨Z, ρ, μ, Q, EX, b, l, q, k⟩ => ?_⟩
  refine wpAny_Call_Name_kw (ld_glob I hg hm ?_ hdb)
  have rr : Reps X.K Z μ H ([] ++ ddv) ([] ++ dvs) := by simpa using reps_flat hf
  refine PySem.W.callWith_K0 I.kIn hkp (run_fnD (us := []) (vs := []) F (hr.mono hk) hb hd (passAt tk σ) I .nil ?_)
  exact ⟨by rw [← rr.length]; exact hlen _ _ _ _ q, Z, [] ++ ddv, μ, Q, EX, b.m, rr, q, k, l⟩
/-! ### raise: an own class without an __init__ of its own -/
def wRaise (x : Str) (ws : WA) : WS := fun D' ρ μ => ws ρ μ (fun _ μ1 => D'.ex ⟨x, [], []⟩ μ1) D'.ex
end
end G2
end
section
set_option Elab.async false
set_option linter.all false
set_option maxRecDepth 100000
namespace G2
open PySem PySem.Spec PyProof.Rows L2

/-! ### texts of data (repr): lists, tuples, whole numbers of less than 4,301 digits -/
mutual
def Shw : PyData → Prop
  | .none => True
  | .bool _ => True
  | .str _ => True
  | .int i => i.natAbs < 10 ^ 4300
  | .list xs => ShwL xs
  | .tuple xs => ShwL xs
  | .dict _ => False
def ShwL : List PyData → Prop
  | [] => True
  | x :: xs => Shw x ∧ ShwL xs
end
section
variable {prog : Program} {w : World} {A : Around} {E : Value → Shared → Prop} {s : Shared} {h₀ : Heap}
theorem call_repr_big {a : Int} {t : Tok} {Q : Value → Shared → Prop} (hn : s.heap.NoDigits) (hlt : a.natAbs < 10 ^ 4300) (h1 : Q (.str (toString a) s.toks) { s with toks := s.toks + 1 }) :
    wpAny (model prog w) A (call (.builtin "int.__repr__") [.int a t]) Q E s := by
  refine wpAny_call_entry F.slot_int_repr (typeIs_int s a t) F.entry_int_repr ?_ (F.args_int_repr_1 _)
  unfold Builtin.«int.__repr__»
  show wpAny _ _ (do let r ← Builtin.overDigitLimit? a; _) _ _ s
  refine wpAny_bind (overDigitLimit_any hn (fun _ => ?_) (fun hge => absurd hlt (Nat.not_lt.mpr hge)))
  exact wpAny_bind (wpAny_mkStr (wpAny_pure ⟨_, rfl, h1⟩) (int_text_fits10 hlt))
theorem reprK_big {a : Int} {t : Tok} {bs : List Addr} {n : Nat} (hn : h₀.NoDigits) (hlt : a.natAbs < 10 ^ 4300) : ReprK prog w bs h₀ n (.int a t) (toString a) := by
  intro base hb A g E s Q hg hc hu hk hQ
  rw [pyReprUnder_leaf (v := .int a t) (by omega) (fun _ e => nomatch e)]
  unfold pyRepr
  refine wpAny_bind (wpAny_pyReprObj_slot (by omega) (typeIs_int s a t) F.slot_int_repr.toG (call_repr_big (hn.keeps hk) hlt ⟨_, _, rfl, ?_⟩))
  exact wpAny_pure (hQ s.heap _ fun _ _ e => e)
mutual
theorem reprK_of (hn : h₀.NoDigits) : ∀ {v : Value} {d : PyData} {as : List Addr}, Reads h₀ v d as → Shw d → d.shown.length ≤ sizeLine → ∃ bs, ReadAtMost h₀ d.depth bs ∧ ReprK prog w bs h₀ d.depth v d.shown
  | _, _, _, .none, _, _ => ⟨[], nofun, by simp only [PyData.shown]; exact .of_is ReprIs.none _ _ _⟩
  | _, _, _, .bool b, _, _ => ⟨[], nofun, by simp only [PyData.shown]; exact .of_is (ReprIs.bool b) _ _ _⟩
  | _, _, _, .int i t, hs, _ => ⟨[], nofun, by simp only [PyData.shown]; exact reprK_big hn (by simpa only [Shw] using hs)⟩
  | _, _, _, .str x t, _, hz => ⟨[], nofun, by simp only [PyData.shown]; exact .of_is (ReprIs.str x t (by simpa only [PyData.shown] using hz)) _ _ _⟩
  | _, _, _, .list (a := a) (vs := vs) (xs := xs) h1 h2 h3 h4, hs, hz => by
    simp only [PyData.shown] at hz
    obtain ⟨bs, hb, hk⟩ := reprKs_of hn h4 (by simpa only [Shw] using hs) fun t ht => Nat.le_trans (listText_mem_le ht) hz
    have r : Reads h₀ (.ref a) (.list xs) _ := .list h1 h2 h3 h4
    have na : a ∉ bs := not_mem_of_deeper r (by simp only [PyData.depth]; omega) hb
    refine ⟨a :: bs, ReadAtMost.cons r (by simp only [PyData.depth]; omega) hb, ?_⟩
    simp only [PyData.depth, PyData.shown]
    obtain ⟨l⟩ := vs
    match l, h3, h4, hk with
    | [], h3, h4, hk =>
      cases (show ReadsAll h₀ [] xs _ from h4)
      simp only [PyData.shownAll, listText_nil]
      exact ReprK.listEmpty h1 h2 h3
    | x :: l, h3, h4, hk => exact ReprK.list h1 h2 h3 na (by simpa using hk.length_eq) fun i y e => hk.item i y (by simpa using e)
  | _, _, _, .tuple (a := a) (xs := xs) h1 h2 h3 h4, hs, hz => by
    simp only [PyData.shown] at hz
    obtain ⟨bs, hb, hk⟩ := reprKs_of hn h4 (by simpa only [Shw] using hs) fun t ht => Nat.le_trans (tupleText_mem_le ht) hz
    have r : Reads h₀ (.ref a) (.tuple xs) _ := .tuple h1 h2 h3 h4
    have na : a ∉ bs := not_mem_of_deeper r (by simp only [PyData.depth]; omega) hb
    refine ⟨a :: bs, ReadAtMost.cons r (by simp only [PyData.depth]; omega) hb, ?_⟩
    simp only [PyData.depth, PyData.shown]
    exact ReprK.tuple h1 h2 h3 na hk
  | _, _, _, .dict .., hs, _ => by simp only [Shw] at hs
theorem reprKs_of (hn : h₀.NoDigits) : ∀ {vs : List Value} {ds : List PyData} {as : List Addr}, ReadsAll h₀ vs ds as → ShwL ds → (∀ t ∈ PyData.shownAll ds, t.length ≤ sizeLine) →
    ∃ bs, ReadAtMost h₀ (PyData.depthAll ds) bs ∧ ReprAllK prog w bs h₀ (PyData.depthAll ds) vs (PyData.shownAll ds)
  | _, _, _, .nil, _, _ => ⟨[], nofun, by simp only [PyData.shownAll]; exact .nil⟩
  | _, _, _, .cons (d := d) (ds := ds) r rs, hs, hz => by
    simp only [ShwL] at hs
    obtain ⟨b1, hb1, k1⟩ := reprK_of hn r hs.1 (hz _ (by simp only [PyData.shownAll, List.mem_cons, true_or]))
    obtain ⟨b2, hb2, k2⟩ := reprKs_of hn rs hs.2 fun t ht => hz t (by simp only [PyData.shownAll, List.mem_cons, ht, or_true])
    refine ⟨b1 ++ b2, ?_, ?_⟩
    · exact (hb1.mono (by simp only [PyData.depthAll]; exact Nat.le_max_left _ _)).append (hb2.mono (by simp only [PyData.depthAll]; exact Nat.le_max_right _ _))
    · simp only [PyData.depthAll, PyData.shownAll]
      exact .cons ((k1.more fun b hb => List.mem_append_left _ hb).level_le (Nat.le_max_left _ _)) (k2.more_le (fun b hb => List.mem_append_right _ hb) (Nat.le_max_right _ _))
end
theorem call_repr_of {a : Addr} {d : PyData} {as : List Addr} {Q : Value → Shared → Prop} (r : Reads s.heap (.ref a) d as) (hn : s.heap.NoDigits) (hs : Shw d) (hz : d.shown.length ≤ sizeLine) (hg : A.guards = some []) (hu : A.units + (d.depth + 1) < cLine)
    (hQ : ∀ h' u tk, (∀ b o, s.heap.get? b = some o → h'.get? b = some o) → Q (.str d.shown u) { s with heap := h', toks := tk }) : wpAny (model prog w) A (call (.builtin "repr") [.ref a]) Q E s := by
  cases r with
  | list h1 h2 h3 h4 =>
    rename_i o vs n xs bs₀
    simp only [PyData.shown] at hz hQ
    simp only [PyData.depth] at hu
    obtain ⟨bs, hb, hk⟩ := reprKs_of (prog := prog) (w := w) hn h4 (by simpa only [Shw] using hs) fun t ht => Nat.le_trans (listText_mem_le ht) hz
    have na : a ∉ bs := not_mem_of_deeper (.list h1 h2 h3 h4) (by simp only [PyData.depth]; omega) hb
    refine call_repr_slot (by omega) ⟨o, h1, h2⟩ F.slot_list_repr.toG ?_
    obtain ⟨l⟩ := vs
    match l, h3, h4, hk with
    | [], h3, h4, hk =>
      cases (show ReadsAll s.heap [] xs _ from h4)
      simp only [PyData.shownAll, listText_nil] at hQ
      exact call_list_repr_empty ⟨o, h1, h2⟩ h1 h3 ⟨_, _, rfl, hQ s.heap _ _ fun _ _ e => e⟩
    | x :: l, h3, h4, hk =>
      exact call_list_reprK h1 h2 h3 na (by simpa using hk.length_eq) (fun i y e => hk.item i y (by simpa using e)) hg (fun b _ => Clear.nil b) (by show A.units + 1 + _ < cLine; omega) (fun _ _ e => e) (fun h' u tk k => ⟨_, _, rfl, hQ h' u tk k⟩) hz
  | tuple h1 h2 h3 h4 =>
    rename_i o vs n xs
    simp only [PyData.shown] at hz hQ
    simp only [PyData.depth] at hu
    obtain ⟨bs, hb, hk⟩ := reprKs_of (prog := prog) (w := w) hn h4 (by simpa only [Shw] using hs) fun t ht => Nat.le_trans (tupleText_mem_le ht) hz
    have na : a ∉ bs := not_mem_of_deeper (.tuple h1 h2 h3 h4) (by simp only [PyData.depth]; omega) hb
    refine call_repr_slot (by omega) ⟨o, h1, h2⟩ F.slot_tuple_repr ?_
    exact call_tuple_reprK h1 h2 h3 na hk hg (fun b _ => Clear.nil b) (by show A.units + 1 + _ < cLine; omega) (fun _ _ e => e) (fun h' u tk k => ⟨_, _, rfl, hQ h' u tk k⟩) hz
  | dict _ _ _ _ _ => simp only [Shw] at hs
end
section
variable {X : Cx} {T : List (Addr × Str)}
/-- repr(x), x a list or a tuple -/
def rRepr : RC := fun ds μ Q => ∃ d p, ds = [d] ∧ pdT μ d = some p ∧ ((∃ l, p = .list l) ∨ ∃ l, p = .tuple l) ∧ Shw p ∧ p.depth ≤ 60 ∧ p.shown.length ≤ 16777216 ∧ Q (.str p.shown) μ
theorem cd_repr {k : Nat} (hr : RmG k X.A) (nd : X.base.NoDigits) : CallD X T (.builtin "repr") rRepr := by
  refine calld (r2 := fun xs H Q => ∃ x p, xs = [x] ∧ Dp X.K H x p ∧ ((∃ l, p = .list l) ∨ ∃ l, p = .tuple l) ∧ Shw p ∧ p.depth ≤ 60 ∧ p.shown.length ≤ 16777216 ∧ Q (.str p.shown) H) ?_ ?_
  · intro pins s σ H xs us Q I rx ⟨x, p, e, hd, hl, hs, hdep, hz, q⟩
    subst e
    cases rx with
    | cons r1 r2 =>
      cases r2
      rename_i u
      obtain ⟨as, hr1⟩ := Dp.reads I p x u hd r1
      have fin : ∀ h' (u : Tok) tk, (∀ b o, s.heap.get? b = some o → h'.get? b = some o) → EP X pins σ Q (.str p.shown u) { s with heap := h', toks := tk } := fun h' u tk k => ⟨.str p.shown, H, I.kept k, ⟨u, rfl⟩, q⟩
      have hn : s.heap.NoDigits := nd.keeps fun b o e => (I.bs b o e).1
      have hu : X.A.units + (p.depth + 1) < cLine := by have := hr.r.un; omega
      have hz' : p.shown.length ≤ sizeLine := by rw [szl]; exact hz
      rcases hl with ⟨l, rfl⟩ | ⟨l, rfl⟩
      · cases hr1
        rename_i h1 h2 h3 h4
        exact call_repr_of (.list h1 h2 h3 h4) hn hs hz' hr.g hu fin
      · cases hr1
        rename_i h1 h2 h3 h4
        exact call_repr_of (.tuple h1 h2 h3 h4) hn hs hz' hr.g hu fin
  · intro xs H Q' Z ds μ Q m r ⟨d, p, e, hp, hl, hs, hdep, hz, q⟩ k
    subst e
    simp only [Reps] at r
    obtain ⟨x, _, rfl, r1, rfl⟩ := r
    exact ⟨x, p, rfl, dp_ofT m r1 hp, hl, hs, hdep, hz, k _ _ _ _ Evo.refl m (by simp only [Rep]) q⟩
end
end G2
end
section
set_option Elab.async false
set_option linter.all false
set_option maxRecDepth 100000
set_option maxHeartbeats 2000000
/-! own exceptions with one field: `super().__init__(E); self.f = f` -/
namespace G2
open PySem.Builtin PySem.Builtin.ObjectAttr
open PySem PySem.Spec PyProof.Rows L2 PySem.HandSPX
open PySem.W (Frag InstAt Looks)

/-- E tells a text, and nothing that stood is changed -/
def EvE (prog : Program) (w : World) (A : Around) (env : Env) (ex : Expr) (f : Str) (v : Value) : Prop :=
  ∀ (s : Shared) (m : Str → Option Value) (E : Value → Shared → Prop) (Q : Value → Shared → Prop), s.heap.Ns env.locals m → m f = some v →
    (∀ (y : Str) (u tk : Tok) (h' : Heap), (∀ b o, s.heap.get? b = some o → h'.get? b = some o) → Q (.str y u) { s with heap := h', toks := tk }) → wpAny (model prog w) A (eval ex env) Q E s

def xPar (f : Str) (p1 p2 : Pos) : Arguments := { posonlyargs := [], args := [{ arg := "self", annotation := none, pos := p1 }, { arg := f, annotation := none, pos := p2 }], vararg := none, kwonlyargs := [], kw_defaults := [], kwarg := none, defaults := [] }
def xBody (f : Str) (ex : Expr) (q1 q2 q3 q4 q5 q6 q7 q8 q9 : Pos) : List Stmt :=
  [.Expr (.Call (.Attribute (.Call (.Name "super" q1) [] [] q2) "__init__" q3) [ex] [] q4) q5, .Assign [.Attribute (.Name "self" q6) f q7] (.Name f q8) q9]
abbrev xSc (nl : List (Str × NameKind)) : Scope := { kind := .function, names := nl, isGenerator := false, isCoroutine := false, more := [] }
structure XTxt (prog : Program) (K : Frag) (B newId initId : String) (bm : List Value) (C fI : Addr) (f : Str) (ex : Expr) (qual : Str) (nl : List (Str × NameKind)) : Prop where
  base : ExcBaseFacts B newId initId bm
  kx : PySem.W.KxsFacts B initId
  pass : ∀ self : Value, refuseLoop self "__setattr__" bm = pure ()
  ob : bm.contains (.type "object") = true
  cls : ∃ nm q N bs sn sub ab col dd k0 k1 k2 k3 k5, K.lookup C = some (excClassObj nm q C N bs bm true sn sub ab col dd k0 k1 k2 k3 k5 newId)
  sa : PySem.W.findIn K (.ref C) "__setattr__" = some (some (.builtin "object.__setattr__"))
  noN : PySem.W.findIn K (.ref C) f = some none
  iC : PySem.W.findIn K (.ref C) "__init__" = some (some (.ref fI))
  tC : PySem.W.typeIn K (.ref fI) = some (.type "function")
  kC : PySem.W.keepIn K (.ref C) = true
  exC : PySem.W.subIn K (.ref C) (.type "BaseException") = some true
  subB : PySem.W.subIn K (.ref C) (.type B) = some true
  subC : PySem.W.mroIn K C (.ref C) = some true
  tyC : PySem.W.typeIn K (.ref C) = some (.type "type")
  sup : PySem.W.ks_superIn K C C "__init__" = some (some (.builtin initId))
  any : PySem.W.nsIn K cStatics "thirdparty.any" = some none
  noS : PySem.W.nsIn K mainGlobals "super" = some none
  top : (prog.main.scope.names.lookup ("super" : Str)).isSome = false
  boot : bootBuiltins "super" = some (.type "super")
  hks : nl.lookup ("super" : Str) = some .globalImplicit
  hkc : nl.lookup ("__class__" : Str) = some .free
  hkx : nl.lookup ("self" : Str) = some .local
  hkf : nl.lookup f = some .local
  hno : ∀ x ∈ nl, x.2 ≠ .cell
  fself : (f == ("self" : Str)) = false
  fdeb : (f == ("__debug__" : Str)) = false
  fn : ∃ (oc doc pm cda' ct ccl cl : Value) (od cdd cld : Option Addr) (an : Option Addr) (osl ccs csl : Array (Option Value)) (cda cc : Addr) (vs : Array Value) (file : Str) (tf : Tok) (p1 p2 q1 q2 q3 q4 q5 q6 q7 q8 q9 : Pos),
    K.lookup fI = some ⟨oc, od, .func (PySem.W.ksFn "__init__" qual (xPar f p1 p2) (xBody f ex q1 q2 q3 q4 q5 q6 q7 q8 q9) (xSc nl) .none .none doc pm an (.ref cda) ct cc), osl⟩ ∧ PySem.W.codeIn K (.ref cda) qual = true ∧
    K.lookup cda = some ⟨ccl, cdd, .fields vs, ccs⟩ ∧ vs[2]? = some (.str file tf) ∧ ((prog.main.file : Str) == file) = true ∧ K.lookup cc = some ⟨cl, cld, .cell (some (.ref C)), csl⟩ ∧
    (∀ a b : Value, bindArgs (PySem.W.ksFn "__init__" qual (xPar f p1 p2) (xBody f ex q1 q2 q3 q4 q5 q6 q7 q8 q9) (xSc nl) .none .none doc pm an (.ref cda) ct cc) ⟨[a, b], []⟩ = pure [(("self" : Str), a), (f, b)]) ∧
    (∀ env : Env, (∃ pl : Sem Bool, eval (.Call (.Attribute (.Call (.Name "super" q1) [] [] q2) "__init__" q3) [ex] [] q4) env = (do
      let ov ← attributeBase (.Call (.Name "super" q1) [] [] q2) "__init__" env (eval (.Call (.Name "super" q1) [] [] q2) env)
      standAt q3.atName
      let (g, first) ← holding [ov] (getMethod ov "__init__" pl)
      callWith q4 g first (backTo q4 (starEach [ex] env)) [])) ∧ starEach [ex] env = [(false, eval ex env)])

section
variable {prog : Program} {w : World} {A : Around} {E : Value → Shared → Prop} {R : Result → Shared → Prop} {K : Frag} {mg : Str → Option Value} {C fI : Addr} {B newId initId : String} {bm : List Value} {f : Str} {ex : Expr} {qual : Str} {nl : List (Str × NameKind)}
/-- self.f = v on an exception of its own class over any built-in base -/
theorem osa_any {name : Str} {tk : Tok} {v : Value} {x : Addr} {fv : Array Value} {cd : ClassData} {r : List Value} {hp : Heap} {g : Array GenState} {d : Drawn} {t : Nat} {os : OsState}
    (X : K.In hp) (hx : hp.get? x = some { cls := .ref C, data := .fields fv }) (hcd : PySem.W.clsIn K C = some cd) (hmro : cd.mro = .ref C :: r) (hp' : refuseLoop (.ref x) "__setattr__" r = pure ()) (hob : r.contains (.type "object") = true) (hh : cd.hasDict = true) (ha : PySem.W.findIn K (.ref C) name = some none)
    (hq : ∀ h' tk' dx, (∀ b o, b ≠ x → hp.get? b = some o → h'.get? b = some o) → hp.objs.size ≤ dx → dx ≠ x → h'.get? x = some { cls := .ref C, dict := some dx, data := .fields fv } →
      h'.Ns1 dx (fun y => if y = name then some v else none) → R (.ok (.ret .none)) ⟨h', g, d, tk', os⟩) :
    codeAny (model prog w) A (.call (.builtin "object.__setattr__") ⟨[.ref x, .str name tk, v], []⟩) R ⟨hp, g, d, t, os⟩ := by
  have I : InstAt hp x { cls := .ref C, data := .fields fv } C none := ⟨hx, rfl, rfl, trivial⟩
  have SF := F.store_object
  have hne : cd.mro.isEmpty = false := by rw [hmro]; rfl
  have hob' : cd.mro.contains (.type "object") = true := by rw [hmro, List.contains_cons, hob, Bool.or_true]
  have hxs : x ≠ hp.objs.size := Nat.ne_of_lt (Heap.lt_size hx)
  have sub : Looks (model prog w) hp (isInstance (.ref x) (.type "object")) true := I.type.andThen (PySem.W.looks_mroIn X (by unfold PySem.W.mroIn; rw [hcd, Option.bind_some, if_neg (by rw [hne]; decide), hob']))
  refine codeAny_call_builtin SF.slot.plain SF.entry (@PySem.W.check_slot (model prog w) _ _ ⟨hp, g, d, t, os⟩ "object.__setattr__" "object" "__setattr__" (.ref x) [.str name tk, v] [] _ SF.kind SF.split sub (SF.args (.ref x) (.str name tk) v) ?_)
  have hmr : Looks (model prog w) hp (mroOf (.ref C)) cd.mro := (PySem.W.looks_clsIn X hcd).andThen .now
  have L3 : Looks (model prog w) hp (storeTaker? none) none := .now
  have hcls : Looks (model prog w) hp (classData C) cd := PySem.W.looks_clsIn X hcd
  have hpass : refuseLoop (.ref x) "__setattr__" cd.mro = pure () := by rw [hmro, refuseLoop_ref]; exact hp'
  rw [PySem.W.osa_eq, refuse_eq]
  refine wpAny_bind (wpAny_bind (I.type.at (wpAny_bind (hmr.at ?_))))
  rw [hpass]
  refine wpAny_pure (wpAny_bind (I.type.at (wpAny_bind ((PySem.W.looks_findIn X ha).at (wpAny_bind (L3.at ?_))))))
  show wpAny _ _ (Builtin.ObjectAttr.storeInOwnDict (.ref x) (.ref C) (.str name tk) name v false) _ _ _
  obtain ⟨nm, bs, mro, ns, qn, hd, sn, sb, ab, col, del⟩ := cd
  dsimp only at hh
  subst hh
  unfold Builtin.ObjectAttr.storeInOwnDict Builtin.ObjectAttr.ownDictForStores
  repeat (first | with_reducible refine store_in_new ?_ ?_ | with_reducible refine wpAny_loadPart_at hx ?_ | with_reducible refine hcls.at ?_ | wp_step)
  · exact ⟨_, #[], _, (Heap.get?_update_ne _ _ _ _ hxs.symm).trans (Heap.get?_push_at rfl rfl), rfl, fun e he => absurd he (by simp), fun _ => rfl⟩
  · intro h' tk' hn' hs
    have hx₁ : (hp.push { cls := .type "dict", data := .dict #[] }).get? x = some { cls := .ref C, data := .fields fv } := Heap.get?_push_of_some _ hx
    refine hq h' tk' hp.objs.size (fun b o hb ho => ?_) (Nat.le_refl _) hxs.symm ?_ hn'
    · exact (hs.2 b (Nat.ne_of_lt (Heap.lt_size ho))).trans ((Heap.get?_update_ne _ _ _ _ hb).trans (Heap.get?_push_of_some _ ho))
    · exact (hs.2 x hxs).trans (Heap.get?_update_self _ hx₁ rfl)
/-- the __init__ walked -/
theorem own_init (T : XTxt prog K B newId initId bm C fI f ex qual nl) {x t0 : Addr} {v : Value} {s : Shared} (X : K.In s.heap) (hlim : s.heap.NoLimit) (hg : s.heap.Ns mainGlobals mg) (hb : ∃ mb, s.heap.Ns builtinsNs mb ∧ ∀ y : Str, y ≠ "__name__" → mb y = bootBuiltins y)
    (hx : s.heap.get? x = some (excO C t0)) (hnx : K.lookup x = none) (hroom : A.depth < recursionLimit) (hE : ∀ (A : Around) (env : Env), env.scope = xSc nl → EvE prog w A env ex f v)
    (hq : ∀ h' tk dx t1, (∀ b o, b ≠ x → s.heap.get? b = some o → h'.get? b = some o) → s.heap.objs.size ≤ dx → dx ≠ x → h'.get? x = some { cls := .ref C, dict := some dx, data := .fields #[.ref t1, .none, .none, .none, .bool false, .none] } →
      h'.Ns1 dx (fun y => if y = f then some v else none) → R (.ok (.ret .none)) { s with heap := h', toks := tk }) :
    codeAny (model prog w) A (.call (.ref fI) ⟨[.ref x, v], []⟩) R s := by
  obtain ⟨oc, doc, pm, cda', ct, ccl, cl, od, cdd, cld, an, osl, ccs, csl, cda, cc, vs, file, tf, p1, p2, q1, q2, q3, q4, q5, q6, q7, q8, q9, ho, hcd, hcode, hvs, hfile, hcell, hbnd, hevs⟩ := T.fn
  obtain ⟨nm, q, N, bs, sn, sub, ab, col, dd, k0, k1, k2, k3, k5, hC⟩ := T.cls
  have hcl : PySem.W.clsIn K C = some { name := nm, bases := bs, mro := .ref C :: bm, ns := N, qualname := q, hasDict := true, slotNames := sn, subclasses := sub, abstract := ab, collection := col, hasDel := false } := by unfold PySem.W.clsIn; rw [hC] <;> rfl
  have hfs : f ≠ ("self" : Str) := by have := T.fself; simpa using this
  refine ks_codeAny_call_defAt (binds := [(("self" : Str), .ref x), (f, v)]) hroom (X _ _ ho) rfl hlim (PySem.W.codeRec_of X hcd) rfl (BindsTo.of_eq (hbnd _ _)) T.hno ?_ (fun h₁ hns k => ?_) rfl rfl rfl
  · intro y hy
    rcases List.mem_cons.mp hy with rfl | hy
    · exact T.hkx
    · rcases List.mem_cons.mp hy with rfl | hy
      · exact T.hkf
      · cases hy
  generalize hM : (fun y => List.lookup y [(("self" : Str), Value.ref x), (f, v)].reverse) = M at hns
  have m1 : M "self" = some (.ref x) := by
    rw [← hM]
    have e : (("self" : Str) == f) = false := by simpa using (fun z : ("self" : Str) = f => hfs z.symm)
    simp [List.lookup, e]
  have m2 : M f = some v := by rw [← hM]; simp [List.lookup]
  have X₁ : K.In h₁ := X.keeps k
  have hx₁ := k _ _ hx
  obtain ⟨mb, hbn, hbb⟩ := hb
  have hsup : mg "super" = none := PySem.W.mg_none_of X hg T.noS
  -- super().__init__(E)
  show _root_.PySem.wpAt _ _ (.func (xBody f ex q1 q2 q3 q4 q5 q6 q7 q8 q9) (PySem.W.ksEnv qual (xSc nl) s.heap.objs.size fI (.ref cda) cc)) (execs [.Expr (.Call (.Attribute (.Call (.Name "super" q1) [] [] q2) "__init__" q3) [ex] [] q4) q5, .Assign [.Attribute (.Name "self" q6) f q7] (.Name f q8) q9] (PySem.W.ksEnv qual (xSc nl) s.heap.objs.size fI (.ref cda) cc)) _ _ _
  obtain ⟨⟨pl, hev⟩, hst⟩ := hevs (PySem.W.ksEnv qual (xSc nl) s.heap.objs.size fI (.ref cda) cc)
  refine ks_wpAt_execs_cons (ks_wpAt_Expr_any (ks_wpAt_MethodCall (pl := pl) ?_ hev))
  refine ks_wpAt_super_base (env := PySem.W.ksEnv qual (xSc nl) s.heap.objs.size fI (.ref cda) cc) T.hks T.hkc rfl rfl (X₁ _ _ ho) rfl rfl rfl (X₁ _ _ hcode) rfl hvs hfile T.top ?_
  refine PySem.W.ks_loadName_global rfl T.hks (Calls.loadGlobal_builtin (env := PySem.W.ksEnv qual (xSc nl) s.heap.objs.size fI (.ref cda) cc) (hg.keeps k) hsup (hbn.keeps k) ((hbb _ (by decide +kernel)).trans T.boot) ⟨rfl, ?_⟩)
  refine wpAny_loadName_free rfl T.hkc rfl ⟨_, X₁ _ _ hcell, rfl⟩ ?_
  refine wpAny_loadName_local rfl T.hkx hns m1 ?_
  refine ks_wpAny_isType_cls (X₁ _ _ hC) rfl ⟨rfl, ?_⟩
  refine ks_wpAny_call_super (X₁ _ _ hC) rfl hx₁ rfl (fun c e => by cases e) (PySem.W.looks_mroIn X₁ T.subC) (fun h₂ hso k₂ => ?_)
  have X₂ : K.In h₂ := X₁.keeps k₂
  have hx₂ := k₂ _ _ hx₁
  have I₂ : InstAt h₂ x (excO C t0) C none := ⟨hx₂, rfl, rfl, trivial⟩
  have hsupL : PySem.W.alongIn K "__init__" (((Value.ref C :: bm).dropWhile (· != .ref C)).drop 1) = some (some (.builtin initId)) := by
    have z := T.sup
    unfold PySem.W.ks_superIn at z
    rw [hcl] at z
    exact z
  have hneC : x ≠ C := PySem.W.ks_ne X₂ I₂ hcl
  refine PySem.W.kxs_getMethod T.kx hso (PySem.W.looks_opaque X₂ T.any) (l₀ := .ref C :: bm) (fun A Q E s k q => wpAny_bind ((PySem.W.looks_clsIn X₂ hcl) A _ E s k (wpAny_pure q))) rfl X₂ hsupL (I₂.type.andThen (PySem.W.looks_subIn X₂ T.subB)) hneC (by decide) ?_
  generalize hsz : h₂.objs.size = u
  have hu : (h₂.push (PySem.W.kxs_mw initId x)).get? u = some (PySem.W.kxs_mw initId x) := by rw [← hsz]; exact Heap.get?_push_at rfl rfl
  have k₃ : ∀ b o, h₂.get? b = some o → (h₂.push (PySem.W.kxs_mw initId x)).get? b = some o := fun b o e => Heap.get?_push_of_some _ e
  generalize hG : h₂.push (PySem.W.kxs_mw initId x) = h₃ at hu k₃
  have k13 : ∀ b o, h₁.get? b = some o → h₃.get? b = some o := fun b o e => k₃ _ _ (k₂ _ _ e)
  rw [hst]
  refine PySem.W.kxs_callWith (i := initId) (x := x) rfl ?_
  refine Calls.evalArgs_plain ?_
  refine Calls.spliced_cons (hE _ _ rfl _ M _ _ (hns.keeps k13) m2 fun y tu tk h₄ k₄ => ?_)
  refine Calls.spliced_nil ⟨k₄ _ _ hu, ?_⟩
  have X₄ : K.In h₄ := X₁.keeps fun b o e => k₄ _ _ (k13 _ _ e)
  have hx₄ := k₄ _ _ (k13 _ _ hx₁)
  have hu₄ := k₄ _ _ hu
  refine wpAny_call (codeAny_of_tree ?_)
  show wpAny _ _ (callAny (.ref u) ⟨[.str y tu], []⟩) _ _ _
  simp only [callAny]
  refine wpAny_bind (wpAny_load hu₄ ?_)
  simp only [PySem.W.kxs_mw, show (Value.type "method-wrapper" == Value.type "method" || Value.type "method-wrapper" == Value.type "builtin_function_or_method" || Value.type "method-wrapper" == Value.type "method-wrapper") = true by decide, if_true]
  refine PySem.W.KFB.if_so (by decide) ?_
  refine wpAny_bind (PySem.W.check_bound_init T.base.toExcCallFacts (X₄ _ _ hC) hx₄ rfl ?_)
  refine wpAny_bind (wpAny_pure (wpAny_pure ?_))
  refine ⟨plainId_quiet T.base.init.plain _, codeAny_builtin T.base.initEntry ?_⟩
  refine PySem.W.exc_init_tree (cls := .ref C) (t0 := t0) (dv := none) (c2 := .none) (c3 := .none) (b4 := .bool false) hx₄ (by rw [sizeLine_eq]; show 1 ≤ _; omega) fun h₅ k₅ hx₅ ht₅ => ?_
  -- self.f = v
  have kk : ∀ b o, b ≠ x → s.heap.get? b = some o → h₅.get? b = some o := fun b o hb e => k₅ b o hb (k₄ _ _ (k13 _ _ (k _ _ e)))
  obtain ⟨oL, es, ep, hL, rL⟩ := hns
  have xL : s.heap.objs.size ≠ x := Nat.ne_of_gt (Heap.lt_size hx)
  have hn₅ : h₅.Ns s.heap.objs.size M := ⟨oL, es, ep, k₅ _ _ xL (k₄ _ _ (k13 _ _ hL)), rL⟩
  have X₅ : K.In h₅ := fun a o e => by
    by_cases hb : a = x
    · rw [hb, hnx] at e
      cases e
    · exact kk a o hb (X _ _ e)
  show _root_.PySem.wpAt _ _ _ (execs _ _) _ _ _
  refine wpAt_of_wpAny ?_
  refine wpAny_execs_cons (plainObj_wpAny_Assign_Attribute ?_)
  refine wpAny_Name (wpAny_loadName_local rfl T.hkf hn₅ m2 ?_) T.fdeb
  refine wpAny_Name (wpAny_loadName_local rfl T.hkx hn₅ m1 ?_) (by decide)
  refine PySem.W.set_plain X₅ (ox := excO C h₄.objs.size) (od := none) ⟨hx₅, rfl, rfl, trivial⟩ T.sa ?_
  refine osa_any X₅ hx₅ hcl rfl (T.pass _) T.ob rfl T.noN (fun h₆ tk₆ dx k₆ dn dne hx₆ hn₆ => ?_)
  show wpAny _ _ (execs _ _) _ _ _
  refine wpAny_execs_nil (hq h₆ tk₆ dx _ (fun b o hb e => k₆ b o hb (kk b o hb e)) ?_ dne hx₆ hn₆)
  exact Nat.le_trans (Nat.le_of_lt (Heap.lt_size (k₅ _ _ xL (k₄ _ _ (k13 _ _ hL))))) dn
end
end G2
end
section
set_option Elab.async false
set_option linter.all false
set_option maxRecDepth 100000
set_option maxHeartbeats 2000000
/-! raise of such an exception -/
namespace G2
open PySem PySem.Spec PyProof.Rows L2 PySem.HandSPX
open PySem.W (Frag InstAt Looks)
section
variable {X : Cx} {C fI : Addr} {B newId initId : String} {bm : List Value} {f : Str} {ex : Expr} {qual : Str} {nl : List (Str × NameKind)}
def tMkX (C : Addr) (f : Str) (okv : V → Prop) (ta : TA) : L2.St → Hp → XK → Prop := fun σ H Q => ta σ H fun vs H1 => ∃ v, vs = [v] ∧ okv v ∧ ∀ d, H1 d = none → Q (.ref C) (some d) (upd H1 d (.xd [(f, v)]))
theorem relO_one {f : Str} {v : V} {v' : Value} (r : RelV v v') (g : Str) : RelO (List.lookup g [(f, v)]) (if g = f then some v' else none) := by
  rw [lookup_put]
  by_cases h : g = f
  · rw [if_pos h, if_pos h]
    exact r
  · rw [if_neg h, if_neg h]
    trivial
theorem pmk_x {x : Str} {a : Expr} {ta : TA} {p pos : Pos} {k : Nat} {okv : V → Prop} (T : XTxt X.prog X.K B newId initId bm C fI f ex qual nl) (gC : X.mg x = some (.ref C)) (hE : ∀ v, okv v → ∀ u, RelV v u → ∀ (A : Around) (env : Env), env.scope = xSc nl → EvE X.prog X.w A env ex f u)
    (hr : Room k X.A) (ha : PA X [a] ta) (hg : Gl X x) (hdb : (x == ("__debug__" : Str)) = false := by decide)
    (he : starEach (a :: []) X.env = (false, eval a X.env) :: starEach [] X.env := by rfl) (hpl : (backTo pos (starEach [] X.env)).any (·.1) = false := by rfl) :
    PMk X (.Call (.Name x p) [a] [] pos) (tMkX C f okv ta) := by
  intro pins s σ H Q I h
  refine wpAny_Call_Name_kw (ld_glob I hg gC ?_ hdb)
  refine PySem.W.callWith_K (h₀ := X.base) I.ok.mod.kin T.kC (thn (ha.run pos pins s σ H _ I h) fun us s1 ⟨vs, H1, I1, r1, v, ev, ov, q1⟩ => ?_) he hpl
  subst ev
  refine ⟨I1.kIn, ?_⟩
  cases r1 with
  | @cons _ v' _ us' rv rn =>
    cases rn
    show wpAny _ _ (call (.ref C) [v']) _ _ _
    obtain ⟨nm, q, N, bs, sn, sub, ab, col, dd, k0, k1, k2, k3, k5, hC⟩ := T.cls
    have hlim := I1.nolimit
    have hgl := I1.mod.glob.keeps I1.bk
    have hbl : ∃ mb, s1.heap.Ns builtinsNs mb ∧ ∀ y : Str, y ≠ "__name__" → mb y = bootBuiltins y := let ⟨mb, z1, z2⟩ := I1.mod.blt; ⟨mb, z1.keeps I1.bk, z2⟩
    have hKIn := I1.kIn
    obtain ⟨hp, g, dr, tk, os⟩ := s1
    have kp : ∀ b o, hp.get? b = some o → ((hp.push (PySem.W.kdv_tup [v'])).push (excO C hp.objs.size)).get? b = some o := fun b o e => Heap.get?_push_of_some _ (Heap.get?_push_of_some _ e)
    have hget : ((hp.push (PySem.W.kdv_tup [v'])).push (excO C hp.objs.size)).get? (hp.objs.size + 1) = some (excO C hp.objs.size) := by heap_get
    have hnx : X.K.lookup (hp.objs.size + 1) = none := by
      cases e : X.K.lookup (hp.objs.size + 1) with
      | none => rfl
      | some o =>
        have z : hp.get? (hp.objs.size + 1) = some o := hKIn _ _ e
        exact absurd (Nat.lt_of_succ_lt (Heap.lt_size z)) (Nat.lt_irrefl _)
    refine wpAny_call (call_own T.base (fun _ => rfl) (hKIn _ _ hC) (PySem.W.looks_findIn hKIn T.iC) (fun self => PySem.W.bind_fn hKIn self T.tC) (by rw [sizeLine_eq]; show 1 ≤ _; omega) ?_)
    refine own_init (s := ⟨(hp.push (PySem.W.kdv_tup [v'])).push (excO C hp.objs.size), g, dr, tk, os⟩) T (hKIn.keeps kp) (hlim.keeps kp) (mg := X.mg) (hgl.keeps kp) (let ⟨mb, z1, z2⟩ := hbl; ⟨mb, z1.keeps kp, z2⟩) hget hnx ?_ (fun A env hs => hE v ov v' rv A env hs) fun h' tk' dx t1 k' dn dne hx hns => ?_
    · show X.A.depth + 1 < recursionLimit
      have := hr.dp; omega
    · have old : ∀ b o, hp.get? b = some o → h'.get? b = some o := fun b o e => k' b o (Nat.ne_of_lt (Nat.lt_succ_of_lt (Heap.lt_size e))) (kp b o e)
      have hsz : hp.objs.size ≤ dx := by
        have dn' : ((hp.push (PySem.W.kdv_tup [v'])).push (excO C hp.objs.size)).objs.size ≤ dx := dn
        rw [Heap.size_push, Heap.size_push] at dn'
        omega
      refine ⟨rfl, ?_⟩
      show MkP X pins σ Q (.ref (hp.objs.size + 1)) ⟨h', g, dr, tk', os⟩
      obtain ⟨G', g1, g2⟩ := restrict h' fun b => decide (b ≠ hp.objs.size + 1)
      have gk : ∀ b, b ≠ hp.objs.size + 1 → G'.get? b = h'.get? b := fun b hb => g1 b (decide_eq_true hb)
      have ge : G'.get? (hp.objs.size + 1) = none := g2 _ (by simp)
      have oldG : ∀ b o, hp.get? b = some o → G'.get? b = some o := fun b o q => (gk b (Nat.ne_of_lt (Nat.lt_succ_of_lt (Heap.lt_size q)))).trans (old b o q)
      have ob : ObjOk X.prog X.w (upd H1 dx (.xd [(f, v)])) G' dx (.xd [(f, v)]) := ⟨_, hns.at (fun o q => (gk dx dne).trans q), fun g => relO_one rv g⟩
      have J : Inv X pins σ (upd H1 dx (.xd [(f, v)])) ⟨G', g, dr, tk', os⟩ := I1.laid (t' := tk') oldG hsz ob
      refine ⟨hp.objs.size + 1, _, _, ⟨G', g, dr, tk', os⟩, _, .ref C, some dx, rfl, J, fun b o q => ?_, ge, hx, ⟨rfl, rfl⟩, rfl, rfl, ?_, rfl, I1.bare, raises_own T.exC T.tyC, q1 dx (I1.hok.fresh hsz)⟩
      · by_cases hb : b = hp.objs.size + 1
        · have q' : G'.get? b = some o := q
          rw [hb, ge] at q'; cases q'
        · exact (gk b hb).symm.trans q
      · rw [upd_ne (Ne.symm dne)]
        exact I1.hok.fresh (Nat.le_succ _)
end
section
variable {X : Cx} {T : List (Addr × Str)} {W : WX} {C fI : Addr} {B newId initId : String} {bm : List Value} {f : Str} {ex : Expr} {qual : Str} {nl : List (Str × NameKind)}
/-- raise x(e) -/
def wRaiseX (x f : Str) (ok : D → Prop) (wa : WE) : WS := fun D' ρ μ => wa ρ μ (fun d μ1 => ok d ∧ D'.ex ⟨x, [f], [d]⟩ μ1) D'.ex
theorem ds_raiseX {x : Str} {a : Expr} {wa : WE} {p pos pos2 : Pos} {k : Nat} {ok : D → Prop} {okv : V → Prop} (hc : X.calm = true) (tk : Takes X W) (TX : XTxt X.prog X.K B newId initId bm C fI f ex qual nl) (gC : X.mg x = some (.ref C)) (eC : C = He.ga X.K x)
    (hok : ∀ Z μ H d v, ok d → Rep X.K Z μ H d v → okv v) (hE : ∀ v, okv v → ∀ u, RelV v u → ∀ (A : Around) (env : Env), env.scope = xSc nl → EvE X.prog X.w A env ex f u)
    (hr : RmG k X.A) (ha : DE X T W a wa) (hg : Gl X x) (hdb : (x == ("__debug__" : Str)) = false := by decide)
    (he : starEach (a :: []) X.env = (false, eval a X.env) :: starEach [] X.env := by rfl) (hpl : (backTo pos (starEach [] X.env)).any (·.1) = false := by rfl) :
    DS X T W (.Raise (some (.Call (.Name x p) [a] [] pos)) none pos2) (wRaiseX x f ok wa) := by
  have hda : DA X T W [a] (wCons wa wNil) := da_cons ha da_nil he
  refine ps_imp (ps_raise hc tk (pmk_x TX gC hE hr.r hda hg hdb he hpl)) ?_
  rintro De σ H ⟨Z, ρ, μ, D', b, l, q⟩
  refine ⟨Z, ρ, μ, fun ds μ1 => ∃ d, ds = [d] ∧ ok d ∧ D'.ex ⟨x, [f], [d]⟩ μ1, D'.ex, b, l.ex σ, ?_, ?_⟩
  · refine (show wa ρ μ (fun d μ1 => wNil ρ μ1 (fun ds μ2 => ∃ d', d :: ds = [d'] ∧ ok d' ∧ D'.ex ⟨x, [f], [d']⟩ μ2) D'.ex) D'.ex from ?_)
    have e : (fun d μ1 => wNil ρ μ1 (fun ds μ2 => ∃ d', d :: ds = [d'] ∧ ok d' ∧ D'.ex ⟨x, [f], [d']⟩ μ2) D'.ex) = fun d μ1 => ok d ∧ D'.ex ⟨x, [f], [d]⟩ μ1 := by
      funext d μ1
      apply propext
      constructor
      · rintro ⟨d', e, h⟩
        cases e
        exact h
      · intro h
        exact ⟨d, rfl, h⟩
    rw [e]
    exact q
  · intro vs H1 ds μ1 e1 m1 r1 ⟨d, ed, okd, qx⟩
    subst ed
    simp only [Reps] at r1
    obtain ⟨v, _, rfl, rv, rfl⟩ := r1
    refine ⟨v, rfl, hok _ _ _ _ _ okd rv, fun dx hdx => ?_⟩
    refine l.ex σ (.ref C) (some dx) _ ⟨x, [f], [d]⟩ μ1 (e1.trans (evo_new hdx)) (mem_new m1 hdx) ⟨by rw [eC], .inr ⟨dx, [v], rfl, m1.fresh2 hdx, upd_same, rfl, ?_⟩⟩ qx
    exact Reps.cons (rv.step (evo_new hdx) d v) Reps.nil
end
end G2
end
section
set_option Elab.async false
set_option linter.all false
set_option maxRecDepth 100000
set_option maxHeartbeats 2000000
/-! a lambda handed to a def, without parameters or with one that has a whole number as its default -/
namespace G2
open PySem PySem.Spec PyProof.Rows L2 LamX
open PySem.W (Frag)

/-- own names: at most the parameter, which is no name of the maker -/
structure LamP (N : List Str) (sc scope : Scope) (binds : List Str) : Prop where
  kind : scope.kind = .function
  co : scope.isCoroutine = false
  gen : scope.isGenerator = false
  nocell : ∀ y ∈ scope.names, y.2 ≠ .cell
  loc : ∀ y ∈ scope.names, y.2 = .local → y.1 ∉ N
  free : ∀ y ∈ scope.names, y.2 = .free → sc.names.lookup y.1 = some .cell ∨ sc.names.lookup y.1 = some .free
  par : ∀ y ∈ binds, scope.names.lookup y = some .local
abbrev lamO (q : Str) (params : Arguments) (body : Expr) (scope : Scope) (clos : List (Str × Addr)) (dV doc pm : Value) (c' : Addr) (ctv : Value) : Obj := PySem.W.kdv_obj "<lambda>" q params (.expr body) scope clos dV doc pm c' ctv
theorem LamP.has {X : Cx} {scope : Scope} {bs : List Str} (L : LamP X.N X.env.scope scope bs) (ok : X.Ok) : ∀ y ∈ scope.names, y.2 = .free → ∃ c, X.env.cells.lookup y.1 = some c := fun y hy e => by
  rcases L.free y hy e with k | k
  · exact ok.has _ (.inl k)
  · exact ok.has _ (.inr k)
def There (H H' : Hp) : Prop := ∀ b, H b ≠ none → H' b ≠ none
section
variable {X : Cx} {pins : List (Addr × Obj)} {σ : L2.St} {H : Hp} {s : Shared}
theorem lam_tail {T : List (Addr × Str)} {c P : Addr} {params : Arguments} {body : Expr} {scope : Scope} {pos : Pos} {fl : Nat} {dV : Value} {E : Value → Shared → Prop} {Q : Value → Shared → Prop} (I : Inv X pins σ H s) (TB : TabB X.base X.mg c P) (hcode : X.env.code = .ref c)
    (hm : (P, X.env.qual ++ "<lambda>") ∈ T) (hu : ∀ p ∈ T, p.1 = P → p.2 = X.env.qual ++ "<lambda>") (hT : Tabs T H) (hfree : ∀ y ∈ scope.names, y.2 = .free → ∃ c, X.env.cells.lookup y.1 = some c)
    (h : ∀ (f c' : Addr) (doc pm ctv : Value) (H1 : Hp) (s' : Shared), Inv X pins σ H1 s' → ExtN H H1 → There H H1 → Tabs T H1 → (∀ b o, H b = none → s.heap.get? b = some o → s'.heap.get? b = some o ∧ H1 b = none) →
      s'.heap.get? f = some (lamO (X.env.qual ++ "<lambda>") params body scope (cloFrom X.env.cells scope.names []) dV doc pm c' ctv) → H1 f = none → f ∉ frs X.stack → H1 c' = some (CodeO c' (X.env.qual ++ "<lambda>")) → Q (.ref f) s') :
    wpAny (model X.prog X.w) X.A (makeTail "<lambda>" (X.env.qual ++ "<lambda>") params (.expr body) scope X.env dV .none none pos fl) Q E s := by
  obtain ⟨ps, hP, ht, ha⟩ := hT _ hm
  have bP : s.heap.BuiltinsAt X.mg P := TB.bm.keeps I.bk
  have hP' : s.heap.get? P = some { cls := .none, data := .fields ps } := I.hok P _ hP
  have nofr : ∀ f, s.heap.objs.size ≤ f → f ∉ frs X.stack := fun f hf z => by
    rcases List.mem_cons.mp (I.stkSub _ z) with e | e
    · have h1 := I.lt
      rw [← e] at h1
      exact Nat.lt_irrefl _ (Nat.lt_of_lt_of_le h1 hf)
    · exact I.nofs hf e
  cases hc : codeAmong pos ps.toList with
  | none =>
    refine PySem.W.kdv_makeTail (mg := X.mg) (c := c) (P := P) (ps := ps) (closure_ok hfree) I.ok.glob (I.mod.glob.keeps I.bk) hcode (TB.code.keeps I.bk) hP' ht hc TB.gP bP fun c' ctv doc h' tk hx hge hlt hrec htb => ?_
    obtain ⟨c2, oc, vs, t, e2, hoc, hd, hv⟩ := hrec
    cases e2
    have hsz : s.heap.objs.size ≤ h'.objs.size := Nat.le_trans hge (Nat.le_of_lt hlt)
    have nC : H c' = none := I.hok.fresh hge
    have I1 := inv_table (t' := tk) (more := #[rawInt pos.line, rawInt pos.col, .ref c']) (h' := h'.push (lamO (X.env.qual ++ "<lambda>") params body scope (cloFrom X.env.cells scope.names []) dV doc ((X.mg "__name__").getD .none) c' ctv)) I hP
      (fun b o hb e => Heap.get?_push_of_some _ (hx b o hb e)) (Heap.get?_push_of_some _ htb) hge ⟨oc, vs, t, Heap.get?_push_of_some _ hoc, hd, hv⟩
    have at' : ∀ b, b ≠ P → b ≠ c' → upd (upd H P (.tbl (ps ++ #[rawInt pos.line, rawInt pos.col, .ref c']))) c' (CodeO c' (X.env.qual ++ "<lambda>")) b = H b := fun b h1 h2 => by rw [upd_ne h2, upd_ne h1]
    have hE : ExtN H (upd (upd H P (.tbl (ps ++ #[rawInt pos.line, rawInt pos.col, .ref c']))) c' (CodeO c' (X.env.qual ++ "<lambda>"))) := fun b o e n => by
      rw [at' b (fun z => n ps (Option.some.inj (e.symm.trans (by rw [z]; exact hP)))) (ne_of_none e nC)]
      exact e
    have hTh : There H (upd (upd H P (.tbl (ps ++ #[rawInt pos.line, rawInt pos.col, .ref c']))) c' (CodeO c' (X.env.qual ++ "<lambda>"))) := fun b e => by
      by_cases h1 : b = c'
      · rw [h1, upd_same]; simp
      · by_cases h2 : b = P
        · rw [h2, upd_ne (fun z => h1 (h2.trans z)), upd_same]; simp
        · rw [at' b h2 h1]; exact e
    have eL : (ps ++ #[rawInt pos.line, rawInt pos.col, .ref c']).toList = ps.toList ++ [rawInt pos.line, rawInt pos.col, .ref c'] := by simp
    refine h h'.objs.size c' doc ((X.mg "__name__").getD .none) ctv _ _ I1 hE hTh (fun p hp => ?_) (fun b o n e => ?_) (Heap.get?_push_size _ rfl) ?_ (nofr _ hsz) upd_same
    · by_cases hb : p.1 = P
      · rw [hu p hp hb, hb]
        refine ⟨_, by rw [upd_ne (ne_of_none hP nC), upd_same], by rw [eL]; exact PySem.TriplesOk_snoc _ _ _ _ ht, fun p' cv hcv => ?_⟩
        rw [eL] at hcv
        rcases among_app _ ht hcv with z | z
        · obtain ⟨c0, e1, e2⟩ := ha p' cv z
          exact ⟨c0, e1, hE _ _ e2 codeO_ne⟩
        · exact ⟨c', z, upd_same⟩
      · obtain ⟨ps', a1, a2, a3⟩ := hT p hp
        refine ⟨ps', by rw [upd_ne (ne_of_none a1 nC), upd_ne hb]; exact a1, a2, fun p' cv hcv => ?_⟩
        obtain ⟨c0, e1, e2⟩ := a3 p' cv hcv
        exact ⟨c0, e1, hE _ _ e2 codeO_ne⟩
    · have nb : b ≠ P := fun z => by rw [z, hP] at n; cases n
      exact ⟨Heap.get?_push_of_some _ (hx b o nb e), by rw [at' b nb (Nat.ne_of_lt (Nat.lt_of_lt_of_le (Heap.lt_size e) hge))]; exact n⟩
    · rw [at' _ (Nat.ne_of_gt (Nat.lt_of_lt_of_le (Heap.lt_size hP') hsz)) (Nat.ne_of_gt hlt)]
      exact I.hok.fresh hsz
  | some cv =>
    obtain ⟨c', e, hco⟩ := ha pos cv hc
    subst e
    refine PySem.W.kdv_makeTailHit (mg := X.mg) (c := c) (P := P) (ps := ps) (closure_ok hfree) I.ok.glob (I.mod.glob.keeps I.bk) hcode (TB.code.keeps I.bk) hP' ht hc bP fun ctv doc h' tk hx hsz => ?_
    have I1 : Inv X pins σ H { s with heap := h'.push (lamO (X.env.qual ++ "<lambda>") params body scope (cloFrom X.env.cells scope.names []) dV doc ((X.mg "__name__").getD .none) c' ctv), toks := tk } := I.kept fun b o e => Heap.get?_push_of_some _ (hx b o e)
    exact h h'.objs.size c' doc ((X.mg "__name__").getD .none) ctv H _ I1 (ExtN.refl H) (fun _ e => e) hT (fun b o n e => ⟨Heap.get?_push_of_some _ (hx b o e), n⟩) (Heap.get?_push_size _ rfl) (I.hok.fresh hsz) (nofr _ hsz) hco
/-- what stands as the defaults -/
def Dfl (params : Arguments) (X : Cx) (H : Hp) (h : Heap) (dV : Value) (dz : List (Int × Tok)) : Prop := (dz = [] ∧ dV = .none) ∨ (dz ≠ [] ∧ ∃ t : Addr, dV = .ref t ∧ h.get? t = some (PySem.W.kdv_tup (dz.map fun p => Value.int p.1 p.2)) ∧ H t = none ∧ t ∉ frs X.stack)
/-- the parameters: none, or one with a whole number -/
structure ParI (params : Arguments) (zs : List Int) : Prop where
  kw : params.kw_defaults = []
  d : (params.defaults = [] ∧ zs = []) ∨ ∃ z j p, params.defaults = [.Constant (.int z) j p] ∧ zs = [z]
theorem lam_mk {T : List (Addr × Str)} {c P : Addr} {params : Arguments} {zs : List Int} {body : Expr} {scope : Scope} {pos : Pos} {E : Value → Shared → Prop} {Q : Value → Shared → Prop} (I : Inv X pins σ H s) (TB : TabB X.base X.mg c P) (hcode : X.env.code = .ref c)
    (hm : (P, X.env.qual ++ "<lambda>") ∈ T) (hu : ∀ p ∈ T, p.1 = P → p.2 = X.env.qual ++ "<lambda>") (hT : Tabs T H) (hfree : ∀ y ∈ scope.names, y.2 = .free → ∃ c, X.env.cells.lookup y.1 = some c) (hp : ParI params zs)
    (h : ∀ (f c' : Addr) (dz : List (Int × Tok)) (dV doc pm ctv : Value) (H1 : Hp) (s' : Shared), Inv X pins σ H1 s' → ExtN H H1 → There H H1 → Tabs T H1 → Dfl params X H1 s'.heap dV dz → dz.map (·.1) = zs →
      s'.heap.get? f = some (lamO (X.env.qual ++ "<lambda>") params body scope (cloFrom X.env.cells scope.names []) dV doc pm c' ctv) → H1 f = none → f ∉ frs X.stack → H1 c' = some (CodeO c' (X.env.qual ++ "<lambda>")) → Q (.ref f) s') :
    wpAny (model X.prog X.w) X.A (eval (.Lambda params body scope pos) X.env) Q E s := by
  have nofr : ∀ {H : Hp} {s : Shared} (I : Inv X pins σ H s) f, s.heap.objs.size ≤ f → f ∉ frs X.stack := fun {H s} I f hf z => by
    rcases List.mem_cons.mp (I.stkSub _ z) with e | e
    · have h1 := I.lt
      rw [← e] at h1
      exact Nat.lt_irrefl _ (Nat.lt_of_lt_of_le h1 hf)
    · exact I.nofs hf e
  rcases hp.d with ⟨hd, hz⟩ | ⟨z, j, p, hd, hz⟩
  · have hdef : defaultsOf params X.env = ([], []) := by rw [defaultsOf_eq, hd, hp.kw]; rfl
    refine PySem.W.kla_eval hdef ?_
    rw [makeFunction_eq]
    simp only [List.zip_nil_right, List.filterMap_nil, List.isEmpty_nil, if_true, pure_bind]
    exact lam_tail I TB hcode hm hu hT hfree fun f c' doc pm ctv H1 s' I1 eN th T1 kp hf hfn hfr hco => h f c' [] .none doc pm ctv H1 s' I1 eN th T1 (.inl ⟨rfl, rfl⟩) hz.symm hf hfn hfr hco
  · refine PySem.W.kdv_lam (by rw [hd]; rfl) hp.kw ?_
    rw [hd]
    refine PySem.W.kdv_all1 (wpAny_Constant_int (PySem.W.kdv_all0 ?_))
    rw [makeFunction_eq]
    simp only [List.zip_nil_right, List.filterMap_nil, List.isEmpty_nil, List.isEmpty_cons, Bool.false_eq_true, if_false, if_true, pure_bind]
    refine wpAny_bind (wpAny_newTextTuple ?_)
    have Ip := (I.tok (s.toks + 1)).kept (t' := s.toks + 1) (h' := s.heap.push { cls := .type "tuple", data := .seq [Value.int z s.toks].toArray }) fun b o e => Heap.get?_push_of_some _ e
    refine lam_tail Ip TB hcode hm hu hT hfree fun f c' doc pm ctv H1 s' I1 eN th T1 kp hf hfn hfr hco => ?_
    have q := kp s.heap.objs.size _ (I.hok.fresh (Nat.le_refl _)) (Heap.get?_push_size _ rfl)
    exact h f c' [(z, s.toks)] _ doc pm ctv H1 s' I1 eN th T1 (.inr ⟨by simp, s.heap.objs.size, rfl, q.1, q.2, nofr I _ (Nat.le_refl _)⟩) (by rw [hz]; rfl) hf hfn hfr hco
end
end G2
end
section
set_option Elab.async false
set_option linter.all false
set_option maxRecDepth 100000
set_option maxHeartbeats 2000000
/-! the lambda called, the def that calls it -/
namespace G2
open PySem PySem.Spec PyProof.Rows L2 LamX
open PySem.W (Frag)
section
variable {X : Cx} {pins : List (Addr × Obj)} {σ : L2.St} {H HZ : Hp} {s s1 : Shared}
theorem lam_enter {A : Around} {outer : List Env} {E : XK} {scope : Scope} {bs : List Str} {m : Str → Option Value} {f c' : Addr} {h₁ : Heap} {tk : Nat} (I : Inv X pins σ H s) (L : LamP X.N X.env.scope scope bs) (e0 : Env0 X.prog X.w X.K X.mg X.base A outer s1 HZ) (hd : A.handled = none)
    (un : Un (frs X.stack) [] H HZ s.heap s1.heap) (hns : h₁.Ns s1.heap.objs.size m) (kp : ∀ b o, s1.heap.get? b = some o → h₁.get? b = some o) :
    Inv (lamCx X A outer s1 HZ E scope f c') [] σ HZ { s1 with heap := h₁, toks := tk } := by
  have hfree := L.has I.ok
  have cm : ∀ {y c}, (cloFrom X.env.cells scope.names []).lookup y = some c → X.env.cells.lookup y = some c := fun {y c} e => by
    rcases cloFrom_mem (PySem.mem_of_lookup e) with hm | ⟨h1, h2⟩
    · cases hm
    · obtain ⟨c1, hc⟩ := hfree _ h1 rfl
      have hc : X.env.cells.lookup y = some c1 := hc
      have e2 : c = c1 := by
        rw [h2, hc] <;> rfl
      rw [e2]
      exact hc
  have look : ∀ {y}, scope.names.lookup y = some .free → ∃ c, (cloFrom X.env.cells scope.names []).lookup y = some c := fun {y} hl => mem_lookup (cloFrom_has (cells := X.env.cells) (acc := []) (show (y, NameKind.free) ∈ scope.names from PySem.mem_of_lookup hl))
  have cellK : ∀ {c : Addr} {v : Option Value}, H c = none → s.heap.IsCell c v → h₁.IsCell c v := fun {c v} n ⟨o, ho, hd⟩ => by
    obtain ⟨sl, q⟩ := un.any ho n (by simp)
    exact ⟨_, kp _ _ q, hd⟩
  have noA : ∀ b : Addr, b ∉ (lamCx X A outer s1 HZ E scope f c').ex := fun b z => absurd (show b ∈ ([] : List Addr) from z) (by simp)
  refine ⟨⟨e0.mod, L.kind, rfl, rfl, Nat.le_refl _, fun y z c e1 e2 => I.ok.inj y z c (cm e1) (cm e2), fun y hy => ?_, fun y c z _ => ?_, fun _ => hd, Around.frames_deeper e0.frames, .inr ⟨rfl, rfl⟩, fun b z => absurd z (noA b), e0.bs, e0.bsz, fun b _ _ => noA b,
      fun b z => absurd z (noA b), e0.funs, e0.frf⟩,
    rfl, e0.bare, Un.kept kp, ⟨_, hns, fun i y v e1 e2 e3 => ?_⟩, fun y c e => ?_, e0.hok.fresh (Nat.le_refl _), fun y c e => ?_, fun q hq => absurd (show q ∈ ([] : List (Addr × Obj)) ++ [] from hq) (by simp), e0.hok.kept kp, I.len⟩
  · have hy : scope.names.lookup y = some .cell ∨ scope.names.lookup y = some .free := hy
    rcases hy with hy | hy
    · exact absurd rfl (L.nocell _ (PySem.mem_of_lookup hy))
    · exact look hy
  · exact absurd (show false = true from z) (by decide)
  · have e3 : Vis scope y := e3
    rcases e3 with k | k | k
    · exact absurd (List.mem_of_getElem? e1) (L.loc _ (PySem.mem_of_lookup k) rfl)
    · exact absurd rfl (L.nocell _ (PySem.mem_of_lookup k))
    · obtain ⟨m, hn, hl⟩ := I.loc
      have hvis : Vis X.env.scope y := (L.free _ (PySem.mem_of_lookup k) rfl).elim (fun k => .inr (.inl k)) (fun k => .inr (.inr k))
      obtain ⟨w', r, q⟩ := hl i y v e1 e2 hvis
      obtain ⟨c2, h2⟩ := look k
      refine ⟨w', r, .inr ⟨.inr k, c2, h2, ?_⟩⟩
      have c1 := cm h2
      rcases q with ⟨k', _⟩ | ⟨_, c3, e', z⟩
      · have k' : X.env.scope.names.lookup y = some .local := k'
        rcases L.free _ (PySem.mem_of_lookup k) rfl with k2 | k2 <;> rw [show X.env.scope.names.lookup y = _ from k2] at k' <;> cases k'
      · rw [c1] at e'
        cases e'
        exact cellK (I.freeC y _ c1) z
  · obtain ⟨w', z⟩ := I.cell y c (cm e)
    exact ⟨w', cellK (I.freeC y c (cm e)) z⟩
  · obtain ⟨v, o, ho, hd⟩ := I.cell y c (cm e)
    exact un.free c o ho (I.freeC y c (cm e)) (by simp)
/-- how the call without arguments binds -/
structure LBind (params : Arguments) (body : Expr) (scope : Scope) (bs : List Str) (zs : List Int) : Prop where
  par : ParI params zs
  none : zs = [] → ∀ (q : Str) (cl : List (Str × Addr)) (doc pm cv ctv : Value), bindArgs (PySem.W.kdv_fn "<lambda>" q params (.expr body) scope cl .none doc pm cv ctv) ⟨[], []⟩ = pure []
  some : zs ≠ [] → ∀ (q : Str) (cl : List (Str × Addr)) (t : Addr) (doc pm cv ctv : Value) (us : List Value), us.length = zs.length → ∃ k, bindArgs (PySem.W.kdv_fn "<lambda>" q params (.expr body) scope cl (.ref t) doc pm cv ctv) ⟨[], []⟩ = seqItems? (.ref t) >>= k ∧ k (some us.toArray) = pure (bs.zip us)
theorem pe_act3 {CXg : CXT} {Eg : XK} {Ng : List Str} {qg : Str} {sg : Scope} {g f c' : Addr} {cdg dV doc pm ctv : Value} {dz : List (Int × Tok)} {zs : List Int} {bs : List Str} {params : Arguments} {body : Expr} {scope : Scope} {k i : Nat} {a : Str} {pn : List (Addr × Obj)} {xe : Value → Shared → Prop} {W : WX} {E : XK} {tb : TE} {p1 p2 : Pos}
    (I : Inv X pins σ H s) (L : LamP X.N X.env.scope scope bs) (hf : s.heap.get? f = some (lamO (X.env.qual ++ "<lambda>") params body scope (cloFrom X.env.cells scope.names []) dV doc pm c' ctv)) (hfn : H f = none) (hfr : f ∉ frs X.stack)
    (hbind : LBind params body scope bs zs) (hdf : Dfl params X H s.heap dV dz) (hdz : dz.map (·.1) = zs)
    (tk : Takes ((cxOf CXg X.prog X.w X.K X.mg X.base Ng qg sg g cdg X.A X.stack s H Eg).tr pn xe) W) (hW : ∀ cls d σ' H', σ'.length = Ng.length → E cls d H' → W cls d σ' H') (hr : RmG (k + 1) (X.A.deeper (envOfC qg sg s.heap.objs.size g cdg)))
    (hbody : ∀ (A : Around) (outer : List Env) (s : Shared) (H : Hp), RmG k (A.deeper (lamEnv X scope s.heap.objs.size f c')) → PE (lamCx X A outer s H E scope f c') body tb)
    (hN : Ng[i]? = some a) (hv : Vis sg a) (hd : (a == ("__debug__" : Str)) = false := by decide) (hcd : (a == ("__classdict__" : Str)) = false := by decide) :
    PE ((cxOf CXg X.prog X.w X.K X.mg X.base Ng qg sg g cdg X.A X.stack s H Eg).tr pn xe) (.Call (.Name a p1) [] [] p2)
      (fun σZ HZ Q => σZ[i]? = some (some (.ref f)) ∧ HZ c' = some (CodeO c' (X.env.qual ++ "<lambda>")) ∧ tb σ HZ Q) := by
  refine ⟨fun pinsZ sZ σZ HZ Q IZ h => ?_⟩
  obtain ⟨hs, hc, ht⟩ := h
  refine wpAny_Call_Name_kw (thn ((pe_var (pos := p1) (i := i) hN hv hd hcd).run pinsZ sZ σZ HZ (fun v H1 => v = .ref f ∧ H1 = HZ) IZ ⟨.ref f, hs, rfl, rfl⟩) fun u s1 ⟨v, H1, I1, r1, q1⟩ => ?_)
  obtain ⟨ev, eH⟩ := q1
  subst ev
  rw [eH] at I1
  obtain rfl : u = Value.ref f := r1
  have un : Un (frs X.stack) [] H HZ s.heap s1.heap := I1.base
  have of1 : s1.heap.get? f = some (lamO (X.env.qual ++ "<lambda>") params body scope (cloFrom X.env.cells scope.names []) dV doc pm c' ctv) := un.keep f _ hf hfn hfr (fun z => nomatch (show f ∈ ([] : List Addr) from z))
  refine PySem.W.callWith_F0 ⟨_, _, _, _, of1⟩ ?_
  obtain ⟨⟨oc, vs, t, hoc, hdc, hvc⟩, _, _⟩ := I1.hok c' _ hc
  have fin : ∀ binds : List (Str × Value), (∀ x ∈ binds, scope.names.lookup x.1 = some .local) → BindsTo s1 (PySem.W.kdv_fn "<lambda>" (X.env.qual ++ "<lambda>") params (.expr body) scope (cloFrom X.env.cells scope.names []) dV doc pm (.ref c') ctv) ⟨[], []⟩ binds →
      codeAny (model X.prog X.w) (X.A.deeper (envOfC qg sg s.heap.objs.size g cdg)) (.call (.ref f) ⟨[], []⟩) (CR (L2.CX X.prog X.w) (envOfC qg sg s.heap.objs.size g cdg :: X.stack) X.prog X.w HZ s1 Q E) s1 := by
    intro binds hl hb
    refine PySem.W.kla_callFunE hr.r.depth of1 rfl L.co L.gen rfl ⟨c', oc, vs, t, rfl, hoc, hdc, hvc⟩ (hb _ _ _ _ ?_)
    refine wpAny_newFunctionEnv (fun y hy => L.nocell y hy) hl (fun h₁ hns hsb => ⟨I1.nolimit.fresh _ hsb, ?_⟩) L.kind
    show codeAny _ _ (.expr body (lamEnv X scope s1.heap.objs.size f c')) _ _
    have kp : ∀ b o, s1.heap.get? b = some o → h₁.get? b = some o := fun b o e => hsb.extBut b o (Nat.ne_of_lt (Heap.lt_size e)) (Heap.get?_push_of_some _ e)
    have J : Inv (lamCx X (X.A.deeper (envOfC qg sg s.heap.objs.size g cdg)) (envOfC qg sg s.heap.objs.size g cdg :: X.stack) s1 HZ E scope f c') [] σ HZ { s1 with heap := h₁, toks := s1.toks + binds.length } :=
      lam_enter I L I1.env0 hr.r.hd un hns kp
    refine PySem.W.kla_codeExpr (wpAny_mono ((hbody _ _ s1 HZ (hr.deeper _)).run [] _ _ HZ Q J ht) (fun v s' hq => ?_) fun e s' hq => hq)
    obtain ⟨w', H', J', rv, q⟩ := hq
    exact ⟨w', H', J'.os, J'.bare, J'.base, J'.hok, rv, q⟩
  have rc : codeAny (model X.prog X.w) (X.A.deeper (envOfC qg sg s.heap.objs.size g cdg)) (.call (.ref f) ⟨[], []⟩) (CR (L2.CX X.prog X.w) (envOfC qg sg s.heap.objs.size g cdg :: X.stack) X.prog X.w HZ s1 Q E) s1 := by
    rcases hdf with ⟨e1, e2⟩ | ⟨e1, td, e2, htd, nt, ft⟩
    · subst e1 e2
      exact fin [] (fun _ h => by cases h) (.of_eq (hbind.none hdz.symm _ _ _ _ _ _))
    · subst e2
      have ot := un.keep td _ htd nt ft (fun z => nomatch (show td ∈ ([] : List Addr) from z))
      have hl : (dz.map fun p => Value.int p.1 p.2).length = zs.length := by rw [← hdz]; simp
      have hz : zs ≠ [] := fun z => e1 (by rw [← hdz] at z; simpa using z)
      obtain ⟨kk, h1, h2⟩ := hbind.some hz (X.env.qual ++ "<lambda>") (cloFrom X.env.cells scope.names []) td doc pm (.ref c') ctv _ hl
      exact fin _ (fun x hx => L.par _ (List.of_mem_zip hx).1) (.of_defaults rfl ot rfl h1 h2)
  have hx : Passes (L2.CX X.prog X.w) ((cxOf CXg X.prog X.w X.K X.mg X.base Ng qg sg g cdg X.A X.stack s H Eg).tr pn xe) E := fun _ σ3 _ _ e s3 I3 c3 => tk e s3 (XE.of_call I3 (fun cls d H3 h3 => hW cls d σ3 H3 I3.len h3) c3)
  refine wpAny_call (codeAny_mono rc fun r s' hq => ?_)
  cases r with
  | error e => exact hx pinsZ σZ HZ s1 e s' I1 hq
  | ok fl =>
    cases fl with
    | ret u => exact I1.after hq
    | next => exact False.elim hq
    | brk => exact False.elim hq
    | cont => exact False.elim hq
/-- the def that calls what it got by its name a: TT, what it makes of the lambda's reading -/
def Gives3 (X : Cx) (Ng : List Str) (x : Str) (sg : Scope) (g : Addr) (cdg : Value) (bg : List Stmt) (a : Str) (q : Str) (TT : (XK → Hp → VK → Prop) → Hp → VK → Prop) : Prop :=
  ∀ (f c' : Addr) (s : Shared) (H : Hp) (Q : VK) (tl : XK → Hp → VK → Prop),
    (∀ (W : WX) (pn : List (Addr × Obj)) (xe : Value → Shared → Prop) (E : XK) (p1 p2 : Pos), Takes ((cxOf C8.CX0 X.prog X.w X.K X.mg X.base Ng x sg g cdg X.A X.stack s H C8.E0).tr pn xe) W → (∀ cls d σ' H', σ'.length = Ng.length → E cls d H' → W cls d σ' H') →
      PE ((cxOf C8.CX0 X.prog X.w X.K X.mg X.base Ng x sg g cdg X.A X.stack s H C8.E0).tr pn xe) (.Call (.Name a p1) [] [] p2) (fun σZ HZ Q => σZ[0]? = some (some (.ref f)) ∧ HZ c' = some (CodeO c' q) ∧ tl E HZ Q)) →
    H c' = some (CodeO c' q) → TT tl H Q →
    ∃ t, PSs (cxOf C8.CX0 X.prog X.w X.K X.mg X.base Ng x sg g cdg X.A X.stack s H C8.E0).nox bg t ∧ t { nx := fun _ H' => Q .non H', rt := Q } (L2.start Ng [.ref f]) H
/-- the lambda's reading, the def's -/
def tLam3 (T : List (Addr × Str)) (TT : (XK → Hp → VK → Prop) → Hp → VK → Prop) (t : XK → TE) : TE := fun σ H Q => Tabs T H ∧ ∀ H1, ExtN H H1 → There H H1 → Tabs T H1 → TT (fun E H' Q' => t E σ H' Q') H1 Q
theorem pe_lam3 {T : List (Addr × Str)} {TT : (XK → Hp → VK → Prop) → Hp → VK → Prop} {x a : Str} {g c P : Addr} {k j : Nat} {pg : Arguments} {bg : List Stmt} {sg : Scope} {fd : FuncData} {Ng : List Str} {zs : List Int} {bs : List Str}
    {params : Arguments} {body : Expr} {scope : Scope} {t : XK → TE} {p lpos pos : Pos} (hg : Gl X x) (hm : X.mg x = some (.ref g)) (Fg : FunD X.K x x pg bg sg [] [] g fd) (hb : L2.Binds X.K fd [a] []) (Sg : FnScope Ng [a] sg) (hNg : Ng[0]? = some a) (hva : Vis sg a)
    (hG : ∀ cdv, Gives3 X Ng x sg g cdv bg a (X.env.qual ++ "<lambda>") TT)
    (TB : TabB X.base X.mg c P) (hcode : X.env.code = .ref c) (hmT : (P, X.env.qual ++ "<lambda>") ∈ T) (hu : ∀ p ∈ T, p.1 = P → p.2 = X.env.qual ++ "<lambda>") (hr : RmG j X.A) (hj : k + 2 ≤ j) (L : LamP X.N X.env.scope scope bs)
    (hbind : LBind params body scope bs zs)
    (hbody : ∀ (A : Around) (outer : List Env) (s : Shared) (H : Hp) (E : XK) (f c' : Addr), RmG k (A.deeper (lamEnv X scope s.heap.objs.size f c')) → PE (lamCx X A outer s H E scope f c') body (t E))
    (hdb : (x == ("__debug__" : Str)) = false := by decide) (hd : (a == ("__debug__" : Str)) = false := by decide) (hcd : (a == ("__classdict__" : Str)) = false := by decide) :
    PE X (.Call (.Name x p) [.Lambda params body scope lpos] [] pos) (tLam3 T TT t) := by
  obtain ⟨oc, od, dV, kV, doc, pm, an, cdv, ct, osl, rfl, lk, hcg, _, _⟩ := Fg.ex
  refine ⟨fun pins s σ H Q I h => ?_⟩
  obtain ⟨hT, h⟩ := h
  refine wpAny_Call_Name_kw (ld_glob I hg hm ?_ hdb)
  refine PySem.W.callWith_K (h₀ := X.base) I.ok.mod.kin Fg.kp ?_ (by rfl) (by rfl)
  show wpAny _ _ (spliced ((false, eval (.Lambda params body scope lpos) X.env) :: backTo pos (starEach [] X.env))) _ _ s
  refine Calls.spliced_cons (lam_mk I TB hcode hmT hu hT (L.has I.ok) hbind.par fun f c' dz dV' doc' pm' ctv H1 s' I1 eN th T1 hdf hdz hf hfn hfr hco => ?_)
  refine Calls.spliced_nil ⟨I1.kIn, ?_⟩
  have hr' := hr.mono hj
  have rc : codeAny (model X.prog X.w) X.A (.call (.ref g) ⟨[.ref f], []⟩) (CR C8.CX0 X.stack X.prog X.w H1 s' Q C8.E0) s' := by
    refine run_ofS (N := Ng) (ps := [a]) (us := [.ref f]) (vs := [.ref f]) lk hcg Sg hr'.r I1.env0 (hb s' [.ref f] I1.kIn rfl) (.cons rfl .nil) rfl fun _ => ?_
    obtain ⟨t', ht', hq'⟩ := hG cdv f c' s' H1 Q (fun E H' Q' => t E σ H' Q') (fun W pn xe E p1 p2 tk hW => pe_act3 (i := 0) I1 L hf hfn hfr hbind hdf hdz tk hW (hr'.deeper _) (fun A outer s H hr2 => hbody A outer s H E f c' hr2) hNg hva hd hcd) hco (h H1 eN th T1)
    exact ⟨t', ht'.nox, hq'⟩
  refine wpAny_call (codeAny_mono rc fun r s2 hq => ?_)
  cases r with
  | error e => exact (show False from hq).elim
  | ok fl =>
    cases fl with
    | ret u => exact I1.after hq
    | next => exact False.elim hq
    | brk => exact False.elim hq
    | cont => exact False.elim hq
end
end G2
end
section
set_option Elab.async false
set_option linter.all false
set_option maxRecDepth 100000
set_option maxHeartbeats 2000000
/-! try: call() / except x as e: return (tag, e.f); return None -/
namespace G2
open PySem PySem.Spec PyProof.Rows L2 LamX
open PySem.W (Frag)
/-- what the written part says of such a class, where a field is read -/
structure XGet (K : Frag) (C : Addr) (f : Str) : Prop where
  ga : PySem.W.findIn K (.ref C) "__getattribute__" = some (some (.builtin "BaseException.__getattribute__"))
  gg : PySem.W.findIn K (.ref C) "__getattr__" = some none
  exC : PySem.W.subIn K (.ref C) (.type "BaseException") = some true
  hdC : PySem.W.hasDictIn K C = true
  noN : PySem.W.findIn K (.ref C) f = some none
  te : PySem.W.exmOne K (.ref C) (.ref C) = some true
section
variable {X : Cx} {C : Addr} {f : Str}
def tXf (f : Str) (C a : Addr) (cls : Value) (d : Option Addr) (te : TE) : TE := fun σ H Q => te σ H fun x H1 => x = .ref a ∧ cls = .ref C ∧ ∃ (dd : Addr) (v : V), d = some dd ∧ H1 dd = some (.xd [(f, v)]) ∧ Q v H1
theorem pe_xfld {a : Addr} {oe : Obj} {cls : Value} {d : Option Addr} {pn : List (Addr × Obj)} {e : Expr} {te : TE} {pos : Pos} (T : XGet X.K C f) (hz : Zc cls d oe) (hf : ∃ vs, oe.data = .fields vs) (he : PE (X.suite a ((a, oe) :: pn)) e te)
    (hb : attributeBase e f X.env (eval e X.env) = eval e X.env := by rfl) : PE (X.suite a ((a, oe) :: pn)) (.Attribute e f pos) (tXf f C a cls d te) := by
  refine ⟨fun pins s σ H Q I h => ?_⟩
  refine attr_of hb (thn (he.run pins s σ H _ I h) fun u s1 ⟨x, H1, I1, rx, ex, ec, dd, v, ed, ea, q⟩ => ?_)
  subst ex ec ed
  obtain rfl : u = Value.ref a := rx
  obtain ⟨ha, _⟩ := I1.pin (a, oe) (List.mem_append_left _ List.mem_cons_self)
  obtain ⟨vs, hd⟩ := hf
  obtain ⟨mA, hns, hr⟩ := (show ObjOk X.prog X.w H1 s1.heap dd (.xd [(f, v)]) from I1.hok dd _ ea)
  obtain ⟨od, ho, hl⟩ := lookIn_ns hns
  have l : List.lookup f [(f, v)] = some v := by simp [List.lookup]
  obtain ⟨u, hu, ru⟩ := RelO.some_of (v := v) (o := mA f) (by rw [← l]; exact hr f)
  have J : PySem.W.InstAt s1.heap a oe C (some od) := ⟨ha, hz.1, by unfold PySem.W.notCls; rw [hd] <;> rfl, by rw [hz.2]; exact ho⟩
  exact HandSPX.exc_get I1.kIn J T.ga T.gg T.exC (PySem.W.findObj_own T.hdC T.noN rfl (by rw [hl, hu])) (handed_of ru) ⟨v, H1, I1.tok _, ru, q⟩
/-- met: what is told of the call -/
def TTmet (K : Frag) (C : Addr) (f tag : Str) : (XK → Hp → VK → Prop) → Hp → VK → Prop := fun tl H Q =>
  tl (fun cls d H' => ∃ b, PySem.W.exmOne K cls (.ref C) = some b ∧ (b = true → cls = .ref C ∧ ∃ dd v, d = some dd ∧ H' dd = some (.xd [(f, v)]) ∧ ∀ p, H' p = none → Q (.ref p) (upd H' p (.tup [.str tag, v]))) ∧ (b = false → False)) H (fun _ H' => Q .non H')
theorem met_gives {x a e n q tag : Str} {sg : Scope} {g : Addr} {cdg : Value} {j j2 k2 : Nat} {p1 p2 p3 p4 p5 p6 p7 p8 p9 p10 p11 p12 p13 : Pos} (hN : ([a, n] : List Str).Nodup) (hln : sg.names.lookup n = some .local) (hge : sg.names.lookup e = some .globalImplicit) (hme : X.mg e = some (.ref C)) (hde : (e == ("__debug__" : Str)) = false) (hdn : (n == ("__debug__" : Str)) = false) (hcn : (n == ("__classdict__" : Str)) = false) (hsw : ∀ env : Env, swapsWith (.Call (.Name a p1) [] [] p2) none p3.line env = pure false)
    (hab : ∀ env : Env, attributeBase (.Name n p6) f env (eval (.Name n p6) env) = eval (.Name n p6) env) (G : XGet X.K C f) :
    Gives3 X [a, n] x sg g cdg [.Try [.Expr (.Call (.Name a p1) [] [] p2) p3] [.ExceptHandler (some (.Name e p4)) (some n) [.Return (some (.Tuple [.Constant (.str tag) j p5, .Attribute (.Name n p6) f p7] k2 p8)) p9] p10] [] [] p11, .Return (some (.Constant .none j2 p12)) p13] a q (TTmet X.K C f tag) := by
  intro fl c' s H Q tl act hc h
  have hgl : Gl (cxOf C8.CX0 X.prog X.w X.K X.mg X.base [a, n] x sg g cdg X.A X.stack s H C8.E0).nox e := hge
  refine ⟨_, pss_cons (ps_try_as (i := 1) (X := (cxOf C8.CX0 X.prog X.w X.K X.mg X.base [a, n] x sg g cdg X.A X.stack s H C8.E0).nox) (c := .ref C) (Wout := fun _ _ _ _ => False)
      (tb := fun W D σ H => ∃ Ech : XK, (∀ cls d σ' H', σ'.length = 2 → Ech cls d H' → W cls d σ' H') ∧ (σ = [some (.ref fl), none] ∧ H c' = some (CodeO c' q) ∧ tl Ech H (fun _ H' => D.nx σ H')))
      (ts := fun a0 cls d => tRet (tTup (tCons (tC (.str tag)) (tCons (tXf f C a0 cls d (tVar 1)) tNil))))
      rfl rfl hN rfl hln ⟨hgl, hde, .inl hme⟩ takes0 (fun W pn xe tk _ => ?_) (fun a0 oe cls d pn hz hf => ?_)) (pss_one (ps_ret pe_non)), ?_⟩
  · refine ⟨fun pins s' σ H' D I h' => ?_⟩
    obtain ⟨Ech, hW, h1, h2, h3⟩ := h'
    have hp := act W pn xe Ech p1 p2 tk hW
    have hq := pss_one (ps_expr (pos := p3) hp (hsw _))
    exact hq.run pins s' σ H' D I ⟨by rw [h1]; rfl, h2, h3⟩
  · exact pss_one (ps_ret (pe_tup (pa_cons pe_str (pa_cons (pe_xfld G hz hf (pe_var (i := 1) rfl (.inl hln) hdn hcn) (hab _)) pa_nil))))
  · refine ⟨fun cls d H' => ∃ b, PySem.W.exmOne X.K cls (.ref C) = some b ∧ (b = true → cls = .ref C ∧ ∃ dd v, d = some dd ∧ H' dd = some (.xd [(f, v)]) ∧ ∀ p, H' p = none → Q (.ref p) (upd H' p (.tup [.str tag, v]))) ∧ (b = false → False), ?_, rfl, hc, h⟩
    rintro cls d σ' H' hl ⟨b, h1, h2, h3⟩
    refine ⟨b, h1, fun hb a0 ha => ?_, fun hb => (h3 hb).elim⟩
    obtain ⟨ec, dd, v, ed, ea, hq⟩ := h2 hb
    refine ⟨.ref a0, ?_, rfl, ec, dd, v, ed, ea, ?_, fun p hp => hq p hp⟩
    · rw [List.getElem?_set]
      rw [if_pos rfl, if_pos (by omega)]
    · rw [sizeLine_eq]; show 2 ≤ _; omega
end
end G2
end
section
set_option Elab.async false
set_option linter.all false
set_option maxRecDepth 100000
set_option maxHeartbeats 2000000
/-! the same by data; texts of the exceptions -/
namespace G2
open PySem PySem.Spec PyProof.Rows L2 LamX
open PySem.W (Frag)
theorem mem_ext {K : Frag} {T : List (Addr × Str)} {Z : Addr → Prop} {μ : Mu} {H H1 : Hp} (m : MemOk K T Z μ H) (e : ExtN H H1) (t : There H H1) (tb : Tabs T H1) : MemOk K T Z μ H1 ∧ Evo μ H μ H1 := by
  have ev : Evo μ H μ H1 := ⟨fun p o h _ n => e p o h n, fun _ _ h => h, t⟩
  refine ⟨⟨fun a xs h => ?_, tb, fun a h => ⟨t a (m.pen a h).1, (m.pen a h).2⟩⟩, ev⟩
  obtain ⟨vs, h1, h2⟩ := m.mem a xs h
  exact ⟨vs, e a _ h1 (fun ps z => by cases z), h2.step ev _ _⟩
def wMet (cn f tag : Str) (wb : WE) : WE := fun ρ μ Q EX => wb ρ μ (fun _ μ' => Q .non μ') (fun x μ' => ∃ d, x = ⟨cn, [f], [d]⟩ ∧ Q (.tup [.str tag, d]) μ')
section
variable {X : Cx} {T : List (Addr × Str)} {W : WX} {C : Addr} {f : Str}
theorem de_met {cn tag x a : Str} {g c P : Addr} {k j : Nat} {pg : Arguments} {bg : List Stmt} {sg : Scope} {fd : FuncData} {Ng : List Str} {zs : List Int} {bs : List Str}
    {params : Arguments} {body : Expr} {scope : Scope} {wb : WE} {p lpos pos : Pos} (hg : Gl X x) (hm : X.mg x = some (.ref g)) (Fg : FunD X.K x x pg bg sg [] [] g fd) (hb : L2.Binds X.K fd [a] []) (Sg : FnScope Ng [a] sg) (hNg : Ng[0]? = some a) (hva : Vis sg a)
    (G : XGet X.K C f) (hC : C = He.ga X.K cn) (hG : ∀ cdv, Gives3 X Ng x sg g cdv bg a (X.env.qual ++ "<lambda>") (TTmet X.K C f tag))
    (TB : TabB X.base X.mg c P) (hcode : X.env.code = .ref c) (hmT : (P, X.env.qual ++ "<lambda>") ∈ T) (hu : ∀ p ∈ T, p.1 = P → p.2 = X.env.qual ++ "<lambda>") (hr : RmG j X.A) (hj : k + 2 ≤ j) (L : LamP X.N X.env.scope scope bs)
    (hbind : LBind params body scope bs zs)
    (hbody : ∀ (A : Around) (outer : List Env) (s : Shared) (H : Hp) (E : XK) (f c' : Addr), RmG k (A.deeper (lamEnv X scope s.heap.objs.size f c')) → DE (lamCx X A outer s H E scope f c') T (fun cls d _ H' => E cls d H') body wb)
    (hdb : (x == ("__debug__" : Str)) = false := by decide) (hd : (a == ("__debug__" : Str)) = false := by decide) (hcd : (a == ("__classdict__" : Str)) = false := by decide) :
    DE X T W (.Call (.Name x p) [.Lambda params body scope lpos] [] pos) (wMet cn f tag wb) := by
  refine pe_imp (pe_lam3 (t := fun E => tD X.K T (fun cls d _ H' => E cls d H') wb) hg hm Fg hb Sg hNg hva hG TB hcode hmT hu hr hj L hbind hbody hdb hd hcd) ?_
  rintro σ H Q' ⟨Z, ρ, μ, Q, EX, b, l, q, kk⟩
  refine ⟨b.m.tabs, fun H1 eN th T1 => ?_⟩
  obtain ⟨m1, ev⟩ := mem_ext b.m eN th T1
  refine ⟨Z, ρ, μ, _, _, b.step ev m1, ?_, q, fun v H' d μ' e' m' r' q' => kk .non H' .non μ' (ev.trans e') m' (by simp only [Rep]) q'⟩
  rintro cls dd H' y μ' e' m' ⟨rc, rx⟩ ⟨d, ey, qy⟩
  subst ey
  have ec : cls = .ref C := by rw [hC]; exact rc
  subst ec
  rcases rx with z | ⟨dx, vs, e1, hz, e2, e3, e4⟩
  · cases z
  · simp only [Reps] at e4
    obtain ⟨v, _, rfl, rv, rfl⟩ := e4
    refine ⟨true, G.te, fun _ => ⟨rfl, dx, v, e1, e2, fun p hp => ?_⟩, fun z => by cases z⟩
    exact kk _ _ _ _ ((ev.trans e').trans (evo_new hp)) (mem_new m' hp) (rep_tup m' hp (Reps.cons (by simp only [Rep]) (Reps.cons rv Reps.nil))) qy
end
/-! ### the texts that the exceptions are made with -/
section
variable {prog : Program} {w : World}
/-- f"{f!r}t", f a whole number -/
theorem ev_repr_int {f t : Str} {i : Int} {tk : Tok} {p1 p2 p3 p4 : Pos} {j : Nat} {nl : List (Str × NameKind)} (hf : nl.lookup f = some .local) (hd : (f == ("__debug__" : Str)) = false) (hi : i.natAbs.log2 < 1920) (ht : t.length ≤ 1000) (A : Around) (env : Env) (hs : env.scope = xSc nl) :
    EvE prog w A env (.JoinedStr [.FormattedValue (.Name f p1) 114 none p2, .Constant (.str t) j p3] p4) f (.int i tk) := by
  intro s m E Q hn hm hQ
  have hkind : env.scope.kind = .function := by rw [hs]
  have hl : env.kindOf f = some .local := by unfold Env.kindOf; rw [hs]; exact hf
  have h0 := int_text_fits hi
  have h1 : ((toString i : String) : Str).length ≤ 8000 := by
    have e := int_text_length_le (k := 1920) (by decide) hi
    rw [PySem.ofString_length]; omega
  have hem : (Str.empty : Str).length = 0 := rfl
  refine wpAny_JoinedStr ?_
  show Joins _ _ _ [eval (.FormattedValue (.Name f p1) 114 none p2) env, eval (.Constant (.str t) j p3) env] _ _ _
  unfold Joins
  refine wpAny_FormattedValue_repr (wpAny_Name (wpAny_loadName_local hkind hl hn hm ?_) hd)
  have fin : ∀ (u : Tok) (s2 : Shared), (∃ n, s2 = { s with toks := n }) → ∃ y t1, (Value.str (toString i) u) = .str y t1 ∧ ((Str.empty : Str) ++ y).length ≤ sizeLine ∧ Joins (model prog w) A E [eval (.Constant (.str t) j p3) env] (Str.empty ++ y) (fun out s₁ => out.length ≤ sizeLine ∧ Q (.str out s₁.toks) { s₁ with toks := s₁.toks + 1 }) s2 := by
    rintro u s2 ⟨n, rfl⟩
    refine ⟨_, u, rfl, by rw [strLen_append, sizeLine_eq]; omega, ?_⟩
    unfold Joins
    refine Calls.Constant_str ⟨_, _, rfl, by rw [strLen_append, strLen_append, sizeLine_eq]; omega, ?_⟩
    unfold Joins
    exact ⟨by rw [strLen_append, strLen_append, sizeLine_eq]; omega, hQ _ _ _ s.heap fun _ _ e => e⟩
  refine pyReprObj_int hi ?_
  exact wpAny_handedOn (fin _ _ ⟨_, rfl⟩) (fin _ _ ⟨_, rfl⟩) h0
end
end G2
end
section
set_option Elab.async false
set_option linter.all false
set_option maxRecDepth 100000
set_option maxHeartbeats 2000000
/-! the end of a law's row: the def called where nothing is guarded -/
namespace G2
open PySem PySem.Spec PyProof.Rows L2 LamX
open PySem.W (Frag CodeHd)
/-- the script and the empty tables, in abstract -/
def H0 (K : Frag) (a : Addr) (o : Obj) (vs : List V) (ts : List Addr) : Hp := fun b => if b = a ∧ (K.lookup a).isNone = true then some (.frz o (.lst vs)) else if b ∈ ts then some (.tbl #[]) else none
theorem law_callG {P : Program} {w : World} {K : Frag} {mg mb : Str → Option Value} {CX : CXT} {k : Nat} {fa a : Addr} {cs : List (Addr × Addr)} {fd : FuncData} {x : Str} {sp : Sp} {s : Shared} {vs : List Value} {ns : List Int}
    (KX : K.In s.heap) (hns : s.heap.Ns mainGlobals mg) (hb : s.heap.Ns builtinsNs mb) (hbb : ∀ x : Str, x ≠ "__name__" → mb x = bootBuiltins x) (hlim : s.heap.NoLimit) (hnd : s.heap.NoDigits) (hg : s.gens = #[])
    (hT : ∀ p ∈ cs, s.heap.get? p.2 = some { cls := .none, data := .fields #[] }) (nT : ∀ p ∈ cs, K.lookup p.2 = none) (C : ∀ p ∈ cs, CodeHd s.heap p.1 p.2)
    (hbm : ∃ (bm : Addr) (ob : Obj), mg "__builtins__" = some (.ref bm) ∧ bm ≠ builtinsNs ∧ s.heap.get? bm = some ob ∧ ob.cls = .type "module" ∧ ob.dict = some builtinsNs ∧ ob.data = .plain)
    (ha : s.heap.get? a = some { cls := .type "list", data := .seq vs.toArray }) (hi : IntsAre vs ns) (hl : ns.length ≤ sizeLine) (hr : Room k callerA)
    (F : ∀ base : Heap, K.In base → base.Ns mainGlobals mg → base.NoDigits → (∀ p ∈ cs, TabB base mg p.1 p.2) → FnG P w K mg base CX k fa fd [x] sp) (hbind : ∀ (s : Shared) (u : Value), BindsTo s fd ⟨[u], []⟩ [(x, u)])
    (hsp : ∀ H : Hp, (∀ p ∈ cs, H p.2 = some (.tbl #[])) → FrzAt K (fun _ => False) (fun _ => none) H a (ns.map V.int) → sp [.ref a] H (fun v _ => v = .bl true) fun _ _ _ => False)
    (hCX : ∀ H e s', CX [] H s (fun _ _ _ => False) e s' → False) :
    codeAny (model P w) callerA (.call (.ref fa) ⟨[.ref a], []⟩) (fun r s' => r = .ok (.ret (.bool true)) ∧ OldK s.heap s'.heap ∧ s'.os = s.os ∧ AllBare s'.gens) s := by
  have rv := vals_ints hi
  have lenV := hi.length
  have isT : ∀ b : Addr, b ∈ cs.map (·.2) → s.heap.get? b = some { cls := .none, data := .fields #[] } ∧ K.lookup b = none := fun b hb => by
    obtain ⟨p, hp, e⟩ := List.mem_map.mp hb
    rw [← e]
    exact ⟨hT p hp, nT p hp⟩
  have aT : a ∉ cs.map (·.2) := fun z => by
    have q := (isT a z).1
    rw [ha] at q
    have z' : Data.seq vs.toArray _ = Data.fields #[] := congrArg Obj.data (Option.some.inj q)
    cases z'
  have memT : ∀ p ∈ cs, p.2 ∈ cs.map (·.2) := fun p hp => List.mem_map.mpr ⟨p, hp, rfl⟩
  generalize hH : H0 K a { cls := .type "list", data := .seq vs.toArray } (ns.map V.int) (cs.map (·.2)) = H
  have hA : ∀ b, H b ≠ none → (b = a ∧ K.lookup a = none ∧ H b = some (.frz { cls := .type "list", data := .seq vs.toArray } (.lst (ns.map V.int)))) ∨ (b ∈ cs.map (·.2) ∧ H b = some (.tbl #[])) := fun b q => by
    rw [← hH] at q ⊢
    unfold H0 at q ⊢
    by_cases h1 : b = a ∧ (K.lookup a).isNone = true
    · rw [if_pos h1]
      exact .inl ⟨h1.1, Option.isNone_iff_eq_none.mp h1.2, rfl⟩
    · rw [if_neg h1] at q ⊢
      by_cases h2 : b ∈ cs.map (·.2)
      · rw [if_pos h2]
        exact .inr ⟨h2, rfl⟩
      · rw [if_neg h2] at q
        exact absurd rfl q
  have hTb : ∀ p ∈ cs, H p.2 = some (.tbl #[]) := fun p hp => by
    rw [← hH]
    unfold H0
    rw [if_neg (fun z => aT (by rw [← z.1]; exact memT p hp)), if_pos (memT p hp)]
  have hok : HOk P w H s.heap := fun b u z => by
    rcases hA b (by rw [z]; simp) with ⟨e1, _, e3⟩ | ⟨e1, e3⟩
    · rw [e3] at z
      cases z
      rw [e1]
      exact ⟨ha, by rw [List.length_map]; exact hl, vs, _, rv, ha⟩
    · rw [e3] at z
      cases z
      exact (isT b e1).1
  have hF : FrzAt K (fun _ => False) (fun _ => none) H a (ns.map V.int) := by
    cases hk : K.lookup a with
    | none =>
      refine .inl ⟨rfl, not_false, { cls := .type "list", data := .seq vs.toArray }, ?_⟩
      rw [← hH]
      unfold H0
      rw [if_pos ⟨rfl, by rw [hk]; rfl⟩]
    | some o =>
      have e := KX a o hk
      rw [ha] at e
      cases e
      exact .inr ⟨_, vs.toArray, _, hk, rfl, rfl, rfl, by rw [List.size_toArray, lenV]; exact hl, by simpa using rv⟩
  have offH : ∀ {b : Addr} {o : Obj}, s.heap.get? b = some o → (∀ vs n, o.data ≠ .seq vs n) → o.data ≠ .fields #[] → H b = none := fun {b o} e h1 h2 => by
    cases q : H b with
    | none => rfl
    | some u =>
      rcases hA b (by rw [q]; simp) with ⟨e1, _, _⟩ | ⟨e1, _⟩
      · rw [e1, ha] at e
        cases e
        exact absurd rfl (h1 _ _)
      · rw [(isT b e1).1] at e
        cases e
        exact absurd rfl h2
  have offN : ∀ {b : Addr} {m : Str → Option Value}, s.heap.Ns b m → H b = none := fun {b m} ⟨o, es, ep, e, d, _⟩ => offH e (fun vs n z => by rw [d] at z; cases z) (fun z => by rw [d] at z; cases z)
  have nsK : ∀ {b : Addr} {m : Str → Option Value}, s.heap.Ns b m → (hidT s.heap H).Ns b m := fun {b m} n => by
    have z := offN n
    obtain ⟨o, es, ep, e, d, r⟩ := n
    exact ⟨o, es, ep, hidT_get e z, d, r⟩
  have hKb : K.In (hidT s.heap H) := fun b o e => hidT_get (KX b o e) (by
    cases q : H b with
    | none => rfl
    | some u =>
      rcases hA b (by rw [q]; simp) with ⟨e1, e2, _⟩ | ⟨e1, _⟩
      · rw [e1, e2] at e
        cases e
      · rw [(isT b e1).2] at e
        cases e)
  have TB : ∀ p ∈ cs, TabB (hidT s.heap H) mg p.1 p.2 := fun p hp => by
    have hTp := hT p hp
    refine ⟨?_, ?_, fun z => ?_⟩
    · obtain ⟨o, us, file, tf, flags, tg, inF, text, tt, e1, r1, r2, r3, r4, r5, r6, r7, r8, hne⟩ := C p hp
      refine ⟨o, us, file, tf, flags, tg, inF, text, tt, hidT_get e1 (offH e1 (fun vs n z => by rw [r2] at z; cases z) fun z => ?_), r1, r2, r3, r4, r5, r6, r7, r8, hne⟩
      rw [r2] at z
      cases z
      simp at r3
    · obtain ⟨bm, ob, b1, b2, b3, b4, b5, b6⟩ := hbm
      have nP : bm ≠ p.2 := fun q => by
        rw [q, hTp] at b3
        cases b3
        cases b6
      have nG : bm ≠ mainGlobals := fun q => by
        obtain ⟨o, es, ep, e, hd, _⟩ := hns
        rw [q, e] at b3
        cases b3
        rw [hd] at b6
        cases b6
      exact ⟨bm, ob, b1, b2, nG, nP, hidT_get b3 (offH b3 (fun vs n z => by rw [b6] at z; cases z) fun z => by rw [b6] at z; cases z), b4, b5, b6⟩
    · obtain ⟨o, es, ep, e, hd, _⟩ := hns
      rw [z, hTp] at e
      cases e
      cases hd
  have hM : L2.Mod K mg (hidT s.heap H) := ⟨hKb, nsK hns, ⟨mb, nsK hb, hbb⟩, let ⟨mc, h1, h2⟩ := hlim; ⟨mc, nsK h1, h2⟩⟩
  have hD : (hidT s.heap H).NoDigits := let ⟨mc, h1, h2⟩ := hnd; ⟨mc, nsK h1, h2⟩
  have e0 : Env0 P w K mg (hidT s.heap H) callerA [] s H := ⟨rfl, hM, fun b o e => of_hidT e, Nat.le_of_eq (hidT_size _ _), trivial, fun b hb => absurd (show b ∈ ([] : List Addr) from hb) (by simp), hok, .of_eq hg⟩
  refine codeAny_mono ((F _ hKb (nsK hns) hD TB).run callerA [] s H ⟨[.ref a], []⟩ [.ref a] [.ref a] _ _ ⟨hr, rfl⟩ e0 (hbind s (.ref a)) (.cons rfl .nil) (hsp H hTb hF)) fun r s' h => ?_
  cases r with
  | error e => exact (hCX H e s' h).elim
  | ok fl =>
    cases fl with
    | next => exact False.elim h
    | brk => exact False.elim h
    | cont => exact False.elim h
    | ret u =>
      obtain ⟨v, H', os, bare, un, hok', r', q⟩ := h
      have q' : v = .bl true := q
      subst q'
      obtain rfl : u = Value.bool true := r'
      have key : ∀ b o, b ∉ cs.map (·.2) → s.heap.get? b = some o → s'.heap.get? b = some o := fun b o nb e => by
        cases q : H b with
        | none => exact un.keep b o e q (by intro z; exact absurd (show b ∈ ([] : List Addr) from z) (by simp)) (by simp)
        | some u =>
          rcases hA b (by rw [q]; simp) with ⟨_, _, z⟩ | ⟨z, _⟩
          · obtain ⟨e1, _⟩ := hok b _ z
            obtain ⟨e2, _⟩ := hok' b _ (un.frzs b _ _ z)
            rw [e] at e1
            cases e1
            exact e2
          · exact absurd z nb
      have grown : ∀ b ∈ cs.map (·.2), ∃ more : Array Value, s'.heap.get? b = some { cls := .none, data := .fields more } := fun b hb => by
        obtain ⟨p, hp, ep⟩ := List.mem_map.mp hb
        obtain ⟨more, z⟩ := un.tbls p.2 #[] (hTb p hp)
        rw [← ep]
        exact ⟨_, hok' p.2 _ z⟩
      refine ⟨rfl, ⟨fun b o e => ?_, fun b o e => ?_⟩, os, bare⟩
      · by_cases hb : b ∈ cs.map (·.2)
        · obtain ⟨more, hm⟩ := grown b hb
          obtain ⟨p, hp, ep⟩ := List.mem_map.mp hb
          rw [(isT b hb).1] at e
          cases e
          exact .inr (.inl ⟨by rw [← ep]; exact ((C p hp).tab (hT p hp)).isCodeTable, rfl, #[], more, rfl, by rw [Array.empty_append]; exact hm⟩)
        · exact .inl (key b o hb e)
      · by_cases hb : b ∈ cs.map (·.2)
        · obtain ⟨more, hm⟩ := grown b hb
          exact ⟨_, hm⟩
        · exact ⟨o, key b o hb e⟩
/-- what is known of the law's promise at the head's heap h -/
def LawG (l : PySem.W.OpenLaw) (w : World) (K : Frag) (CX : CXT) (k n : Nat) (x : Str) (mg : Str → Option Value) (fa : Addr) (h : Heap) : Prop :=
  ∃ (fd : FuncData) (cs : List (Addr × Addr)) (sp : Sp), (∀ p ∈ cs, h.get? p.2 = some { cls := .none, data := .fields #[] }) ∧ (∀ p ∈ cs, K.lookup p.2 = none) ∧ (∀ p ∈ cs, CodeHd h p.1 p.2) ∧ (∀ (s : Shared) (u : Value), BindsTo s fd ⟨[u], []⟩ [(x, u)]) ∧
    (∀ (H : Hp) (a : Addr) (ns : List Int), ns.length ≤ n → (∀ z ∈ ns, Builtin.Int.intBits z ≤ 1048576) → (∀ p ∈ cs, H p.2 = some (.tbl #[])) → FrzAt K (fun _ => False) (fun _ => none) H a (ns.map V.int) → sp [.ref a] H (fun v _ => v = .bl true) fun _ _ _ => False) ∧
    ∀ base : Heap, K.In base → base.Ns mainGlobals mg → base.NoDigits → (∀ p ∈ cs, TabB base mg p.1 p.2) → FnG l.prog w K mg base CX k fa fd [x] sp
theorem walk_G {l : PySem.W.OpenLaw} {n k : Nat} {q : Program} {loose : List Str} {XP : (Str → Option Value) → Heap → Prop} {YP : World → Heap → Prop} {d : DefRec} {x : Str}
    (hn : l.most = some n) (hn2 : n ≤ sizeLine) (hdf : d.params.defaults = []) (hr : Room k callerA)
    (F : ∀ (w : World) (mg : Str → Option Value) (fa : Addr) (h : Heap), YP w h → h.Ns mainGlobals mg → mg d.name = some (.ref fa) → ∃ K : Frag, K.In h ∧ LawG l w K (L2.CX l.prog w) k n x mg fa h) :
    PySem.W.WalkO q loose XP YP l.row.toRowW d [] (fun f vs => PySem.call f vs) := by
  refine Att.attach_callB hn hdf fun w s₀ s₁ mg mb fa o pm cd doc a vs ns G Y ho hd hcd hmg hobj hints hlen hbits hg => ?_
  obtain ⟨K, KX, fd, cs, sp, hT, nT, C, hb, hsp, hF⟩ := F w mg fa _ Y G.T.g hmg
  exact law_callG KX G.T.g G.T.b G.T.builtins G.T.nolimit G.T.nodigits hg hT nT C G.T.bmain hobj hints (Nat.le_trans hlen hn2) hr hF hb (fun H hH hS => hsp H a ns hlen hbits hH hS) fun H e s' hc => by
    obtain ⟨_, _, _, _, _, _, _, _, _, _, _, _, _, _, _, _, z⟩ := hc
end G2
end
section
set_option Elab.async false
set_option linter.all false
set_option maxRecDepth 100000
set_option maxHeartbeats 2000000
/-! a list times a number that may change; what a law's text is known to hold; defs by their names -/
namespace G2
open PySem PySem.Spec PyProof.Rows L2 LamX
open PySem.W (Frag)
/-- [..] * k, a list that may change -/
def rMulM : RD := fun x y μ Q => match y with
  | .int k => ∃ xs, lstOf μ x = some xs ∧ -(2 ^ 63) ≤ k ∧ k < 2 ^ 63 ∧ xs.length * k.toNat ≤ 16777216 ∧ ∀ p, μ p = none → Q (.ref p) (setM μ p (List.replicate k.toNat xs).flatten)
  | _ => False
theorem od_mulM {X : Cx} {T : List (Addr × Str)} : OpD X T (binaryOp .Mult) rMulM := by
  refine opd op_rep ?_
  intro x y H Q' Z dx dy μ Q m r1 r2 q k
  unfold rMulM at q
  split at q
  · rename_i kk
    obtain ⟨xs, hx, c1, c2, c3, q⟩ := q
    obtain ⟨a, vs, rfl, h1, h2⟩ := lst_rep m r1 hx
    simp only [Rep] at r2
    exact ⟨a, kk, vs, rfl, r2, h1, c1, c2, by rw [szl, ← h2.length]; exact c3, fun p hp => k _ _ _ _ (evo_trk hp) (mem_trk m hp (h2.replicate _)) (by simp only [Rep]) (q p (m.fresh hp))⟩
  · exact q.elim
/-- a statement that is not reached -/
def wNever : WS := fun _ _ _ => False
theorem ds_never {X : Cx} {T : List (Addr × Str)} {W : WX} {st : Stmt} : DS X T W st wNever := ⟨fun pins s σ H De I ⟨_, _, _, _, _, _, q⟩ => q.elim⟩

/-- the text's facts at a base -/
structure Ev (fa : List He.Fa) (fn : List He.DefD) (K : Frag) (mg : Str → Option Value) (base : Heap) : Prop where
  c : He.SaysD fa fn K
  X : K.In base
  G : base.Ns mainGlobals mg
  nd : base.NoDigits
section
variable {fa : List He.Fa} {fn : List He.DefD} {K : Frag} {mg : Str → Option Value} {base : Heap} {P : Program} {w : World} {T : List (Addr × Str)}
theorem Ev.glo (E : Ev fa fn K mg base) {x : Str} (i : Nat) (h : fa[i]? = some (.glo x) := by rfl) : mg x = some (.ref (He.ga K x)) := He.glo_ok E.X E.G (E.c.fact i h)
theorem Ev.free (E : Ev fa fn K mg base) {x : Str} (i : Nat) (h : fa[i]? = some (.free x) := by rfl) : mg x = none := He.free_ok E.X E.G (E.c.fact i h)
theorem Ev.int (E : Ev fa fn K mg base) {x : Str} {z : Int} (i : Nat) (h : fa[i]? = some (.int x z) := by rfl) : ∃ u, mg x = some u ∧ RelV (.int z) u := let ⟨t, e⟩ := He.int_ok E.X E.G (E.c.fact i h); ⟨_, e, t, rfl⟩
/-- a def of the text that keeps its reading's promise -/
def Fn (K : Frag) (mg : Str → Option Value) (base : Heap) (P : Program) (w : World) (T : List (Addr × Str)) (d : He.DefD) (k : Nat) (ps : List Str) (wf : WFn) : Prop :=
  ∃ fd, FunD K d.name d.qual d.params d.body d.scope (d.dvs K) (d.kws K) (He.fAd K d.at_) fd ∧ FnG P w K mg base (L2.CX P w) k (He.fAd K d.at_) fd ps (lift K T wf ps.length)
/-- from the body -/
theorem Ev.fn_ (E : Ev fa fn K mg base) {d : He.DefD} {N ps : List Str} {k : Nat} {wb : WS} (i : Nat) (h : fn[i]? = some d) (S : FnScope N ps d.scope)
    (hb : ∀ (cdv : Value) (A : Around) (outer : List Env) (s : Shared) (H : Hp) (EE : XK), RmG k (A.deeper (envOfC d.qual d.scope s.heap.objs.size (He.fAd K d.at_) cdv)) → CodeAt K (He.fAd K d.at_) d.qual cdv →
      DSs (cxOf (L2.CX P w) P w K mg base N d.qual d.scope (He.fAd K d.at_) cdv A outer s H EE) T (fun cls d _ H' => EE cls d H') d.body wb) : Fn K mg base P w T d (k + 1) ps (fnW N.length ps.length wb) := by
  obtain ⟨fd, F⟩ := E.c.def_ i h
  exact ⟨fd, F, fn_ok F S hb⟩
/-- called with all of its parameters: no defaults -/
theorem Fn.cal {d : He.DefD} {k n : Nat} {ps : List Str} {wb : WS} {x : Str} (F : Fn K mg base P w T d k ps (fnW n ps.length wb)) (hd : d.dfl = []) (hg : mg x = some (.ref (He.ga K x))) (hx : d.at_ = (x, none))
    (hb : ∀ (kV doc pm : Value) (an : Option Addr) (cdv ct : Value) (us : List Value), us.length = ps.length → bindArgs (PySem.W.fnOf d.name d.qual d.params d.body d.scope .none kV doc pm an cdv ct) ⟨us, []⟩ = pure (ps.zip us)) :
    Cal P w K mg base T k x [] (fnW n ps.length wb) := by
  obtain ⟨fd, F1, F2⟩ := F
  have e : He.fAd K d.at_ = He.ga K x := by rw [hx]; rfl
  have e2 : d.dvs K = [] := by unfold He.DefD.dvs; rw [hd]; rfl
  rw [e2] at F1
  rw [e] at F1 F2
  exact ⟨_, fd, ps, [], [], F2, hg, F1.kp, FunD.bindsN F1 hb, .nil, rfl, fun ds μ Q E h => h.1⟩
/-- called with n of its parameters, the defaults behind the first j fill up -/
theorem Fn.calD {d : He.DefD} {k n m j : Nat} {ps : List Str} {wb : WS} {x : Str} {ddv : List D} (F : Fn K mg base P w T d k ps (fnW n ps.length wb)) (hd : d.dfl ≠ []) (hg : mg x = some (.ref (He.ga K x))) (hx : d.at_ = (x, none)) (hn : m + (d.dfl.length - j) = ps.length) (hf : ddv.map flat = ((d.dvs K).drop j).map some)
    (hb : ∀ (t : Addr) (kV doc pm : Value) (an : Option Addr) (cdv ct : Value) (us its : List Value), us.length = m → its.length = d.dfl.length →
      ∃ k, bindArgs (PySem.W.fnOf d.name d.qual d.params d.body d.scope (.ref t) kV doc pm an cdv ct) ⟨us, []⟩ = seqItems? (.ref t) >>= k ∧ k (some its.toArray) = pure (ps.zip (us ++ its.drop j))) :
    Cal P w K mg base T k x ddv (fnW n ps.length wb) := by
  obtain ⟨fd, F1, F2⟩ := F
  have e : He.fAd K d.at_ = He.ga K x := by rw [hx]; rfl
  have e2 : (d.dvs K).length = d.dfl.length := by unfold He.DefD.dvs; simp
  have e3 : d.dvs K ≠ [] := fun z => hd (by rw [z] at e2; exact List.eq_nil_of_length_eq_zero e2.symm)
  rw [e] at F1 F2
  obtain ⟨ds, h1, h2⟩ := FunD.binds1 (ps := ps) F1 m j e3 (by rw [e2]; exact hn) fun t kV doc pm an cdv ct us its h1 h2 => hb t kV doc pm an cdv ct us its h1 (h2.trans e2)
  exact ⟨_, fd, ps, ds, _, F2, hg, F1.kp, h2, h1, hf, fun ds μ Q E h => h.1⟩
end
end G2
end
section
set_option Elab.async false
set_option linter.all false
set_option maxRecDepth 100000
/-! short words for the printed derivations -/
namespace G2
open PySem PySem.Spec PyProof.Rows L2 LamX
open PySem.W (Frag)
section
variable {X : Cx} {T : List (Addr × Str)} {W : WX}
theorem dv (i : Nat) {x : Str} {pos : Pos} (hN : X.N[i]? = some x := by rfl) (hv : Vis X.env.scope x := by first | exact Or.inl rfl | exact Or.inr (Or.inl rfl) | exact Or.inr (Or.inr rfl)) (hd : (x == ("__debug__" : Str)) = false := by decide)
    (hcd : (x == ("__classdict__" : Str)) = false := by decide) : DE X T W (.Name x pos) (wVar i) := de_var hN hv hd hcd
def rNeg : D → Mu → KD → Prop := fun d μ Q => ∃ i : Int, d = .int i ∧ Q (.int (-i)) μ
theorem ud_neg : UnD X T (unaryOp .USub) rNeg := by
  intro pins s σ H x u Q' I rx ⟨Z, dx, μ, Q, m, r1, ⟨i, e, q⟩, k⟩
  subst e
  simp only [Rep] at r1
  exact un_neg pins s σ H x u Q' I rx ⟨i, r1, k _ _ _ _ Evo.refl m (by simp only [Rep]) q⟩
theorem units_of {k : Nat} (hr : RmG k X.A) : X.A.units + 64 < cLine := hr.r.units
/-- a name of the text, a whole number -/
theorem dgi {x : Str} {i : Int} {pos : Pos} (hg : Gl X x) (hm : ∃ u, X.mg x = some u ∧ RelV (.int i) u) (hd : (x == ("__debug__" : Str)) = false := by decide) : DE X T W (.Name x pos) (wC (.int i)) := de_glob hg hm rfl hd
theorem dty {x : Str} {n : String} {pos : Pos} (hg : Gl X x) (hm : X.mg x = none) (hv : bootBuiltins x = some (.type n)) (hn : x ≠ "__name__" := by decide) (hd : (x == ("__debug__" : Str)) = false := by decide) : DE X T W (.Name x pos) (wC (.ty n)) := de_blt (v := .ty n) hg hm hv rfl rfl hn hd
/-- a, b, c = x, y, z -/
def wPar3 (i j k : Nat) (wa wb wc : WE) : WS := fun D' ρ μ => wa ρ μ (fun d μ1 => wb ρ μ1 (fun d2 μ2 => wc ρ μ2 (fun d3 μ3 => D'.nx (((ρ.set i (some d)).set j (some d2)).set k (some d3)) μ3) D'.ex) D'.ex) D'.ex
theorem ds_par3 {i j k : Nat} {x y z : Str} {a b c : Expr} {wa wb wc : WE} {px py pz pt pos : Pos} {kt k2 : Nat} {pt2 : Pos} (hc : X.calm = true) (hN : X.N.Nodup) (hi : X.N[i]? = some x) (hj : X.N[j]? = some y) (hk : X.N[k]? = some z) (hij : i ≠ j) (hik : i ≠ k) (hjk : j ≠ k)
    (hx : X.env.scope.names.lookup x = some .local) (hy : X.env.scope.names.lookup y = some .local) (hz : X.env.scope.names.lookup z = some .local) (ha : DE X T W a wa) (hb : DE X T W b wb) (hcc : DE X T W c wc)
    (hw : swappedStores [.Tuple [.Name x px, .Name y py, .Name z pz] kt pt] (.Tuple [a, b, c] k2 pt2) X.env = pure (some [x, y, z]))
    (hs : swapsWithSole [.Tuple [.Name x px, .Name y py, .Name z pz] kt pt] (.Tuple [a, b, c] k2 pt2) pos.line X.env = pure false := by rfl)
    (h1 : starEach [a, b, c] X.env = (false, eval a X.env) :: starEach [b, c] X.env := by rfl) (h2 : starEach [b, c] X.env = (false, eval b X.env) :: starEach [c] X.env := by rfl) (h3 : starEach [c] X.env = (false, eval c X.env) :: starEach [] X.env := by rfl) :
    DS X T W (.Assign [.Tuple [.Name x px, .Name y py, .Name z pz] kt pt] (.Tuple [a, b, c] k2 pt2) pos) (wPar3 i j k wa wb wc) := by
  refine ps_imp (ps_par3 hc hN hi hj hk hij hik hjk hx hy hz (pa_cons ha (pa_cons hb (pa_cons hcc pa_nil h3) h2) h1) hw hs) ?_
  rintro De σ H ⟨Z, ρ, μ, D', bb, l, q⟩
  refine ⟨Z, ρ, μ, _, D'.ex, bb, l.ex σ, q, fun v H1 d μ1 e1 m1 r1 q1 => ⟨Z, ρ, μ1, _, D'.ex, bb.step e1 m1, (l.ex σ).step e1, q1, fun v2 H2 d2 μ2 e2 m2 r2 q2 => ⟨Z, ρ, μ2, _, D'.ex, bb.step (e1.trans e2) m2, (l.ex σ).step (e1.trans e2), q2, fun v3 H3 d3 μ3 e3 m3 r3 q3 => ⟨v, v2, v3, rfl, ?_⟩⟩⟩⟩
  have e0 := (e1.trans e2).trans e3
  exact l.nx _ _ _ _ e0 (bear_set (bear_set (bear_set (bb.step e0 m3) (r1.step (e2.trans e3) d v) i) (r2.step e3 d2 v2) j) r3 k) q3
end
end G2
end
section
set_option Elab.async false
set_option linter.all false
set_option maxRecDepth 100000
set_option maxHeartbeats 2000000
/-! own exceptions and lambdas by the text's facts -/
namespace G2
open PySem PySem.Spec PyProof.Rows L2 LamX
open PySem.W (Frag)
def okInt (d : D) : Prop := ∃ i : Int, d = .int i ∧ i.natAbs.log2 < 1920
/-- the text f"{f!r}t" somewhere -/
def ReprTxt (f : Str) (ex : Expr) : Prop := ∃ (t : Str) (p1 p2 p3 p4 : Pos) (j : Nat), ex = .JoinedStr [.FormattedValue (.Name f p1) 114 none p2, .Constant (.str t) j p3] p4 ∧ t.length ≤ 1000
section
variable {X : Cx} {T : List (Addr × Str)} {W : WX}
theorem raise_int {x f : Str} {C fI : Addr} {B newId initId : String} {bm : List Value} {ex : Expr} {qual : Str} {nl : List (Str × NameKind)} {a : Expr} {wa : WE} {p pos pos2 : Pos} {k : Nat} (TX : XTxt X.prog X.K B newId initId bm C fI f ex qual nl) (hex : ReprTxt f ex) (gC : X.mg x = some (.ref C)) (eC : C = He.ga X.K x)
    (hc : X.calm = true) (tk : Takes X W) (hr : RmG k X.A) (ha : DE X T W a wa) (hg : Gl X x) (hdb : (x == ("__debug__" : Str)) = false := by decide)
    (he : starEach (a :: []) X.env = (false, eval a X.env) :: starEach [] X.env := by rfl) (hpl : (backTo pos (starEach [] X.env)).any (·.1) = false := by rfl) :
    DS X T W (.Raise (some (.Call (.Name x p) [a] [] pos)) none pos2) (wRaiseX x f okInt wa) := by
  refine ds_raiseX (okv := fun v => ∃ i : Int, v = .int i ∧ i.natAbs.log2 < 1920) hc tk TX gC eC ?_ ?_ hr ha hg hdb he hpl
  · rintro Z μ H d v ⟨i, rfl, hi⟩ r
    simp only [Rep] at r
    exact ⟨i, r, hi⟩
  · rintro v ⟨i, rfl, hi⟩ u ⟨tk, rfl⟩ A env hs
    obtain ⟨t, p1, p2, p3, p4, j, rfl, ht⟩ := hex
    exact ev_repr_int TX.hkf TX.fdeb hi ht A env hs
end
theorem lb0 {params : Arguments} {body : Expr} {scope : Scope} (hk : params.kw_defaults = []) (hd : params.defaults = [])
    (h : ∀ (q : Str) (cl : List (Str × Addr)) (doc pm cv ctv : Value), bindArgs (PySem.W.kdv_fn "<lambda>" q params (.expr body) scope cl .none doc pm cv ctv) ⟨[], []⟩ = pure []) : LBind params body scope [] [] :=
  ⟨⟨hk, .inl ⟨hd, rfl⟩⟩, fun _ => h, fun z => absurd rfl z⟩
theorem lb1 {params : Arguments} {body : Expr} {scope : Scope} {x : Str} {z : Int} {j : Nat} {p : Pos} (hk : params.kw_defaults = []) (hd : params.defaults = [.Constant (.int z) j p])
    (h : ∀ (q : Str) (cl : List (Str × Addr)) (t : Addr) (doc pm cv ctv : Value) (us : List Value), us.length = [z].length → ∃ k, bindArgs (PySem.W.kdv_fn "<lambda>" q params (.expr body) scope cl (.ref t) doc pm cv ctv) ⟨[], []⟩ = seqItems? (.ref t) >>= k ∧ k (some us.toArray) = pure ([x].zip us)) : LBind params body scope [x] [z] :=
  ⟨⟨hk, .inr ⟨z, j, p, hd, rfl⟩⟩, (fun z => nomatch z), fun _ => h⟩
def lamPB (N : List Str) (sc scope : Scope) (bs : List Str) : Bool :=
  decide (scope.kind = .function) && !scope.isCoroutine && !scope.isGenerator && (scope.names.all fun y => !decide (y.2 = .cell) && (!decide (y.2 = .local) || !decide (y.1 ∈ N)) && (!decide (y.2 = .free) || decide (sc.names.lookup y.1 = some .cell) || decide (sc.names.lookup y.1 = some .free))) && bs.all fun y => decide (scope.names.lookup y = some .local)
theorem lamP_by {N : List Str} {sc scope : Scope} {bs : List Str} (h : lamPB N sc scope bs = true) : LamP N sc scope bs := by
  unfold lamPB at h
  simp only [Bool.and_eq_true, Bool.or_eq_true, Bool.not_eq_true', decide_eq_true_eq, decide_eq_false_iff_not, List.all_eq_true] at h
  obtain ⟨⟨⟨⟨h1, h2⟩, h3⟩, h4⟩, h5⟩ := h
  refine ⟨h1, h2, h3, fun y hy => (h4 y hy).1.1, fun y hy e => ?_, fun y hy e => ?_, h5⟩
  · rcases (h4 y hy).1.2 with z | z
    · exact absurd e z
    · exact z
  · rcases (h4 y hy).2 with (z | z) | z
    · exact absurd e z
    · exact .inl z
    · exact .inr z
end G2
end
section
set_option Elab.async false
set_option linter.all false
set_option maxRecDepth 100000
set_option maxHeartbeats 2000000
/-! the head's Hook: the text's facts, an own exception's, the tables -/
namespace G2
open PySem PySem.Spec PyProof.Rows L2 LamX
open PySem.W (Frag)
open He (ga ma fAd cT tabsB emptyTab frT growD eqO eqO_ok ba DefD SaysD obsD valD AlD)
def asM (g : Addr → Option Obj) : Nat → List Addr
  | 0 => [mainGlobals, cStatics]
  | n + 1 => growD g (asM g n)
/-- the __init__ of the class x, as written -/
abbrev InitD : Type := Option (Str × Str × Arguments × FuncBody × Scope × Addr × List Str × Addr)
def initD (x : Str) (K : Frag) : InitD := match K.lookup (ma K (ga K x) "__init__") with
  | some ⟨_, _, .func fd, _⟩ => some (fd.name, fd.qualname, fd.params, fd.body, fd.scope, fd.globals, fd.closure.map (·.1), fd.builtins)
  | _ => none
/-- a class over the built-in B: the object -/
def clsB (K : Frag) (C : Addr) (bm : List Value) (newId : String) : Bool := match K.lookup C with
  | some ⟨.type t, _, .cls cd, sl⟩ => decide (t = "type") && (decide (cd.mro = .ref C :: bm) && (cd.hasDict && (!cd.hasDel && (match sl with
    | ⟨[_, _, _, _, some (.builtin n), _]⟩ => decide (n = newId)
    | _ => false))))
  | _ => false
theorem clsB_ok {K : Frag} {C : Addr} {bm : List Value} {newId : String} (h : clsB K C bm newId = true) : ∃ nm q N bs sn sub ab col dd k0 k1 k2 k3 k5, K.lookup C = some (excClassObj nm q C N bs bm true sn sub ab col dd k0 k1 k2 k3 k5 newId) := by
  unfold clsB at h
  split at h
  · rename_i t dd cd sl ho
    obtain ⟨h1, h2⟩ := ba h
    obtain ⟨h3, h4⟩ := ba h2
    obtain ⟨h5, h6⟩ := ba h4
    obtain ⟨h7, h8⟩ := ba h6
    clear h h2 h4 h6
    have e1 := of_decide_eq_true h1
    have e2 := of_decide_eq_true h3
    obtain ⟨nm, bs, mro, ns, qn, hd, sn, sub, ab, col, del⟩ := cd
    dsimp only at h5 h7 e2
    have e4 : del = false := by simpa using h7
    subst e1 e2 h5 e4
    obtain ⟨l⟩ := sl
    match l, h8, ho with
    | [k0, k1, k2, k3, some (.builtin n), k5], h8, ho =>
      have e5 : n = newId := of_decide_eq_true h8
      subst e5
      exact ⟨nm, qn, ns, bs, sn, sub, ab, col, dd, k0, k1, k2, k3, k5, ho⟩
  · cases h
/-- the __init__'s object: no defaults, its cell holds the class, its code's file -/
def initB (K : Frag) (C fI : Addr) (qual file : Str) : Bool := match K.lookup fI with
  | some ⟨_, _, .func fd, _⟩ => (match fd.defaults, fd.kwdefaults with
    | .none, .none => true
    | _, _ => false) && (PySem.W.codeIn K fd.code qual && ((match fd.closure with
    | [(_, cc)] => (match K.lookup cc with
      | some ⟨_, _, .cell (some (.ref D)), _⟩ => decide (D = C)
      | _ => false)
    | _ => false) && (match fd.code with
    | .ref cda => (match K.lookup cda with
      | some ⟨_, _, .fields vs, _⟩ => (match (vs[2]? : Option Value) with
        | some (.str f _) => decide (f = file)
        | _ => false)
      | _ => false)
    | _ => false)))
  | _ => false
/-- all of an own exception x over B with the field f -/
def xcB (file : Str) (x f : Str) (bm : List Value) (B newId initId : String) (qual : Str) (K : Frag) : Bool :=
  clsB K (ga K x) bm newId && (eqO (PySem.W.findIn K (.ref (ga K x)) "__setattr__") (some (some (.builtin "object.__setattr__"))) && (eqO (PySem.W.findIn K (.ref (ga K x)) f) (some none) &&
  (eqO (PySem.W.findIn K (.ref (ga K x)) "__init__") (some (some (.ref (ma K (ga K x) "__init__")))) && (decide (PySem.W.typeIn K (.ref (ma K (ga K x) "__init__")) = some (.type "function")) && (PySem.W.keepIn K (.ref (ga K x)) &&
  (decide (PySem.W.subIn K (.ref (ga K x)) (.type "BaseException") = some true) && (decide (PySem.W.subIn K (.ref (ga K x)) (.type B) = some true) && (decide (PySem.W.mroIn K (ga K x) (.ref (ga K x)) = some true) && (decide (PySem.W.typeIn K (.ref (ga K x)) = some (.type "type")) &&
  (eqO (PySem.W.ks_superIn K (ga K x) (ga K x) "__init__") (some (some (.builtin initId))) && (eqO (PySem.W.nsIn K cStatics "thirdparty.any") (some none) && (eqO (PySem.W.nsIn K mainGlobals "super") (some none) && (initB K (ga K x) (ma K (ga K x) "__init__") qual file &&
  (eqO (PySem.W.findIn K (.ref (ga K x)) "__getattribute__") (some (some (.builtin "BaseException.__getattribute__"))) && (eqO (PySem.W.findIn K (.ref (ga K x)) "__getattr__") (some none) && (PySem.W.hasDictIn K (ga K x) && decide (PySem.W.exmOne K (.ref (ga K x)) (.ref (ga K x)) = some true)))))))))))))))))
/-- what of the text of __init__ is the same for all -/
structure InitT (f : Str) (ex : Expr) (nl : List (Str × NameKind)) (params : Arguments) (body : FuncBody) (qual : Str) : Prop where
  pos : ∃ p1 p2 q1 q2 q3 q4 q5 q6 q7 q8 q9, params = xPar f p1 p2 ∧ body = .stmts (xBody f ex q1 q2 q3 q4 q5 q6 q7 q8 q9) ∧
    (∀ (doc pm : Value) (an : Option Addr) (cda : Addr) (ct : Value) (cc : Addr) (a b : Value), bindArgs (PySem.W.ksFn "__init__" qual (xPar f p1 p2) (xBody f ex q1 q2 q3 q4 q5 q6 q7 q8 q9) (xSc nl) .none .none doc pm an (.ref cda) ct cc) ⟨[a, b], []⟩ = pure [(("self" : Str), a), (f, b)]) ∧
    (∀ env : Env, (∃ pl : Sem Bool, eval (.Call (.Attribute (.Call (.Name "super" q1) [] [] q2) "__init__" q3) [ex] [] q4) env = (do
      let ov ← attributeBase (.Call (.Name "super" q1) [] [] q2) "__init__" env (eval (.Call (.Name "super" q1) [] [] q2) env)
      standAt q3.atName
      let (g, first) ← holding [ov] (getMethod ov "__init__" pl)
      callWith q4 g first (backTo q4 (starEach [ex] env)) [])) ∧ starEach [ex] env = [(false, eval ex env)])
  hks : nl.lookup ("super" : Str) = some .globalImplicit
  hkc : nl.lookup ("__class__" : Str) = some .free
  hkx : nl.lookup ("self" : Str) = some .local
  hkf : nl.lookup f = some .local
  hno : ∀ x ∈ nl, x.2 ≠ .cell
  fself : (f == ("self" : Str)) = false
  fdeb : (f == ("__debug__" : Str)) = false
theorem xtxt_of {P : Program} {K : Frag} {x f : Str} {bm : List Value} {B newId initId : String} {qual : Str} {ex : Expr} {nl : List (Str × NameKind)} {params : Arguments} {body : FuncBody} (h : xcB P.main.file x f bm B newId initId qual K = true) (hi : initD x K = some (("__init__" : Str), qual, params, body, xSc nl, mainGlobals, [("__class__" : Str)], builtinsNs))
    (I : InitT f ex nl params body qual) (base : ExcBaseFacts B newId initId bm) (kx : PySem.W.KxsFacts B initId) (pass : ∀ self : Value, refuseLoop self "__setattr__" bm = pure ()) (ob : bm.contains (.type "object") = true) (top : (P.main.scope.names.lookup ("super" : Str)).isSome = false) :
    XTxt P K B newId initId bm (ga K x) (ma K (ga K x) "__init__") f ex qual nl ∧ XGet K (ga K x) f := by
  unfold xcB at h
  obtain ⟨h1, h⟩ := ba h
  obtain ⟨h2, h⟩ := ba h
  obtain ⟨h3, h⟩ := ba h
  obtain ⟨h4, h⟩ := ba h
  obtain ⟨h5, h⟩ := ba h
  obtain ⟨h6, h⟩ := ba h
  obtain ⟨h7, h⟩ := ba h
  obtain ⟨h8, h⟩ := ba h
  obtain ⟨h9, h⟩ := ba h
  obtain ⟨h10, h⟩ := ba h
  obtain ⟨h11, h⟩ := ba h
  obtain ⟨h12, h⟩ := ba h
  obtain ⟨h13, h⟩ := ba h
  obtain ⟨h14, h⟩ := ba h
  obtain ⟨h15, h⟩ := ba h
  obtain ⟨h16, h⟩ := ba h
  obtain ⟨h17, h18⟩ := ba h
  refine ⟨⟨base, kx, pass, ob, clsB_ok h1, eqO_ok h2, eqO_ok h3, eqO_ok h4, of_decide_eq_true h5, h6, of_decide_eq_true h7, of_decide_eq_true h8, of_decide_eq_true h9, of_decide_eq_true h10, eqO_ok h11, eqO_ok h12, eqO_ok h13, top, PyProof.Rows.Boot.«super», I.hks, I.hkc, I.hkx, I.hkf, I.hno, I.fself, I.fdeb, ?_⟩,
    ⟨eqO_ok h15, eqO_ok h16, of_decide_eq_true h7, h17, eqO_ok h3, of_decide_eq_true h18⟩⟩
  obtain ⟨p1, p2, q1, q2, q3, q4, q5, q6, q7, q8, q9, rfl, rfl, hb, he⟩ := I.pos
  unfold initD at hi
  unfold initB at h14
  generalize ma K (ga K x) "__init__" = fI at *
  cases lk : K.lookup fI with
  | none => rw [lk] at hi; cases hi
  | some o =>
    obtain ⟨oc, od, dt, osl⟩ := o
    rw [lk] at hi h14
    cases dt with
    | func fd =>
      dsimp only at hi h14
      obtain ⟨name, qn, prm, bd, scp, gl, clo, dfs, kwd, doc, pm, an, cdv, ct, bl⟩ := fd
      dsimp only at hi h14
      simp only [Option.some.injEq, Prod.mk.injEq] at hi
      obtain ⟨rfl, rfl, rfl, rfl, rfl, rfl, hcl, rfl⟩ := hi
      obtain ⟨g1, ga1⟩ := ba h14
      obtain ⟨g2, ga2⟩ := ba ga1
      obtain ⟨g3, g4⟩ := ba ga2
      clear h14 ga1 ga2
      obtain ⟨cda, ec⟩ := He.codeIn_ref g2
      subst ec
      have hd0 : dfs = .none ∧ kwd = .none := by
        split at g1
        · exact ⟨rfl, rfl⟩
        · cases g1
      obtain ⟨ed, ek⟩ := hd0
      subst ed ek
      match clo, hcl, g3, lk with
      | [(n, cc)], hcl, g3, lk =>
        simp only [List.map_cons, List.map_nil, List.cons.injEq, and_true] at hcl
        subst hcl
        have g3' : (match K.lookup cc with
          | some ⟨_, _, .cell (some (.ref D)), _⟩ => decide (D = ga K x)
          | _ => false) = true := g3
        have g4' : (match K.lookup cda with
          | some ⟨_, _, .fields vs, _⟩ => (match (vs[2]? : Option Value) with
            | some (.str f _) => decide (f = P.main.file)
            | _ => false)
          | _ => false) = true := g4
        have k1 : ∃ cl cld csl, K.lookup cc = some ⟨cl, cld, .cell (some (.ref (ga K x))), csl⟩ := by
          split at g3'
          · rename_i D _ hcell
            rw [← of_decide_eq_true g3']
            exact ⟨_, _, _, hcell⟩
          · cases g3'
        have k2 : ∃ ccl cdd vs ccs tf, K.lookup cda = some ⟨ccl, cdd, .fields vs, ccs⟩ ∧ vs[2]? = some (.str P.main.file tf) := by
          split at g4'
          · rename_i vs _ hcode
            split at g4'
            · rename_i hfl
              have ef := of_decide_eq_true g4'
              exact ⟨_, _, vs, _, _, hcode, by rw [hfl, ef]⟩
            · cases g4'
          · cases g4'
        obtain ⟨cl, cld, csl, hcell⟩ := k1
        obtain ⟨ccl, cdd, vs, ccs, tf, hcode, hfl⟩ := k2
        exact ⟨oc, doc, pm, .none, ct, ccl, cl, od, cdd, cld, an, osl, ccs, csl, cda, cc, vs, P.main.file, tf, p1, p2, q1, q2, q3, q4, q5, q6, q7, q8, q9, rfl, g2, hcode, hfl, beq_self_eq_true _, hcell, fun a b => hb doc pm an cda ct cc a b, he⟩
    | _ => cases hi
/-! ### the Hook -/
structure SaysM (fa : List He.Fa) (fn : List DefD) (tf : List He.Defn) (xs : Frag → Bool) {β : Type} (iw : Frag → β) (v : β) (h : Heap) (K : Frag) : Prop where
  c : SaysD fa fn K
  more : xs K = true
  iw : iw K = v
  hd : ∀ p ∈ tf, PySem.W.codeHdIn K (cT K p).1 (cT K p).2 = true
  out : ∀ p ∈ tf, K.lookup (cT K p).2 = none
  empty : ∀ p ∈ tf, h.get? (cT K p).2 = some { cls := .none, data := .fields #[] }
def obsM {β : Type} (n : Nat) (fa : List He.Fa) (fn : List DefD) (tf : List He.Defn) (xs : Frag → Bool) (iw : Frag → β) (g : Addr → Option Obj) : AlD × Bool × β :=
  (obsD fa fn (frT g (asM g n)), xs (frT g (asM g n)) && tabsB g tf (frT g (asM g n)), iw (frT g (asM g n)))
theorem saysM_of {β : Type} {n : Nat} {fa : List He.Fa} {fn : List DefD} {tf : List He.Defn} {xs : Frag → Bool} {iw : Frag → β} {v : β} {h : Heap} (e : obsM n fa fn tf xs iw h.get? = (valD fn, true, v)) : SaysM fa fn tf xs iw v h (frT h.get? (asM h.get? n)) := by
  have e1 : obsD fa fn (frT h.get? (asM h.get? n)) = valD fn := congrArg (fun z : AlD × Bool × β => z.1) e
  have e2 : (xs (frT h.get? (asM h.get? n)) && tabsB h.get? tf (frT h.get? (asM h.get? n))) = true := congrArg (fun z : AlD × Bool × β => z.2.1) e
  have e3 : iw (frT h.get? (asM h.get? n)) = v := congrArg (fun z : AlD × Bool × β => z.2.2) e
  obtain ⟨h1, h2⟩ := ba e2
  have key : ∀ p ∈ tf, PySem.W.codeHdIn (frT h.get? (asM h.get? n)) (cT (frT h.get? (asM h.get? n)) p).1 (cT (frT h.get? (asM h.get? n)) p).2 = true ∧ ∃ o, h.get? (cT (frT h.get? (asM h.get? n)) p).2 = some o ∧ emptyTab o = true := fun p hp => by
    obtain ⟨h3, h4⟩ := ba (List.all_eq_true.mp h2 p hp)
    refine ⟨h3, ?_⟩
    cases q : h.get? (cT (frT h.get? (asM h.get? n)) p).2 with
    | none =>
      rw [q] at h4
      cases h4
    | some o =>
      rw [q] at h4
      exact ⟨o, rfl, h4⟩
  exact ⟨e1, h1, e3, fun p hp => (key p hp).1, fun p hp => let ⟨_, o, q, z⟩ := key p hp; He.frT_none q z, fun p hp => by
    obtain ⟨_, o, q, z⟩ := key p hp
    rw [q, He.emptyTab_eq z]⟩
def hookM {β : Type} (n : Nat) (fa : List He.Fa) (fn : List DefD) (tf : List He.Defn) (xs : Frag → Bool) (iw : Frag → β) (v : β) : PySem.W.Hook where
  α := AlD × Bool × β
  obs := fun s => obsM n fa fn tf xs iw s.heap.get?
  val := fun _ => (valD fn, true, v)
  says := fun _ h => ∃ K : Frag, K.In h ∧ SaysM fa fn tf xs iw v h K
  of := fun _ _ e => ⟨_, He.frT_in, saysM_of e⟩
  keeps := fun _ _ _ ⟨K, hK, c⟩ k => ⟨K, PySem.W.Frag.In.keeps hK k, ⟨c.c, c.more, c.iw, c.hd, c.out, fun p hp => k _ _ (c.empty p hp)⟩⟩
theorem obsM_eq {β : Type} {n : Nat} {fa : List He.Fa} {fn : List DefD} {tf : List He.Defn} {xs : Frag → Bool} {iw : Frag → β} {v : β} {g : Addr → Option Obj} {s : Shared} (h : ∀ a, g a = s.heap.get? a) : obsM n fa fn tf xs iw g = (hookM n fa fn tf xs iw v).obs s := by
  have e : g = s.heap.get? := funext h
  rw [e] <;> rfl
end G2
end
section
set_option Elab.async false
set_option linter.all false
set_option maxRecDepth 100000
/-! the readings unfolded by simp; loops and comprehensions -/
namespace G2
open PySem PySem.Spec PyProof.Rows L2
section
variable {ρ : Ro} {μ : Mu} {Q : KD} {E : KX} {w wa wb wc : WE} {ws : WA} {t u : WTt} {r r' : RD} {d d2 : D} {ds : List D} {i j k : Nat} {s1 s2 : WS} {De : DEnds} {g : WG} {gs : WGs}
@[simp] theorem e_var : wVar i ρ μ Q E = ∃ d, ρ[i]? = some (some d) ∧ Q d μ := rfl
@[simp] theorem e_c : wC d ρ μ Q E = Q d μ := rfl
@[simp] theorem e_op : wOp r wa wb ρ μ Q E = wa ρ μ (fun d1 μ1 => wb ρ μ1 (fun d2 μ2 => r d1 d2 μ2 Q) E) E := rfl
@[simp] theorem e_test {K : Bool → Mu → Prop} : wTest w ρ μ K E = w ρ μ (fun d μ' => ∃ k, d = .bl k ∧ K k μ') E := rfl
@[simp] theorem e_un {f : D → Mu → KD → Prop} : wUn f wa ρ μ Q E = wa ρ μ (fun d μ1 => f d μ1 Q) E := rfl
@[simp] theorem e_chain : wChain r r' wa wb wc ρ μ Q E = wa ρ μ (fun d1 μ1 => wb ρ μ1 (fun d2 μ2 => r d1 d2 μ2 fun z μ3 => ∃ k, z = .bl k ∧ if k = true then wc ρ μ3 (fun d3 μ4 => r' d2 d3 μ4 Q) E else Q (.bl false) μ3) E) E := rfl
@[simp] theorem e_and {K : Bool → Mu → Prop} : wAnd t u ρ μ K E = t ρ μ (fun c μ1 => if c = true then u ρ μ1 K E else K false μ1) E := rfl
@[simp] theorem e_or {K : Bool → Mu → Prop} : wOr t u ρ μ K E = t ρ μ (fun c μ1 => if c = true then K true μ1 else u ρ μ1 K E) E := rfl
@[simp] theorem e_not {K : Bool → Mu → Prop} : wNot t ρ μ K E = t ρ μ (fun c μ1 => K (!c) μ1) E := rfl
@[simp] theorem e_andV : wAndV wa wb ρ μ Q E = wa ρ μ (fun d μ1 => ∃ c, d = .bl c ∧ if c = true then wb ρ μ1 Q E else Q (.bl false) μ1) E := rfl
@[simp] theorem e_orV : wOrV wa wb ρ μ Q E = wa ρ μ (fun d μ1 => ∃ c, d = .bl c ∧ if c = true then Q (.bl true) μ1 else wb ρ μ1 Q E) E := rfl
@[simp] theorem e_notV : wNotV wa ρ μ Q E = wa ρ μ (fun d μ1 => ∃ c, d = .bl c ∧ Q (.bl (!c)) μ1) E := rfl
@[simp] theorem e_ifE : wIfE t wa wb ρ μ Q E = t ρ μ (fun c μ1 => if c = true then wa ρ μ1 Q E else wb ρ μ1 Q E) E := rfl
@[simp] theorem e_nil {K : List D → Mu → Prop} : wNil ρ μ K E = K [] μ := rfl
@[simp] theorem e_cons {K : List D → Mu → Prop} : wCons w ws ρ μ K E = w ρ μ (fun d μ1 => ws ρ μ1 (fun ds μ2 => K (d :: ds) μ2) E) E := rfl
@[simp] theorem e_tup : wTup ws ρ μ Q E = ws ρ μ (fun ds μ1 => ds.length ≤ 16777216 ∧ Q (.tup ds) μ1) E := rfl
@[simp] theorem e_lst : wLst ws ρ μ Q E = ws ρ μ (fun ds μ1 => ds.length ≤ 16777216 ∧ Q (.lst ds) μ1) E := rfl
@[simp] theorem e_lstM : wLstM ws ρ μ Q E = ws ρ μ (fun ds μ1 => ds.length ≤ 16777216 ∧ ∀ p, μ1 p = none → Q (.ref p) (setM μ1 p ds)) E := rfl
@[simp] theorem e_call {f : RC} : wCall f ws ρ μ Q E = ws ρ μ (fun ds μ1 => f ds μ1 Q) E := rfl
@[simp] theorem e_fn {f : WFn} {ddv : List D} : wFn f ddv ws ρ μ Q E = ws ρ μ (fun ds μ1 => f (ds ++ ddv) μ1 Q E) E := rfl
@[simp] theorem e_fnW {n p : Nat} : fnW n p s1 ds μ Q E = (ds.length = p ∧ s1 { nx := fun _ μ' => Q .non μ', rt := Q, ex := E } (startD n ds) μ) := rfl
@[simp] theorem e_mth {f : RM} : wMth f w ws ρ μ Q E = w ρ μ (fun d μ1 => (∃ a, d = .ref a ∧ (μ1 a).isSome = true) ∧ ws ρ μ1 (fun ds μ2 => f d ds μ2 Q) E) E := rfl
@[simp] theorem e_next : wNext De ρ μ = De.nx ρ μ := rfl
@[simp] theorem e_seq : wSeq s1 s2 De ρ μ = s1 { De with nx := s2 De } ρ μ := rfl
@[simp] theorem e_expr : wExpr w De ρ μ = w ρ μ (fun _ μ1 => De.nx ρ μ1) De.ex := rfl
@[simp] theorem e_ret : wRet w De ρ μ = w ρ μ De.rt De.ex := rfl
@[simp] theorem e_if : wIf t s1 s2 De ρ μ = t ρ μ (fun c μ1 => if c = true then s1 De ρ μ1 else s2 De ρ μ1) De.ex := rfl
@[simp] theorem e_asg : wAsg w g De ρ μ = w ρ μ (fun d μ1 => g d ρ μ1 De.nx) De.ex := rfl
@[simp] theorem e_gN {K : Ro → Mu → Prop} : gN i d ρ μ K = K (ρ.set i (some d)) μ := rfl
@[simp] theorem e_gsN {K : Ro → Mu → Prop} : gsN ds ρ μ K = (ds = [] ∧ K ρ μ) := rfl
@[simp] theorem e_gsC {K : Ro → Mu → Prop} : gsC g gs (d :: ds) ρ μ K = g d ρ μ (fun ρ1 μ1 => gs ds ρ1 μ1 K) := rfl
@[simp] theorem e_gT {n : Nat} {K : Ro → Mu → Prop} : gT n gs d ρ μ K = ∃ xs, seqOf μ d = some xs ∧ xs.length = n ∧ gs xs ρ μ K := rfl
@[simp] theorem e_par : wPar i j wa wb De ρ μ = wa ρ μ (fun d μ1 => wb ρ μ1 (fun d2 μ2 => De.nx ((ρ.set i (some d)).set j (some d2)) μ2) De.ex) De.ex := rfl
@[simp] theorem e_par3 : wPar3 i j k wa wb wc De ρ μ = wa ρ μ (fun d μ1 => wb ρ μ1 (fun d2 μ2 => wc ρ μ2 (fun d3 μ3 => De.nx (((ρ.set i (some d)).set j (some d2)).set k (some d3)) μ3) De.ex) De.ex) De.ex := rfl
@[simp] theorem e_raiseX {x f : Str} {ok : D → Prop} : wRaiseX x f ok wa De ρ μ = wa ρ μ (fun d μ1 => ok d ∧ De.ex ⟨x, [f], [d]⟩ μ1) De.ex := rfl
@[simp] theorem e_never : wNever De ρ μ = False := rfl
@[simp] theorem e_frz : wFrz w ρ μ Q E = w ρ μ (fun d μ1 => match d with
  | .ref a => ∃ xs, μ1 a = some xs ∧ Q (.lst xs) (delM μ1 a)
  | _ => False) E := rfl
@[simp] theorem e_setIx {we wo wi : WE} : wSetIx we wo wi De ρ μ = we ρ μ (fun v μ1 => wo ρ μ1 (fun x μ2 => wi ρ μ2 (fun y μ3 => ∃ a xs k j, x = .ref a ∧ μ3 a = some xs ∧ y = .int k ∧ ixN xs.length k = some j ∧ De.nx ρ (setM μ3 a (xs.set j v))) De.ex) De.ex) De.ex := rfl
@[simp] theorem e_for {wi : WI} : wFor wi g s1 De ρ μ = wi ρ μ (fun items μ1 => forW g s1 items De ρ μ1) De.ex := rfl
@[simp] theorem e_while : wWhile t s1 De ρ μ = ∃ n, whW t s1 n De ρ μ := rfl
@[simp] theorem e_iSeq {K : List D → Mu → Prop} : iSeq w ρ μ K E = w ρ μ (fun d μ1 => ∃ xs, stS d = some xs ∧ K xs μ1) E := rfl
@[simp] theorem e_iRg1 {K : List D → Mu → Prop} : iRg1 w ρ μ K E = w ρ μ (fun d μ1 => ∃ j : Int, d = .int j ∧ -(2 ^ 62) ≤ j ∧ j < 2 ^ 62 ∧ K ((List.range j.toNat).map fun i => .int (0 + (i : Nat))) μ1) E := rfl
@[simp] theorem e_iEnum {K : List D → Mu → Prop} : iEnumW w ρ μ K E = w ρ μ (fun d μ1 => ∃ xs, stL d = some xs ∧ K (enumD 0 xs) μ1) E := rfl
@[simp] theorem e_iZip {K : List D → Mu → Prop} : iZipW wa wb ρ μ K E = wa ρ μ (fun d μ1 => wb ρ μ1 (fun d2 μ2 => match d, d2 with
  | .tup xs, .tup ys => K (zipD xs ys) μ2
  | d, d2 => ∃ xs ys, stL d = some xs ∧ stL d2 = some ys ∧ K (zipD xs ys) μ2) E) E := rfl
@[simp] theorem e_lc {wi : WI} {own : List Nat} : wLc wi g t w own ρ μ Q E = wi ρ μ (fun items μ1 => items.length ≤ 16777216 ∧ lcW g t w own items [] ρ μ1 (fun ds μ2 => Q (.lst ds) μ2)) E := rfl
@[simp] theorem e_lcM {wi : WI} {own : List Nat} : wLcM wi g t w own ρ μ Q E = wi ρ μ (fun items μ1 => items.length ≤ 16777216 ∧ lcW g t w own items [] ρ μ1 (fun ds μ2 => ∀ p, μ2 p = none → Q (.ref p) (setM μ2 p ds))) E := rfl
@[simp] theorem e_lstRg {wr : WR} : wLstRg wr ρ μ Q E = wr ρ μ (fun i j μ1 => RgB i j ∧ Q (.lst (rgD i j)) μ1) E := rfl
@[simp] theorem e_lstRgM {wr : WR} : wLstRgM wr ρ μ Q E = wr ρ μ (fun i j μ1 => RgB i j ∧ ∀ p, μ1 p = none → Q (.ref p) (setM μ1 p (rgD i j))) E := rfl
@[simp] theorem e_rg1 {K : Int → Int → Mu → Prop} : wRg1 wa ρ μ K E = wa ρ μ (fun d μ1 => ∃ n, d = .int n ∧ K 0 n μ1) E := rfl
@[simp] theorem e_no {K : Option Int → Mu → Prop} : wNo ρ μ K E = K none μ := rfl
@[simp] theorem e_part {K : Option Int → Mu → Prop} : wPart w ρ μ K E = w ρ μ (fun d μ1 => ∃ i, d = .int i ∧ K (some i) μ1) E := rfl
@[simp] theorem e_sl {we : WE} {wl wu : WO} : wSl we wl wu ρ μ Q E = we ρ μ (fun d μ1 => wl ρ μ1 (fun l μ2 => wu ρ μ2 (fun u μ3 => rSl d l u μ3 Q) E) E) E := rfl
@[simp] theorem e_met {cn f tag : Str} : wMet cn f tag wb ρ μ Q E = wb ρ μ (fun _ μ' => Q .non μ') (fun x μ' => ∃ d, x = ⟨cn, [f], [d]⟩ ∧ Q (.tup [.str tag, d]) μ') := rfl
@[simp] theorem e_startD {n : Nat} : startD n ds = ds.map some ++ List.replicate (n - ds.length) none := rfl
@[simp] theorem e_sub {x y : Int} : rSub (.int x) (.int y) μ Q = Q (.int (x - y)) μ := by simp [rSub, rInt2]
@[simp] theorem e_lt {x y : Int} : rLt (.int x) (.int y) μ Q = Q (.bl (decide (x < y))) μ := by simp [rLt, rInt2]
@[simp] theorem e_le {x y : Int} : rLe (.int x) (.int y) μ Q = Q (.bl (decide (x ≤ y))) μ := by simp [rLe, rInt2]
@[simp] theorem e_gt {x y : Int} : rGt (.int x) (.int y) μ Q = Q (.bl (decide (y < x))) μ := by simp [rGt, rInt2]
@[simp] theorem e_ge {x y : Int} : rGe (.int x) (.int y) μ Q = Q (.bl (decide (y ≤ x))) μ := by simp [rGe, rInt2]
@[simp] theorem e_add {x y : Int} : rAdd (.int x) (.int y) μ Q = Q (.int (x + y)) μ := rfl
@[simp] theorem e_addT {x y : List D} : rAdd (.tup x) (.tup y) μ Q = (x.length + y.length ≤ 16777216 ∧ Q (.tup (x ++ y)) μ) := rfl
@[simp] theorem e_addL {x y : List D} : rAdd (.lst x) (.lst y) μ Q = (x.length + y.length ≤ 16777216 ∧ Q (.lst (x ++ y)) μ) := by simp [rAdd, lstOf]
@[simp] theorem e_mul {x y : Int} : rMul (.int x) (.int y) μ Q = (CMulA x y ∧ Q (.int (x * y)) μ) := rfl
@[simp] theorem e_mulT {x : List D} {y : Int} : rMul (.tup x) (.int y) μ Q = (-(2 ^ 63) ≤ y ∧ y < 2 ^ 63 ∧ x.length * y.toNat ≤ 16777216 ∧ Q (.tup (List.replicate y.toNat x).flatten) μ) := rfl
@[simp] theorem e_eq {x y : Int} : rEq (.int x) (.int y) μ Q = Q (.bl (decide (x = y))) μ := rfl
@[simp] theorem e_ne {x y : Int} : rNe (.int x) (.int y) μ Q = Q (.bl (!decide (x = y))) μ := rfl
@[simp] theorem e_eqS {x y : Str} : rEq (.str x) (.str y) μ Q = Q (.bl (decide (x = y))) μ := rfl
@[simp] theorem e_neS {x y : Str} : rNe (.str x) (.str y) μ Q = Q (.bl (!decide (x = y))) μ := rfl
@[simp] theorem e_mod {x y : Int} : rMod (.int x) (.int y) μ Q = (y ≠ 0 ∧ Q (.int (x.fmod y)) μ) := by simp [rMod, rInt2]
@[simp] theorem e_div {x y : Int} : rDiv (.int x) (.int y) μ Q = (CDivA x y ∧ Q (.int (x.fdiv y)) μ) := by simp [rDiv, rInt2]
@[simp] theorem e_pow {x y : Int} : rPow (.int x) (.int y) μ Q = (CPowA x y ∧ Q (.int (x ^ y.toNat)) μ) := by simp [rPow, rInt2]
@[simp] theorem e_neg {x : Int} : rNeg (.int x) μ Q = Q (.int (-x)) μ := by simp [rNeg]
@[simp] theorem e_lenT {x : List D} : cLen [.tup x] μ Q = Q (.int x.length) μ := by simp [cLen, seqOf]
@[simp] theorem e_lenL {x : List D} : cLen [.lst x] μ Q = Q (.int x.length) μ := by simp [cLen, seqOf]
@[simp] theorem e_lenZ {x : List D} : cLen [.frz x] μ Q = Q (.int x.length) μ := by simp [cLen, seqOf]
@[simp] theorem e_intI {x : Int} : cInt [.int x] μ Q = Q (.int x) μ := rfl
@[simp] theorem e_intB {b : Bool} : cInt [.bl b] μ Q = Q (.int (if b then 1 else 0)) μ := rfl
@[simp] theorem e_abs {x : Int} : cAbs [.int x] μ Q = Q (.int (if x < 0 then -x else x)) μ := rfl
@[simp] theorem e_max {x y : Int} : cMax2 [.int x, .int y] μ Q = Q (.int (if y > x then y else x)) μ := rfl
@[simp] theorem e_min {x y : Int} : cMin2 [.int x, .int y] μ Q = Q (.int (if y < x then y else x)) μ := rfl
@[simp] theorem e_tupL {x : List D} : cTuple [.lst x] μ Q = Q (.tup x) μ := by simp [cTuple, lstOf]
@[simp] theorem e_tupT {x : List D} : cTuple [.tup x] μ Q = Q (.tup x) μ := rfl
@[simp] theorem e_sumL {x : List Int} : cSum [.lst (x.map D.int)] μ Q = Q (.int x.sum) μ := by
  simp only [cSum, lstOf, Option.some.injEq]
  apply propext
  constructor
  · rintro ⟨ns, h1, h2⟩
    have : x = ns := by
      have := congrArg (List.filterMap fun d => match d with | D.int i => some i | _ => none) h1
      simpa [List.filterMap_map, Function.comp_def] using this
    rw [this]; exact h2
  · exact fun h => ⟨x, rfl, h⟩
end
end G2
end
section
set_option Elab.async false
set_option linter.all false
set_option maxRecDepth 100000
/-! comprehensions and loops, by what they make -/
namespace G2
open PySem PySem.Spec PyProof.Rows L2
theorem lc_map {α : Type} {a : α → D} {g : WG} {we : WE} {own : List Nat} {ρ : Ro} {μ : Mu} {P : List D → Mu → Prop} (f : α → D) : ∀ (xs : List α) (acc : List D), (∀ x ∈ xs, ∀ K : D → Mu → Prop, K (f x) μ → g (a x) (wipeD ρ own) μ (fun ρ1 μ1 => we ρ1 μ1 K (fun _ _ => False))) →
    P (acc ++ xs.map f) μ → lcW g wYes we own (xs.map a) acc ρ μ P
  | [], acc, _, h => by simpa [lcW] using h
  | x :: xs, acc, h, hP => by
    show g (a x) (wipeD ρ own) μ (fun ρ1 μ1 => we ρ1 μ1 (fun d μ3 => lcW g wYes we own (xs.map a) (acc ++ [d]) ρ μ3 P) (fun _ _ => False))
    exact h x (List.mem_cons_self ..) _ (lc_map f xs (acc ++ [f x]) (fun y hy => h y (List.mem_cons_of_mem _ hy)) (by simpa using hP))
theorem lc_inv {α : Type} {a : α → D} {g : WG} {we : WE} {own : List Nat} {ρ : Ro} {P : List D → Mu → Prop} (I : Mu → Prop) (p : D → Prop) : ∀ (xs : List α) (acc : List D) (μ : Mu), I μ → (∀ x ∈ xs, ∀ μ, I μ → ∀ K : D → Mu → Prop, (∀ d μ', I μ' → p d → K d μ') → g (a x) (wipeD ρ own) μ (fun ρ1 μ1 => we ρ1 μ1 K (fun _ _ => False))) →
    (∀ ds μ', I μ' → ds.length = xs.length → (∀ d ∈ ds, p d) → P (acc ++ ds) μ') → lcW g wYes we own (xs.map a) acc ρ μ P
  | [], acc, μ, hI, _, hP => by
    have := hP [] μ hI rfl (fun _ h => by cases h)
    simpa [lcW] using this
  | x :: xs, acc, μ, hI, h, hP => by
    show g (a x) (wipeD ρ own) μ (fun ρ1 μ1 => we ρ1 μ1 (fun d μ3 => lcW g wYes we own (xs.map a) (acc ++ [d]) ρ μ3 P) (fun _ _ => False))
    refine h x (List.mem_cons_self ..) μ hI _ fun d μ' hI' hd => ?_
    refine lc_inv I p xs (acc ++ [d]) μ' hI' (fun y hy => h y (List.mem_cons_of_mem _ hy)) fun ds μ2 hI2 hl hds => ?_
    have := hP (d :: ds) μ2 hI2 (by simp [hl]) (fun e he => by
      rcases List.mem_cons.mp he with rfl | he
      · exact hd
      · exact hds e he)
    simpa using this
theorem zipD_map {α β : Type} (a : α → D) (b : β → D) (xs : List α) (ys : List β) : zipD (xs.map a) (ys.map b) = (xs.zip ys).map fun p => .tup [a p.1, b p.2] := by
  unfold zipD
  rw [List.zip_map, List.map_map]
  rfl
/-- a loop: the invariant by the number of turns -/
theorem for_inv {α : Type} {a : α → D} {g : WG} {body : WS} {De : DEnds} (I : Nat → Ro → Mu → Prop) : ∀ (xs : List α) (n : Nat) (ρ : Ro) (μ : Mu), I n ρ μ →
    (∀ (i : Nat) (x : α), xs[i]? = some x → ∀ ρ μ, I (n + i) ρ μ → ∀ De' : DEnds, De'.rt = De.rt → De'.ex = De.ex → (∀ ρ' μ', I (n + i + 1) ρ' μ' → De'.nx ρ' μ') → g (a x) ρ μ (fun ρ1 μ1 => body De' ρ1 μ1)) →
    (∀ ρ μ, I (n + xs.length) ρ μ → De.nx ρ μ) → forW g body (xs.map a) De ρ μ
  | [], n, ρ, μ, hI, _, hP => hP ρ μ (by simpa using hI)
  | x :: xs, n, ρ, μ, hI, h, hP => by
    show g (a x) ρ μ (fun ρ1 μ1 => body { De with nx := forW g body (xs.map a) De, ct := forW g body (xs.map a) De, bk := De.nx } ρ1 μ1)
    refine h 0 x rfl ρ μ (by simpa using hI) { De with nx := forW g body (xs.map a) De, ct := forW g body (xs.map a) De, bk := De.nx } rfl rfl fun ρ' μ' hI' => ?_
    refine for_inv I xs (n + 1) ρ' μ' (by simpa using hI') (fun i y hy ρ2 μ2 hI2 De' hr he hn => ?_) (fun ρ2 μ2 hI2 => hP ρ2 μ2 ?_)
    · have e : n + (i + 1) = n + 1 + i := by omega
      refine h (i + 1) y (by simpa using hy) ρ2 μ2 (by rw [e]; exact hI2) De' hr he fun ρ3 μ3 hI3 => hn ρ3 μ3 ?_
      have e2 : n + (i + 1) + 1 = n + 1 + i + 1 := by omega
      rw [e2] at hI3
      exact hI3
    · have e : n + 1 + xs.length = n + (x :: xs).length := by simp; omega
      rw [← e]
      exact hI2
end G2
end
section
set_option Elab.async false
set_option linter.all false
/-! rows and tables of whole numbers, in plain Lean -/
namespace Pl
def dot (x y : List Int) : Int := (List.zipWith (· * ·) x y).sum
def ledL (t : List (List Int)) (x : List Int) : List Int := t.map fun l => dot l x
def colL (t : List (List Int)) (w : Nat) : List (List Int) := (List.range w).map fun j => t.map fun l => l.getD j 0
def mulL (a b : List (List Int)) (w : Nat) : List (List Int) := a.map fun l => (colL b w).map fun c => dot l c
def addL (x y : List Int) : List Int := List.zipWith (· + ·) x y
def subM (r : List Int) (n : Int) (o : List Int) : List Int := List.zipWith (fun a b => a - n * b) r o
def ledS (acc : List Int) : List (Int × List Int) → List Int
  | [] => acc
  | p :: r => ledS (if p.1 ≠ 0 then subM acc (0 - p.1) p.2 else acc) r
def ledF (w : Nat) (told : List Int) (t : List (List Int)) : List Int := ledS (List.replicate w 0) (told.zip t)
def comb (l : List Int) (b : List (List Int)) (w : Nat) : List Int := (colL b w).map fun c => dot l c
def unitR (w i : Nat) : List Int := (List.range w).map fun j => if j = i then 1 else 0
def unitL (w : Nat) : List (List Int) := (List.range w).map fun i => unitR w i
theorem comb_length (l : List Int) (b : List (List Int)) (w : Nat) : (comb l b w).length = w := by simp [comb, colL]
theorem dot_nil_left (y : List Int) : dot [] y = 0 := by simp [dot]
theorem dot_nil_right (x : List Int) : dot x [] = 0 := by simp [dot]
theorem dot_cons (a b : Int) (x y : List Int) : dot (a :: x) (b :: y) = a * b + dot x y := by simp [dot]
theorem dot_comm : ∀ x y : List Int, dot x y = dot y x
  | [], y => by rw [dot_nil_left, dot_nil_right]
  | _ :: _, [] => by rw [dot_nil_left, dot_nil_right]
  | a :: x, b :: y => by rw [dot_cons, dot_cons, dot_comm x y, Int.mul_comm]
theorem dot_zero_left : ∀ (n : Nat) (x : List Int), dot (List.replicate n 0) x = 0
  | 0, x => dot_nil_left x
  | n + 1, [] => dot_nil_right _
  | n + 1, b :: x => by rw [List.replicate_succ, dot_cons, dot_zero_left n x]; simp
theorem dot_lin (a : Int) : ∀ (r c x : List Int), r.length = c.length → dot (List.zipWith (fun p q => a * p + q) r c) x = a * dot r x + dot c x
  | [], [], x, _ => by simp [dot]
  | [], _ :: _, _, h => by simp at h
  | _ :: _, [], _, h => by simp at h
  | p :: r, q :: c, [], _ => by simp [dot_nil_right]
  | p :: r, q :: c, y :: x, h => by
    rw [List.zipWith_cons_cons, dot_cons, dot_cons, dot_cons, dot_lin a r c x (by simpa using h), Int.add_mul, Int.mul_add, Int.mul_assoc]
    omega
theorem comb_nil_left (b : List (List Int)) (w : Nat) : comb [] b w = List.replicate w 0 := by
  apply List.ext_getElem
  · simp [comb_length]
  · intro i h1 h2
    simp [comb, dot_nil_left]
theorem comb_nil_right (l : List Int) (w : Nat) : comb l [] w = List.replicate w 0 := by
  apply List.ext_getElem
  · simp [comb_length]
  · intro i h1 h2
    simp [comb, colL, dot_nil_right]
theorem comb_cons (a : Int) (l r : List Int) (b : List (List Int)) (w : Nat) (h : r.length = w) : comb (a :: l) (r :: b) w = List.zipWith (fun p q => a * p + q) r (comb l b w) := by
  apply List.ext_getElem
  · simp [comb_length, h]
  · intro i h1 h2
    have hi : i < w := by rw [comb_length] at h1; exact h1
    have hr : i < r.length := by omega
    simp [comb, colL, dot_cons, List.getElem?_eq_getElem hr]
/-- what is led behind is led twice -/
theorem dot_comb (w : Nat) : ∀ (l : List Int) (b : List (List Int)) (x : List Int), (∀ r ∈ b, r.length = w) → dot (comb l b w) x = dot l (ledL b x)
  | [], b, x, _ => by rw [comb_nil_left, dot_zero_left, dot_nil_left]
  | _ :: _, [], x, _ => by rw [comb_nil_right, dot_zero_left]; simp [ledL, dot_nil_right]
  | a :: l, r :: b, x, h => by
    have hr := h r (List.mem_cons_self ..)
    rw [comb_cons a l r b w hr, dot_lin a r _ x (by rw [comb_length]; exact hr), dot_comb w l b x (fun q hq => h q (List.mem_cons_of_mem _ hq))]
    show _ = dot (a :: l) (dot r x :: ledL b x)
    rw [dot_cons]
theorem led_mul (a b : List (List Int)) (w : Nat) (x : List Int) (h : ∀ r ∈ b, r.length = w) : ledL (mulL a b w) x = ledL a (ledL b x) := by
  unfold ledL mulL
  rw [List.map_map]
  apply List.map_congr_left
  intro l _
  exact dot_comb w l b x h
theorem subM_add (acc r : List Int) (n : Int) : subM acc (0 - n) r = List.zipWith (fun p q => q + n * p) r acc := by
  unfold subM
  rw [List.zipWith_comm]
  congr 1
  funext a b
  rw [Int.zero_sub, Int.neg_mul, Int.sub_neg]
theorem ledS_eq (w : Nat) : ∀ (l : List Int) (b : List (List Int)) (acc : List Int), acc.length = w → (∀ r ∈ b, r.length = w) → ledS acc (l.zip b) = addL acc (comb l b w)
  | [], b, acc, h, _ => by
    rw [comb_nil_left, List.zip_nil_left]
    show acc = _
    unfold addL
    apply List.ext_getElem
    · simp [h]
    · intro i h1 h2; simp
  | _ :: _, [], acc, h, _ => by
    rw [comb_nil_right, List.zip_nil_right]
    show acc = _
    unfold addL
    apply List.ext_getElem
    · simp [h]
    · intro i h1 h2; simp
  | a :: l, r :: b, acc, h, hb => by
    have hr := hb r (List.mem_cons_self ..)
    rw [List.zip_cons_cons]
    unfold ledS
    have step : ∀ acc' : List Int, acc'.length = w → acc' = List.zipWith (fun p q => q + a * p) r acc → ledS acc' (l.zip b) = addL acc (comb (a :: l) (r :: b) w) := by
      intro acc' h' e
      rw [ledS_eq w l b acc' h' (fun q hq => hb q (List.mem_cons_of_mem _ hq)), comb_cons a l r b w hr, e]
      unfold addL
      apply List.ext_getElem
      · simp [h, hr, comb_length]
      · intro i h1 h2
        simp
        omega
    by_cases ha : a ≠ 0
    · rw [if_pos ha]
      refine step _ ?_ (subM_add _ _ _)
      simp [subM, h, hr]
    · have ha' : a = 0 := by simpa using ha
      rw [if_neg ha]
      refine step _ h ?_
      apply List.ext_getElem
      · simp [h, hr]
      · intro i h1 h2
        simp [ha']
theorem ledF_eq (w : Nat) (l : List Int) (b : List (List Int)) (hb : ∀ r ∈ b, r.length = w) : ledF w l b = comb l b w := by
  unfold ledF
  rw [ledS_eq w l b _ (by simp) hb]
  unfold addL
  apply List.ext_getElem
  · simp [comb_length]
  · intro i h1 h2
    simp
/-! ### sizes -/
def Sm (k : Nat) (x : Int) : Prop := x.natAbs < 2 ^ k
theorem Sm.mono {k l : Nat} {x : Int} (h : Sm k x) (hl : k ≤ l) : Sm l x := Nat.lt_of_lt_of_le h (Nat.pow_le_pow_right (by decide) hl)
theorem Sm.mul {k l : Nat} {x y : Int} (h : Sm k x) (g : Sm l y) : Sm (k + l) (x * y) := by
  unfold Sm at *
  rw [Int.natAbs_mul, Nat.pow_add]
  exact Nat.mul_lt_mul'' h g
theorem Sm.add {k : Nat} {x y : Int} (h : Sm k x) (g : Sm k y) : Sm (k + 1) (x + y) := by
  unfold Sm at *
  rw [Nat.pow_succ]
  have := Int.natAbs_add_le x y
  omega
theorem sum_abs : ∀ (n : Nat) (xs : List Int), (∀ x ∈ xs, x.natAbs ≤ n) → xs.sum.natAbs ≤ xs.length * n
  | n, [], _ => by simp
  | n, x :: xs, h => by
    rw [List.sum_cons, List.length_cons]
    have h1 := Int.natAbs_add_le x xs.sum
    have h2 := h x (List.mem_cons_self ..)
    have h3 := sum_abs n xs fun y hy => h y (List.mem_cons_of_mem _ hy)
    rw [Nat.add_mul, Nat.one_mul]
    omega
theorem Sm.sum {k : Nat} {xs : List Int} (h : ∀ x ∈ xs, Sm k x) (hl : xs.length ≤ 64) : Sm (k + 6) xs.sum := by
  unfold Sm at *
  have h1 := sum_abs (2 ^ k - 1) xs fun x hx => by have := h x hx; omega
  have h2 : xs.length * (2 ^ k - 1) ≤ 64 * (2 ^ k - 1) := Nat.mul_le_mul_right _ hl
  have h3 : 2 ^ (k + 6) = 64 * 2 ^ k := by rw [Nat.pow_add]; omega
  have h4 : 0 < 2 ^ k := Nat.pow_pos (by decide)
  omega
def Bd (k : Nat) (xs : List Int) : Prop := ∀ x ∈ xs, Sm k x
def BT (k : Nat) (t : List (List Int)) : Prop := ∀ r ∈ t, Bd k r
theorem zip_mem {α β : Type} {x : List α} {y : List β} {p : α × β} (h : p ∈ x.zip y) : p.1 ∈ x ∧ p.2 ∈ y := List.of_mem_zip h
theorem dot_sm {k l : Nat} {x y : List Int} (hx : Bd k x) (hy : Bd l y) (hl : x.length ≤ 64) : Sm (k + l + 6) (dot x y) := by
  unfold dot
  refine Sm.sum (fun z hz => ?_) (by simp; omega)
  rw [← List.map_uncurry_zip_eq_zipWith] at hz
  obtain ⟨p, hp, rfl⟩ := List.mem_map.mp hz
  exact (hx _ (List.of_mem_zip hp).1).mul (hy _ (List.of_mem_zip hp).2)
theorem led_bd {k l : Nat} {t : List (List Int)} {x : List Int} (ht : BT k t) (hx : Bd l x) (hl : x.length ≤ 64) : Bd (k + l + 6) (ledL t x) := by
  intro z hz
  obtain ⟨r, hr, rfl⟩ := List.mem_map.mp hz
  rw [dot_comm, Nat.add_comm k l]
  exact dot_sm hx (ht r hr) hl
theorem col_bt {k : Nat} {t : List (List Int)} {w : Nat} (ht : BT k t) : BT k (colL t w) := by
  intro c hc
  obtain ⟨j, _, rfl⟩ := List.mem_map.mp hc
  intro z hz
  obtain ⟨r, hr, rfl⟩ := List.mem_map.mp hz
  rw [List.getD_eq_getElem?_getD]
  cases e : r[j]? with
  | none =>
    show Sm k 0
    unfold Sm
    exact Nat.pow_pos (by decide)
  | some v => exact ht r hr v (List.mem_of_getElem? e)
theorem mul_bt {k l : Nat} {a b : List (List Int)} {w : Nat} (ha : BT k a) (hb : BT l b) (hl : b.length ≤ 64) : BT (k + l + 6) (mulL a b w) := by
  intro r hr
  obtain ⟨x, hx, rfl⟩ := List.mem_map.mp hr
  intro z hz
  obtain ⟨c, hc, rfl⟩ := List.mem_map.mp hz
  have hcl : c.length ≤ 64 := by
    obtain ⟨j, _, rfl⟩ := List.mem_map.mp hc
    simpa using hl
  rw [dot_comm, Nat.add_comm k l]
  exact dot_sm (col_bt hb c hc) (ha x hx) hcl
end Pl
end
section
set_option Elab.async false
set_option linter.all false
set_option maxRecDepth 100000
/-! texts: that they are not too long -/
namespace G2
open PySem PySem.Spec PyProof.Rows L2 Pl
structure TxD (d : D) (n k : Nat) : Prop where
  ex : ∃ p, pd d = some p ∧ Shw p ∧ p.depth ≤ k ∧ p.shown.length ≤ n
def txt (d : D) : Str := match pd d with
  | some p => p.shown
  | none => Str.empty
theorem TxD.mono {d : D} {n k n' k' : Nat} (h : TxD d n k) (hn : n ≤ n') (hk : k ≤ k') : TxD d n' k' := by
  obtain ⟨p, h1, h2, h3, h4⟩ := h.ex
  exact ⟨p, h1, h2, Nat.le_trans h3 hk, Nat.le_trans h4 hn⟩
theorem tx_int {i : Int} (h : Sm 3400 i) (k : Nat) : TxD (.int i) 1025 k := by
  have h1 : i.natAbs < 10 ^ 1024 := Nat.lt_of_lt_of_le h (by decide +kernel)
  have h2 : i.natAbs < 10 ^ 4300 := Nat.lt_of_lt_of_le h1 (Nat.pow_le_pow_right (by decide) (by omega))
  refine ⟨.int i, rfl, by unfold Shw; exact h2, by simp [PyData.depth], ?_⟩
  have h3 := int_text_length_le10 (k := 1024) (by decide) h1
  simp only [PyData.shown]
  rw [PySem.ofString_length]
  exact h3
theorem tx_bl (b : Bool) (k : Nat) : TxD (.bl b) 5 k := ⟨.bool b, rfl, trivial, by simp [PyData.depth], by simp only [PyData.shown]; cases b <;> decide⟩
theorem sum_le (n : Nat) : ∀ l : List Nat, (∀ x ∈ l, x ≤ n) → l.sum ≤ l.length * n
  | [], _ => by simp
  | x :: l, h => by
    have h1 := h x (List.mem_cons_self ..)
    have h2 := sum_le n l fun y hy => h y (List.mem_cons_of_mem _ hy)
    rw [List.sum_cons, List.length_cons, Nat.add_mul]; omega
theorem join_le (n : Nat) : ∀ ts : List Str, (∀ t ∈ ts, t.length ≤ n) → (Str.join ", " ts).length ≤ ts.length * (n + 2)
  | [], _ => Nat.zero_le _
  | [x], h => by
    have := h x (List.mem_cons_self ..)
    show x.length ≤ _
    simp; omega
  | x :: y :: r, h => by
    have ih := join_le n (y :: r) fun t ht => h t (List.mem_cons_of_mem _ ht)
    have hx := h x (List.mem_cons_self ..)
    show (x ++ ", " ++ Str.join ", " (y :: r)).length ≤ _
    rw [strLen_append, strLen_append]
    have e2 : ((", " : String) : Str).length = 2 := rfl
    rw [e2, List.length_cons, Nat.add_mul]
    omega
theorem pds_all {n k : Nat} : ∀ ds : List D, (∀ d ∈ ds, TxD d n k) → ∃ ps, pds ds = some ps ∧ ShwL ps ∧ PyData.depthAll ps ≤ k ∧ (∀ t ∈ PyData.shownAll ps, t.length ≤ n) ∧ (PyData.shownAll ps).length = ds.length
  | [], _ => ⟨[], rfl, trivial, Nat.zero_le _, (fun _ h => by simp [PyData.shownAll] at h), rfl⟩
  | d :: ds, h => by
    obtain ⟨p, h1, h2, h3, h4⟩ := (h d (List.mem_cons_self ..)).ex
    obtain ⟨ps, g1, g2, g3, g4, g5⟩ := pds_all ds fun e he => h e (List.mem_cons_of_mem _ he)
    refine ⟨p :: ps, by simp [pds, h1, g1], ⟨h2, g2⟩, by simp only [PyData.depthAll]; omega, fun t ht => ?_, by simp only [PyData.shownAll, List.length_cons, g5]⟩
    simp only [PyData.shownAll, List.mem_cons] at ht
    rcases ht with rfl | ht
    · exact h4
    · exact g4 t ht
theorem tx_tup {n k : Nat} {ds : List D} (h : ∀ d ∈ ds, TxD d n k) : TxD (.tup ds) (ds.length * (n + 2) + 3) (k + 1) := by
  obtain ⟨ps, g1, g2, g3, g4, g5⟩ := pds_all ds h
  refine ⟨.tuple ps, by simp [pd, g1], by simpa only [Shw] using g2, by simp only [PyData.depth]; omega, ?_⟩
  simp only [PyData.shown]
  unfold tupleText
  rw [strLen_append, strLen_append]
  have h1 := join_le n _ g4
  rw [g5] at h1
  have h2 : (((if (PyData.shownAll ps).length == 1 then ",)" else ")" : String)) : Str).length ≤ 2 := by split <;> decide
  have h3 : (("(" : String) : Str).length = 1 := rfl
  omega
theorem tx_lst {n k : Nat} {ds : List D} (h : ∀ d ∈ ds, TxD d n k) : TxD (.lst ds) (ds.length * (n + 2) + 3) (k + 1) := by
  obtain ⟨ps, g1, g2, g3, g4, g5⟩ := pds_all ds h
  refine ⟨.list ps, by simp [pd, g1], by simpa only [Shw] using g2, by simp only [PyData.depth]; omega, ?_⟩
  simp only [PyData.shown]
  unfold listText
  rw [strLen_append]
  have h1 := textFrom_len_le (PyData.shownAll ps) 0 "["
  have h2 := sum_le n ((PyData.shownAll ps).map (·.length)) fun x hx => by
    obtain ⟨t, ht, rfl⟩ := List.mem_map.mp hx
    exact g4 t ht
  rw [List.length_map, g5] at h2
  rw [g5] at h1
  have h3 : (("[" : String) : Str).length = 1 := rfl
  have h4 : (("]" : String) : Str).length = 1 := rfl
  rw [Nat.mul_add]
  omega
theorem rp_tup {ds : List D} {n k : Nat} {μ : Mu} {Q : KD} (h : TxD (.tup ds) n k) (hn : n ≤ 16777216) (hk : k ≤ 60) (q : Q (.str (txt (.tup ds))) μ) : rRepr [.tup ds] μ Q := by
  obtain ⟨p, h1, h2, h3, h4⟩ := h.ex
  have h1' := h1
  simp only [pd, Option.map_eq_some_iff] at h1
  obtain ⟨ps, e, rfl⟩ := h1
  refine ⟨_, _, rfl, h1', .inr ⟨_, rfl⟩, h2, by omega, by omega, ?_⟩
  unfold txt at q
  rw [h1'] at q
  exact q
theorem rp_lst {ds : List D} {n k : Nat} {μ : Mu} {Q : KD} (h : TxD (.lst ds) n k) (hn : n ≤ 16777216) (hk : k ≤ 60) (q : Q (.str (txt (.lst ds))) μ) : rRepr [.lst ds] μ Q := by
  obtain ⟨p, h1, h2, h3, h4⟩ := h.ex
  have h1' := h1
  simp only [pd, Option.map_eq_some_iff] at h1
  obtain ⟨ps, e, rfl⟩ := h1
  refine ⟨_, _, rfl, h1', .inl ⟨_, rfl⟩, h2, by omega, by omega, ?_⟩
  unfold txt at q
  rw [h1'] at q
  exact q
end G2
end
section
set_option Elab.async false
set_option linter.all false
set_option maxRecDepth 100000
set_option maxHeartbeats 4000000
namespace K01
open PySem PySem.Spec PyProof.Rows L2 LamX G2
open PySem.W (Frag)
def top (i : Nat) : Stmt := PySem.Challenge.pw_gridturns_k01_whole_tables_of_sixty_four.main.body.getD i (.Pass ⟨0, 0, 0, 0⟩)
abbrev s_is_integer : Stmt := top 7
abbrev s_require_count : Stmt := top 8
abbrev s_is_plain_row : Stmt := top 10
abbrev s_is_plain_table : Stmt := top 11
abbrev s_rest_row : Stmt := top 12
abbrev s_unit_row : Stmt := top 13
abbrev s_unit_rows : Stmt := top 14
abbrev s_sum_of_rows : Stmt := top 15
abbrev s_times_row : Stmt := top 16
abbrev s_less_times : Stmt := top 17
abbrev s_product_of : Stmt := top 18
abbrev s_led_row : Stmt := top 19
abbrev s_led_from : Stmt := top 20
abbrev s_columns_of : Stmt := top 21
abbrev s_table_behind : Stmt := top 22
abbrev s_require_width : Stmt := top 25
abbrev s_require_row : Stmt := top 26
abbrev s_require_table : Stmt := top 27
abbrev s_require_sized : Stmt := top 28
abbrev s_require_whole : Stmt := top 29
abbrev s_is_row : Stmt := top 30
abbrev s_is_table : Stmt := top 31
abbrev s_row_plus : Stmt := top 32
abbrev s_row_times : Stmt := top 33
abbrev s_product : Stmt := top 34
abbrev s_led : Stmt := top 35
abbrev s_led_behind : Stmt := top 36
abbrev s_columns : Stmt := top 37
abbrev s_unit : Stmt := top 38
abbrev s_table_plus : Stmt := top 39
abbrev s_table_times : Stmt := top 40
abbrev s_power_of : Stmt := top 41
abbrev s_table_power : Stmt := top 42
abbrev s__law_dice : Stmt := top 44
abbrev s__law_roll : Stmt := top 45
abbrev s__law_pick : Stmt := top 46
abbrev s__law_shuffled : Stmt := top 47
abbrev s__law_number : Stmt := top 48
abbrev s__law_power : Stmt := top 49
abbrev s__law_gt_plus : Stmt := top 50
abbrev s__law_gt_product : Stmt := top 51
abbrev s__law_gt_led : Stmt := top 52
abbrev s__law_gt_unit : Stmt := top 53
abbrev s__law_gh_turned : Stmt := top 54
abbrev s__law_gh_times : Stmt := top 55
abbrev s__law_gh_number : Stmt := top 56
abbrev s__law_gh_row : Stmt := top 57
abbrev s__law_sent : Stmt := top 58
abbrev s__law_thin : Stmt := top 59
abbrev s__law_sum : Stmt := top 60
abbrev s__law_met : Stmt := top 61
abbrev s__law_behind_right : Stmt := top 62
abbrev s__law_rows_right : Stmt := top 63
abbrev s__law_power_right : Stmt := top 64
abbrev s_law : Stmt := top 65
def d_is_integer : He.DefD := ⟨("is_integer", none), "is_integer", "is_integer", defArgs s_is_integer, defBody s_is_integer, defScope s_is_integer, [], []⟩
def d_require_count : He.DefD := ⟨("require_count", none), "require_count", "require_count", defArgs s_require_count, defBody s_require_count, defScope s_require_count, [.int 0, .int 400], []⟩
def d_is_plain_row : He.DefD := ⟨("is_plain_row", none), "is_plain_row", "is_plain_row", defArgs s_is_plain_row, defBody s_is_plain_row, defScope s_is_plain_row, [], []⟩
def d_is_plain_table : He.DefD := ⟨("is_plain_table", none), "is_plain_table", "is_plain_table", defArgs s_is_plain_table, defBody s_is_plain_table, defScope s_is_plain_table, [], []⟩
def d_rest_row : He.DefD := ⟨("rest_row", none), "rest_row", "rest_row", defArgs s_rest_row, defBody s_rest_row, defScope s_rest_row, [], []⟩
def d_unit_row : He.DefD := ⟨("unit_row", none), "unit_row", "unit_row", defArgs s_unit_row, defBody s_unit_row, defScope s_unit_row, [], []⟩
def d_unit_rows : He.DefD := ⟨("unit_rows", none), "unit_rows", "unit_rows", defArgs s_unit_rows, defBody s_unit_rows, defScope s_unit_rows, [], []⟩
def d_sum_of_rows : He.DefD := ⟨("sum_of_rows", none), "sum_of_rows", "sum_of_rows", defArgs s_sum_of_rows, defBody s_sum_of_rows, defScope s_sum_of_rows, [], []⟩
def d_times_row : He.DefD := ⟨("times_row", none), "times_row", "times_row", defArgs s_times_row, defBody s_times_row, defScope s_times_row, [], []⟩
def d_less_times : He.DefD := ⟨("less_times", none), "less_times", "less_times", defArgs s_less_times, defBody s_less_times, defScope s_less_times, [], []⟩
def d_product_of : He.DefD := ⟨("product_of", none), "product_of", "product_of", defArgs s_product_of, defBody s_product_of, defScope s_product_of, [], []⟩
def d_led_row : He.DefD := ⟨("led_row", none), "led_row", "led_row", defArgs s_led_row, defBody s_led_row, defScope s_led_row, [], []⟩
def d_led_from : He.DefD := ⟨("led_from", none), "led_from", "led_from", defArgs s_led_from, defBody s_led_from, defScope s_led_from, [], []⟩
def d_columns_of : He.DefD := ⟨("columns_of", none), "columns_of", "columns_of", defArgs s_columns_of, defBody s_columns_of, defScope s_columns_of, [], []⟩
def d_table_behind : He.DefD := ⟨("table_behind", none), "table_behind", "table_behind", defArgs s_table_behind, defBody s_table_behind, defScope s_table_behind, [], []⟩
def d_require_width : He.DefD := ⟨("require_width", none), "require_width", "require_width", defArgs s_require_width, defBody s_require_width, defScope s_require_width, [], []⟩
def d_require_row : He.DefD := ⟨("require_row", none), "require_row", "require_row", defArgs s_require_row, defBody s_require_row, defScope s_require_row, [], []⟩
def d_require_table : He.DefD := ⟨("require_table", none), "require_table", "require_table", defArgs s_require_table, defBody s_require_table, defScope s_require_table, [], []⟩
def d_require_sized : He.DefD := ⟨("require_sized", none), "require_sized", "require_sized", defArgs s_require_sized, defBody s_require_sized, defScope s_require_sized, [], []⟩
def d_require_whole : He.DefD := ⟨("require_whole", none), "require_whole", "require_whole", defArgs s_require_whole, defBody s_require_whole, defScope s_require_whole, [], []⟩
def d_is_row : He.DefD := ⟨("is_row", none), "is_row", "is_row", defArgs s_is_row, defBody s_is_row, defScope s_is_row, [], []⟩
def d_is_table : He.DefD := ⟨("is_table", none), "is_table", "is_table", defArgs s_is_table, defBody s_is_table, defScope s_is_table, [], []⟩
def d_row_plus : He.DefD := ⟨("row_plus", none), "row_plus", "row_plus", defArgs s_row_plus, defBody s_row_plus, defScope s_row_plus, [], []⟩
def d_row_times : He.DefD := ⟨("row_times", none), "row_times", "row_times", defArgs s_row_times, defBody s_row_times, defScope s_row_times, [], []⟩
def d_product : He.DefD := ⟨("product", none), "product", "product", defArgs s_product, defBody s_product, defScope s_product, [], []⟩
def d_led : He.DefD := ⟨("led", none), "led", "led", defArgs s_led, defBody s_led, defScope s_led, [], []⟩
def d_led_behind : He.DefD := ⟨("led_behind", none), "led_behind", "led_behind", defArgs s_led_behind, defBody s_led_behind, defScope s_led_behind, [], []⟩
def d_columns : He.DefD := ⟨("columns", none), "columns", "columns", defArgs s_columns, defBody s_columns, defScope s_columns, [], []⟩
def d_unit : He.DefD := ⟨("unit", none), "unit", "unit", defArgs s_unit, defBody s_unit, defScope s_unit, [], []⟩
def d_table_plus : He.DefD := ⟨("table_plus", none), "table_plus", "table_plus", defArgs s_table_plus, defBody s_table_plus, defScope s_table_plus, [], []⟩
def d_table_times : He.DefD := ⟨("table_times", none), "table_times", "table_times", defArgs s_table_times, defBody s_table_times, defScope s_table_times, [], []⟩
def d_power_of : He.DefD := ⟨("power_of", none), "power_of", "power_of", defArgs s_power_of, defBody s_power_of, defScope s_power_of, [], []⟩
def d_table_power : He.DefD := ⟨("table_power", none), "table_power", "table_power", defArgs s_table_power, defBody s_table_power, defScope s_table_power, [], []⟩
def d__law_dice : He.DefD := ⟨("_law_dice", none), "_law_dice", "_law_dice", defArgs s__law_dice, defBody s__law_dice, defScope s__law_dice, [], []⟩
def d__law_roll : He.DefD := ⟨("_law_roll", none), "_law_roll", "_law_roll", defArgs s__law_roll, defBody s__law_roll, defScope s__law_roll, [], []⟩
def d__law_pick : He.DefD := ⟨("_law_pick", none), "_law_pick", "_law_pick", defArgs s__law_pick, defBody s__law_pick, defScope s__law_pick, [], []⟩
def d__law_shuffled : He.DefD := ⟨("_law_shuffled", none), "_law_shuffled", "_law_shuffled", defArgs s__law_shuffled, defBody s__law_shuffled, defScope s__law_shuffled, [], []⟩
def d__law_number : He.DefD := ⟨("_law_number", none), "_law_number", "_law_number", defArgs s__law_number, defBody s__law_number, defScope s__law_number, [], []⟩
def d__law_power : He.DefD := ⟨("_law_power", none), "_law_power", "_law_power", defArgs s__law_power, defBody s__law_power, defScope s__law_power, [], []⟩
def d__law_gt_plus : He.DefD := ⟨("_law_gt_plus", none), "_law_gt_plus", "_law_gt_plus", defArgs s__law_gt_plus, defBody s__law_gt_plus, defScope s__law_gt_plus, [], []⟩
def d__law_gt_product : He.DefD := ⟨("_law_gt_product", none), "_law_gt_product", "_law_gt_product", defArgs s__law_gt_product, defBody s__law_gt_product, defScope s__law_gt_product, [], []⟩
def d__law_gt_led : He.DefD := ⟨("_law_gt_led", none), "_law_gt_led", "_law_gt_led", defArgs s__law_gt_led, defBody s__law_gt_led, defScope s__law_gt_led, [], []⟩
def d__law_gt_unit : He.DefD := ⟨("_law_gt_unit", none), "_law_gt_unit", "_law_gt_unit", defArgs s__law_gt_unit, defBody s__law_gt_unit, defScope s__law_gt_unit, [], []⟩
def d__law_gh_turned : He.DefD := ⟨("_law_gh_turned", none), "_law_gh_turned", "_law_gh_turned", defArgs s__law_gh_turned, defBody s__law_gh_turned, defScope s__law_gh_turned, [], []⟩
def d__law_gh_times : He.DefD := ⟨("_law_gh_times", none), "_law_gh_times", "_law_gh_times", defArgs s__law_gh_times, defBody s__law_gh_times, defScope s__law_gh_times, [], []⟩
def d__law_gh_number : He.DefD := ⟨("_law_gh_number", none), "_law_gh_number", "_law_gh_number", defArgs s__law_gh_number, defBody s__law_gh_number, defScope s__law_gh_number, [], []⟩
def d__law_gh_row : He.DefD := ⟨("_law_gh_row", none), "_law_gh_row", "_law_gh_row", defArgs s__law_gh_row, defBody s__law_gh_row, defScope s__law_gh_row, [], []⟩
def d__law_sent : He.DefD := ⟨("_law_sent", none), "_law_sent", "_law_sent", defArgs s__law_sent, defBody s__law_sent, defScope s__law_sent, [], []⟩
def d__law_thin : He.DefD := ⟨("_law_thin", none), "_law_thin", "_law_thin", defArgs s__law_thin, defBody s__law_thin, defScope s__law_thin, [], []⟩
def d__law_sum : He.DefD := ⟨("_law_sum", none), "_law_sum", "_law_sum", defArgs s__law_sum, defBody s__law_sum, defScope s__law_sum, [], []⟩
def d__law_met : He.DefD := ⟨("_law_met", none), "_law_met", "_law_met", defArgs s__law_met, defBody s__law_met, defScope s__law_met, [], []⟩
def d__law_behind_right : He.DefD := ⟨("_law_behind_right", none), "_law_behind_right", "_law_behind_right", defArgs s__law_behind_right, defBody s__law_behind_right, defScope s__law_behind_right, [], []⟩
def d__law_rows_right : He.DefD := ⟨("_law_rows_right", none), "_law_rows_right", "_law_rows_right", defArgs s__law_rows_right, defBody s__law_rows_right, defScope s__law_rows_right, [], []⟩
def d__law_power_right : He.DefD := ⟨("_law_power_right", none), "_law_power_right", "_law_power_right", defArgs s__law_power_right, defBody s__law_power_right, defScope s__law_power_right, [], []⟩
def d_law : He.DefD := ⟨("law", none), "law", "law", defArgs s_law, defBody s_law, defScope s_law, [], []⟩
def fn : List He.DefD := [d_is_integer, d_require_count, d_is_plain_row, d_is_plain_table, d_rest_row, d_unit_row, d_unit_rows, d_sum_of_rows, d_times_row, d_less_times, d_product_of, d_led_row, d_led_from, d_columns_of, d_table_behind, d_require_width, d_require_row, d_require_table, d_require_sized, d_require_whole, d_is_row, d_is_table, d_row_plus, d_row_times, d_product, d_led, d_led_behind, d_columns, d_unit, d_table_plus, d_table_times, d_power_of, d_table_power, d__law_dice, d__law_roll, d__law_pick, d__law_shuffled, d__law_number, d__law_power, d__law_gt_plus, d__law_gt_product, d__law_gt_led, d__law_gt_unit, d__law_gh_turned, d__law_gh_times, d__law_gh_number, d__law_gh_row, d__law_sent, d__law_thin, d__law_sum, d__law_met, d__law_behind_right, d__law_rows_right, d__law_power_right, d_law]
def fa : List He.Fa := [.glo "is_integer", .glo "require_count", .glo "is_plain_row", .glo "is_plain_table", .glo "rest_row", .glo "unit_row", .glo "unit_rows", .glo "sum_of_rows", .glo "times_row", .glo "less_times", .glo "product_of", .glo "led_row", .glo "led_from", .glo "columns_of", .glo "table_behind", .glo "require_width", .glo "require_row", .glo "require_table", .glo "require_sized", .glo "require_whole", .glo "is_row", .glo "is_table", .glo "row_plus", .glo "row_times", .glo "product", .glo "led", .glo "led_behind", .glo "columns", .glo "unit", .glo "table_plus", .glo "table_times", .glo "power_of", .glo "table_power", .glo "_law_dice", .glo "_law_roll", .glo "_law_pick", .glo "_law_shuffled", .glo "_law_number", .glo "_law_power", .glo "_law_gt_plus", .glo "_law_gt_product", .glo "_law_gt_led", .glo "_law_gt_unit", .glo "_law_gh_turned", .glo "_law_gh_times", .glo "_law_gh_number", .glo "_law_gh_row", .glo "_law_sent", .glo "_law_thin", .glo "_law_sum", .glo "_law_met", .glo "_law_behind_right", .glo "_law_rows_right", .glo "_law_power_right", .glo "law", .glo "WholeError", .glo "InvalidRow", .glo "InvalidTable", .glo "InvalidCount", .int "MAX_COUNT" 400, .int "MAX_WIDTH" 64, .free "IndexError", .free "ValueError", .free "abs", .free "all", .free "bool", .free "enumerate", .free "int", .free "isinstance", .free "len", .free "list", .free "max", .free "min", .free "range", .free "repr", .free "sum", .free "super", .free "tuple", .free "zip"]
abbrev IX__law_met : Nat := 50
abbrev IX_WholeError : Nat := 55
abbrev IX_InvalidRow : Nat := 56
abbrev IX_InvalidTable : Nat := 57
abbrev IX_InvalidCount : Nat := 58
abbrev IXD__law_met : Nat := 50
def w_is_integer : WFn := fnW 1 1 (wRet (wAndV (wCall cIsi (wCons (wVar 0) (wCons (wC (.ty "int")) wNil))) (wNotV (wCall cIsi (wCons (wVar 0) (wCons (wC (.ty "bool")) wNil))))))
def w_require_count : WFn := fnW 3 3 (wIf (wOr (wNot (wTest (wFn w_is_integer [] (wCons (wVar 0) wNil)))) (wNot (wTest (wChain rLe rLe (wVar 1) (wVar 0) (wVar 2))))) (wRaiseX "InvalidCount" "given" okInt (wVar 0)) wNext)
def w_is_plain_row : WFn := fnW 3 2 (wRet (wAndV (wCall cIsi (wCons (wVar 1) (wCons (wC (.ty "tuple")) wNil))) (wAndV (wOp rEq (wCall cLen (wCons (wVar 1) wNil)) (wVar 0)) (wCall cAll (wCons (wLc (iSeq (wVar 1)) (gN 2) wYes (wFn w_is_integer [] (wCons (wVar 2) wNil)) [2]) wNil)))))
def w_is_plain_table : WFn := fnW 4 3 (wRet (wAndV (wCall cIsi (wCons (wVar 2) (wCons (wC (.ty "tuple")) wNil))) (wAndV (wOp rEq (wCall cLen (wCons (wVar 2) wNil)) (wVar 0)) (wCall cAll (wCons (wLc (iSeq (wVar 2)) (gN 3) wYes (wFn w_is_plain_row [] (wCons (wVar 1) (wCons (wVar 3) wNil))) [3]) wNil)))))
def w_rest_row : WFn := fnW 1 1 (wRet (wOp rMul (wTup (wCons (wC (.int 0)) wNil)) (wVar 0)))
def w_unit_row : WFn := fnW 3 2 (wRet (wCall cTuple (wCons (wLc (iRg1 (wVar 0)) (gN 2) wYes (wCall cInt (wCons (wOp rEq (wVar 2) (wVar 1)) wNil)) [2]) wNil)))
def w_unit_rows : WFn := fnW 2 1 (wRet (wCall cTuple (wCons (wLc (iRg1 (wVar 0)) (gN 1) wYes (wFn w_unit_row [] (wCons (wVar 0) (wCons (wVar 1) wNil))) [1]) wNil)))
def w_sum_of_rows : WFn := fnW 4 2 (wRet (wCall cTuple (wCons (wLc (iZipW (wVar 0) (wVar 1)) (gT 2 (gsC (gN 2) (gsC (gN 3) gsN))) wYes (wOp rAdd (wVar 2) (wVar 3)) [2, 3]) wNil)))
def w_times_row : WFn := fnW 3 2 (wRet (wCall cTuple (wCons (wLc (iSeq (wVar 1)) (gN 2) wYes (wOp rMul (wVar 0) (wVar 2)) [2]) wNil)))
def w_less_times : WFn := fnW 5 3 (wRet (wCall cTuple (wCons (wLc (iZipW (wVar 0) (wVar 2)) (gT 2 (gsC (gN 3) (gsC (gN 4) gsN))) wYes (wOp rSub (wVar 3) (wOp rMul (wVar 1) (wVar 4))) [3, 4]) wNil)))
def w_product_of : WFn := fnW 4 2 (wRet (wCall cSum (wCons (wLc (iZipW (wVar 0) (wVar 1)) (gT 2 (gsC (gN 2) (gsC (gN 3) gsN))) wYes (wOp rMul (wVar 2) (wVar 3)) [2, 3]) wNil)))
def w_led_row : WFn := fnW 3 2 (wRet (wCall cTuple (wCons (wLc (iSeq (wVar 0)) (gN 2) wYes (wFn w_product_of [] (wCons (wVar 2) (wCons (wVar 1) wNil))) [2]) wNil)))
def w_led_from : WFn := fnW 6 3 (wSeq (wAsg (wFn w_rest_row [] (wCons (wVar 0) wNil)) (gN 3))
  (wSeq (wFor (iZipW (wVar 2) (wVar 1)) (gT 2 (gsC (gN 4) (gsC (gN 5) gsN))) (wIf (wTest (wOp rNe (wVar 4) (wC (.int 0)))) (wAsg (wFn w_less_times [] (wCons (wVar 3) (wCons (wOp rSub (wC (.int 0)) (wVar 4)) (wCons (wVar 5) wNil)))) (gN 3)) wNext))
  (wRet (wVar 3))))
def w_columns_of : WFn := fnW 4 2 (wRet (wCall cTuple (wCons (wLc (iRg1 (wVar 1)) (gN 2) wYes (wCall cTuple (wCons (wLc (iSeq (wVar 0)) (gN 3) wYes (wOp rIx (wVar 3) (wVar 2)) [3]) wNil)) [2]) wNil)))
def w_require_width : WFn := fnW 1 1 (wExpr (wFn w_require_count [] (wCons (wVar 0) (wCons (wC (.int 0)) (wCons (wC (.int 64)) wNil)))))
def w_require_table : WFn := fnW 3 3 (wIf (wNot (wTest (wFn w_is_plain_table [] (wCons (wVar 0) (wCons (wVar 1) (wCons (wVar 2) wNil)))))) wNever wNext)
def w_require_sized : WFn := fnW 3 3 (wSeq (wExpr (wFn w_require_width [] (wCons (wVar 0) wNil)))
  (wSeq (wExpr (wFn w_require_width [] (wCons (wVar 1) wNil)))
  (wExpr (wFn w_require_table [] (wCons (wVar 0) (wCons (wVar 1) (wCons (wVar 2) wNil)))))))
def w_columns : WFn := fnW 3 3 (wSeq (wExpr (wFn w_require_sized [] (wCons (wVar 0) (wCons (wVar 1) (wCons (wVar 2) wNil)))))
  (wRet (wFn w_columns_of [] (wCons (wVar 2) (wCons (wVar 1) wNil)))))
def w_table_behind : WFn := fnW 6 3 (wSeq (wAsg (wFn w_columns_of [] (wCons (wVar 1) (wCons (wVar 2) wNil))) (gN 3))
  (wRet (wCall cTuple (wCons (wLc (iSeq (wVar 0)) (gN 4) wYes (wCall cTuple (wCons (wLc (iSeq (wVar 3)) (gN 5) wYes (wFn w_product_of [] (wCons (wVar 4) (wCons (wVar 5) wNil))) [5]) wNil)) [4]) wNil))))
def w_require_row : WFn := fnW 2 2 (wIf (wNot (wTest (wFn w_is_plain_row [] (wCons (wVar 0) (wCons (wVar 1) wNil))))) wNever wNext)
def w_require_whole : WFn := fnW 1 1 (wIf (wNot (wTest (wFn w_is_integer [] (wCons (wVar 0) wNil)))) (wRaiseX "InvalidCount" "given" okInt (wVar 0)) wNext)
def w_is_row : WFn := fnW 2 2 (wSeq (wExpr (wFn w_require_width [] (wCons (wVar 0) wNil)))
  (wRet (wFn w_is_plain_row [] (wCons (wVar 0) (wCons (wVar 1) wNil)))))
def w_is_table : WFn := fnW 3 3 (wSeq (wExpr (wFn w_require_width [] (wCons (wVar 0) wNil)))
  (wSeq (wExpr (wFn w_require_width [] (wCons (wVar 1) wNil)))
  (wRet (wFn w_is_plain_table [] (wCons (wVar 0) (wCons (wVar 1) (wCons (wVar 2) wNil)))))))
def w_row_plus : WFn := fnW 3 3 (wSeq (wExpr (wFn w_require_width [] (wCons (wVar 0) wNil)))
  (wSeq (wExpr (wFn w_require_row [] (wCons (wVar 0) (wCons (wVar 1) wNil))))
  (wSeq (wExpr (wFn w_require_row [] (wCons (wVar 0) (wCons (wVar 2) wNil))))
  (wRet (wFn w_sum_of_rows [] (wCons (wVar 1) (wCons (wVar 2) wNil)))))))
def w_row_times : WFn := fnW 3 3 (wSeq (wExpr (wFn w_require_width [] (wCons (wVar 0) wNil)))
  (wSeq (wExpr (wFn w_require_whole [] (wCons (wVar 1) wNil)))
  (wSeq (wExpr (wFn w_require_row [] (wCons (wVar 0) (wCons (wVar 2) wNil))))
  (wRet (wFn w_times_row [] (wCons (wVar 1) (wCons (wVar 2) wNil)))))))
def w_product : WFn := fnW 3 3 (wSeq (wExpr (wFn w_require_width [] (wCons (wVar 0) wNil)))
  (wSeq (wExpr (wFn w_require_row [] (wCons (wVar 0) (wCons (wVar 1) wNil))))
  (wSeq (wExpr (wFn w_require_row [] (wCons (wVar 0) (wCons (wVar 2) wNil))))
  (wRet (wFn w_product_of [] (wCons (wVar 1) (wCons (wVar 2) wNil)))))))
def w_led : WFn := fnW 4 4 (wSeq (wExpr (wFn w_require_sized [] (wCons (wVar 0) (wCons (wVar 1) (wCons (wVar 2) wNil)))))
  (wSeq (wExpr (wFn w_require_row [] (wCons (wVar 1) (wCons (wVar 3) wNil))))
  (wRet (wFn w_led_row [] (wCons (wVar 2) (wCons (wVar 3) wNil))))))
def w_led_behind : WFn := fnW 4 4 (wSeq (wExpr (wFn w_require_sized [] (wCons (wVar 0) (wCons (wVar 1) (wCons (wVar 2) wNil)))))
  (wSeq (wExpr (wFn w_require_row [] (wCons (wVar 0) (wCons (wVar 3) wNil))))
  (wRet (wFn w_led_from [] (wCons (wVar 1) (wCons (wVar 2) (wCons (wVar 3) wNil)))))))
def w_unit : WFn := fnW 1 1 (wSeq (wExpr (wFn w_require_width [] (wCons (wVar 0) wNil)))
  (wRet (wFn w_unit_rows [] (wCons (wVar 0) wNil))))
def w_table_plus : WFn := fnW 6 4 (wSeq (wExpr (wFn w_require_sized [] (wCons (wVar 0) (wCons (wVar 1) (wCons (wVar 2) wNil)))))
  (wSeq (wExpr (wFn w_require_table [] (wCons (wVar 0) (wCons (wVar 1) (wCons (wVar 3) wNil)))))
  (wRet (wCall cTuple (wCons (wLc (iZipW (wVar 2) (wVar 3)) (gT 2 (gsC (gN 4) (gsC (gN 5) gsN))) wYes (wFn w_sum_of_rows [] (wCons (wVar 4) (wCons (wVar 5) wNil))) [4, 5]) wNil)))))
def w_table_times : WFn := fnW 5 5 (wSeq (wExpr (wFn w_require_width [] (wCons (wVar 0) wNil)))
  (wSeq (wExpr (wFn w_require_width [] (wCons (wVar 1) wNil)))
  (wSeq (wExpr (wFn w_require_width [] (wCons (wVar 2) wNil)))
  (wSeq (wExpr (wFn w_require_table [] (wCons (wVar 0) (wCons (wVar 1) (wCons (wVar 3) wNil)))))
  (wSeq (wExpr (wFn w_require_table [] (wCons (wVar 1) (wCons (wVar 2) (wCons (wVar 4) wNil)))))
  (wRet (wFn w_table_behind [] (wCons (wVar 3) (wCons (wVar 4) (wCons (wVar 2) wNil))))))))))
def w_power_of : WFn := fnW 5 3 (wSeq (wPar 3 4 (wFn w_unit_rows [] (wCons (wVar 0) wNil)) (wVar 1))
  (wSeq (wWhile (wTest (wOp rGt (wVar 2) (wC (.int 0)))) (wSeq (wIf (wTest (wOp rEq (wOp rMod (wVar 2) (wC (.int 2))) (wC (.int 1)))) (wAsg (wFn w_table_behind [] (wCons (wVar 3) (wCons (wVar 4) (wCons (wVar 0) wNil)))) (gN 3)) wNext)
  (wPar 4 2 (wFn w_table_behind [] (wCons (wVar 4) (wCons (wVar 4) (wCons (wVar 0) wNil)))) (wOp rDiv (wVar 2) (wC (.int 2))))))
  (wRet (wVar 3))))
def w_table_power : WFn := fnW 3 3 (wSeq (wExpr (wFn w_require_width [] (wCons (wVar 0) wNil)))
  (wSeq (wExpr (wFn w_require_table [] (wCons (wVar 0) (wCons (wVar 0) (wCons (wVar 1) wNil)))))
  (wSeq (wExpr (wFn w_require_count [.int 0, .int 400] (wCons (wVar 2) wNil)))
  (wRet (wFn w_power_of [] (wCons (wVar 0) (wCons (wVar 1) (wCons (wVar 2) wNil))))))))
def w__law_dice : WFn := fnW 4 2 (wSeq (wAsg (wIfE (wTest (wOp rLt (wVar 1) (wCall cLen (wCons (wVar 0) wNil)))) (wCall cInt (wCons (wOp rIx (wVar 0) (wVar 1)) wNil)) (wOp rAdd (wOp rMul (wC (.int 677)) (wVar 1)) (wC (.int 59)))) (gN 2))
  (wSeq (wAsg (wOp rMod (wCall cInt (wCons (wCall cAbs (wCons (wVar 2) wNil)) wNil)) (wOp rPow (wOp rPow (wC (.int 10)) (wC (.int 59))) (wC (.int 5)))) (gN 3))
  (wRet (wLstM (wCons (wCall cMax2 (wCons (wC (.int 0)) (wCons (wOp rSub (wVar 3) (wOp rPow (wC (.int 10)) (wC (.int 17)))) wNil))) (wCons (wOp rAdd (wOp rAdd (wOp rAdd (wOp rMul (wOp rMod (wCall cInt (wCons (wVar 3) wNil)) (wC (.int 2305843009213693921))) (wC (.int 83))) (wOp rMul (wC (.int 1213)) (wVar 1))) (wOp rMul (wC (.int 31)) (wCall cInt (wCons (wOp rLt (wVar 2) (wC (.int 0))) wNil)))) (wC (.int 11))) (wCons (wC (.int 0)) wNil)))))))
def w__law_roll : WFn := fnW 3 2 (wSeq (wIf (wTest (wOp rGt (wOp rIx (wVar 0) (wC (.int 0))) (wC (.int 0)))) (wSeq (wAsg (wOp rMod (wCall cInt (wCons (wOp rIx (wVar 0) (wC (.int 0))) wNil)) (wVar 1)) (gN 2))
  (wSeq (wSetIx (wOp rDiv (wOp rIx (wVar 0) (wC (.int 0))) (wVar 1)) (wVar 0) (wC (.int 0)))
  (wRet (wVar 2)))) wNext)
  (wSeq (wSetIx (wOp rMod (wCall cInt (wCons (wOp rAdd (wOp rMul (wOp rIx (wVar 0) (wC (.int 1))) (wC (.int 6364136223846793005))) (wC (.int 1442695040888963407))) wNil)) (wC (.int 18446744073709551616))) (wVar 0) (wC (.int 1)))
  (wRet (wOp rMod (wCall cInt (wCons (wOp rDiv (wOp rIx (wVar 0) (wC (.int 1))) (wC (.int 4294967296))) wNil)) (wVar 1)))))
def w__law_pick : WFn := fnW 2 2 (wRet (wOp rIx (wVar 1) (wFn w__law_roll [] (wCons (wVar 0) (wCons (wCall cLen (wCons (wVar 1) wNil)) wNil)))))
def w__law_shuffled : WFn := fnW 5 2 (wSeq (wPar 2 3 (wCall cListM (wCons (wVar 1) wNil)) (wLstM wNil))
  (wSeq (wFor (iRg1 (wCall cLen (wCons (wVar 1) wNil))) (gN 4) (wExpr (wMth mAppend (wVar 3) (wCons (wMth mPopAt (wVar 2) (wCons (wFn w__law_roll [] (wCons (wVar 0) (wCons (wCall cLen (wCons (wVar 2) wNil)) wNil))) wNil)) wNil))))
  (wRet (wFrz (wVar 3)))))
def w__law_number : WFn := fnW 5 2 (wSeq (wAsg (wTup (wCons (wC (.int 0)) (wCons (wC (.int 1)) wNil))) (gT 2 (gsC (gN 2) (gsC (gN 3) gsN))))
  (wSeq (wFor (iRg1 (wCall cMin2 (wCons (wVar 1) (wCons (wC (.int 60)) wNil)))) (gN 4) (wAsg (wOp rMul (wVar 3) (wC (.int 10))) (gN 3)))
  (wSeq (wFor (iRg1 (wOp rAdd (wOp rDiv (wVar 1) (wC (.int 9))) (wC (.int 1)))) (gN 4) (wAsg (wOp rAdd (wOp rMul (wVar 2) (wOp rPow (wC (.int 10)) (wC (.int 9)))) (wFn w__law_roll [] (wCons (wVar 0) (wCons (wOp rPow (wC (.int 10)) (wC (.int 9))) wNil)))) (gN 2)))
  (wRet (wOp rMod (wCall cInt (wCons (wVar 2) wNil)) (wVar 3))))))
def w__law_power : WFn := fnW 4 2 (wSeq (wAsg (wC (.int 1)) (gN 2))
  (wSeq (wFor (iRg1 (wVar 1)) (gN 3) (wAsg (wOp rMul (wVar 2) (wVar 0)) (gN 2)))
  (wRet (wVar 2))))
def w__law_gt_plus : WFn := fnW 5 3 (wRet (wCall cTuple (wCons (wLc (iZipW (wVar 0) (wVar 1)) (gT 2 (gsC (gN 3) (gsC (gN 4) gsN))) wYes (wOp rAdd (wVar 3) (wOp rMul (wVar 2) (wVar 4))) [3, 4]) wNil)))
def w__law_gt_product : WFn := fnW 4 2 (wRet (wCall cSum (wCons (wLc (iZipW (wVar 0) (wVar 1)) (gT 2 (gsC (gN 2) (gsC (gN 3) gsN))) wYes (wOp rMul (wVar 2) (wVar 3)) [2, 3]) wNil)))
def w__law_gt_led : WFn := fnW 3 2 (wRet (wCall cTuple (wCons (wLc (iSeq (wVar 0)) (gN 2) wYes (wFn w__law_gt_product [] (wCons (wVar 2) (wCons (wVar 1) wNil))) [2]) wNil)))
def w__law_gt_unit : WFn := fnW 2 1 (wRet (wCall cTuple (wCons (wLc (iRg1 (wVar 0)) (gN 1) wYes (wOp rAdd (wOp rAdd (wOp rMul (wTup (wCons (wC (.int 0)) wNil)) (wVar 1)) (wTup (wCons (wC (.int 1)) wNil))) (wOp rMul (wTup (wCons (wC (.int 0)) wNil)) (wOp rSub (wOp rSub (wVar 0) (wC (.int 1))) (wVar 1)))) [1]) wNil)))
def w__law_gh_turned : WFn := fnW 4 2 (wRet (wCall cTuple (wCons (wLc (iRg1 (wVar 0)) (gN 2) wYes (wCall cTuple (wCons (wLc (iSeq (wVar 1)) (gN 3) wYes (wOp rIx (wVar 3) (wVar 2)) [3]) wNil)) [2]) wNil)))
def w__law_gh_times : WFn := fnW 6 3 (wSeq (wAsg (wFn w__law_gh_turned [] (wCons (wVar 2) (wCons (wVar 1) wNil))) (gN 3))
  (wRet (wCall cTuple (wCons (wLc (iSeq (wVar 0)) (gN 4) wYes (wCall cTuple (wCons (wLc (iSeq (wVar 3)) (gN 5) wYes (wFn w__law_gt_product [] (wCons (wVar 4) (wCons (wVar 5) wNil))) [5]) wNil)) [4]) wNil))))
def w__law_gh_number : WFn := fnW 3 2 (wSeq (wAsg (wFn w__law_number [] (wCons (wVar 0) (wCons (wFn w__law_pick [] (wCons (wVar 0) (wCons (wLst (wCons (wC (.int 1)) (wCons (wC (.int 1)) (wCons (wC (.int 2)) (wCons (wVar 1) wNil))))) wNil))) wNil))) (gN 2))
  (wRet (wIfE (wTest (wOp rEq (wFn w__law_roll [] (wCons (wVar 0) (wCons (wC (.int 2)) wNil))) (wC (.int 0)))) (wVar 2) (wOp rSub (wC (.int 0)) (wVar 2)))))
def w__law_gh_row : WFn := fnW 4 3 (wRet (wCall cTuple (wCons (wLc (iRg1 (wVar 1)) (gN 3) wYes (wFn w__law_gh_number [] (wCons (wVar 0) (wCons (wVar 2) wNil))) [3]) wNil)))
def w__law_sent : WFn := fnW 6 2 (wSeq (wAsg (wFn w__law_shuffled [] (wCons (wVar 0) (wCons (wLstRg (wRg1 (wVar 1))) wNil))) (gN 2))
  (wSeq (wAsg (wLc (iRg1 (wVar 1)) (gN 4) wYes (wFn w__law_pick [] (wCons (wVar 0) (wCons (wLst (wCons (wC (.int 1)) (wCons (wC (.int 1)) (wCons (wUn rNeg (wC (.int 1))) wNil)))) wNil))) [4]) (gN 3))
  (wRet (wCall cTuple (wCons (wLc (iRg1 (wVar 1)) (gN 4) wYes (wCall cTuple (wCons (wLc (iRg1 (wVar 1)) (gN 5) wYes (wOp rMul (wOp rIx (wVar 3) (wVar 4)) (wCall cInt (wCons (wOp rEq (wVar 5) (wOp rIx (wVar 2) (wVar 4))) wNil))) [5]) wNil)) [4]) wNil)))))
def w__law_thin : WFn := fnW 7 3 (wSeq (wAsg (wLc (iRg1 (wVar 1)) (gN 5) wYes (wOp rMulM (wLst (wCons (wC (.int 0)) wNil)) (wVar 2)) [5]) (gN 3))
  (wSeq (wFor (iRg1 (wCall cMin2 (wCons (wOp rMul (wVar 1) (wVar 2)) (wCons (wC (.int 90)) wNil)))) (gN 4) (wSetIx (wFn w__law_gh_number [] (wCons (wVar 0) (wCons (wC (.int 9)) wNil))) (wOp rIx (wVar 3) (wFn w__law_roll [] (wCons (wVar 0) (wCons (wVar 1) wNil)))) (wFn w__law_roll [] (wCons (wVar 0) (wCons (wVar 2) wNil)))))
  (wRet (wCall cTuple (wCons (wLc (iSeq (wVar 3)) (gN 6) wYes (wCall cTuple (wCons (wVar 6) wNil)) [6]) wNil)))))
def w__law_sum : WFn := fnW 6 2 (wRet (wCall cTuple (wCons (wLc (iZipW (wVar 0) (wVar 1)) (gT 2 (gsC (gN 2) (gsC (gN 3) gsN))) wYes (wCall cTuple (wCons (wLc (iZipW (wVar 2) (wVar 3)) (gT 2 (gsC (gN 4) (gsC (gN 5) gsN))) wYes (wOp rAdd (wVar 4) (wVar 5)) [4, 5]) wNil)) [2, 3]) wNil)))
def w__law_behind_right : WFn := fnW 10 4 (wSeq (wPar 4 5 (wFn w__law_thin [] (wCons (wVar 0) (wCons (wVar 1) (wCons (wVar 2) wNil)))) (wFn w__law_thin [] (wCons (wVar 0) (wCons (wVar 2) (wCons (wVar 3) wNil)))))
  (wSeq (wPar 6 7 (wFn w__law_gh_row [] (wCons (wVar 0) (wCons (wVar 3) (wCons (wC (.int 40)) wNil)))) (wFn w__law_gh_row [] (wCons (wVar 0) (wCons (wVar 1) (wCons (wC (.int 40)) wNil)))))
  (wSeq (wAsg (wFn w__law_gh_times [] (wCons (wVar 4) (wCons (wVar 5) (wCons (wVar 3) wNil)))) (gN 8))
  (wSeq (wIf (wTest (wOp rNe (wCall rRepr (wCons (wFn w_table_times [] (wCons (wVar 1) (wCons (wVar 2) (wCons (wVar 3) (wCons (wVar 4) (wCons (wVar 5) wNil)))))) wNil)) (wCall rRepr (wCons (wVar 8) wNil)))) (wRet (wC (.bl false))) wNext)
  (wSeq (wIf (wTest (wOp rNe (wCall rRepr (wCons (wFn w_led [] (wCons (wVar 1) (wCons (wVar 3) (wCons (wVar 8) (wCons (wVar 6) wNil))))) wNil)) (wCall rRepr (wCons (wFn w__law_gt_led [] (wCons (wVar 4) (wCons (wFn w__law_gt_led [] (wCons (wVar 5) (wCons (wVar 6) wNil))) wNil))) wNil)))) (wRet (wC (.bl false))) wNext)
  (wSeq (wAsg (wFn w__law_gh_turned [] (wCons (wVar 3) (wCons (wVar 8) wNil))) (gN 9))
  (wSeq (wIf (wTest (wOp rNe (wCall rRepr (wCons (wLst (wCons (wFn w_columns [] (wCons (wVar 1) (wCons (wVar 3) (wCons (wVar 8) wNil)))) (wCons (wFn w_led_behind [] (wCons (wVar 1) (wCons (wVar 3) (wCons (wVar 8) (wCons (wVar 7) wNil))))) wNil))) wNil)) (wCall rRepr (wCons (wLst (wCons (wVar 9) (wCons (wFn w__law_gt_led [] (wCons (wVar 9) (wCons (wVar 7) wNil))) wNil))) wNil)))) (wRet (wC (.bl false))) wNext)
  (wRet (wOp rEq (wFn w_product [] (wCons (wVar 1) (wCons (wVar 7) (wCons (wFn w_led [] (wCons (wVar 1) (wCons (wVar 3) (wCons (wVar 8) (wCons (wVar 6) wNil))))) wNil)))) (wFn w_product [] (wCons (wVar 3) (wCons (wFn w_led_behind [] (wCons (wVar 1) (wCons (wVar 3) (wCons (wVar 8) (wCons (wVar 7) wNil))))) (wCons (wVar 6) wNil)))))))))))))
def w__law_rows_right : WFn := fnW 14 2 (wSeq (wPar 2 3 (wFn w__law_gh_row [] (wCons (wVar 0) (wCons (wVar 1) (wCons (wC (.int 40)) wNil)))) (wFn w__law_gh_row [] (wCons (wVar 0) (wCons (wVar 1) (wCons (wC (.int 40)) wNil)))))
  (wSeq (wAsg (wFn w__law_gh_number [] (wCons (wVar 0) (wCons (wC (.int 40)) wNil))) (gN 4))
  (wSeq (wAsg (wLst (wCons (wFn w_row_plus [] (wCons (wVar 1) (wCons (wVar 2) (wCons (wVar 3) wNil)))) (wCons (wFn w_row_times [] (wCons (wVar 1) (wCons (wVar 4) (wCons (wVar 2) wNil)))) (wCons (wFn w_product [] (wCons (wVar 1) (wCons (wVar 2) (wCons (wVar 3) wNil)))) wNil)))) (gN 5))
  (wSeq (wAsg (wLst (wCons (wFn w__law_gt_plus [] (wCons (wVar 2) (wCons (wVar 3) (wCons (wC (.int 1)) wNil)))) (wCons (wCall cTuple (wCons (wLc (iSeq (wVar 2)) (gN 10) wYes (wOp rMul (wVar 4) (wVar 10)) [10]) wNil)) (wCons (wFn w__law_gt_product [] (wCons (wVar 2) (wCons (wVar 3) wNil))) wNil)))) (gN 6))
  (wSeq (wIf (wTest (wOp rNe (wCall rRepr (wCons (wVar 5) wNil)) (wCall rRepr (wCons (wVar 6) wNil)))) (wRet (wC (.bl false))) wNext)
  (wSeq (wAsg (wFn w__law_roll [] (wCons (wVar 0) (wCons (wC (.int 5)) wNil))) (gN 7))
  (wSeq (wAsg (wLc (iRg1 (wC (.int 2))) (gN 11) wYes (wCall cTuple (wCons (wLc (iRg1 (wVar 7)) (gN 12) wYes (wFn w__law_gh_row [] (wCons (wVar 0) (wCons (wVar 1) (wCons (wC (.int 20)) wNil)))) [12]) wNil)) [11]) (gT 2 (gsC (gN 8) (gsC (gN 9) gsN))))
  (wSeq (wIf (wTest (wOp rNe (wCall rRepr (wCons (wFn w_table_plus [] (wCons (wVar 7) (wCons (wVar 1) (wCons (wVar 8) (wCons (wVar 9) wNil))))) wNil)) (wCall rRepr (wCons (wFn w__law_sum [] (wCons (wVar 8) (wCons (wVar 9) wNil))) wNil)))) (wRet (wC (.bl false))) wNext)
  (wSeq (wAsg (wLst (wCons (wVar 2) (wCons (wSl (wVar 2) (wPart (wC (.int 1))) wNo) (wCons (wOp rAdd (wVar 2) (wTup (wCons (wC (.int 0)) wNil))) (wCons (wCall cList (wCons (wVar 2) wNil)) (wCons (wC .non) (wCons (wOp rAdd (wSl (wVar 2) wNo (wPart (wUn rNeg (wC (.int 1))))) (wTup (wCons (wC (.bl true)) wNil))) wNil))))))) (gN 10))
  (wSeq (wAsg (wLst (wCons (wC (.bl true)) (wCons (wOp rEq (wVar 1) (wC (.int 0))) (wCons (wC (.bl false)) (wCons (wC (.bl false)) (wCons (wC (.bl false)) (wCons (wC (.bl false)) wNil))))))) (gN 6))
  (wRet (wAndV (wOp rEq (wCall rRepr (wCons (wLc (iSeq (wSl (wVar 10) wNo (wPart (wC (.int 5))))) (gN 13) wYes (wFn w_is_row [] (wCons (wVar 1) (wCons (wVar 13) wNil))) [13]) wNil)) (wCall rRepr (wCons (wSl (wVar 6) wNo (wPart (wC (.int 5)))) wNil))) (wOp rIs (wFn w_is_table [] (wCons (wVar 7) (wCons (wVar 1) (wCons (wVar 8) wNil)))) (wC (.bl true)))))))))))))))
def w__law_power_right : WFn := fnW 12 2 (wSeq (wAsg (wFn w__law_sent [] (wCons (wVar 0) (wCons (wVar 1) wNil))) (gN 2))
  (wSeq (wAsg (wFn w__law_pick [] (wCons (wVar 0) (wCons (wLst (wCons (wC (.int 0)) (wCons (wC (.int 1)) (wCons (wC (.int 2)) (wCons (wC (.int 399)) (wCons (wC (.int 400)) (wCons (wFn w__law_roll [] (wCons (wVar 0) (wCons (wC (.int 400)) wNil))) wNil))))))) wNil))) (gN 3))
  (wSeq (wPar3 4 5 6 (wFn w__law_gt_unit [] (wCons (wVar 1) wNil)) (wVar 2) (wVar 3))
  (wSeq (wAsg (wCall cTuple (wCons (wLc (iRg1 (wVar 1)) (gN 11) wYes (wOp rAdd (wVar 11) (wC (.int 1))) [11]) wNil)) (gN 7))
  (wSeq (wFor (iRg1 (wVar 3)) (gN 8) (wAsg (wFn w__law_gt_led [] (wCons (wVar 2) (wCons (wVar 7) wNil))) (gN 7)))
  (wSeq (wAsg (wFn w_table_power [] (wCons (wVar 1) (wCons (wVar 2) (wCons (wVar 3) wNil)))) (gN 9))
  (wSeq (wIf (wOr (wTest (wOp rNe (wCall rRepr (wCons (wFn w__law_gt_led [] (wCons (wVar 9) (wCons (wCall cTuple (wCons (wLc (iRg1 (wVar 1)) (gN 11) wYes (wOp rAdd (wVar 11) (wC (.int 1))) [11]) wNil)) wNil))) wNil)) (wCall rRepr (wCons (wVar 7) wNil)))) (wNot (wTest (wFn w_is_table [] (wCons (wVar 1) (wCons (wVar 1) (wCons (wVar 9) wNil))))))) (wRet (wC (.bl false))) wNext)
  (wSeq (wAsg (wTup (wCons (wTup (wCons (wC (.int 2)) (wCons (wC (.int 1)) wNil))) (wCons (wTup (wCons (wC (.int 0)) (wCons (wC (.int 1)) wNil))) wNil))) (gN 10))
  (wRet (wOp rEq (wCall rRepr (wCons (wFn w_table_power [] (wCons (wC (.int 2)) (wCons (wVar 10) (wCons (wVar 3) wNil)))) wNil)) (wCall rRepr (wCons (wTup (wCons (wTup (wCons (wFn w__law_power [] (wCons (wC (.int 2)) (wCons (wVar 3) wNil))) (wCons (wOp rSub (wFn w__law_power [] (wCons (wC (.int 2)) (wCons (wVar 3) wNil))) (wC (.int 1))) wNil))) (wCons (wTup (wCons (wC (.int 0)) (wCons (wC (.int 1)) wNil))) wNil))) wNil))))))))))))
def w_law : WFn := fnW 9 1 (wSeq (wFor (iRg1 (wCall cMax2 (wCons (wC (.int 1)) (wCons (wCall cMin2 (wCons (wC (.int 2)) (wCons (wCall cLen (wCons (wVar 0) wNil)) wNil))) wNil)))) (gN 1) (wSeq (wAsg (wFn w__law_dice [] (wCons (wVar 0) (wCons (wVar 1) wNil))) (gN 2))
  (wSeq (wAsg (wLc (iRg1 (wC (.int 3))) (gN 6) wYes (wFn w__law_pick [] (wCons (wVar 2) (wCons (wLst (wCons (wC (.int 64)) (wCons (wC (.int 63)) (wCons (wC (.int 0)) (wCons (wC (.int 1)) (wCons (wOp rAdd (wC (.int 1)) (wFn w__law_roll [] (wCons (wVar 2) (wCons (wC (.int 64)) wNil)))) wNil)))))) wNil))) [6]) (gN 3))
  (wSeq (wAsg (wLc (iEnumW (wVar 3)) (gT 2 (gsC (gN 7) (gsC (gN 8) gsN))) wYes (wIfE (wTest (wOp rLt (wVar 7) (wC (.int 3)))) (wCall cMax2 (wCons (wC (.int 1)) (wCons (wVar 8) wNil))) (wVar 8)) [7, 8]) (gN 3))
  (wSeq (wIf (wOr (wNot (wTest (wFn w__law_behind_right [] (wCons (wVar 2) (wCons (wOp rIx (wVar 3) (wC (.int 0))) (wCons (wOp rIx (wVar 3) (wC (.int 1))) (wCons (wOp rIx (wVar 3) (wC (.int 2))) wNil))))))) (wNot (wTest (wFn w__law_rows_right [] (wCons (wVar 2) (wCons (wFn w__law_pick [] (wCons (wVar 2) (wCons (wLst (wCons (wC (.int 64)) (wCons (wC (.int 64)) (wCons (wC (.int 0)) (wCons (wC (.int 9)) wNil))))) wNil))) wNil)))))) (wRet (wC (.bl false))) wNext)
  (wIf (wNot (wTest (wFn w__law_power_right [] (wCons (wVar 2) (wCons (wFn w__law_pick [] (wCons (wVar 2) (wCons (wLst (wCons (wC (.int 1)) (wCons (wC (.int 5)) (wCons (wC (.int 12)) (wCons (wC (.int 24)) wNil))))) wNil))) wNil))))) (wRet (wC (.bl false))) wNext))))))
  (wSeq (wAsg (wLst (wCons (wMet "InvalidCount" "given" "count" (wFn w_unit [] (wCons (wC (.int 65)) wNil))) (wCons (wMet "InvalidCount" "given" "count" (wFn w_product [] (wCons (wC (.int 65)) (wCons (wOp rMul (wTup (wCons (wC (.int 0)) wNil)) (wC (.int 65))) (wCons (wOp rMul (wTup (wCons (wC (.int 0)) wNil)) (wC (.int 65))) wNil))))) (wCons (wMet "InvalidCount" "given" "count" (wFn w_unit [] (wCons (wUn rNeg (wC (.int 1))) wNil))) wNil)))) (gN 4))
  (wSeq (wAsg (wOp rAdd (wVar 4) (wLst (wCons (wMet "InvalidCount" "given" "count" (wFn w_table_power [] (wCons (wC (.int 1)) (wCons (wTup (wCons (wTup (wCons (wC (.int 2)) wNil)) wNil)) (wCons (wC (.int 401)) wNil))))) (wCons (wCall cLen (wCons (wFn w_unit [] (wCons (wC (.int 64)) wNil)) wNil)) (wCons (wFn w_unit [] (wCons (wC (.int 0)) wNil)) (wCons (wFn w_led [] (wCons (wC (.int 0)) (wCons (wC (.int 3)) (wCons (wTup wNil) (wCons (wTup (wCons (wC (.int 1)) (wCons (wC (.int 2)) (wCons (wC (.int 3)) wNil)))) wNil))))) (wCons (wFn w_led [] (wCons (wC (.int 2)) (wCons (wC (.int 0)) (wCons (wTup (wCons (wTup wNil) (wCons (wTup wNil) wNil))) (wCons (wTup wNil) wNil))))) wNil))))))) (gN 4))
  (wSeq (wAsg (wLst (wCons (wTup (wCons (wC (.str "count")) (wCons (wC (.int 65)) wNil))) (wCons (wTup (wCons (wC (.str "count")) (wCons (wC (.int 65)) wNil))) (wCons (wTup (wCons (wC (.str "count")) (wCons (wUn rNeg (wC (.int 1))) wNil))) (wCons (wTup (wCons (wC (.str "count")) (wCons (wC (.int 401)) wNil))) (wCons (wC (.int 64)) (wCons (wTup wNil) (wCons (wTup wNil) (wCons (wTup (wCons (wC (.int 0)) (wCons (wC (.int 0)) wNil))) wNil))))))))) (gN 5))
  (wRet (wAndV (wOp rEq (wCall rRepr (wCons (wVar 4) wNil)) (wCall rRepr (wCons (wVar 5) wNil))) (wOp rEq (wCall rRepr (wCons (wFn w_table_power [] (wCons (wC (.int 2)) (wCons (wTup (wCons (wTup (wCons (wC (.int 0)) (wCons (wC (.int 0)) wNil))) (wCons (wTup (wCons (wC (.int 0)) (wCons (wC (.int 0)) wNil))) wNil))) (wCons (wC (.int 0)) wNil)))) wNil)) (wCall rRepr (wCons (wFn w__law_gt_unit [] (wCons (wC (.int 2)) wNil)) wNil)))))))))
/-! ### what is known of the text -/
abbrev ixTail : List Value := [.type "IndexError", .type "LookupError", .type "Exception", .type "BaseException", .type "object"]
structure Tx (P : Program) (w : World) (K : Frag) (mg : Str → Option Value) (base : Heap) (T : List (Addr × Str)) : Prop where
  e : Ev fa fn K mg base
  xt : ∃ (fI : Addr) (ex : Expr) (nl : List (Str × NameKind)), XTxt P K "IndexError" "IndexError.__new__" "IndexError.__init__" ixTail (He.ga K "InvalidCount") fI "given" ex "InvalidCount.__init__" nl ∧ ReprTxt "given" ex
  xg : XGet K (He.ga K "InvalidCount") "given"
  tb : TabB base mg (He.cT K ("law", none)).1 (He.cT K ("law", none)).2
  hT : T = [((He.cT K ("law", none)).2, ("law.<locals>.<lambda>" : Str))]
section
variable {P : Program} {w : World} {K : Frag} {mg : Str → Option Value} {base : Heap} {T : List (Addr × Str)}
theorem RAISE_InvalidCount {X : Cx} {W : WX} {a : Expr} {wa : WE} {p pos pos2 : Pos} {k : Nat} (E : Tx X.prog X.w X.K X.mg X.base T) (hr : RmG k X.A) (tk : Takes X W) (ha : DE X T W a wa) (hc : X.calm = true := by rfl) (hg : Gl X "InvalidCount" := by rfl)
    (he : starEach (a :: []) X.env = (false, eval a X.env) :: starEach [] X.env := by rfl) (hpl : (backTo pos (starEach [] X.env)).any (·.1) = false := by rfl) :
    DS X T W (.Raise (some (.Call (.Name "InvalidCount" p) [a] [] pos)) none pos2) (wRaiseX "InvalidCount" "given" okInt wa) := by
  obtain ⟨fI, ex, nl, TX, hex⟩ := E.xt
  exact raise_int TX hex (E.e.glo IX_InvalidCount) rfl hc tk hr ha hg (by decide) he hpl
theorem MET_law {X : Cx} {W : WX} {cdv : Value} {j k : Nat} {zs : List Int} {bs : List Str} {params : Arguments} {body : Expr} {scope : Scope} {wb : WE} {p lpos pos : Pos} (E : Tx X.prog X.w X.K X.mg X.base T) (hr : RmG j X.A) (hcd : CodeAt X.K (He.fAd X.K ("law", none)) "law" cdv)
    (hj : k + 2 ≤ j) (L : LamP X.N X.env.scope scope bs) (hbind : LBind params body scope bs zs)
    (hbody : ∀ (A : Around) (outer : List Env) (s : Shared) (H : Hp) (EE : XK) (f c' : Addr), RmG k (A.deeper (lamEnv X scope s.heap.objs.size f c')) → DE (lamCx X A outer s H EE scope f c') T (fun cls d _ H' => EE cls d H') body wb)
    (hq : X.env.qual ++ "<lambda>" = ("law.<locals>.<lambda>" : Str) := by rfl) (hco : X.env.code = cdv := by rfl) (hg : Gl X "_law_met" := by rfl) :
    DE X T W (.Call (.Name "_law_met" p) [.Lambda params body scope lpos] [] pos) (wMet "InvalidCount" "given" "count" wb) := by
  obtain ⟨fd, F⟩ := E.e.c.def_ IXD__law_met (d := d__law_met) rfl
  obtain ⟨h1, oc, od, fdl, osl, lk, ec⟩ := hcd
  obtain ⟨c0, e0⟩ := He.codeIn_ref h1
  have e1 : (He.cT X.K ("law", none)).1 = c0 := He.codeOf_eq lk (ec.trans e0)
  have hin : ((He.cT X.K ("law", none)).2, X.env.qual ++ "<lambda>") ∈ T := by rw [E.hT, hq]; exact List.mem_singleton.mpr rfl
  have hu : ∀ p ∈ T, p.1 = (He.cT X.K ("law", none)).2 → p.2 = X.env.qual ++ "<lambda>" := fun p hp _ => by
    rw [E.hT] at hp
    rw [List.mem_singleton.mp hp, hq]
  refine de_met (Ng := ["call", "error"]) (a := "call") (zs := zs) hg (E.e.glo IX__law_met) (show FunD X.K "_law_met" "_law_met" (defArgs s__law_met) (defBody s__law_met) (defScope s__law_met) [] [] (He.fAd X.K ("_law_met", none)) fd from F)
    (FunD.bindsN (ps := ["call"]) F fun _ _ _ _ _ _ us hl => match us, hl with | [_], _ => rfl) ⟨rfl, rfl, rfl, by decide +kernel, rfl, by decide +kernel, by decide +kernel⟩ rfl (.inl rfl) E.xg rfl
    (fun cdv => met_gives (a := "call") (n := "error") (by decide) rfl rfl (E.e.glo IX_InvalidCount) (by decide) (by decide) (by decide) (fun _ => rfl) (fun _ => rfl) E.xg) E.tb (by rw [hco, e0, e1]) hin hu hr hj L hbind hbody
end
end K01
end
section
set_option Elab.async false
set_option linter.all false
set_option maxRecDepth 100000
set_option maxHeartbeats 4000000
namespace K01
open PySem PySem.Spec PyProof.Rows L2 LamX G2
open PySem.W (Frag)
section
variable {P : Program} {w : World} {K : Frag} {mg : Str → Option Value} {base : Heap} {T : List (Addr × Str)}
theorem sc_is_integer : FnScope ["value"] ["value"] (defScope s_is_integer) := ⟨rfl, rfl, rfl, by decide +kernel, rfl, by decide +kernel, by decide +kernel⟩
theorem fn_is_integer (E : Tx P w K mg base T) : Fn K mg base P w T d_is_integer 1 ["value"] w_is_integer :=
  E.e.fn_ (N := ["value"]) 0 rfl sc_is_integer fun cdv A outer s H EE hr hcd =>
  (dss_one (ds_ret (de_and (de_callB cd_isi rfl (E.e.free 68) PyProof.Rows.Boot.«isinstance» (da_cons (dv 0) (da_cons (dty rfl (E.e.free 67) PyProof.Rows.Boot.«int») da_nil))) (de_one (de_not (de_callB cd_isi rfl (E.e.free 68) PyProof.Rows.Boot.«isinstance» (da_cons (dv 0) (da_cons (dty rfl (E.e.free 65) PyProof.Rows.Boot.«bool») da_nil))))))))
theorem cal_is_integer (E : Tx P w K mg base T) : Cal P w K mg base T 1 "is_integer" [] w_is_integer := (fn_is_integer E).cal rfl (E.e.glo 0) rfl (fun _ _ _ _ _ _ us hl => match us, hl with | [_], _ => rfl)
theorem sc_require_count : FnScope ["value", "least", "most"] ["value", "least", "most"] (defScope s_require_count) := ⟨rfl, rfl, rfl, by decide +kernel, rfl, by decide +kernel, by decide +kernel⟩
theorem fn_require_count (E : Tx P w K mg base T) : Fn K mg base P w T d_require_count 2 ["value", "least", "most"] w_require_count :=
  E.e.fn_ (N := ["value", "least", "most"]) 1 rfl sc_require_count fun cdv A outer s H EE hr hcd =>
  (dss_one (ds_if (dt_w (dw_or (dt_not (dt_val (de_fn (cal_is_integer E) hr (by decide) rfl (takes_of rfl rfl rfl rfl) (da_cons (dv 0) da_nil)))) (dw_or1 (dt_not (dt_chain od_le od_le (dv 1) (dv 0) (dv 2)))))) (dss_one (RAISE_InvalidCount E hr (takes_of rfl rfl rfl rfl) (dv 0))) dss_nil))
theorem cal_require_count (E : Tx P w K mg base T) : Cal P w K mg base T 2 "require_count" [] w_require_count := (fn_require_count E).calD (m := 3) (j := 2) (by decide) (E.e.glo 1) rfl rfl rfl (fun _ _ _ _ _ _ _ us its hl hl2 => match us, its, hl, hl2 with | [_, _, _], [_, _], _, _ => ⟨_, rfl, rfl⟩)
theorem cal_require_count_2 (E : Tx P w K mg base T) : Cal P w K mg base T 2 "require_count" [.int 0, .int 400] w_require_count := (fn_require_count E).calD (m := 1) (j := 0) (by decide) (E.e.glo 1) rfl rfl rfl (fun _ _ _ _ _ _ _ us its hl hl2 => match us, its, hl, hl2 with | [_], [_, _], _, _ => ⟨_, rfl, rfl⟩)
theorem sc_is_plain_row : FnScope ["width", "value", "one"] ["width", "value"] (defScope s_is_plain_row) := ⟨rfl, rfl, rfl, by decide +kernel, rfl, by decide +kernel, by decide +kernel⟩
theorem fn_is_plain_row (E : Tx P w K mg base T) : Fn K mg base P w T d_is_plain_row 2 ["width", "value"] w_is_plain_row :=
  E.e.fn_ (N := ["width", "value", "one"]) 2 rfl sc_is_plain_row fun cdv A outer s H EE hr hcd =>
  (dss_one (ds_ret (de_and (de_callB cd_isi rfl (E.e.free 68) PyProof.Rows.Boot.«isinstance» (da_cons (dv 1) (da_cons (dty rfl (E.e.free 77) PyProof.Rows.Boot.«tuple») da_nil))) (de_and (de_cmp (od_eq (units_of hr)) (de_callB cd_len rfl (E.e.free 69) PyProof.Rows.Boot.«len» (da_cons (dv 1) da_nil)) (dv 0) (nomark _)) (de_one (de_callB (cd_all rfl) rfl (E.e.free 64) PyProof.Rows.Boot.«all» (da_cons (de_lc (own := [("one", 2)]) rfl sc_is_plain_row.nd (di_seq (dv 1)) (blkOk_by (by kernel_rfl)) (fun _ _ _ _ _ => (dg_name (i := 2) sc_is_plain_row.nd rfl (Or.inl rfl))) (fun _ _ _ _ _ => dts_nil) (fun _ _ _ _ _ => (de_fn (cal_is_integer E) hr (by decide) rfl takesF (da_cons (dv 2) da_nil)))) da_nil)))))))
theorem cal_is_plain_row (E : Tx P w K mg base T) : Cal P w K mg base T 2 "is_plain_row" [] w_is_plain_row := (fn_is_plain_row E).cal rfl (E.e.glo 2) rfl (fun _ _ _ _ _ _ us hl => match us, hl with | [_, _], _ => rfl)
theorem sc_is_plain_table : FnScope ["height", "width", "value", "row"] ["height", "width", "value"] (defScope s_is_plain_table) := ⟨rfl, rfl, rfl, by decide +kernel, rfl, by decide +kernel, by decide +kernel⟩
theorem fn_is_plain_table (E : Tx P w K mg base T) : Fn K mg base P w T d_is_plain_table 3 ["height", "width", "value"] w_is_plain_table :=
  E.e.fn_ (N := ["height", "width", "value", "row"]) 3 rfl sc_is_plain_table fun cdv A outer s H EE hr hcd =>
  (dss_one (ds_ret (de_and (de_callB cd_isi rfl (E.e.free 68) PyProof.Rows.Boot.«isinstance» (da_cons (dv 2) (da_cons (dty rfl (E.e.free 77) PyProof.Rows.Boot.«tuple») da_nil))) (de_and (de_cmp (od_eq (units_of hr)) (de_callB cd_len rfl (E.e.free 69) PyProof.Rows.Boot.«len» (da_cons (dv 2) da_nil)) (dv 0) (nomark _)) (de_one (de_callB (cd_all rfl) rfl (E.e.free 64) PyProof.Rows.Boot.«all» (da_cons (de_lc (own := [("row", 3)]) rfl sc_is_plain_table.nd (di_seq (dv 2)) (blkOk_by (by kernel_rfl)) (fun _ _ _ _ _ => (dg_name (i := 3) sc_is_plain_table.nd rfl (Or.inl rfl))) (fun _ _ _ _ _ => dts_nil) (fun _ _ _ _ _ => (de_fn (cal_is_plain_row E) hr (by decide) rfl takesF (da_cons (dv 1) (da_cons (dv 3) da_nil))))) da_nil)))))))
theorem cal_is_plain_table (E : Tx P w K mg base T) : Cal P w K mg base T 3 "is_plain_table" [] w_is_plain_table := (fn_is_plain_table E).cal rfl (E.e.glo 3) rfl (fun _ _ _ _ _ _ us hl => match us, hl with | [_, _, _], _ => rfl)
theorem sc_rest_row : FnScope ["width"] ["width"] (defScope s_rest_row) := ⟨rfl, rfl, rfl, by decide +kernel, rfl, by decide +kernel, by decide +kernel⟩
theorem fn_rest_row (E : Tx P w K mg base T) : Fn K mg base P w T d_rest_row 1 ["width"] w_rest_row :=
  E.e.fn_ (N := ["width"]) 4 rfl sc_rest_row fun cdv A outer s H EE hr hcd =>
  (dss_one (ds_ret (de_op od_mul (de_tup (da_cons de_int da_nil)) (dv 0))))
theorem cal_rest_row (E : Tx P w K mg base T) : Cal P w K mg base T 1 "rest_row" [] w_rest_row := (fn_rest_row E).cal rfl (E.e.glo 4) rfl (fun _ _ _ _ _ _ us hl => match us, hl with | [_], _ => rfl)
theorem sc_unit_row : FnScope ["width", "index", "place"] ["width", "index"] (defScope s_unit_row) := ⟨rfl, rfl, rfl, by decide +kernel, rfl, by decide +kernel, by decide +kernel⟩
theorem fn_unit_row (E : Tx P w K mg base T) : Fn K mg base P w T d_unit_row 1 ["width", "index"] w_unit_row :=
  E.e.fn_ (N := ["width", "index", "place"]) 5 rfl sc_unit_row fun cdv A outer s H EE hr hcd =>
  (dss_one (ds_ret (de_callTy cd_tuple rfl (E.e.free 77) PyProof.Rows.Boot.«tuple» (da_cons (de_lc (own := [("place", 2)]) rfl sc_unit_row.nd (di_rg1 rfl (E.e.free 73) (dv 0)) (blkOk_by (by kernel_rfl)) (fun _ _ _ _ _ => (dg_name (i := 2) sc_unit_row.nd rfl (Or.inl rfl))) (fun _ _ _ _ _ => dts_nil) (fun _ _ _ _ _ => (de_callTy cd_int rfl (E.e.free 67) PyProof.Rows.Boot.«int» (da_cons (de_cmp (od_eq (units_of hr)) (dv 2) (dv 1) (nomark _)) da_nil)))) da_nil))))
theorem cal_unit_row (E : Tx P w K mg base T) : Cal P w K mg base T 1 "unit_row" [] w_unit_row := (fn_unit_row E).cal rfl (E.e.glo 5) rfl (fun _ _ _ _ _ _ us hl => match us, hl with | [_, _], _ => rfl)
theorem sc_unit_rows : FnScope ["width", "index"] ["width"] (defScope s_unit_rows) := ⟨rfl, rfl, rfl, by decide +kernel, rfl, by decide +kernel, by decide +kernel⟩
theorem fn_unit_rows (E : Tx P w K mg base T) : Fn K mg base P w T d_unit_rows 2 ["width"] w_unit_rows :=
  E.e.fn_ (N := ["width", "index"]) 6 rfl sc_unit_rows fun cdv A outer s H EE hr hcd =>
  (dss_one (ds_ret (de_callTy cd_tuple rfl (E.e.free 77) PyProof.Rows.Boot.«tuple» (da_cons (de_lc (own := [("index", 1)]) rfl sc_unit_rows.nd (di_rg1 rfl (E.e.free 73) (dv 0)) (blkOk_by (by kernel_rfl)) (fun _ _ _ _ _ => (dg_name (i := 1) sc_unit_rows.nd rfl (Or.inl rfl))) (fun _ _ _ _ _ => dts_nil) (fun _ _ _ _ _ => (de_fn (cal_unit_row E) hr (by decide) rfl takesF (da_cons (dv 0) (da_cons (dv 1) da_nil))))) da_nil))))
theorem cal_unit_rows (E : Tx P w K mg base T) : Cal P w K mg base T 2 "unit_rows" [] w_unit_rows := (fn_unit_rows E).cal rfl (E.e.glo 6) rfl (fun _ _ _ _ _ _ us hl => match us, hl with | [_], _ => rfl)
theorem sc_sum_of_rows : FnScope ["one", "other", "left", "right"] ["one", "other"] (defScope s_sum_of_rows) := ⟨rfl, rfl, rfl, by decide +kernel, rfl, by decide +kernel, by decide +kernel⟩
theorem fn_sum_of_rows (E : Tx P w K mg base T) : Fn K mg base P w T d_sum_of_rows 1 ["one", "other"] w_sum_of_rows :=
  E.e.fn_ (N := ["one", "other", "left", "right"]) 7 rfl sc_sum_of_rows fun cdv A outer s H EE hr hcd =>
  (dss_one (ds_ret (de_callTy cd_tuple rfl (E.e.free 77) PyProof.Rows.Boot.«tuple» (da_cons (de_lc (own := [("left", 2), ("right", 3)]) rfl sc_sum_of_rows.nd (di_zip rfl (E.e.free 78) (dv 0) (dv 1)) (blkOk_by (by kernel_rfl)) (fun _ _ _ _ _ => (dg_tup rfl (dgs_cons (dg_name (i := 2) sc_sum_of_rows.nd rfl (Or.inl rfl)) (dgs_cons (dg_name (i := 3) sc_sum_of_rows.nd rfl (Or.inl rfl)) dgs_nil)))) (fun _ _ _ _ _ => dts_nil) (fun _ _ _ _ _ => (de_op od_add (dv 2) (dv 3)))) da_nil))))
theorem cal_sum_of_rows (E : Tx P w K mg base T) : Cal P w K mg base T 1 "sum_of_rows" [] w_sum_of_rows := (fn_sum_of_rows E).cal rfl (E.e.glo 7) rfl (fun _ _ _ _ _ _ us hl => match us, hl with | [_, _], _ => rfl)
theorem sc_times_row : FnScope ["number", "row", "one"] ["number", "row"] (defScope s_times_row) := ⟨rfl, rfl, rfl, by decide +kernel, rfl, by decide +kernel, by decide +kernel⟩
theorem fn_times_row (E : Tx P w K mg base T) : Fn K mg base P w T d_times_row 1 ["number", "row"] w_times_row :=
  E.e.fn_ (N := ["number", "row", "one"]) 8 rfl sc_times_row fun cdv A outer s H EE hr hcd =>
  (dss_one (ds_ret (de_callTy cd_tuple rfl (E.e.free 77) PyProof.Rows.Boot.«tuple» (da_cons (de_lc (own := [("one", 2)]) rfl sc_times_row.nd (di_seq (dv 1)) (blkOk_by (by kernel_rfl)) (fun _ _ _ _ _ => (dg_name (i := 2) sc_times_row.nd rfl (Or.inl rfl))) (fun _ _ _ _ _ => dts_nil) (fun _ _ _ _ _ => (de_op od_mul (dv 0) (dv 2)))) da_nil))))
theorem cal_times_row (E : Tx P w K mg base T) : Cal P w K mg base T 1 "times_row" [] w_times_row := (fn_times_row E).cal rfl (E.e.glo 8) rfl (fun _ _ _ _ _ _ us hl => match us, hl with | [_, _], _ => rfl)
theorem sc_less_times : FnScope ["row", "number", "other", "one", "two"] ["row", "number", "other"] (defScope s_less_times) := ⟨rfl, rfl, rfl, by decide +kernel, rfl, by decide +kernel, by decide +kernel⟩
theorem fn_less_times (E : Tx P w K mg base T) : Fn K mg base P w T d_less_times 1 ["row", "number", "other"] w_less_times :=
  E.e.fn_ (N := ["row", "number", "other", "one", "two"]) 9 rfl sc_less_times fun cdv A outer s H EE hr hcd =>
  (dss_one (ds_ret (de_callTy cd_tuple rfl (E.e.free 77) PyProof.Rows.Boot.«tuple» (da_cons (de_lc (own := [("one", 3), ("two", 4)]) rfl sc_less_times.nd (di_zip rfl (E.e.free 78) (dv 0) (dv 2)) (blkOk_by (by kernel_rfl)) (fun _ _ _ _ _ => (dg_tup rfl (dgs_cons (dg_name (i := 3) sc_less_times.nd rfl (Or.inl rfl)) (dgs_cons (dg_name (i := 4) sc_less_times.nd rfl (Or.inl rfl)) dgs_nil)))) (fun _ _ _ _ _ => dts_nil) (fun _ _ _ _ _ => (de_op od_sub (dv 3) (de_op od_mul (dv 1) (dv 4))))) da_nil))))
theorem cal_less_times (E : Tx P w K mg base T) : Cal P w K mg base T 1 "less_times" [] w_less_times := (fn_less_times E).cal rfl (E.e.glo 9) rfl (fun _ _ _ _ _ _ us hl => match us, hl with | [_, _, _], _ => rfl)
theorem sc_product_of : FnScope ["one", "other", "left", "right"] ["one", "other"] (defScope s_product_of) := ⟨rfl, rfl, rfl, by decide +kernel, rfl, by decide +kernel, by decide +kernel⟩
theorem fn_product_of (E : Tx P w K mg base T) : Fn K mg base P w T d_product_of 1 ["one", "other"] w_product_of :=
  E.e.fn_ (N := ["one", "other", "left", "right"]) 10 rfl sc_product_of fun cdv A outer s H EE hr hcd =>
  (dss_one (ds_ret (de_callB (cd_sum rfl) rfl (E.e.free 75) PyProof.Rows.Boot.«sum» (da_cons (de_lc (own := [("left", 2), ("right", 3)]) rfl sc_product_of.nd (di_zip rfl (E.e.free 78) (dv 0) (dv 1)) (blkOk_by (by kernel_rfl)) (fun _ _ _ _ _ => (dg_tup rfl (dgs_cons (dg_name (i := 2) sc_product_of.nd rfl (Or.inl rfl)) (dgs_cons (dg_name (i := 3) sc_product_of.nd rfl (Or.inl rfl)) dgs_nil)))) (fun _ _ _ _ _ => dts_nil) (fun _ _ _ _ _ => (de_op od_mul (dv 2) (dv 3)))) da_nil))))
theorem cal_product_of (E : Tx P w K mg base T) : Cal P w K mg base T 1 "product_of" [] w_product_of := (fn_product_of E).cal rfl (E.e.glo 10) rfl (fun _ _ _ _ _ _ us hl => match us, hl with | [_, _], _ => rfl)
theorem sc_led_row : FnScope ["table", "row", "line"] ["table", "row"] (defScope s_led_row) := ⟨rfl, rfl, rfl, by decide +kernel, rfl, by decide +kernel, by decide +kernel⟩
theorem fn_led_row (E : Tx P w K mg base T) : Fn K mg base P w T d_led_row 2 ["table", "row"] w_led_row :=
  E.e.fn_ (N := ["table", "row", "line"]) 11 rfl sc_led_row fun cdv A outer s H EE hr hcd =>
  (dss_one (ds_ret (de_callTy cd_tuple rfl (E.e.free 77) PyProof.Rows.Boot.«tuple» (da_cons (de_lc (own := [("line", 2)]) rfl sc_led_row.nd (di_seq (dv 0)) (blkOk_by (by kernel_rfl)) (fun _ _ _ _ _ => (dg_name (i := 2) sc_led_row.nd rfl (Or.inl rfl))) (fun _ _ _ _ _ => dts_nil) (fun _ _ _ _ _ => (de_fn (cal_product_of E) hr (by decide) rfl takesF (da_cons (dv 2) (da_cons (dv 1) da_nil))))) da_nil))))
theorem cal_led_row (E : Tx P w K mg base T) : Cal P w K mg base T 2 "led_row" [] w_led_row := (fn_led_row E).cal rfl (E.e.glo 11) rfl (fun _ _ _ _ _ _ us hl => match us, hl with | [_, _], _ => rfl)
theorem sc_led_from : FnScope ["width", "table", "told", "found", "number", "line"] ["width", "table", "told"] (defScope s_led_from) := ⟨rfl, rfl, rfl, by decide +kernel, rfl, by decide +kernel, by decide +kernel⟩
theorem fn_led_from (E : Tx P w K mg base T) : Fn K mg base P w T d_led_from 2 ["width", "table", "told"] w_led_from :=
  E.e.fn_ (N := ["width", "table", "told", "found", "number", "line"]) 12 rfl sc_led_from fun cdv A outer s H EE hr hcd =>
  (dss_cons (ds_set (i := 3) sc_led_from.nd rfl (Or.inl rfl) (de_fn (cal_rest_row E) hr (by decide) rfl (takes_of rfl rfl rfl rfl) (da_cons (dv 0) da_nil)))
  (dss_cons (ds_for (passes_of rfl) rfl (di_zip rfl (E.e.free 78) (dv 2) (dv 1)) (dg_tup rfl (dgs_cons (dg_name (i := 4) sc_led_from.nd rfl (Or.inl rfl)) (dgs_cons (dg_name (i := 5) sc_led_from.nd rfl (Or.inl rfl)) dgs_nil))) (dss_one (ds_if (dt_cmp (od_ne (units_of hr)) (dv 4) de_int (nomark _)) (dss_one (ds_set (i := 3) sc_led_from.nd rfl (Or.inl rfl) (de_fn (cal_less_times E) hr (by decide) rfl (takes_of rfl rfl rfl rfl) (da_cons (dv 3) (da_cons (de_op od_sub de_int (dv 4)) (da_cons (dv 5) da_nil)))))) dss_nil)))
  (dss_one (ds_ret (dv 3)))))
theorem cal_led_from (E : Tx P w K mg base T) : Cal P w K mg base T 2 "led_from" [] w_led_from := (fn_led_from E).cal rfl (E.e.glo 12) rfl (fun _ _ _ _ _ _ us hl => match us, hl with | [_, _, _], _ => rfl)
theorem sc_columns_of : FnScope ["table", "width", "index", "line"] ["table", "width"] (defScope s_columns_of) := ⟨rfl, rfl, rfl, by decide +kernel, rfl, by decide +kernel, by decide +kernel⟩
theorem fn_columns_of (E : Tx P w K mg base T) : Fn K mg base P w T d_columns_of 1 ["table", "width"] w_columns_of :=
  E.e.fn_ (N := ["table", "width", "index", "line"]) 13 rfl sc_columns_of fun cdv A outer s H EE hr hcd =>
  (dss_one (ds_ret (de_callTy cd_tuple rfl (E.e.free 77) PyProof.Rows.Boot.«tuple» (da_cons (de_lc (own := [("index", 2)]) rfl sc_columns_of.nd (di_rg1 rfl (E.e.free 73) (dv 1)) (blkOk_by (by kernel_rfl)) (fun _ _ _ _ _ => (dg_name (i := 2) sc_columns_of.nd rfl (Or.inr rfl))) (fun _ _ _ _ _ => dts_nil) (fun _ _ _ _ _ => (de_callTy cd_tuple rfl (E.e.free 77) PyProof.Rows.Boot.«tuple» (da_cons (de_lc (own := [("line", 3)]) rfl sc_columns_of.nd (di_seq (dv 0)) (blkOk_by (by kernel_rfl)) (fun _ _ _ _ _ => (dg_name (i := 3) sc_columns_of.nd rfl (Or.inl rfl))) (fun _ _ _ _ _ => dts_nil) (fun _ _ _ _ _ => (de_ix (dv 3) (dv 2)))) da_nil)))) da_nil))))
theorem cal_columns_of (E : Tx P w K mg base T) : Cal P w K mg base T 1 "columns_of" [] w_columns_of := (fn_columns_of E).cal rfl (E.e.glo 13) rfl (fun _ _ _ _ _ _ us hl => match us, hl with | [_, _], _ => rfl)
theorem sc_require_width : FnScope ["width"] ["width"] (defScope s_require_width) := ⟨rfl, rfl, rfl, by decide +kernel, rfl, by decide +kernel, by decide +kernel⟩
theorem fn_require_width (E : Tx P w K mg base T) : Fn K mg base P w T d_require_width 3 ["width"] w_require_width :=
  E.e.fn_ (N := ["width"]) 15 rfl sc_require_width fun cdv A outer s H EE hr hcd =>
  (dss_one (ds_expr (de_fn (cal_require_count E) hr (by decide) rfl (takes_of rfl rfl rfl rfl) (da_cons (dv 0) (da_cons de_int (da_cons (dgi rfl (E.e.int 60)) da_nil))))))
theorem cal_require_width (E : Tx P w K mg base T) : Cal P w K mg base T 3 "require_width" [] w_require_width := (fn_require_width E).cal rfl (E.e.glo 15) rfl (fun _ _ _ _ _ _ us hl => match us, hl with | [_], _ => rfl)
theorem sc_require_table : FnScope ["height", "width", "value"] ["height", "width", "value"] (defScope s_require_table) := ⟨rfl, rfl, rfl, by decide +kernel, rfl, by decide +kernel, by decide +kernel⟩
theorem fn_require_table (E : Tx P w K mg base T) : Fn K mg base P w T d_require_table 4 ["height", "width", "value"] w_require_table :=
  E.e.fn_ (N := ["height", "width", "value"]) 17 rfl sc_require_table fun cdv A outer s H EE hr hcd =>
  (dss_one (ds_if (dt_not (dt_val (de_fn (cal_is_plain_table E) hr (by decide) rfl (takes_of rfl rfl rfl rfl) (da_cons (dv 0) (da_cons (dv 1) (da_cons (dv 2) da_nil)))))) (dss_one ds_never) dss_nil))
theorem cal_require_table (E : Tx P w K mg base T) : Cal P w K mg base T 4 "require_table" [] w_require_table := (fn_require_table E).cal rfl (E.e.glo 17) rfl (fun _ _ _ _ _ _ us hl => match us, hl with | [_, _, _], _ => rfl)
theorem sc_require_sized : FnScope ["height", "width", "table"] ["height", "width", "table"] (defScope s_require_sized) := ⟨rfl, rfl, rfl, by decide +kernel, rfl, by decide +kernel, by decide +kernel⟩
theorem fn_require_sized (E : Tx P w K mg base T) : Fn K mg base P w T d_require_sized 5 ["height", "width", "table"] w_require_sized :=
  E.e.fn_ (N := ["height", "width", "table"]) 18 rfl sc_require_sized fun cdv A outer s H EE hr hcd =>
  (dss_cons (ds_expr (de_fn (cal_require_width E) hr (by decide) rfl (takes_of rfl rfl rfl rfl) (da_cons (dv 0) da_nil)))
  (dss_cons (ds_expr (de_fn (cal_require_width E) hr (by decide) rfl (takes_of rfl rfl rfl rfl) (da_cons (dv 1) da_nil)))
  (dss_one (ds_expr (de_fn (cal_require_table E) hr (by decide) rfl (takes_of rfl rfl rfl rfl) (da_cons (dv 0) (da_cons (dv 1) (da_cons (dv 2) da_nil))))))))
theorem cal_require_sized (E : Tx P w K mg base T) : Cal P w K mg base T 5 "require_sized" [] w_require_sized := (fn_require_sized E).cal rfl (E.e.glo 18) rfl (fun _ _ _ _ _ _ us hl => match us, hl with | [_, _, _], _ => rfl)
theorem sc_columns : FnScope ["height", "width", "table"] ["height", "width", "table"] (defScope s_columns) := ⟨rfl, rfl, rfl, by decide +kernel, rfl, by decide +kernel, by decide +kernel⟩
theorem fn_columns (E : Tx P w K mg base T) : Fn K mg base P w T d_columns 6 ["height", "width", "table"] w_columns :=
  E.e.fn_ (N := ["height", "width", "table"]) 27 rfl sc_columns fun cdv A outer s H EE hr hcd =>
  (dss_cons (ds_expr (de_fn (cal_require_sized E) hr (by decide) rfl (takes_of rfl rfl rfl rfl) (da_cons (dv 0) (da_cons (dv 1) (da_cons (dv 2) da_nil)))))
  (dss_one (ds_ret (de_fn (cal_columns_of E) hr (by decide) rfl (takes_of rfl rfl rfl rfl) (da_cons (dv 2) (da_cons (dv 1) da_nil))))))
theorem cal_columns (E : Tx P w K mg base T) : Cal P w K mg base T 6 "columns" [] w_columns := (fn_columns E).cal rfl (E.e.glo 27) rfl (fun _ _ _ _ _ _ us hl => match us, hl with | [_, _, _], _ => rfl)
theorem sc_table_behind : FnScope ["one", "other", "width", "columns", "line", "column"] ["one", "other", "width"] (defScope s_table_behind) := ⟨rfl, rfl, rfl, by decide +kernel, rfl, by decide +kernel, by decide +kernel⟩
theorem fn_table_behind (E : Tx P w K mg base T) : Fn K mg base P w T d_table_behind 2 ["one", "other", "width"] w_table_behind :=
  E.e.fn_ (N := ["one", "other", "width", "columns", "line", "column"]) 14 rfl sc_table_behind fun cdv A outer s H EE hr hcd =>
  (dss_cons (ds_set (i := 3) sc_table_behind.nd rfl (Or.inr rfl) (de_fn (cal_columns_of E) hr (by decide) rfl (takes_of rfl rfl rfl rfl) (da_cons (dv 1) (da_cons (dv 2) da_nil))))
  (dss_one (ds_ret (de_callTy cd_tuple rfl (E.e.free 77) PyProof.Rows.Boot.«tuple» (da_cons (de_lc (own := [("line", 4)]) rfl sc_table_behind.nd (di_seq (dv 0)) (blkOk_by (by kernel_rfl)) (fun _ _ _ _ _ => (dg_name (i := 4) sc_table_behind.nd rfl (Or.inr rfl))) (fun _ _ _ _ _ => dts_nil) (fun _ _ _ _ _ => (de_callTy cd_tuple rfl (E.e.free 77) PyProof.Rows.Boot.«tuple» (da_cons (de_lc (own := [("column", 5)]) rfl sc_table_behind.nd (di_seq (dv 3)) (blkOk_by (by kernel_rfl)) (fun _ _ _ _ _ => (dg_name (i := 5) sc_table_behind.nd rfl (Or.inl rfl))) (fun _ _ _ _ _ => dts_nil) (fun _ _ _ _ _ => (de_fn (cal_product_of E) hr (by decide) rfl takesF (da_cons (dv 4) (da_cons (dv 5) da_nil))))) da_nil)))) da_nil)))))
theorem cal_table_behind (E : Tx P w K mg base T) : Cal P w K mg base T 2 "table_behind" [] w_table_behind := (fn_table_behind E).cal rfl (E.e.glo 14) rfl (fun _ _ _ _ _ _ us hl => match us, hl with | [_, _, _], _ => rfl)
theorem sc_require_row : FnScope ["width", "value"] ["width", "value"] (defScope s_require_row) := ⟨rfl, rfl, rfl, by decide +kernel, rfl, by decide +kernel, by decide +kernel⟩
theorem fn_require_row (E : Tx P w K mg base T) : Fn K mg base P w T d_require_row 3 ["width", "value"] w_require_row :=
  E.e.fn_ (N := ["width", "value"]) 16 rfl sc_require_row fun cdv A outer s H EE hr hcd =>
  (dss_one (ds_if (dt_not (dt_val (de_fn (cal_is_plain_row E) hr (by decide) rfl (takes_of rfl rfl rfl rfl) (da_cons (dv 0) (da_cons (dv 1) da_nil))))) (dss_one ds_never) dss_nil))
theorem cal_require_row (E : Tx P w K mg base T) : Cal P w K mg base T 3 "require_row" [] w_require_row := (fn_require_row E).cal rfl (E.e.glo 16) rfl (fun _ _ _ _ _ _ us hl => match us, hl with | [_, _], _ => rfl)
theorem sc_require_whole : FnScope ["value"] ["value"] (defScope s_require_whole) := ⟨rfl, rfl, rfl, by decide +kernel, rfl, by decide +kernel, by decide +kernel⟩
theorem fn_require_whole (E : Tx P w K mg base T) : Fn K mg base P w T d_require_whole 2 ["value"] w_require_whole :=
  E.e.fn_ (N := ["value"]) 19 rfl sc_require_whole fun cdv A outer s H EE hr hcd =>
  (dss_one (ds_if (dt_not (dt_val (de_fn (cal_is_integer E) hr (by decide) rfl (takes_of rfl rfl rfl rfl) (da_cons (dv 0) da_nil)))) (dss_one (RAISE_InvalidCount E hr (takes_of rfl rfl rfl rfl) (dv 0))) dss_nil))
theorem cal_require_whole (E : Tx P w K mg base T) : Cal P w K mg base T 2 "require_whole" [] w_require_whole := (fn_require_whole E).cal rfl (E.e.glo 19) rfl (fun _ _ _ _ _ _ us hl => match us, hl with | [_], _ => rfl)
theorem sc_is_row : FnScope ["width", "value"] ["width", "value"] (defScope s_is_row) := ⟨rfl, rfl, rfl, by decide +kernel, rfl, by decide +kernel, by decide +kernel⟩
theorem fn_is_row (E : Tx P w K mg base T) : Fn K mg base P w T d_is_row 4 ["width", "value"] w_is_row :=
  E.e.fn_ (N := ["width", "value"]) 20 rfl sc_is_row fun cdv A outer s H EE hr hcd =>
  (dss_cons (ds_expr (de_fn (cal_require_width E) hr (by decide) rfl (takes_of rfl rfl rfl rfl) (da_cons (dv 0) da_nil)))
  (dss_one (ds_ret (de_fn (cal_is_plain_row E) hr (by decide) rfl (takes_of rfl rfl rfl rfl) (da_cons (dv 0) (da_cons (dv 1) da_nil))))))
theorem cal_is_row (E : Tx P w K mg base T) : Cal P w K mg base T 4 "is_row" [] w_is_row := (fn_is_row E).cal rfl (E.e.glo 20) rfl (fun _ _ _ _ _ _ us hl => match us, hl with | [_, _], _ => rfl)
theorem sc_is_table : FnScope ["height", "width", "value"] ["height", "width", "value"] (defScope s_is_table) := ⟨rfl, rfl, rfl, by decide +kernel, rfl, by decide +kernel, by decide +kernel⟩
theorem fn_is_table (E : Tx P w K mg base T) : Fn K mg base P w T d_is_table 4 ["height", "width", "value"] w_is_table :=
  E.e.fn_ (N := ["height", "width", "value"]) 21 rfl sc_is_table fun cdv A outer s H EE hr hcd =>
  (dss_cons (ds_expr (de_fn (cal_require_width E) hr (by decide) rfl (takes_of rfl rfl rfl rfl) (da_cons (dv 0) da_nil)))
  (dss_cons (ds_expr (de_fn (cal_require_width E) hr (by decide) rfl (takes_of rfl rfl rfl rfl) (da_cons (dv 1) da_nil)))
  (dss_one (ds_ret (de_fn (cal_is_plain_table E) hr (by decide) rfl (takes_of rfl rfl rfl rfl) (da_cons (dv 0) (da_cons (dv 1) (da_cons (dv 2) da_nil))))))))
theorem cal_is_table (E : Tx P w K mg base T) : Cal P w K mg base T 4 "is_table" [] w_is_table := (fn_is_table E).cal rfl (E.e.glo 21) rfl (fun _ _ _ _ _ _ us hl => match us, hl with | [_, _, _], _ => rfl)
theorem sc_row_plus : FnScope ["width", "one", "other"] ["width", "one", "other"] (defScope s_row_plus) := ⟨rfl, rfl, rfl, by decide +kernel, rfl, by decide +kernel, by decide +kernel⟩
theorem fn_row_plus (E : Tx P w K mg base T) : Fn K mg base P w T d_row_plus 4 ["width", "one", "other"] w_row_plus :=
  E.e.fn_ (N := ["width", "one", "other"]) 22 rfl sc_row_plus fun cdv A outer s H EE hr hcd =>
  (dss_cons (ds_expr (de_fn (cal_require_width E) hr (by decide) rfl (takes_of rfl rfl rfl rfl) (da_cons (dv 0) da_nil)))
  (dss_cons (ds_expr (de_fn (cal_require_row E) hr (by decide) rfl (takes_of rfl rfl rfl rfl) (da_cons (dv 0) (da_cons (dv 1) da_nil))))
  (dss_cons (ds_expr (de_fn (cal_require_row E) hr (by decide) rfl (takes_of rfl rfl rfl rfl) (da_cons (dv 0) (da_cons (dv 2) da_nil))))
  (dss_one (ds_ret (de_fn (cal_sum_of_rows E) hr (by decide) rfl (takes_of rfl rfl rfl rfl) (da_cons (dv 1) (da_cons (dv 2) da_nil))))))))
theorem cal_row_plus (E : Tx P w K mg base T) : Cal P w K mg base T 4 "row_plus" [] w_row_plus := (fn_row_plus E).cal rfl (E.e.glo 22) rfl (fun _ _ _ _ _ _ us hl => match us, hl with | [_, _, _], _ => rfl)
theorem sc_row_times : FnScope ["width", "number", "row"] ["width", "number", "row"] (defScope s_row_times) := ⟨rfl, rfl, rfl, by decide +kernel, rfl, by decide +kernel, by decide +kernel⟩
theorem fn_row_times (E : Tx P w K mg base T) : Fn K mg base P w T d_row_times 4 ["width", "number", "row"] w_row_times :=
  E.e.fn_ (N := ["width", "number", "row"]) 23 rfl sc_row_times fun cdv A outer s H EE hr hcd =>
  (dss_cons (ds_expr (de_fn (cal_require_width E) hr (by decide) rfl (takes_of rfl rfl rfl rfl) (da_cons (dv 0) da_nil)))
  (dss_cons (ds_expr (de_fn (cal_require_whole E) hr (by decide) rfl (takes_of rfl rfl rfl rfl) (da_cons (dv 1) da_nil)))
  (dss_cons (ds_expr (de_fn (cal_require_row E) hr (by decide) rfl (takes_of rfl rfl rfl rfl) (da_cons (dv 0) (da_cons (dv 2) da_nil))))
  (dss_one (ds_ret (de_fn (cal_times_row E) hr (by decide) rfl (takes_of rfl rfl rfl rfl) (da_cons (dv 1) (da_cons (dv 2) da_nil))))))))
theorem cal_row_times (E : Tx P w K mg base T) : Cal P w K mg base T 4 "row_times" [] w_row_times := (fn_row_times E).cal rfl (E.e.glo 23) rfl (fun _ _ _ _ _ _ us hl => match us, hl with | [_, _, _], _ => rfl)
theorem sc_product : FnScope ["width", "one", "other"] ["width", "one", "other"] (defScope s_product) := ⟨rfl, rfl, rfl, by decide +kernel, rfl, by decide +kernel, by decide +kernel⟩
theorem fn_product (E : Tx P w K mg base T) : Fn K mg base P w T d_product 4 ["width", "one", "other"] w_product :=
  E.e.fn_ (N := ["width", "one", "other"]) 24 rfl sc_product fun cdv A outer s H EE hr hcd =>
  (dss_cons (ds_expr (de_fn (cal_require_width E) hr (by decide) rfl (takes_of rfl rfl rfl rfl) (da_cons (dv 0) da_nil)))
  (dss_cons (ds_expr (de_fn (cal_require_row E) hr (by decide) rfl (takes_of rfl rfl rfl rfl) (da_cons (dv 0) (da_cons (dv 1) da_nil))))
  (dss_cons (ds_expr (de_fn (cal_require_row E) hr (by decide) rfl (takes_of rfl rfl rfl rfl) (da_cons (dv 0) (da_cons (dv 2) da_nil))))
  (dss_one (ds_ret (de_fn (cal_product_of E) hr (by decide) rfl (takes_of rfl rfl rfl rfl) (da_cons (dv 1) (da_cons (dv 2) da_nil))))))))
theorem cal_product (E : Tx P w K mg base T) : Cal P w K mg base T 4 "product" [] w_product := (fn_product E).cal rfl (E.e.glo 24) rfl (fun _ _ _ _ _ _ us hl => match us, hl with | [_, _, _], _ => rfl)
theorem sc_led : FnScope ["height", "width", "table", "row"] ["height", "width", "table", "row"] (defScope s_led) := ⟨rfl, rfl, rfl, by decide +kernel, rfl, by decide +kernel, by decide +kernel⟩
theorem fn_led (E : Tx P w K mg base T) : Fn K mg base P w T d_led 6 ["height", "width", "table", "row"] w_led :=
  E.e.fn_ (N := ["height", "width", "table", "row"]) 25 rfl sc_led fun cdv A outer s H EE hr hcd =>
  (dss_cons (ds_expr (de_fn (cal_require_sized E) hr (by decide) rfl (takes_of rfl rfl rfl rfl) (da_cons (dv 0) (da_cons (dv 1) (da_cons (dv 2) da_nil)))))
  (dss_cons (ds_expr (de_fn (cal_require_row E) hr (by decide) rfl (takes_of rfl rfl rfl rfl) (da_cons (dv 1) (da_cons (dv 3) da_nil))))
  (dss_one (ds_ret (de_fn (cal_led_row E) hr (by decide) rfl (takes_of rfl rfl rfl rfl) (da_cons (dv 2) (da_cons (dv 3) da_nil)))))))
theorem cal_led (E : Tx P w K mg base T) : Cal P w K mg base T 6 "led" [] w_led := (fn_led E).cal rfl (E.e.glo 25) rfl (fun _ _ _ _ _ _ us hl => match us, hl with | [_, _, _, _], _ => rfl)
theorem sc_led_behind : FnScope ["height", "width", "table", "told"] ["height", "width", "table", "told"] (defScope s_led_behind) := ⟨rfl, rfl, rfl, by decide +kernel, rfl, by decide +kernel, by decide +kernel⟩
theorem fn_led_behind (E : Tx P w K mg base T) : Fn K mg base P w T d_led_behind 6 ["height", "width", "table", "told"] w_led_behind :=
  E.e.fn_ (N := ["height", "width", "table", "told"]) 26 rfl sc_led_behind fun cdv A outer s H EE hr hcd =>
  (dss_cons (ds_expr (de_fn (cal_require_sized E) hr (by decide) rfl (takes_of rfl rfl rfl rfl) (da_cons (dv 0) (da_cons (dv 1) (da_cons (dv 2) da_nil)))))
  (dss_cons (ds_expr (de_fn (cal_require_row E) hr (by decide) rfl (takes_of rfl rfl rfl rfl) (da_cons (dv 0) (da_cons (dv 3) da_nil))))
  (dss_one (ds_ret (de_fn (cal_led_from E) hr (by decide) rfl (takes_of rfl rfl rfl rfl) (da_cons (dv 1) (da_cons (dv 2) (da_cons (dv 3) da_nil))))))))
theorem cal_led_behind (E : Tx P w K mg base T) : Cal P w K mg base T 6 "led_behind" [] w_led_behind := (fn_led_behind E).cal rfl (E.e.glo 26) rfl (fun _ _ _ _ _ _ us hl => match us, hl with | [_, _, _, _], _ => rfl)
theorem sc_unit : FnScope ["width"] ["width"] (defScope s_unit) := ⟨rfl, rfl, rfl, by decide +kernel, rfl, by decide +kernel, by decide +kernel⟩
theorem fn_unit (E : Tx P w K mg base T) : Fn K mg base P w T d_unit 4 ["width"] w_unit :=
  E.e.fn_ (N := ["width"]) 28 rfl sc_unit fun cdv A outer s H EE hr hcd =>
  (dss_cons (ds_expr (de_fn (cal_require_width E) hr (by decide) rfl (takes_of rfl rfl rfl rfl) (da_cons (dv 0) da_nil)))
  (dss_one (ds_ret (de_fn (cal_unit_rows E) hr (by decide) rfl (takes_of rfl rfl rfl rfl) (da_cons (dv 0) da_nil)))))
theorem cal_unit (E : Tx P w K mg base T) : Cal P w K mg base T 4 "unit" [] w_unit := (fn_unit E).cal rfl (E.e.glo 28) rfl (fun _ _ _ _ _ _ us hl => match us, hl with | [_], _ => rfl)
theorem sc_table_plus : FnScope ["height", "width", "one", "other", "left", "right"] ["height", "width", "one", "other"] (defScope s_table_plus) := ⟨rfl, rfl, rfl, by decide +kernel, rfl, by decide +kernel, by decide +kernel⟩
theorem fn_table_plus (E : Tx P w K mg base T) : Fn K mg base P w T d_table_plus 6 ["height", "width", "one", "other"] w_table_plus :=
  E.e.fn_ (N := ["height", "width", "one", "other", "left", "right"]) 29 rfl sc_table_plus fun cdv A outer s H EE hr hcd =>
  (dss_cons (ds_expr (de_fn (cal_require_sized E) hr (by decide) rfl (takes_of rfl rfl rfl rfl) (da_cons (dv 0) (da_cons (dv 1) (da_cons (dv 2) da_nil)))))
  (dss_cons (ds_expr (de_fn (cal_require_table E) hr (by decide) rfl (takes_of rfl rfl rfl rfl) (da_cons (dv 0) (da_cons (dv 1) (da_cons (dv 3) da_nil)))))
  (dss_one (ds_ret (de_callTy cd_tuple rfl (E.e.free 77) PyProof.Rows.Boot.«tuple» (da_cons (de_lc (own := [("left", 4), ("right", 5)]) rfl sc_table_plus.nd (di_zip rfl (E.e.free 78) (dv 2) (dv 3)) (blkOk_by (by kernel_rfl)) (fun _ _ _ _ _ => (dg_tup rfl (dgs_cons (dg_name (i := 4) sc_table_plus.nd rfl (Or.inl rfl)) (dgs_cons (dg_name (i := 5) sc_table_plus.nd rfl (Or.inl rfl)) dgs_nil)))) (fun _ _ _ _ _ => dts_nil) (fun _ _ _ _ _ => (de_fn (cal_sum_of_rows E) hr (by decide) rfl takesF (da_cons (dv 4) (da_cons (dv 5) da_nil))))) da_nil))))))
theorem cal_table_plus (E : Tx P w K mg base T) : Cal P w K mg base T 6 "table_plus" [] w_table_plus := (fn_table_plus E).cal rfl (E.e.glo 29) rfl (fun _ _ _ _ _ _ us hl => match us, hl with | [_, _, _, _], _ => rfl)
theorem sc_table_times : FnScope ["height", "middle", "width", "one", "other"] ["height", "middle", "width", "one", "other"] (defScope s_table_times) := ⟨rfl, rfl, rfl, by decide +kernel, rfl, by decide +kernel, by decide +kernel⟩
theorem fn_table_times (E : Tx P w K mg base T) : Fn K mg base P w T d_table_times 5 ["height", "middle", "width", "one", "other"] w_table_times :=
  E.e.fn_ (N := ["height", "middle", "width", "one", "other"]) 30 rfl sc_table_times fun cdv A outer s H EE hr hcd =>
  (dss_cons (ds_expr (de_fn (cal_require_width E) hr (by decide) rfl (takes_of rfl rfl rfl rfl) (da_cons (dv 0) da_nil)))
  (dss_cons (ds_expr (de_fn (cal_require_width E) hr (by decide) rfl (takes_of rfl rfl rfl rfl) (da_cons (dv 1) da_nil)))
  (dss_cons (ds_expr (de_fn (cal_require_width E) hr (by decide) rfl (takes_of rfl rfl rfl rfl) (da_cons (dv 2) da_nil)))
  (dss_cons (ds_expr (de_fn (cal_require_table E) hr (by decide) rfl (takes_of rfl rfl rfl rfl) (da_cons (dv 0) (da_cons (dv 1) (da_cons (dv 3) da_nil)))))
  (dss_cons (ds_expr (de_fn (cal_require_table E) hr (by decide) rfl (takes_of rfl rfl rfl rfl) (da_cons (dv 1) (da_cons (dv 2) (da_cons (dv 4) da_nil)))))
  (dss_one (ds_ret (de_fn (cal_table_behind E) hr (by decide) rfl (takes_of rfl rfl rfl rfl) (da_cons (dv 3) (da_cons (dv 4) (da_cons (dv 2) da_nil)))))))))))
theorem cal_table_times (E : Tx P w K mg base T) : Cal P w K mg base T 5 "table_times" [] w_table_times := (fn_table_times E).cal rfl (E.e.glo 30) rfl (fun _ _ _ _ _ _ us hl => match us, hl with | [_, _, _, _, _], _ => rfl)
theorem sc_power_of : FnScope ["width", "table", "many", "found", "here"] ["width", "table", "many"] (defScope s_power_of) := ⟨rfl, rfl, rfl, by decide +kernel, rfl, by decide +kernel, by decide +kernel⟩
theorem fn_power_of (E : Tx P w K mg base T) : Fn K mg base P w T d_power_of 3 ["width", "table", "many"] w_power_of :=
  E.e.fn_ (N := ["width", "table", "many", "found", "here"]) 31 rfl sc_power_of fun cdv A outer s H EE hr hcd =>
  (dss_cons (ds_par (i := 3) (j := 4) rfl sc_power_of.nd rfl rfl (by decide) rfl rfl (de_fn (cal_unit_rows E) hr (by decide) rfl (takes_of rfl rfl rfl rfl) (da_cons (dv 0) da_nil)) (dv 1) rfl)
  (dss_cons (ds_while (passes_of rfl) (dt_cmp od_gt (dv 2) de_int (nomark _)) (dss_cons (ds_if (dt_cmp (od_eq (units_of hr)) (de_op od_mod (dv 2) de_int) de_int (nomark _)) (dss_one (ds_set (i := 3) sc_power_of.nd rfl (Or.inl rfl) (de_fn (cal_table_behind E) hr (by decide) rfl (takes_of rfl rfl rfl rfl) (da_cons (dv 3) (da_cons (dv 4) (da_cons (dv 0) da_nil)))))) dss_nil)
  (dss_one (ds_par (i := 4) (j := 2) rfl sc_power_of.nd rfl rfl (by decide) rfl rfl (de_fn (cal_table_behind E) hr (by decide) rfl (takes_of rfl rfl rfl rfl) (da_cons (dv 4) (da_cons (dv 4) (da_cons (dv 0) da_nil)))) (de_op od_div (dv 2) de_int) rfl))))
  (dss_one (ds_ret (dv 3)))))
theorem cal_power_of (E : Tx P w K mg base T) : Cal P w K mg base T 3 "power_of" [] w_power_of := (fn_power_of E).cal rfl (E.e.glo 31) rfl (fun _ _ _ _ _ _ us hl => match us, hl with | [_, _, _], _ => rfl)
theorem sc_table_power : FnScope ["width", "table", "many"] ["width", "table", "many"] (defScope s_table_power) := ⟨rfl, rfl, rfl, by decide +kernel, rfl, by decide +kernel, by decide +kernel⟩
theorem fn_table_power (E : Tx P w K mg base T) : Fn K mg base P w T d_table_power 5 ["width", "table", "many"] w_table_power :=
  E.e.fn_ (N := ["width", "table", "many"]) 32 rfl sc_table_power fun cdv A outer s H EE hr hcd =>
  (dss_cons (ds_expr (de_fn (cal_require_width E) hr (by decide) rfl (takes_of rfl rfl rfl rfl) (da_cons (dv 0) da_nil)))
  (dss_cons (ds_expr (de_fn (cal_require_table E) hr (by decide) rfl (takes_of rfl rfl rfl rfl) (da_cons (dv 0) (da_cons (dv 0) (da_cons (dv 1) da_nil)))))
  (dss_cons (ds_expr (de_fn (cal_require_count_2 E) hr (by decide) rfl (takes_of rfl rfl rfl rfl) (da_cons (dv 2) da_nil)))
  (dss_one (ds_ret (de_fn (cal_power_of E) hr (by decide) rfl (takes_of rfl rfl rfl rfl) (da_cons (dv 0) (da_cons (dv 1) (da_cons (dv 2) da_nil)))))))))
theorem cal_table_power (E : Tx P w K mg base T) : Cal P w K mg base T 5 "table_power" [] w_table_power := (fn_table_power E).cal rfl (E.e.glo 32) rfl (fun _ _ _ _ _ _ us hl => match us, hl with | [_, _, _], _ => rfl)
theorem sc__law_dice : FnScope ["script", "spot", "cell", "great"] ["script", "spot"] (defScope s__law_dice) := ⟨rfl, rfl, rfl, by decide +kernel, rfl, by decide +kernel, by decide +kernel⟩
theorem fn__law_dice (E : Tx P w K mg base T) : Fn K mg base P w T d__law_dice 1 ["script", "spot"] w__law_dice :=
  E.e.fn_ (N := ["script", "spot", "cell", "great"]) 33 rfl sc__law_dice fun cdv A outer s H EE hr hcd =>
  (dss_cons (ds_set (i := 2) sc__law_dice.nd rfl (Or.inl rfl) (de_if (dt_cmp od_lt (dv 1) (de_callB cd_len rfl (E.e.free 69) PyProof.Rows.Boot.«len» (da_cons (dv 0) da_nil)) (nomark _)) (de_callTy cd_int rfl (E.e.free 67) PyProof.Rows.Boot.«int» (da_cons (de_ix (dv 0) (dv 1)) da_nil)) (de_op od_add (de_op od_mul de_int (dv 1)) de_int)))
  (dss_cons (ds_set (i := 3) sc__law_dice.nd rfl (Or.inl rfl) (de_op od_mod (de_callTy cd_int rfl (E.e.free 67) PyProof.Rows.Boot.«int» (da_cons (de_callB cd_abs rfl (E.e.free 63) PyProof.Rows.Boot.«abs» (da_cons (dv 2) da_nil)) da_nil)) (de_op od_pow (de_op od_pow de_int de_int) de_int)))
  (dss_one (ds_ret (de_lstM (da_cons (de_callB (cd_max2 rfl) rfl (E.e.free 71) PyProof.Rows.Boot.«max» (da_cons de_int (da_cons (de_op od_sub (dv 3) (de_op od_pow de_int de_int)) da_nil))) (da_cons (de_op od_add (de_op od_add (de_op od_add (de_op od_mul (de_op od_mod (de_callTy cd_int rfl (E.e.free 67) PyProof.Rows.Boot.«int» (da_cons (dv 3) da_nil)) de_int) de_int) (de_op od_mul de_int (dv 1))) (de_op od_mul de_int (de_callTy cd_int rfl (E.e.free 67) PyProof.Rows.Boot.«int» (da_cons (de_cmp od_lt (dv 2) de_int (nomark _)) da_nil)))) de_int) (da_cons de_int da_nil))))))))
theorem cal__law_dice (E : Tx P w K mg base T) : Cal P w K mg base T 1 "_law_dice" [] w__law_dice := (fn__law_dice E).cal rfl (E.e.glo 33) rfl (fun _ _ _ _ _ _ us hl => match us, hl with | [_, _], _ => rfl)
theorem sc__law_roll : FnScope ["dice", "size", "found"] ["dice", "size"] (defScope s__law_roll) := ⟨rfl, rfl, rfl, by decide +kernel, rfl, by decide +kernel, by decide +kernel⟩
theorem fn__law_roll (E : Tx P w K mg base T) : Fn K mg base P w T d__law_roll 1 ["dice", "size"] w__law_roll :=
  E.e.fn_ (N := ["dice", "size", "found"]) 34 rfl sc__law_roll fun cdv A outer s H EE hr hcd =>
  (dss_cons (ds_if (dt_cmp od_gt (de_ix (dv 0) de_int) de_int (nomark _)) (dss_cons (ds_set (i := 2) sc__law_roll.nd rfl (Or.inl rfl) (de_op od_mod (de_callTy cd_int rfl (E.e.free 67) PyProof.Rows.Boot.«int» (da_cons (de_ix (dv 0) de_int) da_nil)) (dv 1)))
  (dss_cons (ds_setix (de_op od_div (de_ix (dv 0) de_int) (dv 1)) (dv 0) de_int (fun _ => rfl))
  (dss_one (ds_ret (dv 2))))) dss_nil)
  (dss_cons (ds_setix (de_op od_mod (de_callTy cd_int rfl (E.e.free 67) PyProof.Rows.Boot.«int» (da_cons (de_op od_add (de_op od_mul (de_ix (dv 0) de_int) de_int) de_int) da_nil)) de_int) (dv 0) de_int (fun _ => rfl))
  (dss_one (ds_ret (de_op od_mod (de_callTy cd_int rfl (E.e.free 67) PyProof.Rows.Boot.«int» (da_cons (de_op od_div (de_ix (dv 0) de_int) de_int) da_nil)) (dv 1))))))
theorem cal__law_roll (E : Tx P w K mg base T) : Cal P w K mg base T 1 "_law_roll" [] w__law_roll := (fn__law_roll E).cal rfl (E.e.glo 34) rfl (fun _ _ _ _ _ _ us hl => match us, hl with | [_, _], _ => rfl)
theorem sc__law_pick : FnScope ["dice", "items"] ["dice", "items"] (defScope s__law_pick) := ⟨rfl, rfl, rfl, by decide +kernel, rfl, by decide +kernel, by decide +kernel⟩
theorem fn__law_pick (E : Tx P w K mg base T) : Fn K mg base P w T d__law_pick 2 ["dice", "items"] w__law_pick :=
  E.e.fn_ (N := ["dice", "items"]) 35 rfl sc__law_pick fun cdv A outer s H EE hr hcd =>
  (dss_one (ds_ret (de_ix (dv 1) (de_fn (cal__law_roll E) hr (by decide) rfl (takes_of rfl rfl rfl rfl) (da_cons (dv 0) (da_cons (de_callB cd_len rfl (E.e.free 69) PyProof.Rows.Boot.«len» (da_cons (dv 1) da_nil)) da_nil))))))
theorem cal__law_pick (E : Tx P w K mg base T) : Cal P w K mg base T 2 "_law_pick" [] w__law_pick := (fn__law_pick E).cal rfl (E.e.glo 35) rfl (fun _ _ _ _ _ _ us hl => match us, hl with | [_, _], _ => rfl)
theorem sc__law_shuffled : FnScope ["dice", "items", "left", "found", "turn"] ["dice", "items"] (defScope s__law_shuffled) := ⟨rfl, rfl, rfl, by decide +kernel, rfl, by decide +kernel, by decide +kernel⟩
theorem fn__law_shuffled (E : Tx P w K mg base T) : Fn K mg base P w T d__law_shuffled 2 ["dice", "items"] w__law_shuffled :=
  E.e.fn_ (N := ["dice", "items", "left", "found", "turn"]) 36 rfl sc__law_shuffled fun cdv A outer s H EE hr hcd =>
  (dss_cons (ds_par (i := 2) (j := 3) rfl sc__law_shuffled.nd rfl rfl (by decide) rfl rfl (de_callTy cd_listM rfl (E.e.free 70) PyProof.Rows.Boot.«list» (da_cons (dv 1) da_nil)) (de_lstM da_nil) rfl)
  (dss_cons (ds_for (passes_of rfl) rfl (di_rg1 rfl (E.e.free 73) (de_callB cd_len rfl (E.e.free 69) PyProof.Rows.Boot.«len» (da_cons (dv 1) da_nil))) (dg_name (i := 4) sc__law_shuffled.nd rfl (Or.inl rfl)) (dss_one (ds_expr (de_mth PySem.F.slot_list_append PySem.F.type_list_append md_append (dv 3) (da_cons (de_mth PySem.F.slot_list_pop PySem.F.type_list_pop md_popAt (dv 2) (da_cons (de_fn (cal__law_roll E) hr (by decide) rfl (takes_of rfl rfl rfl rfl) (da_cons (dv 0) (da_cons (de_callB cd_len rfl (E.e.free 69) PyProof.Rows.Boot.«len» (da_cons (dv 2) da_nil)) da_nil))) da_nil)) da_nil)))))
  (dss_one (ds_ret (de_frz (dv 3))))))
theorem cal__law_shuffled (E : Tx P w K mg base T) : Cal P w K mg base T 2 "_law_shuffled" [] w__law_shuffled := (fn__law_shuffled E).cal rfl (E.e.glo 36) rfl (fun _ _ _ _ _ _ us hl => match us, hl with | [_, _], _ => rfl)
theorem sc__law_number : FnScope ["dice", "digits", "found", "most", "turn"] ["dice", "digits"] (defScope s__law_number) := ⟨rfl, rfl, rfl, by decide +kernel, rfl, by decide +kernel, by decide +kernel⟩
theorem fn__law_number (E : Tx P w K mg base T) : Fn K mg base P w T d__law_number 2 ["dice", "digits"] w__law_number :=
  E.e.fn_ (N := ["dice", "digits", "found", "most", "turn"]) 37 rfl sc__law_number fun cdv A outer s H EE hr hcd =>
  (dss_cons (ds_asg (de_tup (da_cons de_int (da_cons de_int da_nil))) (dg_tup rfl (dgs_cons (dg_name (i := 2) sc__law_number.nd rfl (Or.inl rfl)) (dgs_cons (dg_name (i := 3) sc__law_number.nd rfl (Or.inl rfl)) dgs_nil))))
  (dss_cons (ds_for (passes_of rfl) rfl (di_rg1 rfl (E.e.free 73) (de_callB (cd_min2 rfl) rfl (E.e.free 72) PyProof.Rows.Boot.«min» (da_cons (dv 1) (da_cons de_int da_nil)))) (dg_name (i := 4) sc__law_number.nd rfl (Or.inl rfl)) (dss_one (ds_set (i := 3) sc__law_number.nd rfl (Or.inl rfl) (de_op od_mul (dv 3) de_int))))
  (dss_cons (ds_for (passes_of rfl) rfl (di_rg1 rfl (E.e.free 73) (de_op od_add (de_op od_div (dv 1) de_int) de_int)) (dg_name (i := 4) sc__law_number.nd rfl (Or.inl rfl)) (dss_one (ds_set (i := 2) sc__law_number.nd rfl (Or.inl rfl) (de_op od_add (de_op od_mul (dv 2) (de_op od_pow de_int de_int)) (de_fn (cal__law_roll E) hr (by decide) rfl (takes_of rfl rfl rfl rfl) (da_cons (dv 0) (da_cons (de_op od_pow de_int de_int) da_nil)))))))
  (dss_one (ds_ret (de_op od_mod (de_callTy cd_int rfl (E.e.free 67) PyProof.Rows.Boot.«int» (da_cons (dv 2) da_nil)) (dv 3)))))))
theorem cal__law_number (E : Tx P w K mg base T) : Cal P w K mg base T 2 "_law_number" [] w__law_number := (fn__law_number E).cal rfl (E.e.glo 37) rfl (fun _ _ _ _ _ _ us hl => match us, hl with | [_, _], _ => rfl)
theorem sc__law_power : FnScope ["base", "so_many", "found", "turn"] ["base", "so_many"] (defScope s__law_power) := ⟨rfl, rfl, rfl, by decide +kernel, rfl, by decide +kernel, by decide +kernel⟩
theorem fn__law_power (E : Tx P w K mg base T) : Fn K mg base P w T d__law_power 1 ["base", "so_many"] w__law_power :=
  E.e.fn_ (N := ["base", "so_many", "found", "turn"]) 38 rfl sc__law_power fun cdv A outer s H EE hr hcd =>
  (dss_cons (ds_set (i := 2) sc__law_power.nd rfl (Or.inl rfl) de_int)
  (dss_cons (ds_for (passes_of rfl) rfl (di_rg1 rfl (E.e.free 73) (dv 1)) (dg_name (i := 3) sc__law_power.nd rfl (Or.inl rfl)) (dss_one (ds_set (i := 2) sc__law_power.nd rfl (Or.inl rfl) (de_op od_mul (dv 2) (dv 0)))))
  (dss_one (ds_ret (dv 2)))))
theorem cal__law_power (E : Tx P w K mg base T) : Cal P w K mg base T 1 "_law_power" [] w__law_power := (fn__law_power E).cal rfl (E.e.glo 38) rfl (fun _ _ _ _ _ _ us hl => match us, hl with | [_, _], _ => rfl)
theorem sc__law_gt_plus : FnScope ["one", "other", "so_many", "here", "there"] ["one", "other", "so_many"] (defScope s__law_gt_plus) := ⟨rfl, rfl, rfl, by decide +kernel, rfl, by decide +kernel, by decide +kernel⟩
theorem fn__law_gt_plus (E : Tx P w K mg base T) : Fn K mg base P w T d__law_gt_plus 1 ["one", "other", "so_many"] w__law_gt_plus :=
  E.e.fn_ (N := ["one", "other", "so_many", "here", "there"]) 39 rfl sc__law_gt_plus fun cdv A outer s H EE hr hcd =>
  (dss_one (ds_ret (de_callTy cd_tuple rfl (E.e.free 77) PyProof.Rows.Boot.«tuple» (da_cons (de_lc (own := [("here", 3), ("there", 4)]) rfl sc__law_gt_plus.nd (di_zip rfl (E.e.free 78) (dv 0) (dv 1)) (blkOk_by (by kernel_rfl)) (fun _ _ _ _ _ => (dg_tup rfl (dgs_cons (dg_name (i := 3) sc__law_gt_plus.nd rfl (Or.inl rfl)) (dgs_cons (dg_name (i := 4) sc__law_gt_plus.nd rfl (Or.inl rfl)) dgs_nil)))) (fun _ _ _ _ _ => dts_nil) (fun _ _ _ _ _ => (de_op od_add (dv 3) (de_op od_mul (dv 2) (dv 4))))) da_nil))))
theorem cal__law_gt_plus (E : Tx P w K mg base T) : Cal P w K mg base T 1 "_law_gt_plus" [] w__law_gt_plus := (fn__law_gt_plus E).cal rfl (E.e.glo 39) rfl (fun _ _ _ _ _ _ us hl => match us, hl with | [_, _, _], _ => rfl)
theorem sc__law_gt_product : FnScope ["one", "other", "here", "there"] ["one", "other"] (defScope s__law_gt_product) := ⟨rfl, rfl, rfl, by decide +kernel, rfl, by decide +kernel, by decide +kernel⟩
theorem fn__law_gt_product (E : Tx P w K mg base T) : Fn K mg base P w T d__law_gt_product 1 ["one", "other"] w__law_gt_product :=
  E.e.fn_ (N := ["one", "other", "here", "there"]) 40 rfl sc__law_gt_product fun cdv A outer s H EE hr hcd =>
  (dss_one (ds_ret (de_callB (cd_sum rfl) rfl (E.e.free 75) PyProof.Rows.Boot.«sum» (da_cons (de_lc (own := [("here", 2), ("there", 3)]) rfl sc__law_gt_product.nd (di_zip rfl (E.e.free 78) (dv 0) (dv 1)) (blkOk_by (by kernel_rfl)) (fun _ _ _ _ _ => (dg_tup rfl (dgs_cons (dg_name (i := 2) sc__law_gt_product.nd rfl (Or.inl rfl)) (dgs_cons (dg_name (i := 3) sc__law_gt_product.nd rfl (Or.inl rfl)) dgs_nil)))) (fun _ _ _ _ _ => dts_nil) (fun _ _ _ _ _ => (de_op od_mul (dv 2) (dv 3)))) da_nil))))
theorem cal__law_gt_product (E : Tx P w K mg base T) : Cal P w K mg base T 1 "_law_gt_product" [] w__law_gt_product := (fn__law_gt_product E).cal rfl (E.e.glo 40) rfl (fun _ _ _ _ _ _ us hl => match us, hl with | [_, _], _ => rfl)
theorem sc__law_gt_led : FnScope ["table", "row", "one"] ["table", "row"] (defScope s__law_gt_led) := ⟨rfl, rfl, rfl, by decide +kernel, rfl, by decide +kernel, by decide +kernel⟩
theorem fn__law_gt_led (E : Tx P w K mg base T) : Fn K mg base P w T d__law_gt_led 2 ["table", "row"] w__law_gt_led :=
  E.e.fn_ (N := ["table", "row", "one"]) 41 rfl sc__law_gt_led fun cdv A outer s H EE hr hcd =>
  (dss_one (ds_ret (de_callTy cd_tuple rfl (E.e.free 77) PyProof.Rows.Boot.«tuple» (da_cons (de_lc (own := [("one", 2)]) rfl sc__law_gt_led.nd (di_seq (dv 0)) (blkOk_by (by kernel_rfl)) (fun _ _ _ _ _ => (dg_name (i := 2) sc__law_gt_led.nd rfl (Or.inl rfl))) (fun _ _ _ _ _ => dts_nil) (fun _ _ _ _ _ => (de_fn (cal__law_gt_product E) hr (by decide) rfl takesF (da_cons (dv 2) (da_cons (dv 1) da_nil))))) da_nil))))
theorem cal__law_gt_led (E : Tx P w K mg base T) : Cal P w K mg base T 2 "_law_gt_led" [] w__law_gt_led := (fn__law_gt_led E).cal rfl (E.e.glo 41) rfl (fun _ _ _ _ _ _ us hl => match us, hl with | [_, _], _ => rfl)
theorem sc__law_gt_unit : FnScope ["width", "at"] ["width"] (defScope s__law_gt_unit) := ⟨rfl, rfl, rfl, by decide +kernel, rfl, by decide +kernel, by decide +kernel⟩
theorem fn__law_gt_unit (E : Tx P w K mg base T) : Fn K mg base P w T d__law_gt_unit 1 ["width"] w__law_gt_unit :=
  E.e.fn_ (N := ["width", "at"]) 42 rfl sc__law_gt_unit fun cdv A outer s H EE hr hcd =>
  (dss_one (ds_ret (de_callTy cd_tuple rfl (E.e.free 77) PyProof.Rows.Boot.«tuple» (da_cons (de_lc (own := [("at", 1)]) rfl sc__law_gt_unit.nd (di_rg1 rfl (E.e.free 73) (dv 0)) (blkOk_by (by kernel_rfl)) (fun _ _ _ _ _ => (dg_name (i := 1) sc__law_gt_unit.nd rfl (Or.inl rfl))) (fun _ _ _ _ _ => dts_nil) (fun _ _ _ _ _ => (de_op od_add (de_op od_add (de_op od_mul (de_tup (da_cons de_int da_nil)) (dv 1)) (de_tup (da_cons de_int da_nil))) (de_op od_mul (de_tup (da_cons de_int da_nil)) (de_op od_sub (de_op od_sub (dv 0) de_int) (dv 1)))))) da_nil))))
theorem cal__law_gt_unit (E : Tx P w K mg base T) : Cal P w K mg base T 1 "_law_gt_unit" [] w__law_gt_unit := (fn__law_gt_unit E).cal rfl (E.e.glo 42) rfl (fun _ _ _ _ _ _ us hl => match us, hl with | [_], _ => rfl)
theorem sc__law_gh_turned : FnScope ["width", "table", "at", "row"] ["width", "table"] (defScope s__law_gh_turned) := ⟨rfl, rfl, rfl, by decide +kernel, rfl, by decide +kernel, by decide +kernel⟩
theorem fn__law_gh_turned (E : Tx P w K mg base T) : Fn K mg base P w T d__law_gh_turned 1 ["width", "table"] w__law_gh_turned :=
  E.e.fn_ (N := ["width", "table", "at", "row"]) 43 rfl sc__law_gh_turned fun cdv A outer s H EE hr hcd =>
  (dss_one (ds_ret (de_callTy cd_tuple rfl (E.e.free 77) PyProof.Rows.Boot.«tuple» (da_cons (de_lc (own := [("at", 2)]) rfl sc__law_gh_turned.nd (di_rg1 rfl (E.e.free 73) (dv 0)) (blkOk_by (by kernel_rfl)) (fun _ _ _ _ _ => (dg_name (i := 2) sc__law_gh_turned.nd rfl (Or.inr rfl))) (fun _ _ _ _ _ => dts_nil) (fun _ _ _ _ _ => (de_callTy cd_tuple rfl (E.e.free 77) PyProof.Rows.Boot.«tuple» (da_cons (de_lc (own := [("row", 3)]) rfl sc__law_gh_turned.nd (di_seq (dv 1)) (blkOk_by (by kernel_rfl)) (fun _ _ _ _ _ => (dg_name (i := 3) sc__law_gh_turned.nd rfl (Or.inl rfl))) (fun _ _ _ _ _ => dts_nil) (fun _ _ _ _ _ => (de_ix (dv 3) (dv 2)))) da_nil)))) da_nil))))
theorem cal__law_gh_turned (E : Tx P w K mg base T) : Cal P w K mg base T 1 "_law_gh_turned" [] w__law_gh_turned := (fn__law_gh_turned E).cal rfl (E.e.glo 43) rfl (fun _ _ _ _ _ _ us hl => match us, hl with | [_, _], _ => rfl)
theorem sc__law_gh_times : FnScope ["one", "other", "width", "uprights", "row", "upright"] ["one", "other", "width"] (defScope s__law_gh_times) := ⟨rfl, rfl, rfl, by decide +kernel, rfl, by decide +kernel, by decide +kernel⟩
theorem fn__law_gh_times (E : Tx P w K mg base T) : Fn K mg base P w T d__law_gh_times 2 ["one", "other", "width"] w__law_gh_times :=
  E.e.fn_ (N := ["one", "other", "width", "uprights", "row", "upright"]) 44 rfl sc__law_gh_times fun cdv A outer s H EE hr hcd =>
  (dss_cons (ds_set (i := 3) sc__law_gh_times.nd rfl (Or.inr rfl) (de_fn (cal__law_gh_turned E) hr (by decide) rfl (takes_of rfl rfl rfl rfl) (da_cons (dv 2) (da_cons (dv 1) da_nil))))
  (dss_one (ds_ret (de_callTy cd_tuple rfl (E.e.free 77) PyProof.Rows.Boot.«tuple» (da_cons (de_lc (own := [("row", 4)]) rfl sc__law_gh_times.nd (di_seq (dv 0)) (blkOk_by (by kernel_rfl)) (fun _ _ _ _ _ => (dg_name (i := 4) sc__law_gh_times.nd rfl (Or.inr rfl))) (fun _ _ _ _ _ => dts_nil) (fun _ _ _ _ _ => (de_callTy cd_tuple rfl (E.e.free 77) PyProof.Rows.Boot.«tuple» (da_cons (de_lc (own := [("upright", 5)]) rfl sc__law_gh_times.nd (di_seq (dv 3)) (blkOk_by (by kernel_rfl)) (fun _ _ _ _ _ => (dg_name (i := 5) sc__law_gh_times.nd rfl (Or.inl rfl))) (fun _ _ _ _ _ => dts_nil) (fun _ _ _ _ _ => (de_fn (cal__law_gt_product E) hr (by decide) rfl takesF (da_cons (dv 4) (da_cons (dv 5) da_nil))))) da_nil)))) da_nil)))))
theorem cal__law_gh_times (E : Tx P w K mg base T) : Cal P w K mg base T 2 "_law_gh_times" [] w__law_gh_times := (fn__law_gh_times E).cal rfl (E.e.glo 44) rfl (fun _ _ _ _ _ _ us hl => match us, hl with | [_, _, _], _ => rfl)
theorem sc__law_gh_number : FnScope ["dice", "figures", "found"] ["dice", "figures"] (defScope s__law_gh_number) := ⟨rfl, rfl, rfl, by decide +kernel, rfl, by decide +kernel, by decide +kernel⟩
theorem fn__law_gh_number (E : Tx P w K mg base T) : Fn K mg base P w T d__law_gh_number 3 ["dice", "figures"] w__law_gh_number :=
  E.e.fn_ (N := ["dice", "figures", "found"]) 45 rfl sc__law_gh_number fun cdv A outer s H EE hr hcd =>
  (dss_cons (ds_set (i := 2) sc__law_gh_number.nd rfl (Or.inl rfl) (de_fn (cal__law_number E) hr (by decide) rfl (takes_of rfl rfl rfl rfl) (da_cons (dv 0) (da_cons (de_fn (cal__law_pick E) hr (by decide) rfl (takes_of rfl rfl rfl rfl) (da_cons (dv 0) (da_cons (de_lst (da_cons de_int (da_cons de_int (da_cons de_int (da_cons (dv 1) da_nil))))) da_nil))) da_nil))))
  (dss_one (ds_ret (de_if (dt_cmp (od_eq (units_of hr)) (de_fn (cal__law_roll E) hr (by decide) rfl (takes_of rfl rfl rfl rfl) (da_cons (dv 0) (da_cons de_int da_nil))) de_int (nomark _)) (dv 2) (de_op od_sub de_int (dv 2))))))
theorem cal__law_gh_number (E : Tx P w K mg base T) : Cal P w K mg base T 3 "_law_gh_number" [] w__law_gh_number := (fn__law_gh_number E).cal rfl (E.e.glo 45) rfl (fun _ _ _ _ _ _ us hl => match us, hl with | [_, _], _ => rfl)
theorem sc__law_gh_row : FnScope ["dice", "width", "figures", "at"] ["dice", "width", "figures"] (defScope s__law_gh_row) := ⟨rfl, rfl, rfl, by decide +kernel, rfl, by decide +kernel, by decide +kernel⟩
theorem fn__law_gh_row (E : Tx P w K mg base T) : Fn K mg base P w T d__law_gh_row 4 ["dice", "width", "figures"] w__law_gh_row :=
  E.e.fn_ (N := ["dice", "width", "figures", "at"]) 46 rfl sc__law_gh_row fun cdv A outer s H EE hr hcd =>
  (dss_one (ds_ret (de_callTy cd_tuple rfl (E.e.free 77) PyProof.Rows.Boot.«tuple» (da_cons (de_lc (own := [("at", 3)]) rfl sc__law_gh_row.nd (di_rg1 rfl (E.e.free 73) (dv 1)) (blkOk_by (by kernel_rfl)) (fun _ _ _ _ _ => (dg_name (i := 3) sc__law_gh_row.nd rfl (Or.inl rfl))) (fun _ _ _ _ _ => dts_nil) (fun _ _ _ _ _ => (de_fn (cal__law_gh_number E) hr (by decide) rfl takesF (da_cons (dv 0) (da_cons (dv 2) da_nil))))) da_nil))))
theorem cal__law_gh_row (E : Tx P w K mg base T) : Cal P w K mg base T 4 "_law_gh_row" [] w__law_gh_row := (fn__law_gh_row E).cal rfl (E.e.glo 46) rfl (fun _ _ _ _ _ _ us hl => match us, hl with | [_, _, _], _ => rfl)
theorem sc__law_sent : FnScope ["dice", "width", "goals", "signs", "at", "place"] ["dice", "width"] (defScope s__law_sent) := ⟨rfl, rfl, rfl, by decide +kernel, rfl, by decide +kernel, by decide +kernel⟩
theorem fn__law_sent (E : Tx P w K mg base T) : Fn K mg base P w T d__law_sent 3 ["dice", "width"] w__law_sent :=
  E.e.fn_ (N := ["dice", "width", "goals", "signs", "at", "place"]) 47 rfl sc__law_sent fun cdv A outer s H EE hr hcd =>
  (dss_cons (ds_set (i := 2) sc__law_sent.nd rfl (Or.inr rfl) (de_fn (cal__law_shuffled E) hr (by decide) rfl (takes_of rfl rfl rfl rfl) (da_cons (dv 0) (da_cons (de_lstRg rfl rfl (E.e.free 70) (dr_1 rfl (E.e.free 73) (dv 1))) da_nil))))
  (dss_cons (ds_set (i := 3) sc__law_sent.nd rfl (Or.inr rfl) (de_lc (own := [("at", 4)]) rfl sc__law_sent.nd (di_rg1 rfl (E.e.free 73) (dv 1)) (blkOk_by (by kernel_rfl)) (fun _ _ _ _ _ => (dg_name (i := 4) sc__law_sent.nd rfl (Or.inl rfl))) (fun _ _ _ _ _ => dts_nil) (fun _ _ _ _ _ => (de_fn (cal__law_pick E) hr (by decide) rfl takesF (da_cons (dv 0) (da_cons (de_lst (da_cons de_int (da_cons de_int (da_cons (de_un ud_neg de_int) da_nil)))) da_nil))))))
  (dss_one (ds_ret (de_callTy cd_tuple rfl (E.e.free 77) PyProof.Rows.Boot.«tuple» (da_cons (de_lc (own := [("at", 4)]) rfl sc__law_sent.nd (di_rg1 rfl (E.e.free 73) (dv 1)) (blkOk_by (by kernel_rfl)) (fun _ _ _ _ _ => (dg_name (i := 4) sc__law_sent.nd rfl (Or.inr rfl))) (fun _ _ _ _ _ => dts_nil) (fun _ _ _ _ _ => (de_callTy cd_tuple rfl (E.e.free 77) PyProof.Rows.Boot.«tuple» (da_cons (de_lc (own := [("place", 5)]) rfl sc__law_sent.nd (di_rg1 rfl (E.e.free 73) (dv 1)) (blkOk_by (by kernel_rfl)) (fun _ _ _ _ _ => (dg_name (i := 5) sc__law_sent.nd rfl (Or.inl rfl))) (fun _ _ _ _ _ => dts_nil) (fun _ _ _ _ _ => (de_op od_mul (de_ix (dv 3) (dv 4)) (de_callTy cd_int rfl (E.e.free 67) PyProof.Rows.Boot.«int» (da_cons (de_cmp (od_eq (units_of hr)) (dv 5) (de_ix (dv 2) (dv 4)) (nomark _)) da_nil))))) da_nil)))) da_nil))))))
theorem cal__law_sent (E : Tx P w K mg base T) : Cal P w K mg base T 3 "_law_sent" [] w__law_sent := (fn__law_sent E).cal rfl (E.e.glo 47) rfl (fun _ _ _ _ _ _ us hl => match us, hl with | [_, _], _ => rfl)
theorem sc__law_thin : FnScope ["dice", "height", "width", "rows", "turn", "at", "row"] ["dice", "height", "width"] (defScope s__law_thin) := ⟨rfl, rfl, rfl, by decide +kernel, rfl, by decide +kernel, by decide +kernel⟩
theorem fn__law_thin (E : Tx P w K mg base T) : Fn K mg base P w T d__law_thin 4 ["dice", "height", "width"] w__law_thin :=
  E.e.fn_ (N := ["dice", "height", "width", "rows", "turn", "at", "row"]) 48 rfl sc__law_thin fun cdv A outer s H EE hr hcd =>
  (dss_cons (ds_setLc (i := 3) (own := [("at", 5)]) rfl sc__law_thin.nd rfl rfl (sw_true rfl rfl rfl (by decide +kernel)) (di_rg1 rfl (E.e.free 73) (dv 1)) (blkOk_by (by kernel_rfl)) (fun _ _ _ _ _ => (dg_name (i := 5) sc__law_thin.nd rfl (Or.inl rfl))) (fun _ _ _ _ _ => dts_nil) (fun _ _ _ _ _ => (de_op od_mulM (de_lst (da_cons de_int da_nil)) (dv 2))))
  (dss_cons (ds_for (passes_of rfl) rfl (di_rg1 rfl (E.e.free 73) (de_callB (cd_min2 rfl) rfl (E.e.free 72) PyProof.Rows.Boot.«min» (da_cons (de_op od_mul (dv 1) (dv 2)) (da_cons de_int da_nil)))) (dg_name (i := 4) sc__law_thin.nd rfl (Or.inl rfl)) (dss_one (ds_setix (de_fn (cal__law_gh_number E) hr (by decide) rfl (takes_of rfl rfl rfl rfl) (da_cons (dv 0) (da_cons de_int da_nil))) (de_ix (dv 3) (de_fn (cal__law_roll E) hr (by decide) rfl (takes_of rfl rfl rfl rfl) (da_cons (dv 0) (da_cons (dv 1) da_nil)))) (de_fn (cal__law_roll E) hr (by decide) rfl (takes_of rfl rfl rfl rfl) (da_cons (dv 0) (da_cons (dv 2) da_nil))) (fun _ => rfl))))
  (dss_one (ds_ret (de_callTy cd_tuple rfl (E.e.free 77) PyProof.Rows.Boot.«tuple» (da_cons (de_lc (own := [("row", 6)]) rfl sc__law_thin.nd (di_seq (dv 3)) (blkOk_by (by kernel_rfl)) (fun _ _ _ _ _ => (dg_name (i := 6) sc__law_thin.nd rfl (Or.inl rfl))) (fun _ _ _ _ _ => dts_nil) (fun _ _ _ _ _ => (de_callTy cd_tuple rfl (E.e.free 77) PyProof.Rows.Boot.«tuple» (da_cons (dv 6) da_nil)))) da_nil))))))
theorem cal__law_thin (E : Tx P w K mg base T) : Cal P w K mg base T 4 "_law_thin" [] w__law_thin := (fn__law_thin E).cal rfl (E.e.glo 48) rfl (fun _ _ _ _ _ _ us hl => match us, hl with | [_, _, _], _ => rfl)
theorem sc__law_sum : FnScope ["one", "other", "row", "more", "near", "far"] ["one", "other"] (defScope s__law_sum) := ⟨rfl, rfl, rfl, by decide +kernel, rfl, by decide +kernel, by decide +kernel⟩
theorem fn__law_sum (E : Tx P w K mg base T) : Fn K mg base P w T d__law_sum 1 ["one", "other"] w__law_sum :=
  E.e.fn_ (N := ["one", "other", "row", "more", "near", "far"]) 49 rfl sc__law_sum fun cdv A outer s H EE hr hcd =>
  (dss_one (ds_ret (de_callTy cd_tuple rfl (E.e.free 77) PyProof.Rows.Boot.«tuple» (da_cons (de_lc (own := [("row", 2), ("more", 3)]) rfl sc__law_sum.nd (di_zip rfl (E.e.free 78) (dv 0) (dv 1)) (blkOk_by (by kernel_rfl)) (fun _ _ _ _ _ => (dg_tup rfl (dgs_cons (dg_name (i := 2) sc__law_sum.nd rfl (Or.inl rfl)) (dgs_cons (dg_name (i := 3) sc__law_sum.nd rfl (Or.inl rfl)) dgs_nil)))) (fun _ _ _ _ _ => dts_nil) (fun _ _ _ _ _ => (de_callTy cd_tuple rfl (E.e.free 77) PyProof.Rows.Boot.«tuple» (da_cons (de_lc (own := [("near", 4), ("far", 5)]) rfl sc__law_sum.nd (di_zip rfl (E.e.free 78) (dv 2) (dv 3)) (blkOk_by (by kernel_rfl)) (fun _ _ _ _ _ => (dg_tup rfl (dgs_cons (dg_name (i := 4) sc__law_sum.nd rfl (Or.inl rfl)) (dgs_cons (dg_name (i := 5) sc__law_sum.nd rfl (Or.inl rfl)) dgs_nil)))) (fun _ _ _ _ _ => dts_nil) (fun _ _ _ _ _ => (de_op od_add (dv 4) (dv 5)))) da_nil)))) da_nil))))
theorem cal__law_sum (E : Tx P w K mg base T) : Cal P w K mg base T 1 "_law_sum" [] w__law_sum := (fn__law_sum E).cal rfl (E.e.glo 49) rfl (fun _ _ _ _ _ _ us hl => match us, hl with | [_, _], _ => rfl)
theorem sc__law_behind_right : FnScope ["dice", "height", "middle", "width", "one", "other", "row", "far", "both", "turned"] ["dice", "height", "middle", "width"] (defScope s__law_behind_right) := ⟨rfl, rfl, rfl, by decide +kernel, rfl, by decide +kernel, by decide +kernel⟩
theorem fn__law_behind_right (E : Tx P w K mg base T) : Fn K mg base P w T d__law_behind_right 7 ["dice", "height", "middle", "width"] w__law_behind_right :=
  E.e.fn_ (N := ["dice", "height", "middle", "width", "one", "other", "row", "far", "both", "turned"]) 51 rfl sc__law_behind_right fun cdv A outer s H EE hr hcd =>
  (dss_cons (ds_par (i := 4) (j := 5) rfl sc__law_behind_right.nd rfl rfl (by decide) rfl rfl (de_fn (cal__law_thin E) hr (by decide) rfl (takes_of rfl rfl rfl rfl) (da_cons (dv 0) (da_cons (dv 1) (da_cons (dv 2) da_nil)))) (de_fn (cal__law_thin E) hr (by decide) rfl (takes_of rfl rfl rfl rfl) (da_cons (dv 0) (da_cons (dv 2) (da_cons (dv 3) da_nil)))) rfl)
  (dss_cons (ds_par (i := 6) (j := 7) rfl sc__law_behind_right.nd rfl rfl (by decide) rfl rfl (de_fn (cal__law_gh_row E) hr (by decide) rfl (takes_of rfl rfl rfl rfl) (da_cons (dv 0) (da_cons (dv 3) (da_cons de_int da_nil)))) (de_fn (cal__law_gh_row E) hr (by decide) rfl (takes_of rfl rfl rfl rfl) (da_cons (dv 0) (da_cons (dv 1) (da_cons de_int da_nil)))) rfl)
  (dss_cons (ds_set (i := 8) sc__law_behind_right.nd rfl (Or.inl rfl) (de_fn (cal__law_gh_times E) hr (by decide) rfl (takes_of rfl rfl rfl rfl) (da_cons (dv 4) (da_cons (dv 5) (da_cons (dv 3) da_nil)))))
  (dss_cons (ds_if (dt_cmp (od_ne (units_of hr)) (de_callB (cd_repr hr E.e.nd) rfl (E.e.free 74) PyProof.Rows.Boot.«repr» (da_cons (de_fn (cal_table_times E) hr (by decide) rfl (takes_of rfl rfl rfl rfl) (da_cons (dv 1) (da_cons (dv 2) (da_cons (dv 3) (da_cons (dv 4) (da_cons (dv 5) da_nil)))))) da_nil)) (de_callB (cd_repr hr E.e.nd) rfl (E.e.free 74) PyProof.Rows.Boot.«repr» (da_cons (dv 8) da_nil)) (nomark _)) (dss_one (ds_ret de_bl)) dss_nil)
  (dss_cons (ds_if (dt_cmp (od_ne (units_of hr)) (de_callB (cd_repr hr E.e.nd) rfl (E.e.free 74) PyProof.Rows.Boot.«repr» (da_cons (de_fn (cal_led E) hr (by decide) rfl (takes_of rfl rfl rfl rfl) (da_cons (dv 1) (da_cons (dv 3) (da_cons (dv 8) (da_cons (dv 6) da_nil))))) da_nil)) (de_callB (cd_repr hr E.e.nd) rfl (E.e.free 74) PyProof.Rows.Boot.«repr» (da_cons (de_fn (cal__law_gt_led E) hr (by decide) rfl (takes_of rfl rfl rfl rfl) (da_cons (dv 4) (da_cons (de_fn (cal__law_gt_led E) hr (by decide) rfl (takes_of rfl rfl rfl rfl) (da_cons (dv 5) (da_cons (dv 6) da_nil))) da_nil))) da_nil)) (nomark _)) (dss_one (ds_ret de_bl)) dss_nil)
  (dss_cons (ds_set (i := 9) sc__law_behind_right.nd rfl (Or.inl rfl) (de_fn (cal__law_gh_turned E) hr (by decide) rfl (takes_of rfl rfl rfl rfl) (da_cons (dv 3) (da_cons (dv 8) da_nil))))
  (dss_cons (ds_if (dt_cmp (od_ne (units_of hr)) (de_callB (cd_repr hr E.e.nd) rfl (E.e.free 74) PyProof.Rows.Boot.«repr» (da_cons (de_lst (da_cons (de_fn (cal_columns E) hr (by decide) rfl (takes_of rfl rfl rfl rfl) (da_cons (dv 1) (da_cons (dv 3) (da_cons (dv 8) da_nil)))) (da_cons (de_fn (cal_led_behind E) hr (by decide) rfl (takes_of rfl rfl rfl rfl) (da_cons (dv 1) (da_cons (dv 3) (da_cons (dv 8) (da_cons (dv 7) da_nil))))) da_nil))) da_nil)) (de_callB (cd_repr hr E.e.nd) rfl (E.e.free 74) PyProof.Rows.Boot.«repr» (da_cons (de_lst (da_cons (dv 9) (da_cons (de_fn (cal__law_gt_led E) hr (by decide) rfl (takes_of rfl rfl rfl rfl) (da_cons (dv 9) (da_cons (dv 7) da_nil))) da_nil))) da_nil)) (nomark _)) (dss_one (ds_ret de_bl)) dss_nil)
  (dss_one (ds_ret (de_cmp (od_eq (units_of hr)) (de_fn (cal_product E) hr (by decide) rfl (takes_of rfl rfl rfl rfl) (da_cons (dv 1) (da_cons (dv 7) (da_cons (de_fn (cal_led E) hr (by decide) rfl (takes_of rfl rfl rfl rfl) (da_cons (dv 1) (da_cons (dv 3) (da_cons (dv 8) (da_cons (dv 6) da_nil))))) da_nil)))) (de_fn (cal_product E) hr (by decide) rfl (takes_of rfl rfl rfl rfl) (da_cons (dv 3) (da_cons (de_fn (cal_led_behind E) hr (by decide) rfl (takes_of rfl rfl rfl rfl) (da_cons (dv 1) (da_cons (dv 3) (da_cons (dv 8) (da_cons (dv 7) da_nil))))) (da_cons (dv 6) da_nil)))) (nomark _)))))))))))
theorem cal__law_behind_right (E : Tx P w K mg base T) : Cal P w K mg base T 7 "_law_behind_right" [] w__law_behind_right := (fn__law_behind_right E).cal rfl (E.e.glo 51) rfl (fun _ _ _ _ _ _ us hl => match us, hl with | [_, _, _, _], _ => rfl)
theorem sc__law_rows_right : FnScope ["dice", "width", "one", "other", "number", "told", "due", "height", "some", "more", "near", "turn", "at", "value"] ["dice", "width"] (defScope s__law_rows_right) := ⟨rfl, rfl, rfl, by decide +kernel, rfl, by decide +kernel, by decide +kernel⟩
theorem fn__law_rows_right (E : Tx P w K mg base T) : Fn K mg base P w T d__law_rows_right 7 ["dice", "width"] w__law_rows_right :=
  E.e.fn_ (N := ["dice", "width", "one", "other", "number", "told", "due", "height", "some", "more", "near", "turn", "at", "value"]) 52 rfl sc__law_rows_right fun cdv A outer s H EE hr hcd =>
  (dss_cons (ds_par (i := 2) (j := 3) rfl sc__law_rows_right.nd rfl rfl (by decide) rfl rfl (de_fn (cal__law_gh_row E) hr (by decide) rfl (takes_of rfl rfl rfl rfl) (da_cons (dv 0) (da_cons (dv 1) (da_cons de_int da_nil)))) (de_fn (cal__law_gh_row E) hr (by decide) rfl (takes_of rfl rfl rfl rfl) (da_cons (dv 0) (da_cons (dv 1) (da_cons de_int da_nil)))) rfl)
  (dss_cons (ds_set (i := 4) sc__law_rows_right.nd rfl (Or.inr rfl) (de_fn (cal__law_gh_number E) hr (by decide) rfl (takes_of rfl rfl rfl rfl) (da_cons (dv 0) (da_cons de_int da_nil))))
  (dss_cons (ds_set (i := 5) sc__law_rows_right.nd rfl (Or.inl rfl) (de_lst (da_cons (de_fn (cal_row_plus E) hr (by decide) rfl (takes_of rfl rfl rfl rfl) (da_cons (dv 1) (da_cons (dv 2) (da_cons (dv 3) da_nil)))) (da_cons (de_fn (cal_row_times E) hr (by decide) rfl (takes_of rfl rfl rfl rfl) (da_cons (dv 1) (da_cons (dv 4) (da_cons (dv 2) da_nil)))) (da_cons (de_fn (cal_product E) hr (by decide) rfl (takes_of rfl rfl rfl rfl) (da_cons (dv 1) (da_cons (dv 2) (da_cons (dv 3) da_nil)))) da_nil)))))
  (dss_cons (ds_set (i := 6) sc__law_rows_right.nd rfl (Or.inl rfl) (de_lst (da_cons (de_fn (cal__law_gt_plus E) hr (by decide) rfl (takes_of rfl rfl rfl rfl) (da_cons (dv 2) (da_cons (dv 3) (da_cons de_int da_nil)))) (da_cons (de_callTy cd_tuple rfl (E.e.free 77) PyProof.Rows.Boot.«tuple» (da_cons (de_lc (own := [("near", 10)]) rfl sc__law_rows_right.nd (di_seq (dv 2)) (blkOk_by (by kernel_rfl)) (fun _ _ _ _ _ => (dg_name (i := 10) sc__law_rows_right.nd rfl (Or.inl rfl))) (fun _ _ _ _ _ => dts_nil) (fun _ _ _ _ _ => (de_op od_mul (dv 4) (dv 10)))) da_nil)) (da_cons (de_fn (cal__law_gt_product E) hr (by decide) rfl (takes_of rfl rfl rfl rfl) (da_cons (dv 2) (da_cons (dv 3) da_nil))) da_nil)))))
  (dss_cons (ds_if (dt_cmp (od_ne (units_of hr)) (de_callB (cd_repr hr E.e.nd) rfl (E.e.free 74) PyProof.Rows.Boot.«repr» (da_cons (dv 5) da_nil)) (de_callB (cd_repr hr E.e.nd) rfl (E.e.free 74) PyProof.Rows.Boot.«repr» (da_cons (dv 6) da_nil)) (nomark _)) (dss_one (ds_ret de_bl)) dss_nil)
  (dss_cons (ds_set (i := 7) sc__law_rows_right.nd rfl (Or.inr rfl) (de_fn (cal__law_roll E) hr (by decide) rfl (takes_of rfl rfl rfl rfl) (da_cons (dv 0) (da_cons de_int da_nil))))
  (dss_cons (ds_asg (de_lc (own := [("turn", 11)]) rfl sc__law_rows_right.nd (di_rg1 rfl (E.e.free 73) de_int) (blkOk_by (by kernel_rfl)) (fun _ _ _ _ _ => (dg_name (i := 11) sc__law_rows_right.nd rfl (Or.inl rfl))) (fun _ _ _ _ _ => dts_nil) (fun _ _ _ _ _ => (de_callTy cd_tuple rfl (E.e.free 77) PyProof.Rows.Boot.«tuple» (da_cons (de_lc (own := [("at", 12)]) rfl sc__law_rows_right.nd (di_rg1 rfl (E.e.free 73) (dv 7)) (blkOk_by (by kernel_rfl)) (fun _ _ _ _ _ => (dg_name (i := 12) sc__law_rows_right.nd rfl (Or.inl rfl))) (fun _ _ _ _ _ => dts_nil) (fun _ _ _ _ _ => (de_fn (cal__law_gh_row E) hr (by decide) rfl takesF (da_cons (dv 0) (da_cons (dv 1) (da_cons de_int da_nil)))))) da_nil)))) (dg_tup rfl (dgs_cons (dg_name (i := 8) sc__law_rows_right.nd rfl (Or.inl rfl)) (dgs_cons (dg_name (i := 9) sc__law_rows_right.nd rfl (Or.inl rfl)) dgs_nil))))
  (dss_cons (ds_if (dt_cmp (od_ne (units_of hr)) (de_callB (cd_repr hr E.e.nd) rfl (E.e.free 74) PyProof.Rows.Boot.«repr» (da_cons (de_fn (cal_table_plus E) hr (by decide) rfl (takes_of rfl rfl rfl rfl) (da_cons (dv 7) (da_cons (dv 1) (da_cons (dv 8) (da_cons (dv 9) da_nil))))) da_nil)) (de_callB (cd_repr hr E.e.nd) rfl (E.e.free 74) PyProof.Rows.Boot.«repr» (da_cons (de_fn (cal__law_sum E) hr (by decide) rfl (takes_of rfl rfl rfl rfl) (da_cons (dv 8) (da_cons (dv 9) da_nil))) da_nil)) (nomark _)) (dss_one (ds_ret de_bl)) dss_nil)
  (dss_cons (ds_set (i := 10) sc__law_rows_right.nd rfl (Or.inl rfl) (de_lst (da_cons (dv 2) (da_cons (de_sl (dv 2) (do_part de_int) do_no) (da_cons (de_op od_add (dv 2) (de_tup (da_cons de_int da_nil))) (da_cons (de_callTy cd_list rfl (E.e.free 70) PyProof.Rows.Boot.«list» (da_cons (dv 2) da_nil)) (da_cons de_non (da_cons (de_op od_add (de_sl (dv 2) do_no (do_part (de_un ud_neg de_int))) (de_tup (da_cons de_bl da_nil))) da_nil))))))))
  (dss_cons (ds_set (i := 6) sc__law_rows_right.nd rfl (Or.inl rfl) (de_lst (da_cons de_bl (da_cons (de_cmp (od_eq (units_of hr)) (dv 1) de_int (nomark _)) (da_cons de_bl (da_cons de_bl (da_cons de_bl (da_cons de_bl da_nil))))))))
  (dss_one (ds_ret (de_and (de_cmp (od_eq (units_of hr)) (de_callB (cd_repr hr E.e.nd) rfl (E.e.free 74) PyProof.Rows.Boot.«repr» (da_cons (de_lc (own := [("value", 13)]) rfl sc__law_rows_right.nd (di_seq (de_sl (dv 10) do_no (do_part de_int))) (blkOk_by (by kernel_rfl)) (fun _ _ _ _ _ => (dg_name (i := 13) sc__law_rows_right.nd rfl (Or.inl rfl))) (fun _ _ _ _ _ => dts_nil) (fun _ _ _ _ _ => (de_fn (cal_is_row E) hr (by decide) rfl takesF (da_cons (dv 1) (da_cons (dv 13) da_nil))))) da_nil)) (de_callB (cd_repr hr E.e.nd) rfl (E.e.free 74) PyProof.Rows.Boot.«repr» (da_cons (de_sl (dv 6) do_no (do_part de_int)) da_nil)) (nomark _)) (de_one (de_cmp od_is (de_fn (cal_is_table E) hr (by decide) rfl (takes_of rfl rfl rfl rfl) (da_cons (dv 7) (da_cons (dv 1) (da_cons (dv 8) da_nil)))) de_bl (nomark _))))))))))))))))
theorem cal__law_rows_right (E : Tx P w K mg base T) : Cal P w K mg base T 7 "_law_rows_right" [] w__law_rows_right := (fn__law_rows_right E).cal rfl (E.e.glo 52) rfl (fun _ _ _ _ _ _ us hl => match us, hl with | [_, _], _ => rfl)
theorem sc__law_power_right : FnScope ["dice", "width", "table", "many", "due", "step", "left", "row", "turn", "told", "grown", "at"] ["dice", "width"] (defScope s__law_power_right) := ⟨rfl, rfl, rfl, by decide +kernel, rfl, by decide +kernel, by decide +kernel⟩
theorem fn__law_power_right (E : Tx P w K mg base T) : Fn K mg base P w T d__law_power_right 6 ["dice", "width"] w__law_power_right :=
  E.e.fn_ (N := ["dice", "width", "table", "many", "due", "step", "left", "row", "turn", "told", "grown", "at"]) 53 rfl sc__law_power_right fun cdv A outer s H EE hr hcd =>
  (dss_cons (ds_set (i := 2) sc__law_power_right.nd rfl (Or.inl rfl) (de_fn (cal__law_sent E) hr (by decide) rfl (takes_of rfl rfl rfl rfl) (da_cons (dv 0) (da_cons (dv 1) da_nil))))
  (dss_cons (ds_set (i := 3) sc__law_power_right.nd rfl (Or.inl rfl) (de_fn (cal__law_pick E) hr (by decide) rfl (takes_of rfl rfl rfl rfl) (da_cons (dv 0) (da_cons (de_lst (da_cons de_int (da_cons de_int (da_cons de_int (da_cons de_int (da_cons de_int (da_cons (de_fn (cal__law_roll E) hr (by decide) rfl (takes_of rfl rfl rfl rfl) (da_cons (dv 0) (da_cons de_int da_nil))) da_nil))))))) da_nil))))
  (dss_cons (ds_par3 (i := 4) (j := 5) (k := 6) rfl sc__law_power_right.nd rfl rfl rfl (by decide) (by decide) (by decide) rfl rfl rfl (de_fn (cal__law_gt_unit E) hr (by decide) rfl (takes_of rfl rfl rfl rfl) (da_cons (dv 1) da_nil)) (dv 2) (dv 3) rfl)
  (dss_cons (ds_set (i := 7) sc__law_power_right.nd rfl (Or.inl rfl) (de_callTy cd_tuple rfl (E.e.free 77) PyProof.Rows.Boot.«tuple» (da_cons (de_lc (own := [("at", 11)]) rfl sc__law_power_right.nd (di_rg1 rfl (E.e.free 73) (dv 1)) (blkOk_by (by kernel_rfl)) (fun _ _ _ _ _ => (dg_name (i := 11) sc__law_power_right.nd rfl (Or.inl rfl))) (fun _ _ _ _ _ => dts_nil) (fun _ _ _ _ _ => (de_op od_add (dv 11) de_int))) da_nil)))
  (dss_cons (ds_for (passes_of rfl) rfl (di_rg1 rfl (E.e.free 73) (dv 3)) (dg_name (i := 8) sc__law_power_right.nd rfl (Or.inl rfl)) (dss_one (ds_set (i := 7) sc__law_power_right.nd rfl (Or.inl rfl) (de_fn (cal__law_gt_led E) hr (by decide) rfl (takes_of rfl rfl rfl rfl) (da_cons (dv 2) (da_cons (dv 7) da_nil))))))
  (dss_cons (ds_set (i := 9) sc__law_power_right.nd rfl (Or.inl rfl) (de_fn (cal_table_power E) hr (by decide) rfl (takes_of rfl rfl rfl rfl) (da_cons (dv 1) (da_cons (dv 2) (da_cons (dv 3) da_nil)))))
  (dss_cons (ds_if (dt_w (dw_or (dt_cmp (od_ne (units_of hr)) (de_callB (cd_repr hr E.e.nd) rfl (E.e.free 74) PyProof.Rows.Boot.«repr» (da_cons (de_fn (cal__law_gt_led E) hr (by decide) rfl (takes_of rfl rfl rfl rfl) (da_cons (dv 9) (da_cons (de_callTy cd_tuple rfl (E.e.free 77) PyProof.Rows.Boot.«tuple» (da_cons (de_lc (own := [("at", 11)]) rfl sc__law_power_right.nd (di_rg1 rfl (E.e.free 73) (dv 1)) (blkOk_by (by kernel_rfl)) (fun _ _ _ _ _ => (dg_name (i := 11) sc__law_power_right.nd rfl (Or.inl rfl))) (fun _ _ _ _ _ => dts_nil) (fun _ _ _ _ _ => (de_op od_add (dv 11) de_int))) da_nil)) da_nil))) da_nil)) (de_callB (cd_repr hr E.e.nd) rfl (E.e.free 74) PyProof.Rows.Boot.«repr» (da_cons (dv 7) da_nil)) (nomark _)) (dw_or1 (dt_not (dt_val (de_fn (cal_is_table E) hr (by decide) rfl (takes_of rfl rfl rfl rfl) (da_cons (dv 1) (da_cons (dv 1) (da_cons (dv 9) da_nil))))))))) (dss_one (ds_ret de_bl)) dss_nil)
  (dss_cons (ds_set (i := 10) sc__law_power_right.nd rfl (Or.inl rfl) (de_tup (da_cons (de_tup (da_cons de_int (da_cons de_int da_nil))) (da_cons (de_tup (da_cons de_int (da_cons de_int da_nil))) da_nil))))
  (dss_one (ds_ret (de_cmp (od_eq (units_of hr)) (de_callB (cd_repr hr E.e.nd) rfl (E.e.free 74) PyProof.Rows.Boot.«repr» (da_cons (de_fn (cal_table_power E) hr (by decide) rfl (takes_of rfl rfl rfl rfl) (da_cons de_int (da_cons (dv 10) (da_cons (dv 3) da_nil)))) da_nil)) (de_callB (cd_repr hr E.e.nd) rfl (E.e.free 74) PyProof.Rows.Boot.«repr» (da_cons (de_tup (da_cons (de_tup (da_cons (de_fn (cal__law_power E) hr (by decide) rfl (takes_of rfl rfl rfl rfl) (da_cons de_int (da_cons (dv 3) da_nil))) (da_cons (de_op od_sub (de_fn (cal__law_power E) hr (by decide) rfl (takes_of rfl rfl rfl rfl) (da_cons de_int (da_cons (dv 3) da_nil))) de_int) da_nil))) (da_cons (de_tup (da_cons de_int (da_cons de_int da_nil))) da_nil))) da_nil)) (nomark _))))))))))))
theorem cal__law_power_right (E : Tx P w K mg base T) : Cal P w K mg base T 6 "_law_power_right" [] w__law_power_right := (fn__law_power_right E).cal rfl (E.e.glo 53) rfl (fun _ _ _ _ _ _ us hl => match us, hl with | [_, _], _ => rfl)
theorem sc_law : FnScope ["script", "spot", "dice", "sizes", "told", "due", "turn", "at", "size"] ["script"] (defScope s_law) := ⟨rfl, rfl, rfl, by decide +kernel, rfl, by decide +kernel, by decide +kernel⟩
theorem fn_law (E : Tx P w K mg base T) : Fn K mg base P w T d_law 8 ["script"] w_law :=
  E.e.fn_ (N := ["script", "spot", "dice", "sizes", "told", "due", "turn", "at", "size"]) 54 rfl sc_law fun cdv A outer s H EE hr hcd =>
  (dss_cons (ds_for (passes_of rfl) rfl (di_rg1 rfl (E.e.free 73) (de_callB (cd_max2 rfl) rfl (E.e.free 71) PyProof.Rows.Boot.«max» (da_cons de_int (da_cons (de_callB (cd_min2 rfl) rfl (E.e.free 72) PyProof.Rows.Boot.«min» (da_cons de_int (da_cons (de_callB cd_len rfl (E.e.free 69) PyProof.Rows.Boot.«len» (da_cons (dv 0) da_nil)) da_nil))) da_nil)))) (dg_name (i := 1) sc_law.nd rfl (Or.inl rfl)) (dss_cons (ds_set (i := 2) sc_law.nd rfl (Or.inr rfl) (de_fn (cal__law_dice E) hr (by decide) rfl (takes_of rfl rfl rfl rfl) (da_cons (dv 0) (da_cons (dv 1) da_nil))))
  (dss_cons (ds_setLc (i := 3) (own := [("turn", 6)]) rfl sc_law.nd rfl rfl (sw_true rfl rfl rfl (by decide +kernel)) (di_rg1 rfl (E.e.free 73) de_int) (blkOk_by (by kernel_rfl)) (fun _ _ _ _ _ => (dg_name (i := 6) sc_law.nd rfl (Or.inl rfl))) (fun _ _ _ _ _ => dts_nil) (fun _ _ _ _ _ => (de_fn (cal__law_pick E) hr (by decide) rfl takesF (da_cons (dv 2) (da_cons (de_lst (da_cons de_int (da_cons de_int (da_cons de_int (da_cons de_int (da_cons (de_op od_add de_int (de_fn (cal__law_roll E) hr (by decide) rfl takesF (da_cons (dv 2) (da_cons de_int da_nil)))) da_nil)))))) da_nil)))))
  (dss_cons (ds_setLc (i := 3) (own := [("at", 7), ("size", 8)]) rfl sc_law.nd rfl rfl (sw_true rfl rfl rfl (by decide +kernel)) (di_enum rfl (E.e.free 66) (dv 3)) (blkOk_by (by kernel_rfl)) (fun _ _ _ _ _ => (dg_tup rfl (dgs_cons (dg_name (i := 7) sc_law.nd rfl (Or.inl rfl)) (dgs_cons (dg_name (i := 8) sc_law.nd rfl (Or.inl rfl)) dgs_nil)))) (fun _ _ _ _ _ => dts_nil) (fun _ _ _ _ _ => (de_if (dt_cmp od_lt (dv 7) de_int (nomark _)) (de_callB (cd_max2 rfl) rfl (E.e.free 71) PyProof.Rows.Boot.«max» (da_cons de_int (da_cons (dv 8) da_nil))) (dv 8))))
  (dss_cons (ds_if (dt_w (dw_or (dt_not (dt_val (de_fn (cal__law_behind_right E) hr (by decide) rfl (takes_of rfl rfl rfl rfl) (da_cons (dv 2) (da_cons (de_ix (dv 3) de_int) (da_cons (de_ix (dv 3) de_int) (da_cons (de_ix (dv 3) de_int) da_nil))))))) (dw_or1 (dt_not (dt_val (de_fn (cal__law_rows_right E) hr (by decide) rfl (takes_of rfl rfl rfl rfl) (da_cons (dv 2) (da_cons (de_fn (cal__law_pick E) hr (by decide) rfl (takes_of rfl rfl rfl rfl) (da_cons (dv 2) (da_cons (de_lst (da_cons de_int (da_cons de_int (da_cons de_int (da_cons de_int da_nil))))) da_nil))) da_nil)))))))) (dss_one (ds_ret de_bl)) dss_nil)
  (dss_one (ds_if (dt_not (dt_val (de_fn (cal__law_power_right E) hr (by decide) rfl (takes_of rfl rfl rfl rfl) (da_cons (dv 2) (da_cons (de_fn (cal__law_pick E) hr (by decide) rfl (takes_of rfl rfl rfl rfl) (da_cons (dv 2) (da_cons (de_lst (da_cons de_int (da_cons de_int (da_cons de_int (da_cons de_int da_nil))))) da_nil))) da_nil))))) (dss_one (ds_ret de_bl)) dss_nil)))))))
  (dss_cons (ds_set (i := 4) sc_law.nd rfl (Or.inl rfl) (de_lst (da_cons (MET_law E hr hcd (k := 4) (bs := []) (by decide) (lamP_by (by kernel_rfl)) (lb0 rfl rfl (fun _ _ _ _ _ _ => rfl)) (fun A outer s H EE f c hr => (de_fn (cal_unit E) hr (by decide) rfl (takes_of rfl rfl rfl rfl) (da_cons de_int da_nil)))) (da_cons (MET_law E hr hcd (k := 4) (bs := ["one"]) (by decide) (lamP_by (by kernel_rfl)) (lb1 rfl rfl (fun _ _ _ _ _ _ _ us hl => match us, hl with | [_], _ => ⟨_, rfl, rfl⟩)) (fun A outer s H EE f c hr => (de_fn (cal_product E) hr (by decide) rfl (takes_of rfl rfl rfl rfl) (da_cons de_int (da_cons (de_op od_mul (de_tup (da_cons de_int da_nil)) de_int) (da_cons (de_op od_mul (de_tup (da_cons de_int da_nil)) de_int) da_nil)))))) (da_cons (MET_law E hr hcd (k := 4) (bs := ["two"]) (by decide) (lamP_by (by kernel_rfl)) (lb1 rfl rfl (fun _ _ _ _ _ _ _ us hl => match us, hl with | [_], _ => ⟨_, rfl, rfl⟩)) (fun A outer s H EE f c hr => (de_fn (cal_unit E) hr (by decide) rfl (takes_of rfl rfl rfl rfl) (da_cons (de_un ud_neg de_int) da_nil)))) da_nil)))))
  (dss_cons (ds_set (i := 4) sc_law.nd rfl (Or.inl rfl) (de_op od_add (dv 4) (de_lst (da_cons (MET_law E hr hcd (k := 5) (bs := []) (by decide) (lamP_by (by kernel_rfl)) (lb0 rfl rfl (fun _ _ _ _ _ _ => rfl)) (fun A outer s H EE f c hr => (de_fn (cal_table_power E) hr (by decide) rfl (takes_of rfl rfl rfl rfl) (da_cons de_int (da_cons (de_tup (da_cons (de_tup (da_cons de_int da_nil)) da_nil)) (da_cons de_int da_nil)))))) (da_cons (de_callB cd_len rfl (E.e.free 69) PyProof.Rows.Boot.«len» (da_cons (de_fn (cal_unit E) hr (by decide) rfl (takes_of rfl rfl rfl rfl) (da_cons de_int da_nil)) da_nil)) (da_cons (de_fn (cal_unit E) hr (by decide) rfl (takes_of rfl rfl rfl rfl) (da_cons de_int da_nil)) (da_cons (de_fn (cal_led E) hr (by decide) rfl (takes_of rfl rfl rfl rfl) (da_cons de_int (da_cons de_int (da_cons (de_tup da_nil) (da_cons (de_tup (da_cons de_int (da_cons de_int (da_cons de_int da_nil)))) da_nil))))) (da_cons (de_fn (cal_led E) hr (by decide) rfl (takes_of rfl rfl rfl rfl) (da_cons de_int (da_cons de_int (da_cons (de_tup (da_cons (de_tup da_nil) (da_cons (de_tup da_nil) da_nil))) (da_cons (de_tup da_nil) da_nil))))) da_nil))))))))
  (dss_cons (ds_set (i := 5) sc_law.nd rfl (Or.inl rfl) (de_lst (da_cons (de_tup (da_cons de_str (da_cons de_int da_nil))) (da_cons (de_tup (da_cons de_str (da_cons de_int da_nil))) (da_cons (de_tup (da_cons de_str (da_cons (de_un ud_neg de_int) da_nil))) (da_cons (de_tup (da_cons de_str (da_cons de_int da_nil))) (da_cons de_int (da_cons (de_tup da_nil) (da_cons (de_tup da_nil) (da_cons (de_tup (da_cons de_int (da_cons de_int da_nil))) da_nil))))))))))
  (dss_one (ds_ret (de_and (de_cmp (od_eq (units_of hr)) (de_callB (cd_repr hr E.e.nd) rfl (E.e.free 74) PyProof.Rows.Boot.«repr» (da_cons (dv 4) da_nil)) (de_callB (cd_repr hr E.e.nd) rfl (E.e.free 74) PyProof.Rows.Boot.«repr» (da_cons (dv 5) da_nil)) (nomark _)) (de_one (de_cmp (od_eq (units_of hr)) (de_callB (cd_repr hr E.e.nd) rfl (E.e.free 74) PyProof.Rows.Boot.«repr» (da_cons (de_fn (cal_table_power E) hr (by decide) rfl (takes_of rfl rfl rfl rfl) (da_cons de_int (da_cons (de_tup (da_cons (de_tup (da_cons de_int (da_cons de_int da_nil))) (da_cons (de_tup (da_cons de_int (da_cons de_int da_nil))) da_nil))) (da_cons de_int da_nil)))) da_nil)) (de_callB (cd_repr hr E.e.nd) rfl (E.e.free 74) PyProof.Rows.Boot.«repr» (da_cons (de_fn (cal__law_gt_unit E) hr (by decide) rfl (takes_of rfl rfl rfl rfl) (da_cons de_int da_nil)) da_nil)) (nomark _))))))))))
end
end K01
end
section
set_option Elab.async false
set_option linter.all false
set_option maxRecDepth 100000
set_option maxHeartbeats 4000000
namespace K01
open PySem PySem.Spec PyProof.Rows L2 LamX G2
open PySem.W (Frag)
/-! ### the head -/
def mI : Stmt := match top 4 with
  | .ClassDef _ _ _ b _ _ _ _ _ _ _ => b.getD 0 (.Pass ⟨0, 0, 0, 0⟩)
  | _ => .Pass ⟨0, 0, 0, 0⟩
theorem initT : ∃ ex nl, InitT "given" ex nl (defArgs mI) (.stmts (defBody mI)) "InvalidCount.__init__" ∧ ReprTxt "given" ex ∧ defScope mI = xSc nl := by
  refine ⟨_, _, ⟨⟨_, _, _, _, _, _, _, _, _, _, _, rfl, rfl, fun _ _ _ _ _ _ _ _ => rfl, fun env => ⟨⟨_, rfl⟩, rfl⟩⟩, ?_, ?_, ?_, ?_, ?_, ?_, ?_⟩, ⟨_, _, _, _, _, _, rfl, ?_⟩, rfl⟩
  all_goals first | rfl | decide +kernel
abbrev R : PySem.W.OpenRow := PySem.W.OpenLaw.row PySem.Challenge.rw_gridturns_k01_whole_tables_of_sixty_four
abbrev tf : List He.Defn := [("law", none)]
def xs (K : Frag) : Bool := xcB R.prog.main.file "InvalidCount" "given" ixTail "IndexError" "IndexError.__new__" "IndexError.__init__" "InvalidCount.__init__" K
def iv : InitD := some (("__init__" : Str), ("InvalidCount.__init__" : Str), defArgs mI, .stmts (defBody mI), defScope mI, mainGlobals, [("__class__" : Str)], builtinsNs)
abbrev hk : PySem.W.Hook := hookM 5 fa fn tf xs (initD "InvalidCount") iv
def ob (s : PySem.W.SharedT) : He.AlD × Bool × InitD := obsM 5 fa fn tf xs (initD "InvalidCount") (HandSHeadRun.getT s)
theorem ob_eq (s : PySem.W.SharedT) : ob s = hk.obs s.abs := obsM_eq (HandSHeadRun.getT_eq s)
def l0 : List Str := ["WholeError", "InvalidRow", "InvalidTable", "InvalidCount", "MAX_COUNT", "is_integer", "require_count", "is_plain_row", "is_plain_table", "rest_row", "unit_row", "unit_rows", "sum_of_rows", "times_row", "less_times", "product_of", "led_row", "led_from", "columns_of", "table_behind", "MAX_WIDTH", "require_width", "require_row", "require_table", "require_sized", "require_whole", "is_row", "is_table", "row_plus", "row_times"]
def l1 : List Str := ["product", "led", "led_behind", "columns", "unit", "table_plus", "table_times", "power_of", "table_power", "_law_dice", "_law_roll", "_law_pick", "_law_shuffled", "_law_number", "_law_power", "_law_gt_plus", "_law_gt_product", "_law_gt_led", "_law_gt_unit", "_law_gh_turned", "_law_gh_times", "_law_gh_number", "_law_gh_row", "_law_sent", "_law_thin", "_law_sum", "_law_met", "_law_behind_right", "_law_rows_right", "_law_power_right"]
abbrev loose : List Str := l0 ++ l1
theorem run (w : World) : HandSHeadRun.RunEq R (PySem.W.view R.prog [65]) hk ob 6000 loose w := by
  intro os
  kernel_rfl
end K01
end
section
set_option Elab.async false
set_option linter.all false
set_option maxRecDepth 100000
namespace K01
open PySem PySem.Spec PyProof.Rows L2 G2 Pl
def Rw (xs : List Int) : D := .tup (xs.map D.int)
def Tb (t : List (List Int)) : D := .tup (t.map Rw)
theorem cm {x y : Int} (h : Sm 100000 x) (g : Sm 100000 y) : CMulA x y := by
  have key : ∀ z : Int, Sm 100000 z → z.natAbs.log2 < 100000 := fun z h => by
    by_cases e : z.natAbs = 0
    · rw [e]; decide
    · exact (Nat.log2_lt e).mpr h
  have h1 := key x h
  have h2 := key y g
  unfold CMulA
  omega
theorem zw (f : Int → Int → Int) (xs ys : List Int) : (xs.zip ys).map (fun p => D.int (f p.1 p.2)) = (List.zipWith f xs ys).map D.int := by
  rw [← List.map_uncurry_zip_eq_zipWith, List.map_map]; rfl
section
variable {μ : Mu} {Q : KD} {E : KX}
theorem sp_is_integer_int {i : Int} (q : Q (.bl true) μ) : w_is_integer [.int i] μ Q E := by
  simp [w_is_integer, cIsi, tagOf, tgOf, isTag, q]
theorem sp_is_integer_bl {b : Bool} (q : Q (.bl false) μ) : w_is_integer [.bl b] μ Q E := by
  simp [w_is_integer, cIsi, tagOf, tgOf, isTag, q]
theorem sp_require_count {v l m : Int} (h1 : l ≤ v) (h2 : v ≤ m) (q : Q .non μ) : w_require_count [.int v, .int l, .int m] μ Q E := by
  simp [w_require_count]
  refine sp_is_integer_int ?_
  simp [h1, h2, q]
theorem sp_require_count_bad {v l m : Int} (h : ¬ (l ≤ v ∧ v ≤ m)) (hv : v.natAbs.log2 < 1920) (q : E ⟨"InvalidCount", ["given"], [.int v]⟩ μ) : w_require_count [.int v, .int l, .int m] μ Q E := by
  simp [w_require_count]
  refine sp_is_integer_int ?_
  by_cases h1 : l ≤ v
  · have h2 : ¬ v ≤ m := fun z => h ⟨h1, z⟩
    simp [h1, h2, okInt, hv, q]
    try omega
  · simp [h1, okInt, hv, q]
    try omega
theorem all_ints (xs : List Int) (q : Q (.bl true) μ) : cAll [.lst (xs.map fun _ => D.bl true)] μ Q := by
  refine ⟨xs.map fun _ => true, by simp [lstOf], ?_⟩
  have e : (xs.map fun _ => true).all id = true := by simp
  rw [e]; exact q
theorem sp_is_plain_row (xs : List Int) (w : Int) (hl : xs.length ≤ 16777216) (q : Q (.bl (decide ((xs.length : Int) = w))) μ) : w_is_plain_row [.int w, Rw xs] μ Q E := by
  simp [w_is_plain_row, Rw, cIsi, tagOf, tgOf, isTag]
  by_cases h : (xs.length : Int) = w
  · simp [h, stS, hl]
    simp [h] at q
    refine lc_map (fun _ => D.bl true) _ [] (fun i _ K hK => ?_) ?_
    · simp [wipeD]
      exact sp_is_integer_int hK
    · simpa using all_ints xs q
  · simp [h]
    simpa [h] using q
theorem sp_is_plain_row_lst (xs : List D) (w : Int) (q : Q (.bl false) μ) : w_is_plain_row [.int w, .lst xs] μ Q E := by
  simp [w_is_plain_row, cIsi, tagOf, tgOf, isTag, q]
theorem sp_is_plain_row_non (w : Int) (q : Q (.bl false) μ) : w_is_plain_row [.int w, .non] μ Q E := by
  simp [w_is_plain_row, cIsi, tagOf, tgOf, isTag, q]
theorem sp_is_plain_table (t : List (List Int)) (h w : Int) (hl : t.length ≤ 16777216) (hh : (t.length : Int) = h) (hw : ∀ r ∈ t, (r.length : Int) = w ∧ r.length ≤ 16777216) (q : Q (.bl true) μ) : w_is_plain_table [.int h, .int w, Tb t] μ Q E := by
  simp [w_is_plain_table, Tb, cIsi, tagOf, tgOf, isTag, hh, stS, hl]
  refine lc_map (fun _ => D.bl true) _ [] (fun r hr K hK => ?_) ?_
  · simp [wipeD]
    refine sp_is_plain_row r w (hw r hr).2 ?_
    simpa [(hw r hr).1] using hK
  · refine ⟨t.map fun _ => true, by simp [lstOf], ?_⟩
    have e : (t.map fun _ => true).all id = true := by simp
    rw [e]; exact q
theorem rep_flat1 {α : Type} (n : Nat) (x : α) : (List.replicate n [x]).flatten = List.replicate n x := by
  induction n with
  | zero => rfl
  | succ n ih => rw [List.replicate_succ, List.flatten_cons, ih]; rfl
theorem sp_rest_row (w : Nat) (hw : w ≤ 64) (q : Q (Rw (List.replicate w 0)) μ) : w_rest_row [.int w] μ Q E := by
  simp [w_rest_row, rep_flat1]
  refine ⟨by omega, by omega, ?_⟩
  simpa [Rw] using q
theorem rg_map (n : Nat) : ((List.range (n : Int).toNat).map fun i => D.int (0 + (i : Nat))) = (List.range n).map fun i => D.int (i : Nat) := by simp
theorem sp_unit_row (w i : Nat) (hw : w ≤ 64) (q : Q (Rw (unitR w i)) μ) : w_unit_row [.int w, .int i] μ Q E := by
  simp [w_unit_row]
  refine ⟨by omega, by omega, ?_⟩
  refine lc_map (fun j => D.int (if j = i then 1 else 0)) _ [] (fun j _ K hK => ?_) ?_
  · simp [wipeD]
    by_cases e : j = i
    · subst e; simpa using hK
    · have e' : ¬ ((j : Int) = (i : Int)) := by omega
      simpa [e, e'] using hK
  · simpa [Rw, unitR, Function.comp_def] using q
theorem sp_unit_rows (w : Nat) (hw : w ≤ 64) (q : Q (Tb (unitL w)) μ) : w_unit_rows [.int w] μ Q E := by
  simp [w_unit_rows]
  refine ⟨by omega, by omega, ?_⟩
  refine lc_map (fun j => Rw (unitR w j)) _ [] (fun j _ K hK => ?_) ?_
  · simp [wipeD]
    exact sp_unit_row w j hw hK
  · simpa [Tb, unitL, Function.comp_def] using q
theorem sp_sum_of_rows (xs ys : List Int) (hl : xs.length ≤ 16777216) (q : Q (Rw (addL xs ys)) μ) : w_sum_of_rows [Rw xs, Rw ys] μ Q E := by
  simp [w_sum_of_rows, Rw]
  rw [zipD_map]
  refine ⟨by simp; omega, lc_map (fun p => D.int (p.1 + p.2)) _ [] (fun p _ K hK => ?_) ?_⟩
  · simp [seqOf, wipeD]
    exact hK
  · rw [List.nil_append, zw (fun a b => a + b)]
    exact q
theorem sp_times_row (n : Int) (xs : List Int) (hl : xs.length ≤ 16777216) (hn : Sm 100000 n) (hx : Bd 100000 xs) (q : Q (Rw (xs.map (n * ·))) μ) : w_times_row [.int n, Rw xs] μ Q E := by
  simp [w_times_row, Rw, stS]
  refine ⟨hl, lc_map (fun p => D.int (n * p)) _ [] (fun p hp K hK => ?_) ?_⟩
  · simp [wipeD]
    exact ⟨cm hn (hx p hp), hK⟩
  · simpa [Rw, Function.comp_def] using q
theorem sp_less_times (r o : List Int) (n : Int) (hl : r.length ≤ 16777216) (hn : Sm 100000 n) (ho : Bd 100000 o) (q : Q (Rw (subM r n o)) μ) : w_less_times [Rw r, .int n, Rw o] μ Q E := by
  simp [w_less_times, Rw]
  rw [zipD_map]
  refine ⟨by simp; omega, lc_map (fun p => D.int (p.1 - n * p.2)) _ [] (fun p hp K hK => ?_) ?_⟩
  · simp [seqOf, wipeD]
    exact ⟨cm hn (ho _ (List.of_mem_zip hp).2), hK⟩
  · rw [List.nil_append, zw (fun a b => a - n * b)]
    exact q
theorem sp_product_of (xs ys : List Int) (hl : xs.length ≤ 16777216) (hx : Bd 100000 xs) (hy : Bd 100000 ys) (q : Q (.int (dot xs ys)) μ) : w_product_of [Rw xs, Rw ys] μ Q E := by
  simp [w_product_of, Rw]
  rw [zipD_map]
  refine ⟨by simp; omega, lc_map (fun p => D.int (p.1 * p.2)) _ [] (fun p hp K hK => ?_) ?_⟩
  · simp [seqOf, wipeD]
    exact ⟨cm (hx _ (List.of_mem_zip hp).1) (hy _ (List.of_mem_zip hp).2), hK⟩
  · rw [List.nil_append, zw (fun a b => a * b), e_sumL]
    exact q
theorem sp_led_row (t : List (List Int)) (x : List Int) (hl : t.length ≤ 16777216) (hw : ∀ r ∈ t, r.length ≤ 16777216) (ht : BT 100000 t) (hx : Bd 100000 x) (q : Q (Rw (ledL t x)) μ) : w_led_row [Tb t, Rw x] μ Q E := by
  simp [w_led_row, Tb, stS]
  refine ⟨hl, lc_map (fun r => D.int (dot r x)) _ [] (fun r hr K hK => ?_) ?_⟩
  · simp [wipeD]
    exact sp_product_of r x (hw r hr) (ht r hr) hx hK
  · simpa [Rw, ledL, Function.comp_def] using q
theorem sp_led_from (w : Nat) (t : List (List Int)) (told : List Int) (hw : w ≤ 64) (hlt : told.length ≤ 64) (ht : BT 100000 t) (hn : Bd 99999 told) (q : Q (Rw (ledF w told t)) μ) : w_led_from [.int w, Tb t, Rw told] μ Q E := by
  simp [w_led_from]
  refine sp_rest_row w hw ?_
  simp [Tb, Rw]
  rw [zipD_map]
  have gen : ∀ (l : List (Int × List Int)) (acc : List Int) (x y : Option D), acc.length ≤ 64 → (∀ p ∈ l, Sm 99999 p.1 ∧ Bd 100000 p.2) → Q (Rw (ledS acc l)) μ →
      forW (gT 2 (gsC (gN 4) (gsC (gN 5) gsN))) (wIf (wTest (wOp rNe (wVar 4) (wC (.int 0)))) (wAsg (wFn w_less_times [] (wCons (wVar 3) (wCons (wOp rSub (wC (.int 0)) (wVar 4)) (wCons (wVar 5) wNil)))) (gN 3)) wNext)
        (l.map fun p => D.tup [D.int p.1, Rw p.2]) { nx := wRet (wVar 3) { nx := fun _ μ' => Q .non μ', rt := Q, ex := E }, rt := Q, ex := E } [some (.int w), some (Tb t), some (Rw told), some (Rw acc), x, y] μ := by
    intro l
    induction l with
    | nil =>
      intro acc x y _ _ h
      simpa [forW, ledS] using h
    | cons p l ih =>
      intro acc x y ha hp h
      have hp0 := hp p (List.mem_cons_self ..)
      simp [forW, seqOf]
      by_cases e : p.1 = 0
      · simp [e]
        have := ih acc (some (.int p.1)) (some (Rw p.2)) ha (fun q hq => hp q (List.mem_cons_of_mem _ hq)) (by simpa [ledS, e] using h)
        simpa [e] using this
      · simp [e]
        refine sp_less_times acc p.2 (-p.1) (by omega) ?_ hp0.2 ?_
        · have h1 := hp0.1.mono (show 99999 ≤ 100000 by omega)
          unfold Sm at h1 ⊢
          rw [Int.natAbs_neg]
          exact h1
        · have := ih (subM acc (-p.1) p.2) (some (.int p.1)) (some (Rw p.2)) (by simp [subM]; omega) (fun q hq => hp q (List.mem_cons_of_mem _ hq)) (by simpa [ledS, e] using h)
          simpa using this
  have := gen (told.zip t) (List.replicate w 0) none none (by simpa using hw) (fun p hp => ⟨hn _ (List.of_mem_zip hp).1, ht _ (List.of_mem_zip hp).2⟩) q
  simpa [Tb, Rw] using this
theorem atI_get (l : List Int) (j : Nat) (h : j < l.length) : atI (l.map D.int) (j : Int) = some (.int (l.getD j 0)) := by
  unfold atI ixN
  have h1 : (0 : Int) ≤ (j : Int) := by omega
  have h2 : (j : Int) < ((l.map D.int).length : Int) := by simp; omega
  rw [if_pos h1, if_pos h2]
  simp [h]
theorem sp_columns_of (t : List (List Int)) (w : Nat) (hw : w ≤ 64) (hl : t.length ≤ 16777216) (ht : ∀ r ∈ t, r.length = w) (q : Q (Tb (colL t w)) μ) : w_columns_of [Tb t, .int w] μ Q E := by
  simp [w_columns_of, Tb]
  refine ⟨by omega, by omega, ?_⟩
  refine lc_map (fun j => if j < w then Rw (t.map fun l => l.getD j 0) else .non) _ [] (fun j hj K hK => ?_) ?_
  · have hj' : j < w := by simpa using hj
    simp [wipeD, stS, hl]
    rw [if_pos hj'] at hK
    refine lc_map (fun l => D.int (l.getD j 0)) _ [] (fun l hlm K2 hK2 => ?_) ?_
    · simp [wipeD, G2.rIx, Rw, seqOf]
      exact ⟨_, atI_get l j (by rw [ht l hlm]; exact hj'), hK2⟩
    · simpa [Rw, Function.comp_def] using hK
  · have e : ((List.range w).map fun j => if j < w then Rw (t.map fun l => l.getD j 0) else .non) = (colL t w).map Rw := by
      unfold colL
      rw [List.map_map]
      apply List.map_congr_left
      intro j hj
      have hj' : j < w := by simpa using hj
      simp [hj']
    rw [List.nil_append, e]
    exact q
theorem sp_table_behind (a b : List (List Int)) (w : Nat) (hw : w ≤ 64) (ha : a.length ≤ 64) (hb : b.length ≤ 64) (hal : ∀ r ∈ a, r.length ≤ 64) (hbl : ∀ r ∈ b, r.length = w) (hA : BT 100000 a) (hB : BT 100000 b) (q : Q (Tb (mulL a b w)) μ) : w_table_behind [Tb a, Tb b, .int w] μ Q E := by
  simp [w_table_behind]
  refine sp_columns_of b w hw (by omega) hbl ?_
  simp [Tb, stS]
  refine ⟨by omega, lc_map (fun l => Rw ((colL b w).map fun c => dot l c)) _ [] (fun l hl K hK => ?_) ?_⟩
  · simp [wipeD, stS]
    refine ⟨by simp [colL]; omega, lc_map (fun c => D.int (dot l c)) _ [] (fun c hc K2 hK2 => ?_) ?_⟩
    · simp [wipeD]
      exact sp_product_of l c (by have := hal l hl; omega) (hA l hl) (col_bt hB c hc) hK2
    · simpa [Rw, Function.comp_def] using hK
  · simpa [Tb, mulL, Function.comp_def] using q
end
end K01
end
section
set_option Elab.async false
set_option linter.all false
set_option maxRecDepth 100000
namespace K01
open PySem PySem.Spec PyProof.Rows L2 G2 Pl
structure TW (t : List (List Int)) (h w : Nat) : Prop where
  h : t.length = h
  w : ∀ r ∈ t, r.length = w
section
variable {μ : Mu} {Q : KD} {E : KX}
theorem sp_require_width {w : Nat} (hw : w ≤ 64) (q : Q .non μ) : w_require_width [.int w] μ Q E := by
  simp [w_require_width]
  exact sp_require_count (by omega) (by omega) q
theorem sp_require_width_bad {w : Int} (hw : ¬ (0 ≤ w ∧ w ≤ 64)) (hv : w.natAbs.log2 < 1920) (q : E ⟨"InvalidCount", ["given"], [.int w]⟩ μ) : w_require_width [.int w] μ Q E := by
  simp [w_require_width]
  exact sp_require_count_bad hw hv q
theorem sp_require_table {t : List (List Int)} {h w : Nat} (T : TW t h w) (hh : h ≤ 64) (hw : w ≤ 64) (q : Q .non μ) : w_require_table [.int h, .int w, Tb t] μ Q E := by
  simp [w_require_table]
  refine sp_is_plain_table t h w (by rw [T.h]; omega) (by rw [T.h]) (fun r hr => ⟨by rw [T.w r hr], by rw [T.w r hr]; omega⟩) ?_
  simpa using q
theorem sp_require_row {x : List Int} {w : Nat} (hx : x.length = w) (hw : w ≤ 64) (q : Q .non μ) : w_require_row [.int w, Rw x] μ Q E := by
  simp [w_require_row]
  refine sp_is_plain_row x w (by omega) ?_
  simpa [hx] using q
theorem sp_require_sized {t : List (List Int)} {h w : Nat} (T : TW t h w) (hh : h ≤ 64) (hw : w ≤ 64) (q : Q .non μ) : w_require_sized [.int h, .int w, Tb t] μ Q E := by
  simp [w_require_sized]
  exact sp_require_width hh (sp_require_width hw (sp_require_table T hh hw q))
theorem sp_require_whole {i : Int} (q : Q .non μ) : w_require_whole [.int i] μ Q E := by
  simp [w_require_whole]
  refine sp_is_integer_int ?_
  simpa using q
theorem sp_is_row {x : List Int} {w : Nat} (hx : x.length ≤ 16777216) (hw : w ≤ 64) (q : Q (.bl (decide ((x.length : Int) = w))) μ) : w_is_row [.int w, Rw x] μ Q E := by
  simp [w_is_row]
  exact sp_require_width hw (sp_is_plain_row x w hx q)
theorem sp_is_row_lst {x : List D} {w : Nat} (hw : w ≤ 64) (q : Q (.bl false) μ) : w_is_row [.int w, .lst x] μ Q E := by
  simp [w_is_row]
  exact sp_require_width hw (sp_is_plain_row_lst x w q)
theorem sp_is_row_non {w : Nat} (hw : w ≤ 64) (q : Q (.bl false) μ) : w_is_row [.int w, .non] μ Q E := by
  simp [w_is_row]
  exact sp_require_width hw (sp_is_plain_row_non w q)
theorem sp_is_table {t : List (List Int)} {h w : Nat} (T : TW t h w) (hh : h ≤ 64) (hw : w ≤ 64) (q : Q (.bl true) μ) : w_is_table [.int h, .int w, Tb t] μ Q E := by
  simp [w_is_table]
  refine sp_require_width hh (sp_require_width hw ?_)
  exact sp_is_plain_table t h w (by rw [T.h]; omega) (by rw [T.h]) (fun r hr => ⟨by rw [T.w r hr], by rw [T.w r hr]; omega⟩) q
theorem sp_row_plus {x y : List Int} {w : Nat} (hx : x.length = w) (hy : y.length = w) (hw : w ≤ 64) (q : Q (Rw (addL x y)) μ) : w_row_plus [.int w, Rw x, Rw y] μ Q E := by
  simp [w_row_plus]
  exact sp_require_width hw (sp_require_row hx hw (sp_require_row hy hw (sp_sum_of_rows x y (by omega) q)))
theorem sp_row_times {x : List Int} {n : Int} {w : Nat} (hx : x.length = w) (hw : w ≤ 64) (hn : Sm 100000 n) (hb : Bd 100000 x) (q : Q (Rw (x.map (n * ·))) μ) : w_row_times [.int w, .int n, Rw x] μ Q E := by
  simp [w_row_times]
  exact sp_require_width hw (sp_require_whole (sp_require_row hx hw (sp_times_row n x (by omega) hn hb q)))
theorem sp_product {x y : List Int} {w : Nat} (hx : x.length = w) (hy : y.length = w) (hw : w ≤ 64) (hbx : Bd 100000 x) (hby : Bd 100000 y) (q : Q (.int (dot x y)) μ) : w_product [.int w, Rw x, Rw y] μ Q E := by
  simp [w_product]
  exact sp_require_width hw (sp_require_row hx hw (sp_require_row hy hw (sp_product_of x y (by omega) hbx hby q)))
theorem sp_led {t : List (List Int)} {x : List Int} {h w : Nat} (T : TW t h w) (hx : x.length = w) (hh : h ≤ 64) (hw : w ≤ 64) (ht : BT 100000 t) (hb : Bd 100000 x) (q : Q (Rw (ledL t x)) μ) : w_led [.int h, .int w, Tb t, Rw x] μ Q E := by
  simp [w_led]
  exact sp_require_sized T hh hw (sp_require_row hx hw (sp_led_row t x (by rw [T.h]; omega) (fun r hr => by rw [T.w r hr]; omega) ht hb q))
theorem sp_led_behind {t : List (List Int)} {x : List Int} {h w : Nat} (T : TW t h w) (hx : x.length = h) (hh : h ≤ 64) (hw : w ≤ 64) (ht : BT 100000 t) (hb : Bd 99999 x) (q : Q (Rw (ledF w x t)) μ) : w_led_behind [.int h, .int w, Tb t, Rw x] μ Q E := by
  simp [w_led_behind]
  exact sp_require_sized T hh hw (sp_require_row hx hh (sp_led_from w t x hw (by omega) ht hb q))
theorem sp_columns {t : List (List Int)} {h w : Nat} (T : TW t h w) (hh : h ≤ 64) (hw : w ≤ 64) (q : Q (Tb (colL t w)) μ) : w_columns [.int h, .int w, Tb t] μ Q E := by
  simp [w_columns]
  exact sp_require_sized T hh hw (sp_columns_of t w hw (by rw [T.h]; omega) T.w q)
theorem sp_unit {w : Nat} (hw : w ≤ 64) (q : Q (Tb (unitL w)) μ) : w_unit [.int w] μ Q E := by
  simp [w_unit]
  exact sp_require_width hw (sp_unit_rows w hw q)
theorem sp_unit_bad {w : Int} (hw : ¬ (0 ≤ w ∧ w ≤ 64)) (hv : w.natAbs.log2 < 1920) (q : E ⟨"InvalidCount", ["given"], [.int w]⟩ μ) : w_unit [.int w] μ Q E := by
  simp [w_unit]
  exact sp_require_width_bad hw hv q
theorem sp_table_plus {a b : List (List Int)} {h w : Nat} (A : TW a h w) (B : TW b h w) (hh : h ≤ 64) (hw : w ≤ 64) (q : Q (Tb (List.zipWith addL a b)) μ) : w_table_plus [.int h, .int w, Tb a, Tb b] μ Q E := by
  simp [w_table_plus]
  refine sp_require_sized A hh hw (sp_require_table B hh hw ?_)
  simp [Tb]
  rw [zipD_map]
  refine ⟨by simp [A.h, B.h]; omega, lc_map (fun p => Rw (addL p.1 p.2)) _ [] (fun p hp K hK => ?_) ?_⟩
  · simp [seqOf, wipeD]
    exact sp_sum_of_rows p.1 p.2 (by rw [A.w _ (List.of_mem_zip hp).1]; omega) hK
  · have e : (a.zip b).map (fun p => Rw (addL p.1 p.2)) = (List.zipWith addL a b).map Rw := by rw [← List.map_uncurry_zip_eq_zipWith, List.map_map]; rfl
    rw [List.nil_append, e]
    exact q
theorem sp_table_times {a b : List (List Int)} {h m w : Nat} (A : TW a h m) (B : TW b m w) (hh : h ≤ 64) (hm : m ≤ 64) (hw : w ≤ 64) (ha : BT 100000 a) (hb : BT 100000 b) (q : Q (Tb (mulL a b w)) μ) : w_table_times [.int h, .int m, .int w, Tb a, Tb b] μ Q E := by
  simp [w_table_times]
  refine sp_require_width hh (sp_require_width hm (sp_require_width hw (sp_require_table A hh hm (sp_require_table B hm hw ?_))))
  exact sp_table_behind a b w hw (by rw [A.h]; exact hh) (by rw [B.h]; exact hm) (fun r hr => by rw [A.w r hr]; exact hm) B.w ha hb q
/-! ### powers -/
def it (t : List (List Int)) : Nat → List Int → List Int
  | 0, x => x
  | n + 1, x => ledL t (it t n x)
theorem it_add (t : List (List Int)) (a b : Nat) (x : List Int) : it t (a + b) x = it t a (it t b x) := by
  induction a with
  | zero => simp [it]
  | succ a ih => rw [Nat.succ_add]; simp [it, ih]
theorem it_len {t : List (List Int)} {w : Nat} (T : TW t w w) (n : Nat) (x : List Int) (hx : x.length = w) : (it t n x).length = w := by
  cases n with
  | zero => exact hx
  | succ n => simp [it, ledL, T.h]
def Acts (t M : List (List Int)) (w n : Nat) : Prop := ∀ x : List Int, x.length = w → ledL M x = it t n x
theorem TW.mul {a b : List (List Int)} {h m w : Nat} (A : TW a h m) : TW (mulL a b w) h w := by
  refine ⟨by simp [mulL, A.h], fun r hr => ?_⟩
  obtain ⟨l, _, rfl⟩ := List.mem_map.mp hr
  simp [colL]
theorem Acts.mul {t a b : List (List Int)} {w n m : Nat} (T : TW t w w) (B : TW b w w) (ha : Acts t a w n) (hb : Acts t b w m) : Acts t (mulL a b w) w (n + m) := fun x hx => by
  rw [led_mul a b w x B.w, hb x hx, ha _ (it_len T m x hx), it_add]
theorem dot_unit (w i : Nat) (x : List Int) (hx : x.length = w) (hi : i < w) : dot (unitR w i) x = x.getD i 0 := by
  subst hx
  unfold unitR
  induction x generalizing i with
  | nil => simp at hi
  | cons a x ih =>
    rw [List.length_cons, List.range_succ_eq_map, List.map_cons, dot_cons, List.map_map]
    cases i with
    | zero =>
      have e : (List.range x.length).map ((fun j => if j = 0 then (1 : Int) else 0) ∘ Nat.succ) = List.replicate x.length 0 := by
        apply List.ext_getElem
        · simp
        · intro j h1 h2; simp
      rw [e, dot_zero_left]
      simp
    | succ i =>
      have e : (List.range x.length).map ((fun j => if j = i + 1 then (1 : Int) else 0) ∘ Nat.succ) = (List.range x.length).map fun j => if j = i then (1 : Int) else 0 := by
        apply List.map_congr_left
        intro j _
        simp
      rw [e, ih i (by simpa using hi)]
      simp
theorem unit_acts (t : List (List Int)) (w : Nat) : Acts t (unitL w) w 0 := fun x hx => by
  show ledL (unitL w) x = x
  unfold ledL unitL
  rw [List.map_map]
  apply List.ext_getElem
  · simp [hx]
  · intro i h1 h2
    have hi : i < w := by simpa using h1
    simp [dot_unit w i x hx hi, h2]
theorem unit_tw (w : Nat) : TW (unitL w) w w := ⟨by simp [unitL], fun r hr => by
  obtain ⟨i, _, rfl⟩ := List.mem_map.mp hr
  simp [unitR]⟩
theorem unit_bt (w : Nat) : BT 1 (unitL w) := fun r hr z hz => by
  obtain ⟨i, _, rfl⟩ := List.mem_map.mp hr
  obtain ⟨j, _, rfl⟩ := List.mem_map.mp hz
  unfold Sm
  split <;> decide
theorem _root_.Pl.BT.mono {k l : Nat} {t : List (List Int)} (h : BT k t) (hl : k ≤ l) : BT l t := fun r hr z hz => (h r hr z hz).mono hl
theorem _root_.Pl.Bd.mono {k l : Nat} {t : List Int} (h : Bd k t) (hl : k ≤ l) : Bd l t := fun z hz => (h z hz).mono hl
theorem sp_power_of {t : List (List Int)} {w n k0 : Nat} (T : TW t w w) (hw : w ≤ 64) (hn : n ≤ 400) (hk : k0 ≤ 60) (ht : BT k0 t) (q : ∀ M, TW M w w → Acts t M w n → BT 27000 M → Q (Tb M) μ) : w_power_of [.int w, Tb t, .int n] μ Q E := by
  simp [w_power_of]
  refine sp_unit_rows w hw ?_
  have gen : ∀ (fuel m a p : Nat) (F G : List (List Int)), m ≤ fuel → a + p * m = n → 1 ≤ p → TW F w w → TW G w w → Acts t F w a → Acts t G w p → BT (a * (k0 + 6) + 7) F → BT (p * (k0 + 6) - 6) G →
      whW (wTest (wOp rGt (wVar 2) (wC (.int 0)))) (wSeq (wIf (wTest (wOp G2.rEq (wOp rMod (wVar 2) (wC (.int 2))) (wC (.int 1)))) (wAsg (wFn w_table_behind [] (wCons (wVar 3) (wCons (wVar 4) (wCons (wVar 0) wNil)))) (gN 3)) wNext)
        (wPar 4 2 (wFn w_table_behind [] (wCons (wVar 4) (wCons (wVar 4) (wCons (wVar 0) wNil)))) (wOp rDiv (wVar 2) (wC (.int 2))))) (fuel + 1)
        { nx := wRet (wVar 3) { nx := fun _ μ' => Q .non μ', rt := Q, ex := E }, rt := Q, ex := E } [some (.int w), some (Tb t), some (.int m), some (Tb F), some (Tb G)] μ := by
    intro fuel
    induction fuel with
    | zero =>
      intro m a p F G hm ha hp hF hG aF aG bF bG
      have hm0 : m = 0 := by omega
      subst hm0
      have e : a = n := by simpa using ha
      subst e
      simp [whW]
      refine q F hF aF (bF.mono ?_)
      have : a * (k0 + 6) ≤ 400 * 66 := Nat.mul_le_mul hn (by omega)
      omega
    | succ fuel ih =>
      intro m a p F G hm ha hp hF hG aF aG bF bG
      by_cases hm0 : m = 0
      · subst hm0
        have e : a = n := by simpa using ha
        subst e
        simp [whW]
        refine q F hF aF (bF.mono ?_)
        have : a * (k0 + 6) ≤ 400 * 66 := Nat.mul_le_mul hn (by omega)
        omega
      · have hm1 : 0 < (m : Int) := by omega
        have hpm : p ≤ n := by
          have : p * 1 ≤ p * m := Nat.mul_le_mul_left _ (by omega)
          omega
        have han : a ≤ n := by omega
        have bp : p * (k0 + 6) ≤ 400 * 66 := Nat.mul_le_mul (by omega) (by omega)
        have ba : a * (k0 + 6) ≤ 400 * 66 := Nat.mul_le_mul (by omega) (by omega)
        have bG' : BT 100000 G := bG.mono (by omega)
        have bF' : BT 100000 F := bF.mono (by omega)
        have hp6 : 6 ≤ p * (k0 + 6) := by
          have : 1 * 6 ≤ p * (k0 + 6) := Nat.mul_le_mul hp (by omega)
          omega
        have hdiv : ((m : Int).fdiv 2) = ((m / 2 : Nat) : Int) := by
          rw [Int.fdiv_eq_ediv_of_nonneg _ (by omega)]; omega
        have hmod : ((m : Int).fmod 2) = ((m % 2 : Nat) : Int) := by
          rw [Int.fmod_eq_emod_of_nonneg _ (by omega)]; omega
        have hcd : CDivA (m : Int) 2 := ⟨by omega, by decide⟩
        have square : ∀ (a' : Nat) (F' : List (List Int)), a' + (p + p) * (m / 2) = n → TW F' w w → Acts t F' w a' → BT (a' * (k0 + 6) + 7) F' →
            w_table_behind [Tb G, Tb G, .int w] μ (fun d μ1 => (CDivA (m : Int) 2 ∧ whW (wTest (wOp rGt (wVar 2) (wC (.int 0)))) (wSeq (wIf (wTest (wOp G2.rEq (wOp rMod (wVar 2) (wC (.int 2))) (wC (.int 1)))) (wAsg (wFn w_table_behind [] (wCons (wVar 3) (wCons (wVar 4) (wCons (wVar 0) wNil)))) (gN 3)) wNext)
        (wPar 4 2 (wFn w_table_behind [] (wCons (wVar 4) (wCons (wVar 4) (wCons (wVar 0) wNil)))) (wOp rDiv (wVar 2) (wC (.int 2))))) (fuel + 1)
        { nx := wRet (wVar 3) { nx := fun _ μ' => Q .non μ', rt := Q, ex := E }, rt := Q, ex := E } [some (.int w), some (Tb t), some (.int ((m : Int).fdiv 2)), some (Tb F'), some d] μ1)) E := by
          intro a' F' ha' hF' aF' bF2
          refine sp_table_behind G G w hw (by rw [hG.h]; exact hw) (by rw [hG.h]; exact hw) (fun r hr => by rw [hG.w r hr]; exact hw) hG.w bG' bG' ⟨hcd, ?_⟩
          rw [hdiv]
          refine ih (m / 2) a' (p + p) F' (mulL G G w) (by omega) ha' (by omega) hF' hG.mul aF' (Acts.mul T hG aG aG) bF2 ((mul_bt bG bG (by rw [hG.h]; exact hw)).mono ?_)
          rw [Nat.add_mul]
          omega
        have h2 : p * m = (p + p) * (m / 2) + p * (m % 2) := by
          have e : m = 2 * (m / 2) + m % 2 := by omega
          conv => lhs; rw [e]
          rw [Nat.mul_add, ← Nat.mul_assoc, Nat.mul_comm p 2, Nat.two_mul]
        by_cases ho : m % 2 = 1
        · have e1 : ((m % 2 : Nat) : Int) = 1 := by omega
          rw [whW]
          simp [hm1, hmod, ho]
          refine .inr ⟨by omega, ?_⟩
          refine sp_table_behind F G w hw (by rw [hF.h]; exact hw) (by rw [hG.h]; exact hw) (fun r hr => by rw [hF.w r hr]; exact hw) hG.w bF' bG' ?_
          have := square (a + p) (mulL F G w) (by rw [ho] at h2; omega) hF.mul (Acts.mul T hG aF aG) ((mul_bt bF bG (by rw [hG.h]; exact hw)).mono (by rw [Nat.add_mul]; omega))
          simpa using this
        · have e1 : m % 2 = 0 := by omega
          rw [whW]
          simp [hm1, hmod, e1]
          refine .inr ⟨by omega, ?_⟩
          have := square a F (by rw [e1] at h2; omega) hF aF bF
          simpa using this
  exact ⟨n + 1, by
    have := gen n n 0 1 (unitL w) t (Nat.le_refl _) (by omega) (Nat.le_refl _) (unit_tw w) T (unit_acts t w) (fun x _ => rfl) ((unit_bt w).mono (by omega)) (ht.mono (by omega))
    simpa using this⟩
theorem sp_table_power {t : List (List Int)} {w n k0 : Nat} (T : TW t w w) (hw : w ≤ 64) (hn : n ≤ 400) (hk : k0 ≤ 60) (ht : BT k0 t) (q : ∀ M, TW M w w → Acts t M w n → BT 27000 M → Q (Tb M) μ) : w_table_power [.int w, Tb t, .int n] μ Q E := by
  simp [w_table_power]
  exact sp_require_width hw (sp_require_table T hw hw (sp_require_count (by omega) (by omega) (sp_power_of T hw hn hk ht q)))
end
end K01
end
section
set_option Elab.async false
set_option linter.all false
set_option maxRecDepth 100000
namespace K01
open PySem PySem.Spec PyProof.Rows L2 G2 Pl
def DiceOk (μ : Mu) (a : Addr) : Prop := ∃ d0 d1 : Int, μ a = some [.int d0, .int d1, .int 0] ∧ 0 ≤ d0 ∧ 0 ≤ d1 ∧ Sm 200 d1
/-- all lists that were tracked stay, but the dice -/
def Ext (a : Addr) (μ μ' : Mu) : Prop := ∀ b, b ≠ a → μ b ≠ none → μ' b = μ b
theorem Ext.refl {a : Addr} {μ : Mu} : Ext a μ μ := fun _ _ _ => rfl
theorem Ext.trans {a : Addr} {μ μ1 μ2 : Mu} (h : Ext a μ μ1) (g : Ext a μ1 μ2) : Ext a μ μ2 := fun b hb hn => by
  have e := h b hb hn
  rw [g b hb (by rw [e]; exact hn), e]
theorem Ext.set {a : Addr} {μ : Mu} {xs : List D} : Ext a μ (setM μ a xs) := fun b hb _ => setM_ne hb
theorem Ext.new {a p : Addr} {μ : Mu} {xs : List D} (h : μ p = none) : Ext a μ (setM μ p xs) := fun b _ hn => setM_ne (fun z => hn (by rw [z]; exact h))
section
variable {μ : Mu} {Q : KD} {E : KX} {a : Addr}
theorem ix_ref {xs : List D} {i : Int} {d : D} (h : μ a = some xs) (h2 : atI xs i = some d) (q : Q d μ) : G2.rIx (.ref a) (.int i) μ Q := ⟨xs, d, h, h2, q⟩
theorem sp_roll {n : Int} (hd : DiceOk μ a) (hn : 0 < n) (hn2 : n.natAbs.log2 < 9000) (q : ∀ (r : Int) (μ' : Mu), 0 ≤ r → r < n → DiceOk μ' a → Ext a μ μ' → Q (.int r) μ') : w__law_roll [.ref a, .int n] μ Q E := by
  obtain ⟨d0, d1, hm, h0, h1, h2⟩ := hd
  have hne : n ≠ 0 := by omega
  have m0 : ∀ z : Int, 0 ≤ z.fmod n ∧ z.fmod n < n := fun z => by
    rw [Int.fmod_eq_emod_of_nonneg _ (by omega)]
    exact ⟨Int.emod_nonneg _ hne, Int.emod_lt_of_pos _ hn⟩
  simp [w__law_roll]
  refine ix_ref hm (by rfl) ?_
  simp
  by_cases hp : 0 < d0
  · simp [hp]
    refine .inr ?_
    refine ix_ref hm (by rfl) ?_
    simp [hne]
    refine ix_ref hm (by rfl) ?_
    simp
    refine ⟨⟨hne, hn2⟩, _, hm, 0, by simp [ixN], ?_⟩
    refine q _ _ (m0 _).1 (m0 _).2 ⟨d0.fdiv n, d1, by rw [setM_same]; rfl, ?_, h1, h2⟩ Ext.set
    rw [Int.fdiv_eq_ediv_of_nonneg _ (by omega)]; exact Int.ediv_nonneg h0 (by omega)
  · simp [hp]
    refine ⟨by omega, ?_⟩
    refine ix_ref hm (by rfl) ?_
    simp
    refine ⟨cm (h2.mono (by omega)) (by unfold Sm; exact Nat.lt_of_lt_of_le (show (6364136223846793005 : Int).natAbs < 2 ^ 64 by decide) (Nat.pow_le_pow_right (by decide) (by omega))), _, hm, 1, by simp [ixN], ?_⟩
    have k0 : 0 ≤ (d1 * 6364136223846793005 + 1442695040888963407).fmod 18446744073709551616 := by
      rw [Int.fmod_eq_emod_of_nonneg _ (by omega)]; exact Int.emod_nonneg _ (by omega)
    have k1 : (d1 * 6364136223846793005 + 1442695040888963407).fmod 18446744073709551616 < 18446744073709551616 := by
      rw [Int.fmod_eq_emod_of_nonneg _ (by omega)]; exact Int.emod_lt_of_pos _ (by omega)
    generalize (d1 * 6364136223846793005 + 1442695040888963407).fmod 18446744073709551616 = e1 at k0 k1
    refine ix_ref (by rw [setM_same]) (by rfl) ?_
    simp
    refine ⟨⟨by omega, by decide⟩, hne, ?_⟩
    refine q _ _ (m0 _).1 (m0 _).2 ⟨d0, e1, by rw [setM_same], h0, k0, ?_⟩ Ext.set
    unfold Sm
    have : e1.natAbs < 2 ^ 64 := by omega
    exact Nat.lt_of_lt_of_le this (Nat.pow_le_pow_right (by decide) (by omega))
theorem atI_of {α : Type} (xs : List α) (r : Int) (h0 : 0 ≤ r) (h1 : r < xs.length) : ∃ d, atI xs r = some d ∧ d ∈ xs := by
  have h2 : r.toNat < xs.length := by omega
  refine ⟨xs[r.toNat], ?_, List.getElem_mem h2⟩
  unfold atI ixN
  rw [if_pos h0, if_pos h1]
  simp [h2]
theorem sp_pick {xs : List D} (hd : DiceOk μ a) (hx : xs ≠ []) (hl : xs.length ≤ 1000) (q : ∀ (d : D) (μ' : Mu), d ∈ xs → DiceOk μ' a → Ext a μ μ' → Q d μ') : w__law_pick [.ref a, .lst xs] μ Q E := by
  have hpos : 0 < xs.length := List.length_pos_iff.mpr hx
  simp [w__law_pick]
  refine sp_roll hd (by omega) ?_ fun r μ' h0 h1 hd' he => ?_
  · rw [Int.natAbs_natCast]
    have : xs.length < 2 ^ 10 := by omega
    have := (Nat.log2_lt (by omega)).mpr this
    omega
  · obtain ⟨d, h2, h3⟩ := atI_of xs r h0 h1
    simp [G2.rIx, seqOf]
    exact ⟨d, h2, q d μ' h3 hd' he⟩
theorem sp_number {dg : Nat} (hd : DiceOk μ a) (h2 : dg ≤ 40) (q : ∀ (r : Int) (μ' : Mu), 0 ≤ r → Sm 200 r → DiceOk μ' a → Ext a μ μ' → Q (.int r) μ') : w__law_number [.ref a, .int dg] μ Q E := by
  have hmin : (if (60 : Int) < (dg : Int) then (60 : Int) else (dg : Int)) = (dg : Int) := by rw [if_neg (by omega)]
  simp [w__law_number, seqOf, hmin]
  refine ⟨by omega, ?_⟩
  refine for_inv (De := { nx := _, rt := Q, ex := E }) (fun i ρ μ2 => μ2 = μ ∧ ∃ x, ρ = [some (.ref a), some (.int dg), some (.int 0), some (.int (10 ^ i)), x]) (List.range dg) 0 _ _ ?_ ?_ ?_
  · exact ⟨rfl, none, by simp⟩
  · rintro i x hx ρ μ2 ⟨rfl, y, rfl⟩ De hr he hn
    have hi : i < dg := by
      have := List.getElem?_eq_some_iff.mp hx
      obtain ⟨h, _⟩ := this
      simpa using h
    simp
    refine ⟨cm ?_ ?_, hn _ _ ⟨rfl, some (.int x), by simp [Int.pow_succ]⟩⟩
    · unfold Sm
      have e : ((10 : Int) ^ i).natAbs = 10 ^ i := by simp [Int.natAbs_pow]
      first | rw [e] | rw [Nat.zero_add, e]
      have h3 : 10 ^ i ≤ 10 ^ 40 := Nat.pow_le_pow_right (by decide) (by omega)
      exact Nat.lt_of_le_of_lt h3 (Nat.lt_of_lt_of_le (show 10 ^ 40 < 2 ^ 200 by decide) (Nat.pow_le_pow_right (by decide) (by omega)))
    · unfold Sm
      exact Nat.lt_of_lt_of_le (show (10 : Int).natAbs < 2 ^ 4 by decide) (Nat.pow_le_pow_right (by decide) (by omega))
  · rintro ρ μ2 ⟨rfl, y, rfl⟩
    simp
    have hdiv : ((dg : Int).fdiv 9 + 1) = ((dg / 9 + 1 : Nat) : Int) := by
      rw [Int.fdiv_eq_ediv_of_nonneg _ (by omega)]; omega
    refine ⟨⟨by omega, by decide⟩, ?_⟩
    rw [hdiv]
    refine ⟨by omega, by omega, ?_⟩
    have e1 : (((dg / 9 + 1 : Nat) : Int)).toNat = dg / 9 + 1 := by omega
    rw [e1]
    have bnd : ∀ i, i ≤ 5 → (10 : Int) ^ (9 * i) ≤ 10 ^ 45 := fun i hi => by
      have h3 : 10 ^ (9 * i) ≤ 10 ^ 45 := Nat.pow_le_pow_right (by decide) (by omega)
      exact_mod_cast h3
    refine for_inv (De := { nx := _, rt := Q, ex := E }) (fun i ρ μ3 => DiceOk μ3 a ∧ Ext a μ2 μ3 ∧ ∃ (x : Option D) (f : Int), 0 ≤ f ∧ f < 10 ^ (9 * i) ∧ ρ = [some (.ref a), some (.int dg), some (.int f), some (.int (10 ^ dg)), x]) (List.range (dg / 9 + 1)) 0 _ _ ?_ ?_ ?_
    · exact ⟨hd, Ext.refl, y, 0, by omega, by decide, by simp⟩
    · rintro i x hx ρ μ3 ⟨hd3, he3, z, f, f0, f1, rfl⟩ De hr he hn
      have hi : i < dg / 9 + 1 := by
        have := List.getElem?_eq_some_iff.mp hx
        obtain ⟨h, _⟩ := this
        simpa using h
      rw [Nat.zero_add] at f1
      have fb := bnd i (by omega)
      simp
      refine ⟨⟨by decide, by decide⟩, cm ?_ ?_, ⟨by decide, by decide⟩, ?_⟩
      · unfold Sm
        have : f.natAbs < 10 ^ 45 := by omega
        exact Nat.lt_trans this (Nat.lt_of_lt_of_le (show 10 ^ 45 < 2 ^ 200 by decide) (Nat.pow_le_pow_right (by decide) (by omega)))
      · unfold Sm
        exact Nat.lt_of_lt_of_le (show (1000000000 : Int).natAbs < 2 ^ 40 by decide) (Nat.pow_le_pow_right (by decide) (by omega))
      · refine sp_roll hd3 (by decide) (by decide) fun r μ4 r0 r1 hd4 he4 => ?_
        refine hn _ _ ⟨hd4, he3.trans he4, some (.int x), f * 1000000000 + r, by omega, ?_, by simp⟩
        have e2 : (10 : Int) ^ (9 * (0 + i + 1)) = 10 ^ (9 * i) * 1000000000 := by
          have : 9 * (0 + i + 1) = 9 * i + 9 := by omega
          rw [this, Int.pow_add]; rfl
        rw [e2]
        have : f + 1 ≤ 10 ^ (9 * i) := by omega
        have := Int.mul_le_mul_of_nonneg_right this (show (0 : Int) ≤ 1000000000 by decide)
        omega
    · rintro ρ μ3 ⟨hd3, he3, z, f, f0, f1, rfl⟩
      have hp : (0 : Int) < 10 ^ dg := Int.pow_pos (by decide)
      simp
      refine ⟨by omega, ?_⟩
      have g0 : 0 ≤ f.fmod (10 ^ dg) := by rw [Int.fmod_eq_emod_of_nonneg _ (by omega)]; exact Int.emod_nonneg _ (by omega)
      have g1 : f.fmod (10 ^ dg) < 10 ^ dg := by rw [Int.fmod_eq_emod_of_nonneg _ (by omega)]; exact Int.emod_lt_of_pos _ hp
      refine q _ μ3 g0 ?_ hd3 he3
      have h3 : (10 : Nat) ^ dg ≤ 10 ^ 40 := Nat.pow_le_pow_right (by decide) h2
      have h4 : ((10 : Int) ^ dg) = ((10 ^ dg : Nat) : Int) := by simp
      unfold Sm
      have h5 : (10 : Nat) ^ 40 < 2 ^ 200 := by decide
      omega
theorem sp_gh_number {fg : Nat} (hd : DiceOk μ a) (h2 : fg ≤ 40) (q : ∀ (r : Int) (μ' : Mu), Sm 200 r → DiceOk μ' a → Ext a μ μ' → Q (.int r) μ') : w__law_gh_number [.ref a, .int fg] μ Q E := by
  simp [w__law_gh_number]
  refine sp_pick hd (by simp) (by simp) fun d μ1 hm hd1 he1 => ?_
  have hdg : ∃ dg : Nat, dg ≤ 40 ∧ d = .int dg := by
    simp at hm
    rcases hm with rfl | rfl | rfl
    · exact ⟨1, by omega, rfl⟩
    · exact ⟨2, by omega, rfl⟩
    · exact ⟨fg, h2, rfl⟩
  obtain ⟨dg, hdg, rfl⟩ := hdg
  refine sp_number hd1 hdg fun r μ2 r0 rs hd2 he2 => ?_
  simp
  refine sp_roll hd2 (by decide) (by decide) fun z μ3 z0 z1 hd3 he3 => ?_
  have he := (he1.trans he2).trans he3
  by_cases hz : z = 0
  · simp [hz]
    exact q r μ3 rs hd3 he
  · simp [hz]
    refine q _ μ3 ?_ hd3 he
    unfold Sm at rs ⊢
    rw [Int.natAbs_neg]
    exact rs
end
end K01
end
section
set_option Elab.async false
set_option linter.all false
set_option maxRecDepth 100000
namespace K01
open PySem PySem.Spec PyProof.Rows L2 G2 Pl
theorem lc_acc {α : Type} {a : α → D} {g : WG} {we : WE} {own : List Nat} {ρ : Ro} {P : List D → Mu → Prop} (I : List D → Mu → Prop) : ∀ (xs : List α) (acc : List D) (μ : Mu), I acc μ → (∀ x ∈ xs, ∀ acc μ, I acc μ → ∀ K : D → Mu → Prop, (∀ d μ', I (acc ++ [d]) μ' → K d μ') → g (a x) (wipeD ρ own) μ (fun ρ1 μ1 => we ρ1 μ1 K (fun _ _ => False))) →
    (∀ ds μ', I ds μ' → ds.length = acc.length + xs.length → P ds μ') → lcW g wYes we own (xs.map a) acc ρ μ P
  | [], acc, μ, hI, _, hP => hP acc μ hI (by simp)
  | x :: xs, acc, μ, hI, h, hP => by
    show g (a x) (wipeD ρ own) μ (fun ρ1 μ1 => we ρ1 μ1 (fun d μ3 => lcW g wYes we own (xs.map a) (acc ++ [d]) ρ μ3 P) (fun _ _ => False))
    refine h x (List.mem_cons_self ..) acc μ hI _ fun d μ' hI' => ?_
    exact lc_acc I xs (acc ++ [d]) μ' hI' (fun y hy => h y (List.mem_cons_of_mem _ hy)) fun ds μ2 hI2 hl => hP ds μ2 hI2 (by simp at hl ⊢; omega)
theorem ints_of {k : Nat} : ∀ ds : List D, (∀ d ∈ ds, ∃ r : Int, d = .int r ∧ Sm k r) → ∃ xs : List Int, ds = xs.map D.int ∧ Bd k xs ∧ xs.length = ds.length
  | [], _ => ⟨[], rfl, (fun _ h => nomatch h), rfl⟩
  | d :: ds, h => by
    obtain ⟨r, rfl, hr⟩ := h _ (List.mem_cons_self ..)
    obtain ⟨xs, rfl, hx, hl⟩ := ints_of ds fun e he => h e (List.mem_cons_of_mem _ he)
    refine ⟨r :: xs, rfl, fun z hz => ?_, by rw [List.length_cons, List.length_cons, hl]⟩
    rcases List.mem_cons.mp hz with rfl | hz
    · exact hr
    · exact hx z hz
section
variable {μ : Mu} {Q : KD} {E : KX} {a : Addr}
theorem sp_gh_row {w fg : Nat} (hd : DiceOk μ a) (hw : w ≤ 64) (h2 : fg ≤ 40) (q : ∀ (xs : List Int) (μ' : Mu), xs.length = w → Bd 200 xs → DiceOk μ' a → Ext a μ μ' → Q (Rw xs) μ') : w__law_gh_row [.ref a, .int w, .int fg] μ Q E := by
  simp [w__law_gh_row]
  refine ⟨by omega, by omega, ?_⟩
  refine lc_inv (fun μ' => DiceOk μ' a ∧ Ext a μ μ') (fun d => ∃ r : Int, d = .int r ∧ Sm 200 r) _ [] μ ⟨hd, Ext.refl⟩ (fun i _ μ1 ⟨hd1, he1⟩ K hK => ?_) fun ds μ1 ⟨hd1, he1⟩ hl hds => ?_
  · simp [wipeD]
    exact sp_gh_number hd1 h2 fun r μ2 hr hd2 he2 => hK _ _ ⟨hd2, he1.trans he2⟩ ⟨r, rfl, hr⟩
  · obtain ⟨xs, rfl, hx, hl2⟩ := ints_of ds hds
    exact q xs μ1 (by simpa using hl2.trans hl) hx hd1 he1
theorem sp_shuffled {n : Nat} {items : List D} (hd : DiceOk μ a) (hl : items.length = n) (hn : n ≤ 64) (q : ∀ (ys : List D) (μ' : Mu), ys.length = n → (∀ d ∈ ys, d ∈ items) → DiceOk μ' a → Ext a μ μ' → Q (.lst ys) μ') : w__law_shuffled [.ref a, .lst items] μ Q E := by
  have hma : μ a ≠ none := by obtain ⟨d0, d1, hm, _⟩ := hd; rw [hm]; simp
  simp [w__law_shuffled, cListM, seqOf]
  intro p1 hp1 p2 hp2
  have n12 : p2 ≠ p1 := fun z => by rw [z, setM_same] at hp2; cases hp2
  have hp2' : μ p2 = none := by rw [setM_ne n12] at hp2; exact hp2
  have na1 : a ≠ p1 := fun z => hma (by rw [z]; exact hp1)
  have na2 : a ≠ p2 := fun z => hma (by rw [z]; exact hp2')
  refine ⟨by omega, ?_⟩
  rw [hl]
  refine for_inv (De := { nx := _, rt := Q, ex := E }) (fun i ρ μ' => DiceOk μ' a ∧ Ext a μ μ' ∧ ∃ (x : Option D) (l f : List D), μ' p1 = some l ∧ μ' p2 = some f ∧ l.length + i = n ∧ f.length = i ∧ (∀ d ∈ l, d ∈ items) ∧ (∀ d ∈ f, d ∈ items) ∧ ρ = [some (.ref a), some (.lst items), some (.ref p1), some (.ref p2), x]) (List.range n) 0 _ _ ?_ ?_ ?_
  · refine ⟨?_, fun b hb hnb => ?_, none, items, [], ?_, setM_same, by omega, rfl, fun _ h => h, (fun _ h => nomatch h), rfl⟩
    · obtain ⟨d0, d1, hm, r⟩ := hd
      exact ⟨d0, d1, by rw [setM_ne na2, setM_ne na1]; exact hm, r⟩
    · rw [setM_ne (fun z => hnb (by rw [z]; exact hp2')), setM_ne (fun z => hnb (by rw [z]; exact hp1))]
    · rw [setM_ne (Ne.symm n12), setM_same]
  · rintro i x hx ρ μ1 ⟨hd1, he1, y, l, f, hml, hmf, hll, hfl, hli, hfi, rfl⟩ De hr he hnx
    have hi : i < n := by
      have := List.getElem?_eq_some_iff.mp hx
      obtain ⟨h, _⟩ := this
      simpa using h
    simp [cLen, seqOf, hml, hmf]
    refine sp_roll hd1 (by omega) ?_ fun r μ2 r0 r1 hd2 he2 => ?_
    · rw [Int.natAbs_natCast]
      have : l.length < 2 ^ 10 := by omega
      have := (Nat.log2_lt (by omega)).mpr this
      omega
    · have hml2 : μ2 p1 = some l := by rw [he2 p1 (Ne.symm na1) (by rw [hml]; simp)]; exact hml
      have hmf2 : μ2 p2 = some f := by rw [he2 p2 (Ne.symm na2) (by rw [hmf]; simp)]; exact hmf
      have hk : r.toNat < l.length := by omega
      refine ⟨l, l[r.toNat], r.toNat, hml2, by omega, by omega, ?_, by simp [hk], ?_⟩
      · exact (ixN_seq (n := l.length) (i := r) (j := r.toNat) (by unfold ixN; rw [if_pos r0, if_pos r1])).1
      · refine ⟨f, by rw [setM_ne n12]; exact hmf2, by omega, ?_⟩
        refine hnx _ _ ⟨?_, fun b hb hnb => ?_, some (.int x), l.eraseIdx r.toNat, f ++ [l[r.toNat]], ?_, setM_same, ?_, by simp [hfl], fun d hd => hli d (List.mem_of_mem_eraseIdx hd), fun d hd => ?_, rfl⟩
        · obtain ⟨d0, d1, hm, rr⟩ := hd2
          exact ⟨d0, d1, by rw [setM_ne na2, setM_ne na1]; exact hm, rr⟩
        · rw [setM_ne (fun z => hnb (by rw [z]; exact hp2')), setM_ne (fun z => hnb (by rw [z]; exact hp1))]
          exact (he1.trans he2) b hb hnb
        · rw [setM_ne (Ne.symm n12), setM_same]
        · rw [List.length_eraseIdx, if_pos hk]; omega
        · rcases List.mem_append.mp hd with h | h
          · exact hfi d h
          · rw [List.mem_singleton.mp h]
            exact hli _ (List.getElem_mem hk)
  · rintro ρ μ1 ⟨hd1, he1, y, l, f, hml, hmf, hll, hfl, hli, hfi, rfl⟩
    simp
    refine ⟨f, hmf, ?_⟩
    have hdel : ∀ b, b ≠ p2 → delM μ1 p2 b = μ1 b := fun b hb => by unfold delM; rw [if_neg hb]
    refine q f _ (by simpa using hfl) hfi ?_ fun b hb hnb => ?_
    · obtain ⟨d0, d1, hm, rr⟩ := hd1
      exact ⟨d0, d1, by rw [hdel a na2]; exact hm, rr⟩
    · rw [hdel b (fun z => hnb (by rw [z]; exact hp2'))]
      exact he1 b hb hnb
theorem sp_sent {w : Nat} (hd : DiceOk μ a) (hw : w ≤ 64) (q : ∀ (t : List (List Int)) (μ' : Mu), TW t w w → BT 1 t → DiceOk μ' a → Ext a μ μ' → Q (Tb t) μ') : w__law_sent [.ref a, .int w] μ Q E := by
  simp [w__law_sent]
  refine ⟨⟨by omega, by omega, by omega, by omega, by omega⟩, ?_⟩
  have hrg : (rgD 0 (w : Int)).length = w := by simp [rgD]
  refine sp_shuffled hd hrg hw fun ys μ1 hyl hyi hd1 he1 => ?_
  try simp
  refine ⟨by omega, by omega, ?_⟩
  refine lc_inv (fun μ' => DiceOk μ' a ∧ Ext a μ μ') (fun d => ∃ r : Int, d = .int r ∧ Sm 1 r) _ [] μ1 ⟨hd1, he1⟩ (fun i _ μ2 ⟨hd2, he2⟩ K hK => ?_) fun ds μ2 ⟨hd2, he2⟩ hl hds => ?_
  · simp [wipeD]
    refine sp_pick hd2 (by simp) (by simp) fun d μ3 hm hd3 he3 => hK d μ3 ⟨hd3, he2.trans he3⟩ ?_
    simp at hm
    rcases hm with rfl | rfl
    · exact ⟨1, rfl, by unfold Sm; decide⟩
    · exact ⟨-1, rfl, by unfold Sm; decide⟩
  · obtain ⟨ss, rfl, hs, hsl⟩ := ints_of ds hds
    have hsl2 : ss.length = w := by simpa using hsl.trans hl
    have hys : ∀ d ∈ ys, ∃ r : Int, d = .int r ∧ Sm 64 r := fun d hdm => by
      have h := hyi d hdm
      unfold rgD at h
      obtain ⟨j, hj, rfl⟩ := List.mem_map.mp h
      refine ⟨_, rfl, ?_⟩
      have : j < w := by simpa using hj
      unfold Sm
      have : (0 + (j : Int)).natAbs < 64 := by omega
      exact Nat.lt_trans this (by decide)
    obtain ⟨gs, rfl, hg, hgl⟩ := ints_of ys hys
    have hgl2 : gs.length = w := by simpa using hyl
    try simp
    refine ⟨by omega, by omega, ?_⟩
    let row := fun i : Nat => (List.range w).map fun j : Nat => ss.getD i 0 * (if (j : Int) = gs.getD i 0 then 1 else 0)
    refine lc_map (fun i => if i < w then Rw (row i) else .non) _ [] (fun i hi K hK => ?_) ?_
    · have hi' : i < w := by simpa using hi
      rw [if_pos hi'] at hK
      simp [wipeD]
      refine ⟨by omega, by omega, ?_⟩
      refine lc_map (fun j : Nat => D.int (ss.getD i 0 * (if (j : Int) = gs.getD i 0 then 1 else 0))) _ [] (fun j _ K2 hK2 => ?_) ?_
      · simp [wipeD, G2.rIx, seqOf]
        have b1 := atI_get ss i (by omega)
        have b2 := atI_get gs i (by omega)
        refine ⟨_, b1, _, b2, ?_⟩
        simp
        refine ⟨cm ((hs _ ?_).mono (by omega)) ?_, ?_⟩
        · rw [List.getElem?_eq_getElem (by omega)]
          exact List.getElem_mem _
        · unfold Sm
          have : (if (j : Int) = gs.getD i 0 then (1 : Int) else 0).natAbs < 2 := by split <;> decide
          exact Nat.lt_of_lt_of_le this (by
            have : 2 ^ 1 ≤ 2 ^ 100000 := Nat.pow_le_pow_right (by decide) (by omega)
            omega)
        · simpa using hK2
      · simpa [Rw, row, Function.comp_def] using hK
    · have e : ((List.range w).map fun i => if i < w then Rw (row i) else .non) = ((List.range w).map row).map Rw := by
        rw [List.map_map]
        apply List.map_congr_left
        intro i hi
        have hi' : i < w := by simpa using hi
        simp [hi']
      rw [List.nil_append, e]
      refine q _ μ2 ⟨by simp, fun r hr => ?_⟩ (fun r hr => ?_) hd2 he2
      · obtain ⟨i, _, rfl⟩ := List.mem_map.mp hr
        simp [row]
      · obtain ⟨i, hi, rfl⟩ := List.mem_map.mp hr
        have hi' : i < w := by simpa using hi
        intro z hz
        obtain ⟨j, _, rfl⟩ := List.mem_map.mp hz
        have hsi : Sm 1 (ss.getD i 0) := by
          rw [List.getD_eq_getElem?_getD, List.getElem?_eq_getElem (by omega)]
          exact hs _ (List.getElem_mem _)
        split
        · simpa using hsi
        · simp [Sm]
end
end K01
end
section
set_option Elab.async false
set_option linter.all false
set_option maxRecDepth 100000
namespace K01
open PySem PySem.Spec PyProof.Rows L2 G2 Pl
section
variable {μ : Mu} {Q : KD} {E : KX} {a : Addr}
def RowsOk (μ0 : Mu) (a : Addr) (w : Nat) (acc : List D) (μ : Mu) : Prop := ∀ d ∈ acc, ∃ (p : Addr) (xs : List Int), d = .ref p ∧ p ≠ a ∧ μ p = some (xs.map D.int) ∧ xs.length = w ∧ Bd 200 xs ∧ μ0 p = none
theorem RowsOk.ext {μ0 : Mu} {w : Nat} {acc : List D} {μ μ' : Mu} (h : RowsOk μ0 a w acc μ) (e : Ext a μ μ') : RowsOk μ0 a w acc μ' := fun d hd => by
  obtain ⟨p, xs, h1, h2, h3, h4, h5, h6⟩ := h d hd
  exact ⟨p, xs, h1, h2, by rw [e p h2 (by rw [h3]; simp)]; exact h3, h4, h5, h6⟩
theorem DiceOk.set {p : Addr} {xs : List D} (h : DiceOk μ a) (n : a ≠ p) : DiceOk (setM μ p xs) a := by
  obtain ⟨d0, d1, hm, r⟩ := h
  exact ⟨d0, d1, by rw [setM_ne n]; exact hm, r⟩
theorem DiceOk.ne {p : Addr} (h : DiceOk μ a) (hp : μ p = none) : a ≠ p := fun z => by
  obtain ⟨d0, d1, hm, r⟩ := h
  rw [z, hp] at hm
  cases hm
theorem setM_rows {μ0 : Mu} {w : Nat} {p : Addr} {xs : List Int} {acc : List D} (h : RowsOk μ0 a w acc μ) (hp : p ≠ a) (hl : xs.length = w) (hx : Bd 200 xs) : RowsOk μ0 a w acc (setM μ p (xs.map D.int)) := fun d hd => by
  obtain ⟨p', ys, h1, h2, h3, h4, h5, h6⟩ := h d hd
  by_cases e : p' = p
  · exact ⟨p', xs, h1, h2, by rw [e, setM_same], hl, hx, h6⟩
  · exact ⟨p', ys, h1, h2, by rw [setM_ne e]; exact h3, h4, h5, h6⟩
def tabOfM (μ : Mu) : D → D
  | .ref p => .tup ((μ p).getD [])
  | _ => .non
theorem rows_tab {μ0 : Mu} {w : Nat} {μ : Mu} : ∀ acc : List D, RowsOk μ0 a w acc μ → ∃ t : List (List Int), acc.map (tabOfM μ) = t.map Rw ∧ t.length = acc.length ∧ (∀ r ∈ t, r.length = w) ∧ BT 200 t
  | [], _ => ⟨[], rfl, rfl, (fun _ h => nomatch h), fun _ h => nomatch h⟩
  | d :: acc, h => by
    obtain ⟨p, xs, h1, h2, h3, h4, h5, _⟩ := h d (List.mem_cons_self ..)
    obtain ⟨t, e1, e2, e3, e4⟩ := rows_tab acc fun d hd => h d (List.mem_cons_of_mem _ hd)
    refine ⟨xs :: t, ?_, by rw [List.length_cons, List.length_cons, e2], fun r hr => ?_, fun r hr => ?_⟩
    · rw [List.map_cons, List.map_cons, e1, h1]
      simp [tabOfM, h3, Rw]
    · rcases List.mem_cons.mp hr with rfl | hr
      · exact h4
      · exact e3 r hr
    · rcases List.mem_cons.mp hr with rfl | hr
      · exact h5
      · exact e4 r hr
theorem sp_thin {h w : Nat} (hd : DiceOk μ a) (hh : h ≤ 64) (hw : w ≤ 64) (h1 : 1 ≤ h) (w1 : 1 ≤ w) (q : ∀ (t : List (List Int)) (μ' : Mu), TW t h w → BT 200 t → DiceOk μ' a → Ext a μ μ' → Q (Tb t) μ') : w__law_thin [.ref a, .int h, .int w] μ Q E := by
  simp [w__law_thin]
  refine ⟨by omega, by omega, ?_⟩
  refine lc_acc (fun acc μ' => DiceOk μ' a ∧ Ext a μ μ' ∧ RowsOk μ a w acc μ') _ [] μ ⟨hd, Ext.refl, fun _ h => nomatch h⟩ (fun i _ acc μ1 ⟨hd1, he1, hr1⟩ K hK => ?_) fun rows μ1 ⟨hd1, he1, hr1⟩ hl => ?_
  · simp [wipeD, rMulM, lstOf]
    refine ⟨by omega, by omega, fun p hp => ?_⟩
    have hap := hd1.ne hp
    have e : List.replicate w (D.int 0) = (List.replicate w (0 : Int)).map D.int := by rw [List.map_replicate]
    refine hK _ _ ⟨hd1.set hap, he1.trans (Ext.new hp), fun d hd => ?_⟩
    rcases List.mem_append.mp hd with h | h
    · exact RowsOk.ext hr1 (Ext.new hp) d h
    · rw [List.mem_singleton.mp h]
      refine ⟨p, List.replicate w 0, rfl, Ne.symm hap, ?_, by simp, fun z hz => ?_, ?_⟩
      · rw [setM_same]
        first | rw [e] | (congr 1)
      · rw [List.eq_of_mem_replicate hz]
        unfold Sm
        exact Nat.pow_pos (by decide)
      · cases hz : μ p with
        | none => rfl
        | some xs =>
          have := he1 p (Ne.symm hap) (by rw [hz]; simp)
          rw [hp, hz] at this
          cases this
  · have hrl : rows.length = h := by simpa using hl
    have hmul : CMulA (h : Int) (w : Int) := by
      refine cm ?_ ?_ <;> (unfold Sm; exact Nat.lt_of_lt_of_le (show _ < 2 ^ 7 by omega) (Nat.pow_le_pow_right (by decide) (by omega)))
    try simp
    refine ⟨hmul, ?_⟩
    generalize hN : (if (90 : Int) < (h : Int) * (w : Int) then (90 : Int) else (h : Int) * (w : Int)) = N
    have hN2 : 0 ≤ N ∧ N ≤ 90 := by
      have : 0 ≤ (h : Int) * (w : Int) := Int.mul_nonneg (by omega) (by omega)
      split at hN <;> omega
    refine ⟨by omega, by omega, ?_⟩
    refine for_inv (De := { nx := _, rt := Q, ex := E }) (fun i ρ μ' => DiceOk μ' a ∧ Ext a μ μ' ∧ RowsOk μ a w rows μ' ∧ ∃ x, ρ = [some (.ref a), some (.int h), some (.int w), some (.lst rows), x, none, none]) (List.range N.toNat) 0 _ _ ?_ ?_ ?_
    · exact ⟨hd1, he1, hr1, none, rfl⟩
    · rintro i x hx ρ μ2 ⟨hd2, he2, hr2, y, rfl⟩ De hrt hex hnx
      simp
      refine sp_gh_number (fg := 9) hd2 (by omega) fun r μ3 hr hd3 he3 => ?_
      refine sp_roll hd3 (by omega) ?_ fun i1 μ4 i10 i11 hd4 he4 => ?_
      · rw [Int.natAbs_natCast]
        have : h < 2 ^ 10 := by omega
        have := (Nat.log2_lt (by omega)).mpr this
        omega
      · obtain ⟨d, hd5, hd6⟩ := atI_of rows i1 i10 (by omega)
        have hr4 := (hr2.ext he3).ext he4
        obtain ⟨p, xs, rfl, hpa, hpm, hpl, hpb, hp0⟩ := hr4 d hd6
        simp [G2.rIx, seqOf]
        refine ⟨_, hd5, ?_⟩
        refine sp_roll hd4 (by omega) ?_ fun j μ5 j0 j1 hd5' he5 => ?_
        · rw [Int.natAbs_natCast]
          have : w < 2 ^ 10 := by omega
          have := (Nat.log2_lt (by omega)).mpr this
          omega
        · have hpm5 : μ5 p = some (xs.map D.int) := by rw [he5 p hpa (by rw [hpm]; simp)]; exact hpm
          refine ⟨p, rfl, xs.map D.int, hpm5, j, rfl, j.toNat, ?_, ?_⟩
          · unfold ixN
            rw [if_pos j0, if_pos (by simp; omega)]
          · have e : (xs.map D.int).set j.toNat (.int r) = (xs.set j.toNat r).map D.int := by rw [List.map_set]
            rw [e]
            refine hnx _ _ ⟨hd5'.set (Ne.symm hpa), fun b hb hnb => ?_, setM_rows (hr4.ext he5) hpa (by simp [hpl]) (fun z hz => ?_), some (.int x), rfl⟩
            · rw [setM_ne (fun z => hnb (by rw [z]; exact hp0))]
              exact (((he2.trans he3).trans he4).trans he5) b hb hnb
            · rcases List.mem_or_eq_of_mem_set hz with h | h
              · exact hpb z h
              · rw [h]; exact hr
    · rintro ρ μ2 ⟨hd2, he2, hr2, y, rfl⟩
      simp [stS, stL]
      refine ⟨by omega, ?_⟩
      obtain ⟨t, e1, e2, e3, e4⟩ := rows_tab rows hr2
      have e0 : rows = rows.map id := by simp
      rw [e0]
      refine lc_map (a := id) (tabOfM μ2) rows [] (fun d hd K hK => ?_) ?_
      · obtain ⟨p, xs, rfl, hpa, hpm, hpl, hpb, _⟩ := hr2 d hd
        simp [wipeD, cTuple, lstOf]
        refine ⟨_, hpm, ?_⟩
        simpa [tabOfM, hpm] using hK
      · rw [List.nil_append, e1]
        exact q t μ2 ⟨by omega, e3⟩ e4 hd2 he2
end
end K01
end
section
set_option Elab.async false
set_option linter.all false
set_option maxRecDepth 100000
namespace K01
open PySem PySem.Spec PyProof.Rows L2 G2 Pl
section
variable {μ : Mu} {Q : KD} {E : KX} {a : Addr}
theorem sm1 : Sm 100000 (1 : Int) := by unfold Sm; exact Nat.lt_of_lt_of_le (show (1 : Int).natAbs < 2 ^ 1 by decide) (Nat.pow_le_pow_right (by decide) (by omega))
theorem sp_gt_plus (x y : List Int) (hl : x.length ≤ 64) (hy : Bd 100000 y) (q : Q (Rw (addL x y)) μ) : w__law_gt_plus [Rw x, Rw y, .int 1] μ Q E := by
  simp [w__law_gt_plus, Rw]
  rw [zipD_map]
  refine ⟨by simp; omega, lc_map (fun p => D.int (p.1 + p.2)) _ [] (fun p hp K hK => ?_) ?_⟩
  · simp [seqOf, wipeD]
    exact ⟨cm sm1 (hy _ (List.of_mem_zip hp).2), hK⟩
  · rw [List.nil_append, zw (fun a b => a + b)]
    exact q
theorem sp_gt_product (x y : List Int) (hl : x.length ≤ 64) (hx : Bd 100000 x) (hy : Bd 100000 y) (q : Q (.int (dot x y)) μ) : w__law_gt_product [Rw x, Rw y] μ Q E := by
  simp [w__law_gt_product, Rw]
  rw [zipD_map]
  refine ⟨by simp; omega, lc_map (fun p => D.int (p.1 * p.2)) _ [] (fun p hp K hK => ?_) ?_⟩
  · simp [seqOf, wipeD]
    exact ⟨cm (hx _ (List.of_mem_zip hp).1) (hy _ (List.of_mem_zip hp).2), hK⟩
  · rw [List.nil_append, zw (fun a b => a * b), e_sumL]
    exact q
theorem sp_gt_led (t : List (List Int)) (x : List Int) (hl : t.length ≤ 64) (hw : ∀ r ∈ t, r.length ≤ 64) (ht : BT 100000 t) (hx : Bd 100000 x) (q : Q (Rw (ledL t x)) μ) : w__law_gt_led [Tb t, Rw x] μ Q E := by
  simp [w__law_gt_led, Tb, stS]
  refine ⟨by omega, lc_map (fun r => D.int (dot r x)) _ [] (fun r hr K hK => ?_) ?_⟩
  · simp [wipeD]
    exact sp_gt_product r x (hw r hr) (ht r hr) hx hK
  · simpa [Rw, ledL, Function.comp_def] using q
theorem unit_split (w i : Nat) (hi : i < w) : (List.replicate i (D.int 0) ++ (D.int 1 :: List.replicate (w - 1 - i) (D.int 0))) = (unitR w i).map D.int := by
  apply List.ext_getElem
  · simp [unitR]; omega
  · intro j h1 h2
    have hj : j < w := by simpa [unitR] using h2
    simp only [unitR, List.getElem_map, List.getElem_range]
    by_cases e : j < i
    · rw [List.getElem_append_left (by simpa using e)]
      have : ¬ j = i := by omega
      simp [this]
    · rw [List.getElem_append_right (by simpa using e)]
      by_cases e2 : j = i
      · subst e2; simp
      · have : ∃ k, j - (List.replicate i (D.int 0)).length = k + 1 := ⟨j - i - 1, by simp; omega⟩
        obtain ⟨k, hk⟩ := this
        simp only [hk, List.getElem_cons_succ, List.getElem_replicate]
        simp [e2]
theorem sp_gt_unit (w : Nat) (hw : w ≤ 64) (q : Q (Tb (unitL w)) μ) : w__law_gt_unit [.int w] μ Q E := by
  simp [w__law_gt_unit]
  refine ⟨by omega, by omega, ?_⟩
  refine lc_map (fun i => if i < w then Rw (unitR w i) else .non) _ [] (fun i hi K hK => ?_) ?_
  · have hi' : i < w := by simpa using hi
    rw [if_pos hi'] at hK
    have e : ((w : Int) - 1 - (i : Int)).toNat = w - 1 - i := by omega
    simp [wipeD, rep_flat1, e]
    refine ⟨by omega, by omega, by omega, by omega, by omega, by omega, by omega, ?_⟩
    rw [unit_split w i hi']
    exact hK
  · have e : ((List.range w).map fun i => if i < w then Rw (unitR w i) else .non) = (unitL w).map Rw := by
      unfold unitL
      rw [List.map_map]
      apply List.map_congr_left
      intro i hi
      have hi' : i < w := by simpa using hi
      simp [hi']
    rw [List.nil_append, e]
    exact q
theorem sp_gh_turned (t : List (List Int)) (w : Nat) (hw : w ≤ 64) (hl : t.length ≤ 16777216) (ht : ∀ r ∈ t, r.length = w) (q : Q (Tb (colL t w)) μ) : w__law_gh_turned [.int w, Tb t] μ Q E := by
  simp [w__law_gh_turned, Tb]
  refine ⟨by omega, by omega, ?_⟩
  refine lc_map (fun j => if j < w then Rw (t.map fun l => l.getD j 0) else .non) _ [] (fun j hj K hK => ?_) ?_
  · have hj' : j < w := by simpa using hj
    simp [wipeD, stS, hl]
    rw [if_pos hj'] at hK
    refine lc_map (fun l => D.int (l.getD j 0)) _ [] (fun l hlm K2 hK2 => ?_) ?_
    · simp [wipeD, G2.rIx, Rw, seqOf]
      exact ⟨_, atI_get l j (by rw [ht l hlm]; exact hj'), hK2⟩
    · simpa [Rw, Function.comp_def] using hK
  · have e : ((List.range w).map fun j => if j < w then Rw (t.map fun l => l.getD j 0) else .non) = (colL t w).map Rw := by
      unfold colL
      rw [List.map_map]
      apply List.map_congr_left
      intro j hj
      have hj' : j < w := by simpa using hj
      simp [hj']
    rw [List.nil_append, e]
    exact q
theorem sp_gh_times (a b : List (List Int)) (w : Nat) (hw : w ≤ 64) (ha : a.length ≤ 64) (hb : b.length ≤ 64) (hal : ∀ r ∈ a, r.length ≤ 64) (hbl : ∀ r ∈ b, r.length = w) (hA : BT 100000 a) (hB : BT 100000 b) (q : Q (Tb (mulL a b w)) μ) : w__law_gh_times [Tb a, Tb b, .int w] μ Q E := by
  simp [w__law_gh_times]
  refine sp_gh_turned b w hw (by omega) hbl ?_
  simp [Tb, stS]
  refine ⟨by omega, lc_map (fun l => Rw ((colL b w).map fun c => dot l c)) _ [] (fun l hl K hK => ?_) ?_⟩
  · simp [wipeD, stS]
    refine ⟨by simp [colL]; omega, lc_map (fun c => D.int (dot l c)) _ [] (fun c hc K2 hK2 => ?_) ?_⟩
    · simp [wipeD]
      exact sp_gt_product l c (hal l hl) (hA l hl) (col_bt hB c hc) hK2
    · simpa [Rw, Function.comp_def] using hK
  · simpa [Tb, mulL, Function.comp_def] using q
theorem sp_law_sum {s t : List (List Int)} {h w : Nat} (A : TW s h w) (B : TW t h w) (hh : h ≤ 64) (hw : w ≤ 64) (q : Q (Tb (List.zipWith addL s t)) μ) : w__law_sum [Tb s, Tb t] μ Q E := by
  simp [w__law_sum, Tb]
  rw [zipD_map]
  refine ⟨by simp [A.h, B.h]; omega, lc_map (fun p => Rw (addL p.1 p.2)) _ [] (fun p hp K hK => ?_) ?_⟩
  · simp [seqOf, wipeD, Rw]
    rw [zipD_map]
    refine ⟨by simp [A.w _ (List.of_mem_zip hp).1]; omega, lc_map (fun p => D.int (p.1 + p.2)) _ [] (fun p _ K2 hK2 => ?_) ?_⟩
    · simp [seqOf, wipeD]
      exact hK2
    · rw [List.nil_append, zw (fun a b => a + b)]
      exact hK
  · have e : (s.zip t).map (fun p => Rw (addL p.1 p.2)) = (List.zipWith addL s t).map Rw := by rw [← List.map_uncurry_zip_eq_zipWith, List.map_map]; rfl
    rw [List.nil_append, e]
    exact q
theorem sp_law_power (n : Nat) (hn : n ≤ 400) (q : Q (.int (2 ^ n)) μ) : w__law_power [.int 2, .int n] μ Q E := by
  simp [w__law_power]
  refine ⟨by omega, ?_⟩
  refine for_inv (De := { nx := _, rt := Q, ex := E }) (fun i ρ μ2 => μ2 = μ ∧ ∃ x, ρ = [some (.int 2), some (.int n), some (.int (2 ^ i)), x]) (List.range n) 0 _ _ ?_ ?_ ?_
  · exact ⟨rfl, none, by simp⟩
  · rintro i x hx ρ μ2 ⟨rfl, y, rfl⟩ De hr he hn2
    have hi : i < n := by
      have := List.getElem?_eq_some_iff.mp hx
      obtain ⟨h, _⟩ := this
      simpa using h
    simp
    refine ⟨cm ?_ ?_, hn2 _ _ ⟨rfl, some (.int x), by simp [Int.pow_succ]⟩⟩
    · unfold Sm
      have e : ((2 : Int) ^ i).natAbs = 2 ^ i := by simp [Int.natAbs_pow]
      rw [e]
      exact Nat.pow_lt_pow_right (by decide) (by omega)
    · unfold Sm
      exact Nat.lt_of_lt_of_le (show (2 : Int).natAbs < 2 ^ 4 by decide) (Nat.pow_le_pow_right (by decide) (by omega))
  · rintro ρ μ2 ⟨rfl, y, rfl⟩
    simpa using q
theorem dice_mk {p : Addr} {g x : Int} {spot : Nat} {b : Int} (hs : spot ≤ 64) (hb : b = 0 ∨ b = 1) (hx : 0 ≤ x) : DiceOk (setM μ p [.int x, .int (g.fmod 2305843009213693921 * 83 + 1213 * (spot : Int) + 31 * b + 11), .int 0]) p := by
  have m0 : 0 ≤ g.fmod 2305843009213693921 := by rw [Int.fmod_eq_emod_of_nonneg _ (by omega)]; exact Int.emod_nonneg _ (by omega)
  have m1 : g.fmod 2305843009213693921 < 2305843009213693921 := by rw [Int.fmod_eq_emod_of_nonneg _ (by omega)]; exact Int.emod_lt_of_pos _ (by omega)
  refine ⟨_, _, setM_same, hx, ?_, ?_⟩
  · rcases hb with rfl | rfl <;> omega
  · unfold Sm
    have h1 : (g.fmod 2305843009213693921 * 83 + 1213 * (spot : Int) + 31 * b + 11).natAbs < 2 ^ 80 := by rcases hb with rfl | rfl <;> omega
    exact Nat.lt_of_lt_of_le h1 (Nat.pow_le_pow_right (by decide) (by omega))
theorem dice_mk0 {p : Addr} {g x : Int} {spot : Nat} (hs : spot ≤ 64) (hx : 0 ≤ x) : DiceOk (setM μ p [.int x, .int (g.fmod 2305843009213693921 * 83 + 1213 * (spot : Int) + 11), .int 0]) p := by
  have z := dice_mk (μ := μ) (p := p) (g := g) (b := 0) hs (.inl rfl) hx
  simpa using z
theorem sp_dice {ns : List Int} {spot : Nat} (hs : spot ≤ 64) (q : ∀ (p : Addr) (μ' : Mu), DiceOk μ' p → Q (.ref p) μ') : w__law_dice [.frz (ns.map D.int), .int spot] μ Q E := by
  have p1 : CPowA 10 59 := ⟨by decide, by decide +kernel⟩
  have p2 : CPowA 100000000000000000000000000000000000000000000000000000000000 5 := ⟨by decide, by decide +kernel⟩
  have p3 : CPowA 10 17 := ⟨by decide, by decide +kernel⟩
  have smN : ∀ (z : Int), z.natAbs < 2 ^ 100 → Sm 100000 z := fun z h => Nat.lt_of_lt_of_le h (Nat.pow_le_pow_right (by decide) (by omega))
  have c83 : ∀ g : Int, CMulA (g.fmod 2305843009213693921) 83 := fun g => by
    have m0 : 0 ≤ g.fmod 2305843009213693921 := by rw [Int.fmod_eq_emod_of_nonneg _ (by omega)]; exact Int.emod_nonneg _ (by omega)
    have m1 : g.fmod 2305843009213693921 < 2305843009213693921 := by rw [Int.fmod_eq_emod_of_nonneg _ (by omega)]; exact Int.emod_lt_of_pos _ (by omega)
    exact cm (smN _ (by omega)) (smN _ (by decide))
  have cs : ∀ k : Int, k.natAbs < 2000 → CMulA k (spot : Int) := fun k hk => cm (smN _ (by omega)) (smN _ (by omega))
  have pos : ∀ g : Int, (0 : Int) ≤ (if 100000000000000000 < g then g - 100000000000000000 else 0) := fun g => by split <;> omega
  simp [w__law_dice]
  by_cases h : spot < ns.length
  · refine .inr ⟨h, ?_⟩
    have hat := atI_get ns spot h
    generalize ns.getD spot 0 = cell at hat
    refine ⟨_, _, rfl, hat, ?_⟩
    by_cases hc : cell < 0
    · simp [hc]
      refine ⟨p1, p2, p3, c83 _, cs _ (by decide), cm (smN _ (by decide)) (smN _ (by decide)), fun p hp => q p _ ?_⟩
      exact dice_mk hs (.inr rfl) (pos _)
    · simp [hc]
      refine ⟨p1, p2, p3, c83 _, cs _ (by decide), cm (smN _ (by decide)) (smN _ (by decide)), fun p hp => q p _ ?_⟩
      exact dice_mk0 hs (pos _)
  · refine .inl ⟨by omega, cs _ (by decide), p1, p2, p3, c83 _, cs _ (by decide), cm (smN _ (by decide)) (smN _ (by split <;> decide)), fun p hp => q p _ ?_⟩
    refine dice_mk hs ?_ (pos _)
    split
    · exact .inr rfl
    · exact .inl rfl
end
end K01
end
section
set_option Elab.async false
set_option linter.all false
set_option maxRecDepth 100000
set_option maxHeartbeats 4000000
namespace K01
open PySem PySem.Spec PyProof.Rows L2 G2 Pl
theorem tx_row {xs : List Int} (hx : Bd 3400 xs) (hl : xs.length ≤ 64) : TxD (Rw xs) 65800 1 := by
  have h := tx_tup (n := 1025) (k := 0) (ds := xs.map D.int) fun d hd => by
    obtain ⟨i, hi, rfl⟩ := List.mem_map.mp hd
    exact tx_int (hx i hi) 0
  refine TxD.mono h ?_ (Nat.le_refl _)
  rw [List.length_map]
  omega
theorem tx_tab {t : List (List Int)} {h w : Nat} (T : TW t h w) (hh : h ≤ 64) (hw : w ≤ 64) (ht : BT 3400 t) : TxD (Tb t) 4211400 2 := by
  have h := tx_tup (n := 65800) (k := 1) (ds := t.map Rw) fun d hd => by
    obtain ⟨r, hr, rfl⟩ := List.mem_map.mp hd
    exact tx_row (ht r hr) (by rw [T.w r hr]; exact hw)
  refine TxD.mono h ?_ (Nat.le_refl _)
  rw [List.length_map, T.h]
  omega
section
variable {μ : Mu} {Q : KD} {E : KX} {a : Addr}
theorem rp_row {xs : List Int} (hx : Bd 3400 xs) (hl : xs.length ≤ 64) (q : Q (.str (txt (Rw xs))) μ) : rRepr [Rw xs] μ Q := rp_tup (tx_row hx hl) (by omega) (by omega) q
theorem rp_tab {t : List (List Int)} {h w : Nat} (T : TW t h w) (hh : h ≤ 64) (hw : w ≤ 64) (ht : BT 3400 t) (q : Q (.str (txt (Tb t))) μ) : rRepr [Tb t] μ Q := rp_tup (tx_tab T hh hw ht) (by omega) (by omega) q
theorem sp_behind_right {h m w : Nat} (hd : DiceOk μ a) (h1 : 1 ≤ h) (h64 : h ≤ 64) (m1 : 1 ≤ m) (m64 : m ≤ 64) (w1 : 1 ≤ w) (w64 : w ≤ 64) (q : ∀ μ', DiceOk μ' a → Ext a μ μ' → Q (.bl true) μ') : w__law_behind_right [.ref a, .int h, .int m, .int w] μ Q E := by
  simp [w__law_behind_right]
  refine sp_thin hd h64 m64 h1 m1 fun A μ1 tA bA hd1 he1 => ?_
  refine sp_thin hd1 m64 w64 m1 w1 fun B μ2 tB bB hd2 he2 => ?_
  refine sp_gh_row (fg := 40) hd2 w64 (by omega) fun row μ3 lrow brow hd3 he3 => ?_
  refine sp_gh_row (fg := 40) hd3 h64 (by omega) fun far μ4 lfar bfar hd4 he4 => ?_
  have he := ((he1.trans he2).trans he3).trans he4
  have tC : TW (mulL A B w) h w := tA.mul
  have bC : BT 406 (mulL A B w) := mul_bt bA bB (by rw [tB.h]; exact m64)
  have eC : ∀ x : List Int, ledL (mulL A B w) x = ledL A (ledL B x) := fun x => led_mul A B w x tB.w
  refine sp_gh_times A B w w64 (by rw [tA.h]; exact h64) (by rw [tB.h]; exact m64) (fun r hr => by rw [tA.w r hr]; exact m64) tB.w (bA.mono (by omega)) (bB.mono (by omega)) ?_
  refine sp_table_times tA tB h64 m64 w64 (bA.mono (by omega)) (bB.mono (by omega)) ?_
  generalize mulL A B w = C at tC bC eC
  refine rp_tab tC h64 w64 (bC.mono (by omega)) ?_
  refine rp_tab tC h64 w64 (bC.mono (by omega)) ?_
  have lrow' : row.length ≤ 64 := by omega
  have lfar' : far.length ≤ 64 := by omega
  have bL : Bd 612 (ledL C row) := led_bd bC brow lrow'
  have lL : (ledL C row).length = h := by simp [ledL, tC.h]
  simp
  refine sp_led tC lrow h64 w64 (bC.mono (by omega)) (brow.mono (by omega)) ?_
  refine rp_row (bL.mono (by omega)) (by rw [lL]; exact h64) ?_
  refine sp_gt_led B row (by rw [tB.h]; exact m64) (fun r hr => by rw [tB.w r hr]; exact w64) (bB.mono (by omega)) (brow.mono (by omega)) ?_
  have bB2 : Bd 406 (ledL B row) := led_bd bB brow lrow'
  refine sp_gt_led A (ledL B row) (by rw [tA.h]; exact h64) (fun r hr => by rw [tA.w r hr]; exact m64) (bA.mono (by omega)) (bB2.mono (by omega)) ?_
  rw [← eC row]
  refine rp_row (bL.mono (by omega)) (by rw [lL]; exact h64) ?_
  simp
  have eF : ledF w far C = comb far C w := ledF_eq w far C tC.w
  have bF : Bd 612 (ledF w far C) := by
    rw [eF]
    intro z hz
    obtain ⟨c, hc, rfl⟩ := List.mem_map.mp hz
    exact (dot_sm bfar (col_bt bC c hc) lfar').mono (by omega)
  have lF : (ledF w far C).length = w := by rw [eF, comb_length]
  have tT : TW (colL C w) w h := ⟨by simp [colL], fun r hr => by
    obtain ⟨j, _, rfl⟩ := List.mem_map.mp hr
    simp [tC.h]⟩
  have bT : BT 406 (colL C w) := col_bt bC
  have eG : ledL (colL C w) far = ledF w far C := by
    rw [eF]
    unfold ledL comb
    apply List.map_congr_left
    intro c _
    exact dot_comm c far
  refine sp_gh_turned C w w64 (by rw [tC.h]; omega) tC.w ?_
  refine sp_columns tC h64 w64 ?_
  refine sp_led_behind tC lfar h64 w64 (bC.mono (by omega)) (bfar.mono (by omega)) ?_
  have txl : TxD (.lst [Tb (colL C w), Rw (ledF w far C)]) 9000000 3 := by
    have h := tx_lst (n := 4211400) (k := 2) (ds := [Tb (colL C w), Rw (ledF w far C)]) fun d hd => by
      simp at hd
      rcases hd with rfl | rfl
      · exact tx_tab tT w64 h64 (bT.mono (by omega))
      · exact (tx_row (bF.mono (by omega)) (by rw [lF]; exact w64)).mono (by omega) (by omega)
    refine TxD.mono h ?_ (Nat.le_refl _)
    simp
  refine rp_lst txl (by omega) (by omega) ?_
  refine sp_gt_led (colL C w) far (by rw [tT.h]; exact w64) (fun r hr => by rw [tT.w r hr]; exact h64) (bT.mono (by omega)) (bfar.mono (by omega)) ?_
  rw [eG]
  refine rp_lst txl (by omega) (by omega) ?_
  simp
  refine sp_led tC lrow h64 w64 (bC.mono (by omega)) (brow.mono (by omega)) ?_
  refine sp_product lfar lL h64 (bfar.mono (by omega)) (bL.mono (by omega)) ?_
  refine sp_led_behind tC lfar h64 w64 (bC.mono (by omega)) (bfar.mono (by omega)) ?_
  refine sp_product lF lrow w64 (bF.mono (by omega)) (brow.mono (by omega)) ?_
  have e : dot far (ledL C row) = dot (ledF w far C) row := by rw [eF, dot_comb w far C row tC.w]
  simp [e]
  exact q μ4 hd4 he
end
end K01
end
section
set_option Elab.async false
set_option linter.all false
set_option maxRecDepth 100000
set_option maxHeartbeats 4000000
namespace K01
open PySem PySem.Spec PyProof.Rows L2 G2 Pl
section
variable {μ : Mu} {Q : KD} {E : KX} {a : Addr}
theorem tabs_of {k w : Nat} : ∀ ds : List D, (∀ d ∈ ds, ∃ r : List Int, d = Rw r ∧ r.length = w ∧ Bd k r) → ∃ t : List (List Int), ds = t.map Rw ∧ t.length = ds.length ∧ (∀ r ∈ t, r.length = w) ∧ BT k t
  | [], _ => ⟨[], rfl, rfl, (fun _ h => nomatch h), fun _ h => nomatch h⟩
  | d :: ds, h => by
    obtain ⟨r, rfl, h2, h3⟩ := h _ (List.mem_cons_self ..)
    obtain ⟨t, rfl, e1, e2, e3⟩ := tabs_of ds fun e he => h e (List.mem_cons_of_mem _ he)
    refine ⟨r :: t, rfl, by rw [List.length_cons, List.length_cons, e1], fun q hq => ?_, fun q hq => ?_⟩
    · rcases List.mem_cons.mp hq with rfl | hq
      · exact h2
      · exact e2 q hq
    · rcases List.mem_cons.mp hq with rfl | hq
      · exact h3
      · exact e3 q hq
theorem _root_.K01.TW.plus {s t : List (List Int)} {h w : Nat} (A : TW s h w) (B : TW t h w) : TW (List.zipWith addL s t) h w := ⟨by simp [A.h, B.h], fun r hr => by
  rw [← List.map_uncurry_zip_eq_zipWith] at hr
  obtain ⟨p, hp, rfl⟩ := List.mem_map.mp hr
  have h1 := A.w _ (List.of_mem_zip hp).1
  have h2 := B.w _ (List.of_mem_zip hp).2
  simp [Function.uncurry, addL, h1, h2]⟩
theorem add_bd {k : Nat} {x y : List Int} (hx : Bd k x) (hy : Bd k y) : Bd (k + 1) (addL x y) := by
  intro z hz
  obtain ⟨i, hi, rfl⟩ := List.mem_iff_getElem.mp hz
  simp only [addL, List.getElem_zipWith]
  exact ((hx _ (List.getElem_mem _)).add (hy _ (List.getElem_mem _))).mono (by omega)
theorem plus_bt {k : Nat} {s t : List (List Int)} (hs : BT k s) (ht : BT k t) : BT (k + 1) (List.zipWith addL s t) := by
  intro r hr
  rw [← List.map_uncurry_zip_eq_zipWith] at hr
  obtain ⟨p, hp, rfl⟩ := List.mem_map.mp hr
  exact add_bd (hs _ (List.of_mem_zip hp).1) (ht _ (List.of_mem_zip hp).2)
theorem rsl_row1 (x : List Int) (q : Q (Rw (x.drop 1)) μ) : rSl (Rw x) (some 1) none μ Q := by
  have e : G2.cutD (x.map D.int) (some 1) none = (x.drop 1).map D.int := by
    unfold G2.cutD
    rw [HT.sIx_none, show HT.sIx (x.map D.int).length 0 (some 1) = min 1 (x.map D.int).length from HT.sIx_nat _ _ 1]
    cases x with
    | nil => rfl
    | cons y x => simp [List.take_of_length_le]
  simp only [Rw, rSl, e]
  exact q
theorem rsl_last (x : List D) (h : ∀ y, y.length ≤ x.length → Q (.tup y) μ) : rSl (.tup x) none (some (-1)) μ Q := by
  refine h _ ?_
  unfold G2.cutD
  simp
  omega
theorem near_rows (one : List Int) (w : Nat) (l1 : one.length = w) (w64 : w ≤ 64) : ∀ p ∈ [(Rw one, true), (Rw one.tail, decide (w = 0)), (Rw (one ++ [0]), false), (.lst (one.map D.int), false), (D.non, false)], ∀ K : D → Mu → Prop, K (.bl p.2) μ → w_is_row [.int w, p.1] μ K E := by
  intro p hp K hK
  simp only [List.mem_cons, List.not_mem_nil, or_false] at hp
  rcases hp with rfl | rfl | rfl | rfl | rfl
  · exact sp_is_row (by omega) w64 (by simpa [l1] using hK)
  · refine sp_is_row (by simp; omega) w64 ?_
    have e : decide ((one.tail.length : Int) = w) = decide (w = 0) := by
      rw [List.length_tail, l1]
      by_cases h : w = 0
      · subst h; rfl
      · rw [decide_eq_false h]
        exact decide_eq_false (by omega)
    rw [e]; exact hK
  · refine sp_is_row (by simp; omega) w64 ?_
    have e : decide (((one ++ [0]).length : Int) = w) = false := decide_eq_false (by simp; omega)
    rw [e]; exact hK
  · exact sp_is_row_lst w64 hK
  · exact sp_is_row_non w64 hK
theorem cut6 (x1 x2 x3 x4 x5 x6 : D) : G2.cutD [x1, x2, x3, x4, x5, x6] none (some 5) = [x1, x2, x3, x4, x5] := rfl
theorem sp_rows_right {w : Nat} (hd : DiceOk μ a) (w64 : w ≤ 64) (q : ∀ μ', DiceOk μ' a → Ext a μ μ' → Q (.bl true) μ') : w__law_rows_right [.ref a, .int w] μ Q E := by
  simp [w__law_rows_right]
  refine sp_gh_row (fg := 40) hd w64 (by omega) fun one μ1 l1 b1 hd1 he1 => ?_
  refine sp_gh_row (fg := 40) hd1 w64 (by omega) fun two μ2 l2 b2 hd2 he2 => ?_
  refine sp_gh_number (fg := 40) hd2 (by omega) fun n μ3 sn hd3 he3 => ?_
  refine sp_row_plus l1 l2 w64 ?_
  refine sp_row_times l1 w64 (sn.mono (by omega)) (b1.mono (by omega)) ?_
  refine sp_product l1 l2 w64 (b1.mono (by omega)) (b2.mono (by omega)) ?_
  refine sp_gt_plus one two (by omega) (b2.mono (by omega)) ?_
  refine ⟨one.map D.int, rfl, by simp; omega, lc_map (fun z => D.int (n * z)) one [] (fun z hz K hK => ?_) ?_⟩
  · simp [wipeD]
    exact ⟨cm (sn.mono (by omega)) ((b1 z hz).mono (by omega)), hK⟩
  have e1 : (([] : List D) ++ one.map fun z => D.int (n * z)) = (one.map (n * ·)).map D.int := by simp [Function.comp_def]
  rw [e1]
  refine sp_gt_product one two (by omega) (b1.mono (by omega)) (b2.mono (by omega)) ?_
  have tx1 : TxD (.lst [Rw (addL one two), Rw (one.map (n * ·)), .int (dot one two)]) 300000 2 := by
    have h := tx_lst (n := 65800) (k := 1) (ds := [Rw (addL one two), Rw (one.map (n * ·)), .int (dot one two)]) fun d hd => by
      simp at hd
      rcases hd with rfl | rfl | rfl
      · refine tx_row (fun z hz => ?_) (by simp [addL]; omega)
        obtain ⟨i, hi, rfl⟩ := List.mem_iff_getElem.mp hz
        simp only [addL, List.getElem_zipWith]
        exact ((b1 _ (List.getElem_mem _)).add (b2 _ (List.getElem_mem _))).mono (by omega)
      · refine tx_row (fun z hz => ?_) (by simp; omega)
        obtain ⟨i, hi, rfl⟩ := List.mem_map.mp hz
        exact (sn.mul (b1 i hi)).mono (by omega)
      · exact (tx_int ((dot_sm b1 b2 (by omega)).mono (by omega)) 1).mono (by omega) (by omega)
    refine TxD.mono h ?_ (Nat.le_refl _)
    simp
  refine rp_lst (ds := [Rw (addL one two), Rw (one.map (n * ·)), .int (dot one two)]) tx1 (by omega) (by omega) ?_
  refine rp_lst (ds := [Rw (addL one two), Rw (one.map (n * ·)), .int (dot one two)]) tx1 (by omega) (by omega) ?_
  simp
  refine sp_roll hd3 (by decide) (by decide) fun ht μ4 ht0 ht5 hd4 he4 => ?_
  obtain ⟨hN, rfl⟩ : ∃ hN : Nat, ht = hN := ⟨ht.toNat, by omega⟩
  have hN5 : hN < 5 := by omega
  have he := ((he1.trans he2).trans he3).trans he4
  refine lc_inv (fun μ' => DiceOk μ' a ∧ Ext a μ μ') (fun d => ∃ t : List (List Int), d = Tb t ∧ TW t hN w ∧ BT 200 t) _ [] μ4 ⟨hd4, he⟩ (fun i _ μ5 ⟨hd5, he5⟩ K hK => ?_) fun ds μ5 ⟨hd5, he5⟩ hl hds => ?_
  · simp [wipeD]
    refine ⟨by omega, by omega, ?_⟩
    refine lc_inv (fun μ' => DiceOk μ' a ∧ Ext a μ μ') (fun d => ∃ r : List Int, d = Rw r ∧ r.length = w ∧ Bd 200 r) _ [] μ5 ⟨hd5, he5⟩ (fun j _ μ6 ⟨hd6, he6⟩ K2 hK2 => ?_) fun ds μ6 ⟨hd6, he6⟩ hl hds => ?_
    · simp [wipeD]
      exact sp_gh_row (fg := 20) hd6 w64 (by omega) fun r μ7 lr br hd7 he7 => hK2 _ _ ⟨hd7, he6.trans he7⟩ ⟨r, rfl, lr, br⟩
    · obtain ⟨t, rfl, g1, g2, g3⟩ := tabs_of ds hds
      exact hK _ _ ⟨hd6, he6⟩ ⟨t, rfl, ⟨by rw [g1, hl]; simp, g2⟩, g3⟩
  have hl2 : ds.length = 2 := by simpa using hl
  obtain ⟨d1, d2, rfl⟩ : ∃ d1 d2, ds = [d1, d2] := by
    match ds, hl2 with
    | [x, y], _ => exact ⟨x, y, rfl⟩
  obtain ⟨s, rfl, ts, bs⟩ := hds d1 (by simp)
  obtain ⟨t, rfl, tt, bt⟩ := hds d2 (by simp)
  simp -implicitDefEqProofs [seqOf]
  refine sp_table_plus ts tt (by omega) w64 ?_
  have tS : TW (List.zipWith addL s t) hN w := ts.plus tt
  have bS : BT 201 (List.zipWith addL s t) := plus_bt bs bt
  refine rp_tab tS (by omega) w64 (bS.mono (by omega)) ?_
  refine sp_law_sum ts tt (by omega) w64 ?_
  refine rp_tab tS (by omega) w64 (bS.mono (by omega)) ?_
  simp -implicitDefEqProofs
  refine rsl_row1 one ?_
  simp -implicitDefEqProofs [Rw]
  refine ⟨by omega, one.map D.int, rfl, ?_⟩
  refine rsl_last _ fun y hy => ?_
  have hy' : y.length ≤ 64 := by rw [List.length_map] at hy; omega
  simp -implicitDefEqProofs
  refine ⟨by omega, _, rfl, ?_⟩
  rw [cut6]
  refine ⟨_, rfl, by simp, ?_⟩
  have e5 : [D.tup (List.map D.int one), D.tup (List.map D.int one).tail, D.tup (List.map D.int one ++ [D.int 0]), D.lst (List.map D.int one), D.non] = List.map Prod.fst [(Rw one, true), (Rw one.tail, decide (w = 0)), (Rw (one ++ [0]), false), (.lst (one.map D.int), false), (D.non, false)] := by simp [Rw]
  rw [e5]
  refine lc_map (a := Prod.fst) (fun p => D.bl p.2) [(Rw one, true), (Rw one.tail, decide (w = 0)), (Rw (one ++ [0]), false), (.lst (one.map D.int), false), (D.non, false)] [] (fun p hp K hK => ?_) ?_
  · simp -implicitDefEqProofs [wipeD]
    exact near_rows one w l1 w64 p hp K hK
  have txb : TxD (.lst [D.bl true, D.bl (decide (w = 0)), D.bl false, D.bl false, D.bl false]) 100 2 := by
    have h := tx_lst (n := 5) (k := 1) (ds := [D.bl true, D.bl (decide (w = 0)), D.bl false, D.bl false, D.bl false]) fun d hd => by
      simp only [List.mem_cons, List.not_mem_nil, or_false] at hd
      rcases hd with rfl | rfl | rfl | rfl | rfl <;> exact tx_bl _ 1
    exact TxD.mono h (by simp) (Nat.le_refl _)
  refine rp_lst txb (by omega) (by omega) ?_
  refine ⟨_, rfl, ?_⟩
  rw [cut6]
  refine rp_lst txb (by omega) (by omega) ?_
  simp -implicitDefEqProofs
  refine sp_is_table ts (by omega) w64 ?_
  exact ⟨true, rfl, q μ5 hd5 he5⟩
end
end K01
end
section
set_option Elab.async false
set_option linter.all false
set_option maxRecDepth 100000
set_option maxHeartbeats 4000000
namespace K01
open PySem PySem.Spec PyProof.Rows L2 G2 Pl
section
variable {μ : Mu} {Q : KD} {E : KX} {a : Addr}
def x0 (w : Nat) : List Int := (List.range w).map fun i : Nat => (i : Int) + 1
theorem x0_bd {w : Nat} (h : w ≤ 64) : Bd 7 (x0 w) := by
  intro z hz
  obtain ⟨i, hi, rfl⟩ := List.mem_map.mp hz
  have hi' : i < w := by simpa using hi
  show ((i : Int) + 1).natAbs < 2 ^ 7
  omega
theorem it_bd {t : List (List Int)} {w : Nat} (T : TW t w w) (bt : BT 1 t) (h : w ≤ 64) : ∀ n, Bd (7 + 7 * n) (it t n (x0 w))
  | 0 => x0_bd h
  | n + 1 => by
    have h1 := it_bd T bt h n
    have l := it_len T n (x0 w) (by simp [x0])
    exact (led_bd bt h1 (by omega)).mono (by omega)
def T2 : List (List Int) := [[2, 1], [0, 1]]
def P2 (n : Nat) : List (List Int) := [[2 ^ n, 2 ^ n - 1], [0, 1]]
theorem T2_bt : BT 2 T2 := by
  intro r hr z hz
  simp only [T2, List.mem_cons, List.not_mem_nil, or_false] at hr
  rcases hr with rfl | rfl <;> (simp only [List.mem_cons, List.not_mem_nil, or_false] at hz; rcases hz with rfl | rfl <;> (unfold Sm; decide))
theorem P2_tw (n : Nat) : TW (P2 n) 2 2 := ⟨rfl, fun r hr => by
  simp only [P2, List.mem_cons, List.not_mem_nil, or_false] at hr
  rcases hr with rfl | rfl <;> rfl⟩
theorem T2_it1 : ∀ n, it T2 n [1, 0] = [2 ^ n, 0]
  | 0 => rfl
  | n + 1 => by
    rw [it, T2_it1 n]
    simp [ledL, dot, T2, Int.pow_succ]
    omega
theorem T2_it2 : ∀ n, it T2 n [0, 1] = [2 ^ n - 1, 1]
  | 0 => rfl
  | n + 1 => by
    rw [it, T2_it2 n]
    simp [ledL, dot, T2, Int.pow_succ]
    omega
theorem T2_pow {M : List (List Int)} {n : Nat} (tM : TW M 2 2) (aM : Acts T2 M 2 n) : M = P2 n := by
  have h1 := aM [1, 0] rfl
  have h2 := aM [0, 1] rfl
  rw [T2_it1] at h1
  rw [T2_it2] at h2
  obtain ⟨r1, r2, rfl⟩ : ∃ r1 r2, M = [r1, r2] := by
    match M, tM.h with
    | [x, y], _ => exact ⟨x, y, rfl⟩
  have l1 := tM.w r1 (by simp)
  have l2 := tM.w r2 (by simp)
  match r1, l1, r2, l2 with
  | [p, q], _, [r, s], _ =>
    simp [ledL, dot] at h1 h2
    obtain ⟨rfl, rfl⟩ := h1
    obtain ⟨rfl, rfl⟩ := h2
    rfl
theorem sp_power_right {w : Nat} (hd : DiceOk μ a) (w1 : 1 ≤ w) (w24 : w ≤ 24) (q : ∀ μ', DiceOk μ' a → Ext a μ μ' → Q (.bl true) μ') : w__law_power_right [.ref a, .int w] μ Q E := by
  simp -implicitDefEqProofs [w__law_power_right]
  refine sp_sent hd (by omega) fun t μ1 tt bt hd1 he1 => ?_
  refine sp_roll hd1 (by decide) (by decide) fun r μ2 hr0 hr1 hd2 he2 => ?_
  refine sp_pick hd2 (by simp) (by simp) fun d μ3 hm hd3 he3 => ?_
  obtain ⟨n, rfl, hn⟩ : ∃ n : Nat, d = .int n ∧ n ≤ 400 := by
    simp only [List.mem_cons, List.not_mem_nil, or_false] at hm
    rcases hm with rfl | rfl | rfl | rfl | rfl | rfl
    · exact ⟨0, rfl, by omega⟩
    · exact ⟨1, rfl, by omega⟩
    · exact ⟨2, rfl, by omega⟩
    · exact ⟨399, rfl, by omega⟩
    · exact ⟨400, rfl, by omega⟩
    · exact ⟨r.toNat, by congr 1; omega, by omega⟩
  simp -implicitDefEqProofs
  refine sp_gt_unit w (by omega) ?_
  refine ⟨by omega, by omega, ?_⟩
  refine lc_map (fun i : Nat => D.int ((i : Int) + 1)) (List.range w) [] (fun i _ K hK => ?_) ?_
  · simp -implicitDefEqProofs [wipeD]
    exact hK
  have e0 : (([] : List D) ++ (List.range w).map fun i : Nat => D.int ((i : Int) + 1)) = (x0 w).map D.int := by simp [x0, Function.comp_def]
  rw [e0]
  refine ⟨by omega, ?_⟩
  refine for_inv (De := { nx := _, rt := Q, ex := E }) (fun i ρ μ' => μ' = μ3 ∧ ∃ x, ρ = [some (D.ref a), some (D.int w), some (Tb t), some (D.int n), some (Tb (unitL w)), some (Tb t), some (D.int n), some (Rw (it t i (x0 w))), x, none, none, none]) (List.range n) 0 _ _ ?_ ?_ ?_
  · exact ⟨rfl, none, rfl⟩
  · rintro i x hx ρ μ' ⟨rfl, y, rfl⟩ De' hr hx' hnx
    have hi : i < n := by
      have := (List.getElem?_eq_some_iff.mp hx).1
      simpa using this
    simp only [Nat.zero_add] at hnx
    simp -implicitDefEqProofs
    refine sp_gt_led t (it t i (x0 w)) (by rw [tt.h]; omega) (fun r hr => by rw [tt.w r hr]; omega) (bt.mono (by omega)) ((it_bd tt bt (by omega) i).mono (by omega)) ?_
    exact hnx _ _ ⟨rfl, _, rfl⟩
  · rintro ρ μ' ⟨rfl, y, rfl⟩
    simp -implicitDefEqProofs
    refine sp_table_power tt (by omega) hn (k0 := 1) (by omega) bt fun M tM aM bM => ?_
    refine ⟨by omega, by omega, ?_⟩
    refine lc_map (fun i : Nat => D.int ((i : Int) + 1)) (List.range w) [] (fun i _ K hK => ?_) ?_
    · simp -implicitDefEqProofs [wipeD]
      exact hK
    rw [e0]
    refine sp_gt_led M (x0 w) (by rw [tM.h]; omega) (fun r hr => by rw [tM.w r hr]; omega) (bM.mono (by omega)) ((x0_bd (by omega)).mono (by omega)) ?_
    rw [aM (x0 w) (by simp [x0])]
    have bI : Bd 3400 (it t n (x0 w)) := (it_bd tt bt (by omega) n).mono (by omega)
    have lI : (it t n (x0 w)).length ≤ 64 := by rw [it_len tt n (x0 w) (by simp [x0])]; omega
    refine rp_row bI lI ?_
    refine rp_row bI lI ?_
    simp -implicitDefEqProofs
    refine sp_is_table tM (by omega) (by omega) ?_
    simp -implicitDefEqProofs
    refine sp_table_power (w := 2) (t := T2) (n := n) (k0 := 2) ⟨rfl, by decide⟩ (by omega) hn (by omega) T2_bt fun M2 tM2 aM2 _ => ?_
    rw [T2_pow tM2 aM2]
    have bP : Sm 401 ((2 : Int) ^ n) := by
      unfold Sm
      have e : ((2 : Int) ^ n).natAbs = 2 ^ n := by simp [Int.natAbs_pow]
      rw [e]
      exact Nat.pow_lt_pow_right (by decide) (by omega)
    have bM2 : BT 3400 (P2 n) := by
      intro r hr z hz
      simp only [P2, List.mem_cons, List.not_mem_nil, or_false] at hr
      rcases hr with rfl | rfl
      · simp only [List.mem_cons, List.not_mem_nil, or_false] at hz
        rcases hz with rfl | rfl
        · exact bP.mono (by omega)
        · have e : (2 : Int) ^ n = ((2 ^ n : Nat) : Int) := by simp
          have h0 : 0 < 2 ^ n := Nat.pow_pos (by decide)
          have b1 := bP
          rw [e] at b1
          unfold Sm at b1
          refine Sm.mono (k := 401) ?_ (by omega)
          unfold Sm
          rw [e]
          generalize 2 ^ n = y at h0 b1
          exact Nat.lt_of_le_of_lt (by omega) b1
      · simp only [List.mem_cons, List.not_mem_nil, or_false] at hz
        rcases hz with rfl | rfl
        · exact Nat.pow_pos (by decide)
        · exact Nat.lt_of_lt_of_le (show (1 : Int).natAbs < 2 ^ 1 by decide) (Nat.pow_le_pow_right (by decide) (by omega))
    refine rp_tab (h := 2) (w := 2) (P2_tw n) (by omega) (by omega) bM2 ?_
    refine sp_law_power n hn ?_
    refine sp_law_power n hn ?_
    simp -implicitDefEqProofs
    refine rp_tab (t := P2 n) (h := 2) (w := 2) (P2_tw n) (by omega) (by omega) bM2 ?_
    simp -implicitDefEqProofs
    exact q μ' hd3 ((he1.trans he2).trans he3)
end
end K01
end
section
set_option Elab.async false
set_option linter.all false
set_option maxRecDepth 100000
set_option maxHeartbeats 4000000
namespace K01
open PySem PySem.Spec PyProof.Rows L2 G2 Pl
section
variable {μ : Mu} {Q : KD} {E : KX} {a : Addr}
theorem e_yes {ρ : Ro} {K : Bool → Mu → Prop} : wYes ρ μ K E = K true μ := rfl
theorem sp_unit_out {w : Int} (hw : ¬ (0 ≤ w ∧ w ≤ 64)) (hv : w.natAbs.log2 < 1920) (q : E ⟨"InvalidCount", ["given"], [.int w]⟩ μ) : w_unit [.int w] μ Q E := by
  simp [w_unit]
  exact sp_require_width_bad hw hv q
theorem sp_product_bad {w : Int} {x y : D} (hw : ¬ (0 ≤ w ∧ w ≤ 64)) (hv : w.natAbs.log2 < 1920) (q : E ⟨"InvalidCount", ["given"], [.int w]⟩ μ) : w_product [.int w, x, y] μ Q E := by
  simp [w_product]
  exact sp_require_width_bad hw hv q
theorem sp_table_power_bad (q : E ⟨"InvalidCount", ["given"], [.int 401]⟩ μ) : w_table_power [.int 1, .tup [.tup [.int 2]], .int 401] μ Q E := by
  simp -implicitDefEqProofs [w_table_power]
  refine sp_require_width (w := 1) (by omega) ?_
  refine sp_require_table (t := [[2]]) (h := 1) (w := 1) ⟨rfl, by decide⟩ (by omega) (by omega) ?_
  exact sp_require_count_bad (by omega) (by decide +kernel) q
def dueD : D := .lst [.tup [.str (Str.ofString "count"), .int 65], .tup [.str (Str.ofString "count"), .int 65], .tup [.str (Str.ofString "count"), .int (-1)], .tup [.str (Str.ofString "count"), .int 401], .int 64, .tup [], .tup [], .tup [.int 0, .int 0]]
theorem tx_count : TxD (.str (Str.ofString "count")) 1025 1 := ⟨.str (Str.ofString "count"), rfl, trivial, by simp [PyData.depth], by decide +kernel⟩
theorem sm_small {i : Int} (h : i.natAbs < 2 ^ 10) : Sm 3400 i := Nat.lt_of_lt_of_le h (Nat.pow_le_pow_right (by decide) (by omega))
theorem tx_pair {i : Int} (h : i.natAbs < 2 ^ 10) : TxD (.tup [.str (Str.ofString "count"), .int i]) 3000 2 := (tx_tup (n := 1025) (k := 1) fun d hd => by
  simp only [List.mem_cons, List.not_mem_nil, or_false] at hd
  rcases hd with rfl | rfl
  · exact tx_count
  · exact tx_int (sm_small h) 1).mono (by simp) (by omega)
theorem dueD_tx : TxD dueD 30000 3 := (tx_lst (n := 3000) (k := 2) fun d hd => by
  simp only [List.mem_cons, List.not_mem_nil, or_false] at hd
  rcases hd with rfl | rfl | rfl | rfl | rfl | rfl | rfl | rfl
  · exact tx_pair (by decide)
  · exact tx_pair (by decide)
  · exact tx_pair (by decide)
  · exact tx_pair (by decide)
  · exact (tx_int (sm_small (by decide)) 2).mono (by omega) (by omega)
  · exact (tx_tup (n := 3) (k := 1) (ds := []) fun d hd => nomatch hd).mono (by simp) (by omega)
  · exact (tx_tup (n := 3) (k := 1) (ds := []) fun d hd => nomatch hd).mono (by simp) (by omega)
  · exact (tx_tup (n := 1025) (k := 1) fun d hd => by
      simp only [List.mem_cons, List.not_mem_nil, or_false] at hd
      rcases hd with rfl | rfl <;> exact tx_int (sm_small (by decide)) 1).mono (by simp) (by omega)).mono (by simp) (by omega)
theorem max_one {n : Nat} (h : n ≤ 64) : ∃ m : Nat, (if (1 : Int) < (n : Int) then (n : Int) else 1) = (m : Int) ∧ 1 ≤ m ∧ m ≤ 64 := by
  by_cases e : (1 : Int) < n
  · exact ⟨n, by rw [if_pos e], by omega, h⟩
  · exact ⟨1, by rw [if_neg e]; rfl, by omega, by omega⟩
theorem sp_law {ns : List Int} (hm : ∀ μ', Q (.bl true) μ') : w_law [.frz (ns.map D.int)] μ Q E := by
  simp -implicitDefEqProofs [w_law]
  generalize hN : (if 1 < if (ns.length : Int) < 2 then (ns.length : Int) else 2 then if (ns.length : Int) < 2 then (ns.length : Int) else 2 else 1) = N
  have hN2 : 1 ≤ N ∧ N ≤ 2 := by rw [← hN]; split <;> (try split) <;> omega
  refine ⟨by omega, by omega, ?_⟩
  refine for_inv (De := { nx := _, rt := Q, ex := E }) (fun i ρ μ' => ∃ x1 x2 x3, ρ = [some (.frz (ns.map D.int)), x1, x2, x3, none, none, none, none, none]) (List.range N.toNat) 0 _ _ ?_ ?_ ?_
  · exact ⟨none, none, none, rfl⟩
  · rintro i x hx ρ μ1 ⟨y1, y2, y3, rfl⟩ De' hr hx' hnx
    have hi : x < N.toNat := by
      have h1 := List.getElem?_eq_some_iff.mp hx
      obtain ⟨h2, h3⟩ := h1
      simp at h2 h3
      omega
    simp -implicitDefEqProofs
    refine sp_dice (by omega) fun p μ2 hd2 => ?_
    refine lc_inv (fun μ' => DiceOk μ' p) (fun d => ∃ n : Nat, d = .int n ∧ n ≤ 64) _ [] μ2 hd2 (fun j _ μ3 hd3 K hK => ?_) fun ds μ3 hd3 hl hds => ?_
    · simp -implicitDefEqProofs [wipeD]
      refine sp_roll hd3 (by decide) (by decide) fun r μ4 hr0 hr1 hd4 he4 => ?_
      refine sp_pick hd4 (by simp) (by simp) fun d μ5 hm5 hd5 he5 => ?_
      refine hK _ _ hd5 ?_
      simp only [List.mem_cons, List.not_mem_nil, or_false] at hm5
      rcases hm5 with rfl | rfl | rfl | rfl | rfl
      · exact ⟨64, rfl, by omega⟩
      · exact ⟨63, rfl, by omega⟩
      · exact ⟨0, rfl, by omega⟩
      · exact ⟨1, rfl, by omega⟩
      · exact ⟨(1 + r).toNat, by congr 1; omega, by omega⟩
    have hl3 : ds.length = 3 := by simpa using hl
    obtain ⟨d1, d2, d3, rfl⟩ : ∃ d1 d2 d3, ds = [d1, d2, d3] := by
      match ds, hl3 with
      | [x, y, z], _ => exact ⟨x, y, z, rfl⟩
    obtain ⟨n1, rfl, b1⟩ := hds d1 (by simp)
    obtain ⟨n2, rfl, b2⟩ := hds d2 (by simp)
    obtain ⟨n3, rfl, b3⟩ := hds d3 (by simp)
    simp -implicitDefEqProofs
    refine ⟨_, rfl, by simp [enumD], ?_⟩
    simp -implicitDefEqProofs [enumD, lcW, wipeD, seqOf, e_yes]
    obtain ⟨m1, e1, l1, u1⟩ := max_one b1
    obtain ⟨m2, e2, l2, u2⟩ := max_one b2
    obtain ⟨m3, e3, l3, u3⟩ := max_one b3
    rw [e1, e2, e3]
    refine ⟨_, _, rfl, rfl, ?_⟩
    refine ⟨_, _, rfl, rfl, ?_⟩
    refine ⟨_, _, rfl, rfl, ?_⟩
    refine sp_behind_right hd3 l1 u1 l2 u2 l3 u3 fun μ4 hd4 he4 => ?_
    simp -implicitDefEqProofs
    refine sp_pick hd4 (by simp) (by simp) fun d μ5 hm5 hd5 he5 => ?_
    obtain ⟨w, rfl, bw⟩ : ∃ w : Nat, d = .int w ∧ w ≤ 64 := by
      simp only [List.mem_cons, List.not_mem_nil, or_false] at hm5
      rcases hm5 with rfl | rfl | rfl | rfl
      · exact ⟨64, rfl, by omega⟩
      · exact ⟨64, rfl, by omega⟩
      · exact ⟨0, rfl, by omega⟩
      · exact ⟨9, rfl, by omega⟩
    refine sp_rows_right hd5 bw fun μ6 hd6 he6 => ?_
    simp -implicitDefEqProofs
    refine sp_pick hd6 (by simp) (by simp) fun d μ7 hm7 hd7 he7 => ?_
    obtain ⟨v, rfl, v1, bv⟩ : ∃ v : Nat, d = .int v ∧ 1 ≤ v ∧ v ≤ 24 := by
      simp only [List.mem_cons, List.not_mem_nil, or_false] at hm7
      rcases hm7 with rfl | rfl | rfl | rfl
      · exact ⟨1, rfl, by omega, by omega⟩
      · exact ⟨5, rfl, by omega, by omega⟩
      · exact ⟨12, rfl, by omega, by omega⟩
      · exact ⟨24, rfl, by omega, by omega⟩
    refine sp_power_right hd7 v1 bv fun μ8 hd8 he8 => ?_
    simp -implicitDefEqProofs
    exact hnx _ _ ⟨_, _, _, rfl⟩
  · rintro ρ μ1 ⟨y1, y2, y3, rfl⟩
    simp -implicitDefEqProofs
    refine sp_unit_out (by omega) (by decide +kernel) ?_
    refine ⟨_, rfl, ?_⟩
    refine sp_product_bad (by omega) (by decide +kernel) ?_
    refine ⟨_, rfl, ?_⟩
    refine sp_unit_out (by omega) (by decide +kernel) ?_
    refine ⟨_, rfl, ?_⟩
    refine sp_table_power_bad ?_
    refine ⟨_, rfl, ?_⟩
    refine sp_unit (w := 64) (by omega) ?_
    have eU : Tb (unitL 64) = .tup ((unitL 64).map Rw) := rfl
    rw [eU, e_lenT]
    refine sp_unit (w := 0) (by omega) ?_
    refine sp_led (t := []) (x := [1, 2, 3]) (h := 0) (w := 3) ⟨rfl, fun _ h => nomatch h⟩ rfl (by omega) (by omega) (fun _ h => nomatch h) ?_ ?_
    · intro z hz
      simp only [List.mem_cons, List.not_mem_nil, or_false] at hz
      rcases hz with rfl | rfl | rfl <;> exact Nat.lt_of_lt_of_le (show _ < 2 ^ 4 by decide) (Nat.pow_le_pow_right (by decide) (by omega))
    refine sp_led (t := [[], []]) (x := []) (h := 2) (w := 0) ⟨rfl, fun r h => by simp at h; exact h ▸ rfl⟩ rfl (by omega) (by omega) (fun r h => by simp at h; subst h; exact fun _ h => nomatch h) (fun _ h => nomatch h) ?_
    have eD : D.lst [.tup [.str (Str.ofString "count"), .int 65], .tup [.str (Str.ofString "count"), .int 65], .tup [.str (Str.ofString "count"), .int (-1)], .tup [.str (Str.ofString "count"), .int 401], .int (((unitL 64).map Rw).length : Nat), Tb (unitL 0), Rw (ledL [] [1, 2, 3]), Rw (ledL [[], []] [])] = dueD := by
      rw [List.length_map, unitL, List.length_map, List.length_range]
      rfl
    rw [eD]
    refine rp_lst (ds := _) dueD_tx (by omega) (by omega) ?_
    refine rp_lst (ds := _) dueD_tx (by omega) (by omega) ?_
    simp -implicitDefEqProofs
    refine sp_table_power (w := 2) (t := [[0, 0], [0, 0]]) (n := 0) (k0 := 0) ⟨rfl, by decide⟩ (by omega) (by omega) (by omega) ?_ fun M tM aM _ => ?_
    · intro r hr z hz
      simp only [List.mem_cons, List.not_mem_nil, or_false] at hr
      rcases hr with rfl | rfl <;> (simp only [List.mem_cons, List.not_mem_nil, or_false] at hz; rcases hz with rfl | rfl <;> (unfold Sm; decide))
    have eM : M = unitL 2 := by
      have h1 := aM [1, 0] rfl
      have h2 := aM [0, 1] rfl
      obtain ⟨r1, r2, rfl⟩ : ∃ r1 r2, M = [r1, r2] := by
        match M, tM.h with
        | [x, y], _ => exact ⟨x, y, rfl⟩
      have l1 := tM.w r1 (by simp)
      have l2 := tM.w r2 (by simp)
      match r1, l1, r2, l2 with
      | [p, q], _, [r, s], _ =>
        simp [ledL, dot, it] at h1 h2
        obtain ⟨rfl, rfl⟩ := h1
        obtain ⟨rfl, rfl⟩ := h2
        rfl
    subst eM
    have bU : BT 3400 (unitL 2) := by
      have e : unitL 2 = [[1, 0], [0, 1]] := rfl
      rw [e]
      intro r hr z hz
      simp only [List.mem_cons, List.not_mem_nil, or_false] at hr
      rcases hr with rfl | rfl <;> (simp only [List.mem_cons, List.not_mem_nil, or_false] at hz; rcases hz with rfl | rfl <;> exact Nat.lt_of_lt_of_le (show _ < 2 ^ 1 by decide) (Nat.pow_le_pow_right (by decide) (by omega)))
    refine rp_tab (h := 2) (w := 2) ⟨rfl, by decide⟩ (by omega) (by omega) bU ?_
    refine sp_gt_unit 2 (by omega) ?_
    refine rp_tab (h := 2) (w := 2) ⟨rfl, by decide⟩ (by omega) (by omega) bU ?_
    simp -implicitDefEqProofs
    exact hm μ1
end
end K01
end
section
set_option Elab.async false
set_option linter.all false
set_option maxRecDepth 100000
set_option maxHeartbeats 4000000
namespace K01
open PySem PySem.Spec PyProof.Rows L2 LamX G2
open PySem.W (Frag)
theorem fund_uniq {K : Frag} {x qual : Str} {params : Arguments} {body : List Stmt} {scope : Scope} {dvs : List V} {kws : List (Str × V)} {f : Addr} {fd fd' : FuncData} (F : FunD K x qual params body scope dvs kws f fd) (F' : FunD K x qual params body scope dvs kws f fd') : fd = fd' := by
  obtain ⟨oc, od, dV, kV, doc, pm, an, cdv, ct, osl, rfl, lk, _⟩ := F.ex
  obtain ⟨oc', od', dV', kV', doc', pm', an', cdv', ct', osl', rfl, lk', _⟩ := F'.ex
  rw [lk] at lk'
  cases lk'
  rfl
theorem tx_of {P : Program} {w : World} {K : Frag} {mg : Str → Option Value} {base : Heap} (hP : P.main.file = R.prog.main.file) (top : (P.main.scope.names.lookup ("super" : Str)).isSome = false) (c : He.SaysD fa fn K) (more : xs K = true) (iw : initD "InvalidCount" K = iv) (X : K.In base) (G : base.Ns mainGlobals mg) (nd : base.NoDigits)
    (tb : TabB base mg (He.cT K ("law", none)).1 (He.cT K ("law", none)).2) : Tx P w K mg base [((He.cT K ("law", none)).2, ("law.<locals>.<lambda>" : Str))] := by
  obtain ⟨ex, nl, I, hr, hs⟩ := initT
  have more' : xcB P.main.file "InvalidCount" "given" ixTail "IndexError" "IndexError.__new__" "IndexError.__init__" "InvalidCount.__init__" K = true := by rw [hP]; exact more
  have hi : initD "InvalidCount" K = some (("__init__" : Str), ("InvalidCount.__init__" : Str), defArgs mI, .stmts (defBody mI), xSc nl, mainGlobals, [("__class__" : Str)], builtinsNs) := by
    rw [iw, ← hs]; rfl
  have z := xtxt_of (P := P) more' hi I PySem.F.excBase_IndexError PySem.W.kxs_IndexError (fun self => by rfl) (by decide) top
  exact ⟨⟨c, X, G, nd⟩, ⟨_, ex, nl, z.1, hr⟩, z.2, tb, rfl⟩
theorem facts {P : Program} {w : World} {K : Frag} {h : Heap} {mg : Str → Option Value} {f : Addr} (hP : P.main.file = R.prog.main.file) (top : (P.main.scope.names.lookup ("super" : Str)).isSome = false) (X : K.In h) (G : h.Ns mainGlobals mg) (hfa : mg ("law" : Str) = some (.ref f)) (c : SaysM fa fn tf xs (initD "InvalidCount") iv h K) :
    ∃ (fd : FuncData), (∀ p ∈ [He.cT K ("law", none)], h.get? p.2 = some { cls := .none, data := .fields #[] }) ∧ (∀ p ∈ [He.cT K ("law", none)], K.lookup p.2 = none) ∧ (∀ p ∈ [He.cT K ("law", none)], PySem.W.CodeHd h p.1 p.2) ∧ (∀ (s : Shared) (u : Value), BindsTo s fd ⟨[u], []⟩ [(("script" : Str), u)]) ∧
      ∀ base : Heap, K.In base → base.Ns mainGlobals mg → base.NoDigits → (∀ p ∈ [He.cT K ("law", none)], TabB base mg p.1 p.2) → FnG P w K mg base (L2.CX P w) 8 f fd ["script"] (lift K [((He.cT K ("law", none)).2, ("law.<locals>.<lambda>" : Str))] w_law 1) := by
  obtain ⟨fd, F⟩ := c.c.def_ 54 (d := d_law) rfl
  have e := hfa.symm.trans (He.glo_ok X G (c.c.fact 54 (f := .glo "law") rfl))
  cases e
  have b := FunD.bindsA (ps := ["script"]) F fun _ _ _ _ _ _ us hl => match us, hl with | [_], _ => rfl
  refine ⟨fd, fun p hp => ?_, fun p hp => ?_, fun p hp => ?_, fun s u => b s [u] rfl, fun base X' G' nd tb => ?_⟩
  · rw [List.mem_singleton.mp hp]
    exact c.empty ("law", none) (List.mem_singleton.mpr rfl)
  · rw [List.mem_singleton.mp hp]
    exact c.out ("law", none) (List.mem_singleton.mpr rfl)
  · rw [List.mem_singleton.mp hp]
    exact PySem.W.codeHd_of_K X (c.hd ("law", none) (List.mem_singleton.mpr rfl))
  · have E : Tx P w K mg base _ := tx_of hP top c.c c.more c.iw X' G' nd (tb _ (List.mem_singleton.mpr rfl))
    obtain ⟨fd', F', FG⟩ := fn_law E
    rw [fund_uniq F F']
    exact FG
theorem reps_ints' {K : Frag} {Z : Addr → Prop} {μ : Mu} {H : Hp} : ∀ ns : List Int, Reps K Z μ H (ns.map D.int) (ns.map V.int)
  | [] => rfl
  | n :: ns => ⟨.int n, ns.map V.int, rfl, rfl, reps_ints' ns⟩
theorem hsp {K : Frag} {p : Addr × Str} {H : Hp} {a : Addr} {ns : List Int} (hT : H p.1 = some (.tbl #[])) (hS : FrzAt K (fun _ => False) (fun _ => none) H a (ns.map V.int)) : lift K [p] w_law 1 [.ref a] H (fun v _ => v = .bl true) fun _ _ _ => False := by
  refine ⟨rfl, fun _ => False, [.frz (ns.map D.int)], fun _ => none, fun d _ => d = .bl true, fun _ _ => False, ⟨(fun _ _ h => nomatch h), fun q hq => ?_, fun _ h => False.elim h⟩, ⟨.ref a, [], rfl, ⟨a, ns.map V.int, rfl, hS, ?_⟩, rfl⟩, sp_law fun _ => rfl, fun v H' d μ' _ _ r h => ?_, fun _ _ _ _ _ _ _ _ h => h⟩
  · rw [List.mem_singleton.mp hq]
    exact ⟨#[], hT, by first | trivial | decide | (simp [TriplesOk]), fun _ _ z => by first | cases z | (simp [codeAmong] at z)⟩
  · exact reps_ints' ns
  · subst h
    exact r
end K01
open PySem PySem.W PySem.Calls PyProof.Rows
theorem PySem.Challenge.cw_gridturns_k01_whole_tables_of_sixty_four_holds : PySem.Challenge.rw_gridturns_k01_whole_tables_of_sixty_four.Holds := by
  w_on; o_law
  refine HandSHeadRun.head_any (r := OpenLaw.row PySem.Challenge.rw_gridturns_k01_whole_tables_of_sixty_four) (q := view (OpenLaw.row PySem.Challenge.rw_gridturns_k01_whole_tables_of_sixty_four).prog [65]) (H := K01.hk) (ob := K01.ob) (M := 6000) (loose := K01.loose) (d := HandSHeadRun.topDef (OpenLaw.row PySem.Challenge.rw_gridturns_k01_whole_tables_of_sixty_four).prog 65) (kwd := []) K01.ob_eq
    (by kernel_rfl) (fun s => by kernel_rfl) K01.run (by kernel_rfl) (by kernel_rfl) (by kernel_rfl) (by rfl) (by first | assumption | decide +kernel) (by decide +kernel) ⟨rfl, rfl, rfl, rfl, rfl, by decide +kernel⟩ ?hw ?hc
  case hw => w_witness2
  case hc =>
    refine G2.walk_G (l := PySem.Challenge.rw_gridturns_k01_whole_tables_of_sixty_four) (n := 63) (k := 8) (x := "script") rfl (by decide) (by kernel_rfl) ⟨rfl, by decide, by decide⟩ ?F
    intro w mg fa h Y G hmg0
    obtain ⟨K, KX, c⟩ := Y
    have hmg : mg ("law" : PySem.Str) = some (.ref fa) := by
      have e : (HandSHeadRun.topDef (OpenLaw.row PySem.Challenge.rw_gridturns_k01_whole_tables_of_sixty_four).prog 65).name = ("law" : PySem.Str) := by kernel_rfl
      rw [← e]
      exact hmg0
    obtain ⟨fd, h1, h2, h3, hb, hF⟩ := K01.facts (P := (PySem.Challenge.rw_gridturns_k01_whole_tables_of_sixty_four).prog) (w := w) (by kernel_rfl) (by kernel_rfl) KX G hmg c
    exact ⟨K, KX, fd, [He.cT K ("law", none)], G2.lift K [((He.cT K ("law", none)).2, ("law.<locals>.<lambda>" : PySem.Str))] K01.w_law 1, h1, h2, h3, hb, fun H a ns hl _ hT hS => K01.hsp (hT _ (List.mem_singleton.mpr rfl)) hS, hF⟩
end
