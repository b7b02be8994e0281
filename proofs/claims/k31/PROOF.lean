import PyProof.Rows.All
import Wide.All
import OpenK.AllK
import Wide.FinOn
import PySem.Challenge.RW_arrowsums_k31_whole_nested_rows_listed
import HandS.ForMost
import HandS.ForExc
import HandS.WordsExc
import HandS.Lambda
import HandS.Wide
import HandS.Style
import HandS.TupAny
import HandS.TupMul
import HandS.SortInts
import HandS.IsInst
import HandS.Zip
import HandS.Rev
import HandS.Defaults
import HandS.ExcOwn
import HandS.Deep
import HandS.RaiseMore
import PyProof.ReprReads
import HandS.SortKw
import KE.KTupSum
import KE.DataAny
import KE.DataMinMax
import KE.OsSort
import HandS.Set
import HandS.More
import HandS.SetFor
import KE.GoesEnum
import HandS.Conv
import HandS.Dict
import HandS.EndTab
import HandS.HeadEnd
import HandS.TryMany
import HandS.ExcField
import HandS.ExcInit
import KE.KExcInit
import KE.KExcSuper
import KE.KSuper
import HandS.ExcSuper
import PyProof.ReprRoads
import HandS.HeadHook4
import HandS.Property
import KE.KDictZip
import KE.KItemsList
import HandS.MakeKwOnly
import HandS.Flt
import HandS.Star
import HandS.Strs
import HandS.SortOrd
import HandS.TupSets
import KE.KDictPairs
import HandS.Iter
import PyProof.ReprBulk
import KE.KStateDown
import HandS.Words
import HandS.Head0
import HandS.Head1
import HandS.Head2
import HandS.HeadHook1
import HandS.HeadHook2
set_option Elab.async false
set_option linter.all false
set_option maxRecDepth 100000
set_option maxHeartbeats 2000000
/-! DLBase: plain data, a store of changeable things, and what a reading of plain functions over them means in the layer's heap. -/
namespace DL
open PySem PySem.Spec PyProof.Rows L2

/-- data that never changes (a list here is one that nobody changes any more) -/
inductive P where
  | non | bl (b : Bool) | int (i : Int) | str (s : Str) | tup (xs : List P) | lst (xs : List P) | scr (xs : List P) | ins (c : Str) (fs : List (Str × P)) | dic (fs : List (Key × P)) | dit (fs : List (List Key × P)) | glo (x : Str) | ty (n : String)

/-- a value: data, a thing of the store, a tuple with such -/
inductive D where
  | p (x : P) | r (n : Nat) | t (xs : List D)

/-- a thing of the store -/
inductive O where
  | lst (xs : List D)
  | ins (c : Str) (fs : List (Str × D))
  | dct (fs : List (Key × D))
  | dit (fs : List (List Key × D))

mutual
def D.lo (k : Nat) : D → Bool
  | .p _ => true
  | .r n => decide (n < k)
  | .t xs => D.los k xs
def D.los (k : Nat) : List D → Bool
  | [] => true
  | x :: xs => D.lo k x && D.los k xs
end
def O.lo (k : Nat) : O → Bool
  | .lst xs => D.los k xs
  | .ins _ fs => D.los k (fs.map (·.2))
  | .dct fs => D.los k (fs.map (·.2))
  | .dit fs => D.los k (fs.map (·.2))
def allBelow (k : Nat) : List O → Bool
  | [] => true
  | o :: os => o.lo k && allBelow k os

structure Store where
  objs : List O
  wf : allBelow objs.length objs = true

theorem Store.ext' {S S' : Store} (h : S.objs = S'.objs) : S = S' := by
  cases S; cases S'; cases h; rfl

mutual
theorem D.lo_mono {j k : Nat} (h : j ≤ k) : ∀ {d : D}, d.lo j = true → d.lo k = true
  | .p _, _ => rfl
  | .r n, e => by
    simp only [D.lo, decide_eq_true_eq] at e ⊢
    omega
  | .t xs, e => by
    simp only [D.lo] at e ⊢
    exact D.los_mono h e
theorem D.los_mono {j k : Nat} (h : j ≤ k) : ∀ {ds : List D}, D.los j ds = true → D.los k ds = true
  | [], _ => rfl
  | x :: xs, e => by
    simp only [D.los, Bool.and_eq_true] at e ⊢
    exact ⟨D.lo_mono h e.1, D.los_mono h e.2⟩
end
theorem O.lo_mono {j k : Nat} (h : j ≤ k) {o : O} (e : o.lo j = true) : o.lo k = true := by
  cases o with
  | lst xs => exact D.los_mono h e
  | ins c fs => exact D.los_mono h e
  | dct fs => exact D.los_mono h e
  | dit fs => exact D.los_mono h e
theorem allBelow_mono {j k : Nat} (h : j ≤ k) : ∀ {os : List O}, allBelow j os = true → allBelow k os = true
  | [], _ => rfl
  | o :: os, e => by
    simp only [allBelow, Bool.and_eq_true] at e ⊢
    exact ⟨O.lo_mono h e.1, allBelow_mono h e.2⟩
theorem allBelow_append {k : Nat} : ∀ {a b : List O}, allBelow k a = true → allBelow k b = true → allBelow k (a ++ b) = true
  | [], _, _, h => h
  | o :: a, b, e, h => by
    simp only [allBelow, Bool.and_eq_true, List.cons_append] at e ⊢
    exact ⟨e.1, allBelow_append e.2 h⟩
theorem allBelow_set {k : Nat} {o : O} (ho : o.lo k = true) : ∀ {a : List O} {n : Nat}, allBelow k a = true → allBelow k (a.set n o) = true
  | [], _, _ => rfl
  | x :: a, 0, e => by
    simp only [allBelow, Bool.and_eq_true, List.set] at e ⊢
    exact ⟨ho, e.2⟩
  | x :: a, n + 1, e => by
    simp only [allBelow, Bool.and_eq_true, List.set] at e ⊢
    exact ⟨e.1, allBelow_set ho e.2⟩

/-- a new thing -/
def Store.new (S : Store) (o : O) (h : o.lo S.objs.length = true) : Store :=
  ⟨S.objs ++ [o], by
    rw [List.length_append]
    exact allBelow_append (allBelow_mono (Nat.le_add_right _ _) S.wf) (by simp only [allBelow, Bool.and_true]; exact O.lo_mono (Nat.le_add_right _ _) h)⟩
/-- a changed thing -/
def Store.put (S : Store) (n : Nat) (o : O) (h : o.lo S.objs.length = true) : Store :=
  ⟨S.objs.set n o, by
    rw [List.length_set]
    exact allBelow_set h S.wf⟩

/-- an error in the air: its class, what it keeps -/
structure Exc where
  cls : Str
  fs : List (Str × D)

inductive Res (α : Type) where
  | ok (a : α) (S : Store)
  | err (e : Exc) (S : Store)
  | stuck
abbrev M (α : Type) := Store → Res α
def M.pure {α : Type} (a : α) : M α := fun S => .ok a S
def Res.bind {α β : Type} : Res α → (α → M β) → Res β
  | .ok a S, k => k a S
  | .err e S, _ => .err e S
  | .stuck, _ => .stuck
def M.bind {α β : Type} (m : M α) (k : α → M β) : M β := fun S => (m S).bind k
instance : Monad M where
  pure := M.pure
  bind := M.bind
abbrev Env := List (Option D)
abbrev ME (α : Type) := Env → M α

/-! ### what stands in the layer's heap -/
/-- the tables of code objects, with the name that their code objects bear -/
class HasT where
  T : List (Addr × Str)
variable [HasT]
def isTbl : HO → Bool
  | .tbl _ => true
  | _ => false
/-- a list or an instance -/
def isThing : HO → Bool
  | .lst _ => true
  | .dK _ => true
  | .dT _ => true
  | .ins _ _ _ => true
  | _ => false
structure Gb where
  K : PySem.W.Frag
  mg : Str → Option Value

/-- a list that is known to the object (the script), or one of the module -/
def SqC (K : PySem.W.Frag) (H : Hp) (a : Addr) (xs : List V) : Prop :=
  (∃ o, H a = some (.frz o (.lst xs))) ∨
    ∃ (o : Obj) (its : Array Value) (n : Nat), K.lookup a = some o ∧ o.cls = .type "list" ∧ o.dict = none ∧ o.data = .seq its n ∧ its.size ≤ sizeLine ∧ Vals xs its.toList
theorem SqC.sq {K : PySem.W.Frag} {H : Hp} {a : Addr} {xs : List V} (h : SqC K H a xs) : SqL K H a xs := by
  rcases h with h | h
  · exact .inl (.inr h)
  · exact .inr h

mutual
def RelP (G : Gb) (F : Addr → Prop) (H : Hp) : P → V → Prop
  | .non, v => v = .non
  | .bl b, v => v = .bl b
  | .int i, v => v = .int i
  | .str s, v => v = .str s
  | .tup xs, v => ∃ a vs, v = .ref a ∧ H a = some (.tup vs) ∧ RelPs G F H xs vs
  | .lst xs, v => ∃ a vs, v = .ref a ∧ F a ∧ H a = some (.lst vs) ∧ RelPs G F H xs vs
  | .scr xs, v => ∃ a vs, v = .ref a ∧ SqC G.K H a vs ∧ RelPs G F H xs vs
  | .ins c fs, v => ∃ a C dx fvs, v = .ref a ∧ F a ∧ G.mg c = some (.ref C) ∧ H a = some (.ins C dx fvs) ∧ RelPf G F H fs fvs
  | .dic fs, v => ∃ a fvs, v = .ref a ∧ F a ∧ H a = some (.dK fvs) ∧ RelPk G F H fs fvs
  | .dit fs, v => ∃ a fvs, v = .ref a ∧ F a ∧ H a = some (.dT fvs) ∧ RelPt G F H fs fvs
  | .glo x, v => ∃ u, G.mg x = some u ∧ RelV v u
  | .ty n, v => v = .ty n
def RelPs (G : Gb) (F : Addr → Prop) (H : Hp) : List P → List V → Prop
  | [], vs => vs = []
  | x :: xs, vs => ∃ v ws, vs = v :: ws ∧ RelP G F H x v ∧ RelPs G F H xs ws
def RelPf (G : Gb) (F : Addr → Prop) (H : Hp) : List (Str × P) → List (Str × V) → Prop
  | [], vs => vs = []
  | (f, x) :: xs, vs => ∃ v ws, vs = (f, v) :: ws ∧ RelP G F H x v ∧ RelPf G F H xs ws
def RelPk (G : Gb) (F : Addr → Prop) (H : Hp) : List (Key × P) → List (Key × V) → Prop
  | [], vs => vs = []
  | (f, x) :: xs, vs => ∃ v ws, vs = (f, v) :: ws ∧ RelP G F H x v ∧ RelPk G F H xs ws
def RelPt (G : Gb) (F : Addr → Prop) (H : Hp) : List (List Key × P) → List (List Key × V) → Prop
  | [], vs => vs = []
  | (f, x) :: xs, vs => ∃ v ws, vs = (f, v) :: ws ∧ RelP G F H x v ∧ RelPt G F H xs ws
end
mutual
def RelD (G : Gb) (F : Addr → Prop) (ι : List Addr) (H : Hp) : D → V → Prop
  | .p x, v => RelP G F H x v
  | .r n, v => ∃ a, v = .ref a ∧ ι[n]? = some a
  | .t xs, v => ∃ a vs, v = .ref a ∧ H a = some (.tup vs) ∧ RelDs G F ι H xs vs
def RelDs (G : Gb) (F : Addr → Prop) (ι : List Addr) (H : Hp) : List D → List V → Prop
  | [], vs => vs = []
  | x :: xs, vs => ∃ v ws, vs = v :: ws ∧ RelD G F ι H x v ∧ RelDs G F ι H xs ws
end
def RelDf (G : Gb) (F : Addr → Prop) (ι : List Addr) (H : Hp) : List (Str × D) → List (Str × V) → Prop
  | [], vs => vs = []
  | (f, x) :: xs, vs => ∃ v ws, vs = (f, v) :: ws ∧ RelD G F ι H x v ∧ RelDf G F ι H xs ws
def RelDk (G : Gb) (F : Addr → Prop) (ι : List Addr) (H : Hp) {α : Type} : List (α × D) → List (α × V) → Prop
  | [], vs => vs = []
  | (f, x) :: xs, vs => ∃ v ws, vs = (f, v) :: ws ∧ RelD G F ι H x v ∧ RelDk G F ι H xs ws
def RelO (G : Gb) (F : Addr → Prop) (ι : List Addr) (H : Hp) (a : Addr) : O → Prop
  | .lst ds => ∃ vs, H a = some (.lst vs) ∧ RelDs G F ι H ds vs
  | .ins c fs => ∃ C dx fvs, G.mg c = some (.ref C) ∧ H a = some (.ins C dx fvs) ∧ RelDf G F ι H fs fvs
  | .dct fs => ∃ fvs, H a = some (.dK fvs) ∧ RelDk G F ι H fs fvs
  | .dit fs => ∃ fvs, H a = some (.dT fvs) ∧ RelDk G F ι H fs fvs

/-- the store S, its things at the addresses ι, what is frozen at F -/
structure R (G : Gb) (F : Addr → Prop) (ι : List Addr) (S : Store) (H : Hp) : Prop where
  len : ι.length = S.objs.length
  nd : ι.Nodup
  nf : ∀ a ∈ ι, ¬ F a
  fz : ∀ a, F a → ∃ o, H a = some o ∧ isThing o = true
  tb : LamX.Tabs HasT.T H
  ob : ∀ (n : Nat) (a : Addr) (o : O), ι[n]? = some a → S.objs[n]? = some o → RelO G F ι H a o

def isImm : HO → Bool
  | .tup _ => true
  | .frz _ _ => true
  | _ => false
/-- what is not of the store stays -/
def Keep (F : Addr → Prop) (ι : List Addr) (H H' : Hp) : Prop := ∀ a o, H a = some o → (F a ∨ isImm o = true ∨ (a ∉ ι ∧ isTbl o = false)) → H' a = some o
theorem Keep.refl {F : Addr → Prop} {ι : List Addr} {H : Hp} : Keep F ι H H := fun _ _ e _ => e
theorem Keep.trans {F F' : Addr → Prop} {ι ι' : List Addr} {H H1 H2 : Hp} (a : Keep F ι H H1) (s : ∀ x, F x → F' x) (nw : ∀ x ∈ ι', x ∉ ι → H x = none) (b : Keep F' ι' H1 H2) : Keep F ι H H2 := fun x o e h =>
  b x o (a x o e h) (h.imp (s x) (Or.imp id fun z => ⟨(fun y => by
    rw [nw x y z.1] at e
    cases e), z.2⟩))
/-- what data leans on stays -/
def KeepW (F : Addr → Prop) (H H' : Hp) : Prop := ∀ a o, H a = some o → (F a ∨ isImm o = true) → H' a = some o
theorem Keep.w {F : Addr → Prop} {ι : List Addr} {H H' : Hp} (k : Keep F ι H H') : KeepW F H H' := fun a o e h => k a o e (h.imp id Or.inl)
theorem KeepW.rdT {F : Addr → Prop} {H H' : Hp} (k : KeepW F H H') {a : Addr} {vs : List V} (h : Rd H a (.tup vs)) : Rd H' a (.tup vs) := by
  rcases h with h | ⟨o, h⟩
  · exact .inl (k _ _ h (.inr rfl))
  · exact .inr ⟨o, k _ _ h (.inr rfl)⟩
theorem KeepW.tup {F : Addr → Prop} {H H' : Hp} (k : KeepW F H H') {a : Addr} {vs : List V} (h : H a = some (.tup vs)) : H' a = some (.tup vs) := k _ _ h (.inr rfl)
theorem KeepW.sqT {G : Gb} {F : Addr → Prop} {H H' : Hp} (k : KeepW F H H') {a : Addr} {vs : List V} (h : SqT G.K H a vs) : SqT G.K H' a vs := by
  rcases h with h | h
  · exact .inl (k.rdT h)
  · exact .inr h
theorem KeepW.sqC {K : PySem.W.Frag} {F : Addr → Prop} {H H' : Hp} (k : KeepW F H H') {a : Addr} {vs : List V} (h : SqC K H a vs) : SqC K H' a vs := by
  rcases h with ⟨o, h⟩ | h
  · exact .inl ⟨o, k _ _ h (.inr rfl)⟩
  · exact .inr h

section mono
variable {G : Gb} {F F' : Addr → Prop} {H H' : Hp} {ι ι' : List Addr}
mutual
theorem RelP.mono (k : KeepW F H H') (s : ∀ a, F a → F' a) : ∀ {x : P} {v : V}, RelP G F H x v → RelP G F' H' x v
  | .non, _, h => by simpa only [RelP] using h
  | .bl _, _, h => by simpa only [RelP] using h
  | .int _, _, h => by simpa only [RelP] using h
  | .str _, _, h => by simpa only [RelP] using h
  | .ty _, _, h => by simpa only [RelP] using h
  | .glo _, _, h => by simpa only [RelP] using h
  | .tup xs, _, h => by
    simp only [RelP] at h ⊢
    obtain ⟨a, vs, e, q, r⟩ := h
    exact ⟨a, vs, e, k.tup q, RelPs.mono k s r⟩
  | .lst xs, _, h => by
    simp only [RelP] at h ⊢
    obtain ⟨a, vs, e, f, q, r⟩ := h
    exact ⟨a, vs, e, s a f, k _ _ q (.inl f), RelPs.mono k s r⟩
  | .scr xs, _, h => by
    simp only [RelP] at h ⊢
    obtain ⟨a, vs, e, q, r⟩ := h
    exact ⟨a, vs, e, k.sqC q, RelPs.mono k s r⟩
  | .ins c fs, _, h => by
    simp only [RelP] at h ⊢
    obtain ⟨a, C, dx, fvs, e, f, m, q, r⟩ := h
    exact ⟨a, C, dx, fvs, e, s a f, m, k _ _ q (.inl f), RelPf.mono k s r⟩
  | .dic fs, _, h => by
    simp only [RelP] at h ⊢
    obtain ⟨a, fvs, e, f, q, r⟩ := h
    exact ⟨a, fvs, e, s a f, k _ _ q (.inl f), RelPk.mono k s r⟩
  | .dit fs, _, h => by
    simp only [RelP] at h ⊢
    obtain ⟨a, fvs, e, f, q, r⟩ := h
    exact ⟨a, fvs, e, s a f, k _ _ q (.inl f), RelPt.mono k s r⟩
theorem RelPs.mono (k : KeepW F H H') (s : ∀ a, F a → F' a) : ∀ {xs : List P} {vs : List V}, RelPs G F H xs vs → RelPs G F' H' xs vs
  | [], _, h => by simpa only [RelPs] using h
  | x :: xs, _, h => by
    simp only [RelPs] at h ⊢
    obtain ⟨v, ws, e, a, b⟩ := h
    exact ⟨v, ws, e, RelP.mono k s a, RelPs.mono k s b⟩
theorem RelPf.mono (k : KeepW F H H') (s : ∀ a, F a → F' a) : ∀ {xs : List (Str × P)} {vs : List (Str × V)}, RelPf G F H xs vs → RelPf G F' H' xs vs
  | [], _, h => by simpa only [RelPf] using h
  | (f, x) :: xs, _, h => by
    simp only [RelPf] at h ⊢
    obtain ⟨v, ws, e, a, b⟩ := h
    exact ⟨v, ws, e, RelP.mono k s a, RelPf.mono k s b⟩
theorem RelPk.mono (k : KeepW F H H') (s : ∀ a, F a → F' a) : ∀ {xs : List (Key × P)} {vs : List (Key × V)}, RelPk G F H xs vs → RelPk G F' H' xs vs
  | [], _, h => by simpa only [RelPk] using h
  | (f, x) :: xs, _, h => by
    simp only [RelPk] at h ⊢
    obtain ⟨v, ws, e, a, b⟩ := h
    exact ⟨v, ws, e, RelP.mono k s a, RelPk.mono k s b⟩
theorem RelPt.mono (k : KeepW F H H') (s : ∀ a, F a → F' a) : ∀ {xs : List (List Key × P)} {vs : List (List Key × V)}, RelPt G F H xs vs → RelPt G F' H' xs vs
  | [], _, h => by simpa only [RelPt] using h
  | (f, x) :: xs, _, h => by
    simp only [RelPt] at h ⊢
    obtain ⟨v, ws, e, a, b⟩ := h
    exact ⟨v, ws, e, RelP.mono k s a, RelPt.mono k s b⟩
end
theorem pre_get {n : Nat} {a : Addr} (p : ι <+: ι') (h : ι[n]? = some a) : ι'[n]? = some a := by
  obtain ⟨t, rfl⟩ := p
  rw [List.getElem?_append_left (List.getElem?_eq_some_iff.mp h).1]
  exact h
mutual
theorem RelD.mono (k : KeepW F H H') (s : ∀ a, F a → F' a) (p : ι <+: ι') : ∀ {x : D} {v : V}, RelD G F ι H x v → RelD G F' ι' H' x v
  | .p x, _, h => by
    simp only [RelD] at h ⊢
    exact h.mono k s
  | .r n, _, h => by
    simp only [RelD] at h ⊢
    obtain ⟨a, e, q⟩ := h
    exact ⟨a, e, pre_get p q⟩
  | .t xs, _, h => by
    simp only [RelD] at h ⊢
    obtain ⟨a, vs, e, q, r⟩ := h
    exact ⟨a, vs, e, k.tup q, RelDs.mono k s p r⟩
theorem RelDs.mono (k : KeepW F H H') (s : ∀ a, F a → F' a) (p : ι <+: ι') : ∀ {xs : List D} {vs : List V}, RelDs G F ι H xs vs → RelDs G F' ι' H' xs vs
  | [], _, h => by simpa only [RelDs] using h
  | x :: xs, _, h => by
    simp only [RelDs] at h ⊢
    obtain ⟨v, ws, e, a, b⟩ := h
    exact ⟨v, ws, e, RelD.mono k s p a, RelDs.mono k s p b⟩
end
theorem RelDf.mono (k : KeepW F H H') (s : ∀ a, F a → F' a) (p : ι <+: ι') : ∀ {xs : List (Str × D)} {vs : List (Str × V)}, RelDf G F ι H xs vs → RelDf G F' ι' H' xs vs
  | [], _, h => h
  | (f, x) :: xs, _, h => by
    obtain ⟨v, ws, e, a, b⟩ := h
    exact ⟨v, ws, e, RelD.mono k s p a, RelDf.mono k s p b⟩
theorem RelDk.mono {α : Type} (k : KeepW F H H') (s : ∀ a, F a → F' a) (p : ι <+: ι') : ∀ {xs : List (α × D)} {vs : List (α × V)}, RelDk G F ι H xs vs → RelDk G F' ι' H' xs vs
  | [], _, h => h
  | (f, x) :: xs, _, h => by
    obtain ⟨v, ws, e, a, b⟩ := h
    exact ⟨v, ws, e, RelD.mono k s p a, RelDk.mono k s p b⟩
end mono

theorem R.thing {G : Gb} {F : Addr → Prop} {ι : List Addr} {S : Store} {H : Hp} (r : R G F ι S H) {a : Addr} (h : a ∈ ι) : ∃ o, H a = some o ∧ isThing o = true := by
  obtain ⟨n, hn, e⟩ := List.getElem_of_mem h
  have hs : n < S.objs.length := by rw [← r.len]; exact hn
  have q := r.ob n a S.objs[n] (by rw [List.getElem?_eq_getElem hn, e]) (List.getElem?_eq_getElem hs)
  cases eo : S.objs[n] with
  | lst ds => rw [eo] at q; obtain ⟨vs, h, _⟩ := q; exact ⟨_, h, rfl⟩
  | ins c fs => rw [eo] at q; obtain ⟨C, dx, fvs, _, h, _⟩ := q; exact ⟨_, h, rfl⟩
  | dct fs => rw [eo] at q; obtain ⟨fvs, h, _⟩ := q; exact ⟨_, h, rfl⟩
  | dit fs => rw [eo] at q; obtain ⟨fvs, h, _⟩ := q; exact ⟨_, h, rfl⟩
theorem R.there {G : Gb} {F : Addr → Prop} {ι : List Addr} {S : Store} {H : Hp} (r : R G F ι S H) {a : Addr} (h : a ∈ ι) : ∃ o, H a = some o := let ⟨o, e, _⟩ := r.thing h; ⟨o, e⟩

/-- a later state -/
structure Nxt (G : Gb) (F : Addr → Prop) (ι : List Addr) (H : Hp) (F' : Addr → Prop) (ι' : List Addr) (S' : Store) (H' : Hp) : Prop where
  sub : ∀ a, F a → F' a
  keep : Keep F ι H H'
  pre : ι <+: ι'
  nw : ∀ x ∈ ι', x ∉ ι → H x = none
  nF : ∀ x, F' x → ¬ F x → H x = none
  old : ∀ x o, H x = some o → ∃ o', H' x = some o'
  r : R G F' ι' S' H'
theorem Nxt.none_back {G : Gb} {F F' : Addr → Prop} {ι ι' : List Addr} {H H' : Hp} {S' : Store} (n : Nxt G F ι H F' ι' S' H') {x : Addr} (h : H' x = none) : H x = none := by
  cases e : H x with
  | none => rfl
  | some o =>
    obtain ⟨o', e'⟩ := n.old x o e
    rw [h] at e'
    cases e'
section
variable {G : Gb} {F F1 F2 : Addr → Prop} {ι ι1 ι2 : List Addr} {H H1 H2 : Hp} {S S1 S2 : Store}
theorem Nxt.refl (r : R G F ι S H) : Nxt G F ι H F ι S H := ⟨fun _ h => h, Keep.refl, List.prefix_refl _, fun x a b => absurd a b, fun x a b => absurd a b, fun _ o e => ⟨o, e⟩, r⟩
theorem Nxt.trans (a : Nxt G F ι H F1 ι1 S1 H1) (b : Nxt G F1 ι1 H1 F2 ι2 S2 H2) : Nxt G F ι H F2 ι2 S2 H2 where
  sub := fun x h => b.sub x (a.sub x h)
  keep := a.keep.trans a.sub a.nw b.keep
  pre := a.pre.trans b.pre
  nw := fun x h n => by
    by_cases z : x ∈ ι1
    · exact a.nw x z n
    · exact a.none_back (b.nw x h z)
  nF := fun x h n => by
    by_cases z : F1 x
    · exact a.nF x z n
    · exact a.none_back (b.nF x h z)
  old := fun x o e => let ⟨o', e'⟩ := a.old x o e; b.old x o' e'
  r := b.r
theorem Nxt.d (n : Nxt G F ι H F1 ι1 S1 H1) {x : D} {v : V} (h : RelD G F ι H x v) : RelD G F1 ι1 H1 x v := h.mono n.keep.w n.sub n.pre
theorem Nxt.ds (n : Nxt G F ι H F1 ι1 S1 H1) {x : List D} {v : List V} (h : RelDs G F ι H x v) : RelDs G F1 ι1 H1 x v := h.mono n.keep.w n.sub n.pre
theorem Nxt.pp (n : Nxt G F ι H F1 ι1 S1 H1) {x : P} {v : V} (h : RelP G F H x v) : RelP G F1 H1 x v := h.mono n.keep.w n.sub
end

/-- an error: its class, its own dict -/
def RelX (G : Gb) (F : Addr → Prop) (ι : List Addr) (H : Hp) (e : Exc) (c : Value) (d : Option Addr) : Prop :=
  ∃ C, G.mg e.cls = some (.ref C) ∧ c = .ref C ∧ match e.fs with
    | [] => d = none
    | fs => ∃ dd fvs, d = some dd ∧ H dd = some (.xd fvs) ∧ RelDf G F ι H fs fvs

/-- what is wanted behind a plain run -/
def Then (G : Gb) (W : Value → Option Addr → Hp → Prop) (F : Addr → Prop) (ι : List Addr) (H : Hp) {α : Type} (r : Res α) (Q : α → Store → (Addr → Prop) → List Addr → Hp → Prop) : Prop :=
  match r with
  | .ok a S' => ∀ F' ι' H', Nxt G F ι H F' ι' S' H' → Q a S' F' ι' H'
  | .err e S' => ∀ F' ι' H' c d, Nxt G F ι H F' ι' S' H' → RelX G F' ι' H' e c d → W c d H'
  | .stuck => False
section
variable {G : Gb} {W : Value → Option Addr → Hp → Prop} {F F1 : Addr → Prop} {ι ι1 : List Addr} {H H1 : Hp} {S S1 : Store} {α β : Type}
theorem Then.mono {r : Res α} {Q Q' : α → Store → (Addr → Prop) → List Addr → Hp → Prop} (h : Then G W F ι H r Q)
    (q : ∀ a S' F' ι' H', Nxt G F ι H F' ι' S' H' → Q a S' F' ι' H' → Q' a S' F' ι' H') : Then G W F ι H r Q' := by
  cases r with
  | ok a S' => exact fun F' ι' H' n => q _ _ _ _ _ n (h F' ι' H' n)
  | err e S' => exact h
  | stuck => exact h
theorem Then.later {r : Res α} {Q : α → Store → (Addr → Prop) → List Addr → Hp → Prop} (h : Then G W F ι H r Q) (n : Nxt G F ι H F1 ι1 S1 H1) : Then G W F1 ι1 H1 r Q := by
  cases r with
  | ok a S' => exact fun F' ι' H' n' => h F' ι' H' (n.trans n')
  | err e S' => exact fun F' ι' H' c d n' => h F' ι' H' c d (n.trans n')
  | stuck => exact h
theorem Then.bind {r : Res α} {k : α → M β} {Q : β → Store → (Addr → Prop) → List Addr → Hp → Prop} (h : Then G W F ι H (r.bind k) Q) :
    Then G W F ι H r (fun a S' F' ι' H' => Then G W F' ι' H' (k a S') Q) := by
  cases r with
  | ok a S' => exact fun F' ι' H' n => Then.later (show Then G W F ι H (k a S') Q from h) n
  | err e S' => exact h
  | stuck => exact h
theorem Then.now {a : α} {Q : α → Store → (Addr → Prop) → List Addr → Hp → Prop} (h : Then G W F ι H (.ok a S) Q) (r : R G F ι S H) : Q a S F ι H := h F ι H (Nxt.refl r)
end

/-! ### slots -/
def RelE (G : Gb) (F : Addr → Prop) (ι : List Addr) (H : Hp) : Env → L2.St → Prop
  | [], σ => σ = []
  | none :: ρ, σ => ∃ o τ, σ = o :: τ ∧ RelE G F ι H ρ τ
  | some d :: ρ, σ => ∃ v τ, σ = some v :: τ ∧ RelD G F ι H d v ∧ RelE G F ι H ρ τ
section
variable {G : Gb} {F F1 : Addr → Prop} {ι ι1 : List Addr} {H H1 : Hp} {S S1 : Store}
theorem RelE.mono (n : Nxt G F ι H F1 ι1 S1 H1) : ∀ {ρ : Env} {σ : L2.St}, RelE G F ι H ρ σ → RelE G F1 ι1 H1 ρ σ
  | [], _, h => h
  | none :: ρ, _, ⟨o, τ, e, h⟩ => ⟨o, τ, e, h.mono n⟩
  | some d :: ρ, _, ⟨v, τ, e, r, h⟩ => ⟨v, τ, e, n.d r, h.mono n⟩
theorem RelE.get : ∀ {ρ : Env} {σ : L2.St} {i : Nat} {d : D}, RelE G F ι H ρ σ → ρ[i]? = some (some d) → ∃ v, σ[i]? = some (some v) ∧ RelD G F ι H d v
  | [], _, _, _, _, e => by simp at e
  | none :: ρ, _, 0, d, _, e => by simp at e
  | none :: ρ, _, i + 1, d, ⟨o, τ, es, h⟩, e => by
    subst es
    obtain ⟨v, a, b⟩ := RelE.get h (show ρ[i]? = some (some d) by simpa using e)
    exact ⟨v, by simpa using a, b⟩
  | some d' :: ρ, _, 0, d, ⟨v, τ, es, r, h⟩, e => by
    subst es
    simp at e
    subst e
    exact ⟨v, rfl, r⟩
  | some d' :: ρ, _, i + 1, d, ⟨v, τ, es, r, h⟩, e => by
    subst es
    obtain ⟨v, a, b⟩ := RelE.get h (show ρ[i]? = some (some d) by simpa using e)
    exact ⟨v, by simpa using a, b⟩
theorem RelE.set {d : D} {v : V} (r : RelD G F ι H d v) : ∀ {ρ : Env} {σ : L2.St} (i : Nat), RelE G F ι H ρ σ → RelE G F ι H (ρ.set i (some d)) (σ.set i (some v))
  | [], _, i, h => by
    cases h
    cases i <;> rfl
  | none :: ρ, _, 0, ⟨o, τ, es, h⟩ => by subst es; exact ⟨v, τ, rfl, r, h⟩
  | none :: ρ, _, i + 1, ⟨o, τ, es, h⟩ => by subst es; exact ⟨o, τ.set i (some v), rfl, h.set r i⟩
  | some d' :: ρ, _, 0, ⟨w, τ, es, q, h⟩ => by subst es; exact ⟨v, τ, rfl, r, h⟩
  | some d' :: ρ, _, i + 1, ⟨w, τ, es, q, h⟩ => by subst es; exact ⟨w, τ.set i (some v), rfl, q, h.set r i⟩
theorem RelE.unset : ∀ {ρ : Env} {σ : L2.St} (i : Nat), RelE G F ι H ρ σ → RelE G F ι H (ρ.set i none) (σ.set i none)
  | [], _, i, h => by
    cases h
    cases i <;> rfl
  | none :: ρ, _, 0, ⟨o, τ, es, h⟩ => by subst es; exact ⟨none, τ, rfl, h⟩
  | none :: ρ, _, i + 1, ⟨o, τ, es, h⟩ => by subst es; exact ⟨o, τ.set i none, rfl, h.unset i⟩
  | some d' :: ρ, _, 0, ⟨w, τ, es, q, h⟩ => by subst es; exact ⟨none, τ, rfl, h⟩
  | some d' :: ρ, _, i + 1, ⟨w, τ, es, q, h⟩ => by subst es; exact ⟨w, τ.set i none, rfl, q, h.unset i⟩
theorem RelE.forget : ∀ {ρ : Env} {σ : L2.St} (i : Nat), RelE G F ι H ρ σ → RelE G F ι H (ρ.set i none) σ
  | [], _, i, h => by
    cases h
    cases i <;> rfl
  | none :: ρ, _, 0, h => h
  | none :: ρ, _, i + 1, ⟨o, τ, es, h⟩ => ⟨o, τ, es, h.forget i⟩
  | some d' :: ρ, _, 0, ⟨w, τ, es, q, h⟩ => ⟨some w, τ, es, h⟩
  | some d' :: ρ, _, i + 1, ⟨w, τ, es, q, h⟩ => ⟨w, τ, es, q, h.forget i⟩
end

/-! ### readings -/
/-- the state at hand -/
structure At (G : Gb) (F : Addr → Prop) (ι : List Addr) (H : Hp) (σ : L2.St) (ρ : Env) (S : Store) : Prop where
  e : RelE G F ι H ρ σ
  r : R G F ι S H
theorem At.next {G : Gb} {F F1 : Addr → Prop} {ι ι1 : List Addr} {H H1 : Hp} {S S1 : Store} {σ : L2.St} {ρ : Env} (a : At G F ι H σ ρ S) (n : Nxt G F ι H F1 ι1 S1 H1) : At G F1 ι1 H1 σ ρ S1 := ⟨a.e.mono n, n.r⟩

def T (G : Gb) (W : WX) (m : ME D) : TE := fun σ H Q => ∃ ρ S ι F, At G F ι H σ ρ S ∧ Then G (fun c d H' => W c d σ H') F ι H (m ρ S) fun d _ F' ι' H' => ∀ v, RelD G F' ι' H' d v → Q v H'
def TB (G : Gb) (W : WX) (m : ME Bool) : TT := fun σ H Q => ∃ ρ S ι F, At G F ι H σ ρ S ∧ Then G (fun c d H' => W c d σ H') F ι H (m ρ S) fun b _ _ _ H' => Q b H'
def TL (G : Gb) (W : WX) (m : ME (List D)) : TA := fun σ H Q => ∃ ρ S ι F, At G F ι H σ ρ S ∧ Then G (fun c d H' => W c d σ H') F ι H (m ρ S) fun ds _ F' ι' H' => ∀ vs, RelDs G F' ι' H' ds vs → Q vs H'

/-- an expression's plain run -/
abbrev DE (X : Cx) (W : WX) (e : Expr) (m : ME D) : Prop := PE X e (T ⟨X.K, X.mg⟩ W m)
abbrev DT (X : Cx) (W : WX) (e : Expr) (m : ME Bool) : Prop := PT X e (TB ⟨X.K, X.mg⟩ W m)
abbrev DA (X : Cx) (W : WX) (es : List Expr) (m : ME (List D)) : Prop := PA X es (TL ⟨X.K, X.mg⟩ W m)

/-! weaker readings -/
theorem PE.imp {X : Cx} {e : Expr} {t t' : TE} (h : PE X e t) (i : ∀ σ H Q, t' σ H Q → t σ H Q) : PE X e t' := ⟨fun pins s σ H Q I q => h.run pins s σ H Q I (i σ H Q q)⟩
theorem PT.imp {X : Cx} {e : Expr} {t t' : TT} (h : PT X e t) (i : ∀ σ H Q, t' σ H Q → t σ H Q) : PT X e t' := ⟨fun pins s σ H Q I q => h.run pins s σ H Q I (i σ H Q q)⟩
theorem PW.imp {X : Cx} {e : Expr} {t t' : TT} (h : PW X e t) (i : ∀ σ H Q, t' σ H Q → t σ H Q) : PW X e t' := ⟨fun whole pins s σ H Q I q => h.run whole pins s σ H Q I (i σ H Q q)⟩
theorem PA.imp {X : Cx} {e : List Expr} {t t' : TA} (h : PA X e t) (i : ∀ σ H Q, t' σ H Q → t σ H Q) : PA X e t' := ⟨fun pos pins s σ H Q I q => h.run pos pins s σ H Q I (i σ H Q q)⟩
theorem PS.imp {X : Cx} {e : Stmt} {t t' : TS} (h : PS X e t) (i : ∀ D σ H, t' D σ H → t D σ H) : PS X e t' := ⟨fun pins s σ H D I q => h.run pins s σ H D I (i D σ H q)⟩
theorem PSs.imp {X : Cx} {e : List Stmt} {t t' : TS} (h : PSs X e t) (i : ∀ D σ H, t' D σ H → t D σ H) : PSs X e t' := ⟨fun pins s σ H D I q => h.run pins s σ H D I (i D σ H q)⟩

/-- from the run of a row: first a, then what follows -/
theorem T.first {G : Gb} {W : WX} {α : Type} {F : Addr → Prop} {ι : List Addr} {σ : L2.St} {ρ : Env} {S : Store} {H : Hp} {m : ME D} {k : D → M α} {Q : α → Store → (Addr → Prop) → List Addr → Hp → Prop} {Q' : VK}
    (a : At G F ι H σ ρ S) (h : Then G (fun c d H' => W c d σ H') F ι H ((m ρ S).bind k) Q)
    (q : ∀ d S1 F1 ι1 H1 v, Nxt G F ι H F1 ι1 S1 H1 → At G F1 ι1 H1 σ ρ S1 → RelD G F1 ι1 H1 d v → Then G (fun c d H' => W c d σ H') F1 ι1 H1 (k d S1) Q → Q' v H1) : T G W m σ H Q' :=
  ⟨ρ, S, ι, F, a, h.bind.mono fun d S1 F1 ι1 H1 n t v r => q d S1 F1 ι1 H1 v n (a.next n) r t⟩
theorem TB.first {G : Gb} {W : WX} {α : Type} {F : Addr → Prop} {ι : List Addr} {σ : L2.St} {ρ : Env} {S : Store} {H : Hp} {m : ME Bool} {k : Bool → M α} {Q : α → Store → (Addr → Prop) → List Addr → Hp → Prop} {Q' : Bool → Hp → Prop}
    (a : At G F ι H σ ρ S) (h : Then G (fun c d H' => W c d σ H') F ι H ((m ρ S).bind k) Q)
    (q : ∀ b S1 F1 ι1 H1, Nxt G F ι H F1 ι1 S1 H1 → At G F1 ι1 H1 σ ρ S1 → Then G (fun c d H' => W c d σ H') F1 ι1 H1 (k b S1) Q → Q' b H1) : TB G W m σ H Q' :=
  ⟨ρ, S, ι, F, a, h.bind.mono fun b S1 F1 ι1 H1 n t => q b S1 F1 ι1 H1 n (a.next n) t⟩
theorem TL.first {G : Gb} {W : WX} {α : Type} {F : Addr → Prop} {ι : List Addr} {σ : L2.St} {ρ : Env} {S : Store} {H : Hp} {m : ME (List D)} {k : List D → M α} {Q : α → Store → (Addr → Prop) → List Addr → Hp → Prop} {Q' : List V → Hp → Prop}
    (a : At G F ι H σ ρ S) (h : Then G (fun c d H' => W c d σ H') F ι H ((m ρ S).bind k) Q)
    (q : ∀ ds S1 F1 ι1 H1 vs, Nxt G F ι H F1 ι1 S1 H1 → At G F1 ι1 H1 σ ρ S1 → RelDs G F1 ι1 H1 ds vs → Then G (fun c d H' => W c d σ H') F1 ι1 H1 (k ds S1) Q → Q' vs H1) : TL G W m σ H Q' :=
  ⟨ρ, S, ι, F, a, h.bind.mono fun ds S1 F1 ι1 H1 n t vs r => q ds S1 F1 ι1 H1 vs n (a.next n) r t⟩
/-- a last value -/
theorem Then.val {G : Gb} {W : Value → Option Addr → Hp → Prop} {F : Addr → Prop} {ι : List Addr} {H : Hp} {S : Store} {d : D} {Q : VK} {v : V} (h : Then G W F ι H (.ok d S) (fun d _ F' ι' H' => ∀ v, RelD G F' ι' H' d v → Q v H')) (r : R G F ι S H) (rv : RelD G F ι H d v) : Q v H :=
  h.now r v rv
end DL
set_option maxHeartbeats 2000000
/-! DLOps: views of values, new things, operators. -/
namespace DL
open PySem PySem.Spec PyProof.Rows L2
variable [HasT]

/-! ### relation lemmas -/
section
variable {G : Gb} {F F' : Addr → Prop} {ι ι' : List Addr} {H H' : Hp} {S S' : Store}
theorem relPs_len : ∀ {xs : List P} {vs : List V}, RelPs G F H xs vs → xs.length = vs.length
  | [], _, h => by simp only [RelPs] at h; subst h; rfl
  | x :: xs, _, h => by
    simp only [RelPs] at h
    obtain ⟨v, ws, rfl, _, b⟩ := h
    simp [relPs_len b]
theorem relDs_len : ∀ {xs : List D} {vs : List V}, RelDs G F ι H xs vs → xs.length = vs.length
  | [], _, h => by simp only [RelDs] at h; subst h; rfl
  | x :: xs, _, h => by
    simp only [RelDs] at h
    obtain ⟨v, ws, rfl, _, b⟩ := h
    simp [relDs_len b]
theorem relDs_map : ∀ {xs : List P} {vs : List V}, RelPs G F H xs vs → RelDs G F ι H (xs.map D.p) vs
  | [], _, h => by simpa only [RelPs, RelDs, List.map] using h
  | x :: xs, _, h => by
    simp only [RelPs] at h
    obtain ⟨v, ws, rfl, a, b⟩ := h
    simp only [RelDs, List.map]
    exact ⟨v, ws, rfl, (by simp only [RelD]; exact a), relDs_map b⟩
theorem relDs_cons {x : D} {xs : List D} {v : V} {vs : List V} : RelDs G F ι H (x :: xs) (v :: vs) ↔ RelD G F ι H x v ∧ RelDs G F ι H xs vs := by
  simp only [RelDs]
  constructor
  · rintro ⟨v', ws, e, a, b⟩
    cases e
    exact ⟨a, b⟩
  · rintro ⟨a, b⟩
    exact ⟨v, vs, rfl, a, b⟩
theorem relDs_nil {vs : List V} : RelDs G F ι H [] vs ↔ vs = [] := by simp only [RelDs]
theorem relDs_nil' : RelDs G F ι H [] [] := by simp only [RelDs]
theorem relDs_append : ∀ {xs ys : List D} {vs ws : List V}, RelDs G F ι H xs vs → RelDs G F ι H ys ws → RelDs G F ι H (xs ++ ys) (vs ++ ws)
  | [], _, _, _, h, k => by
    rw [relDs_nil] at h
    subst h
    exact k
  | x :: xs, ys, vs, ws, h, k => by
    simp only [RelDs] at h
    obtain ⟨v, us, rfl, a, b⟩ := h
    exact relDs_cons.mpr ⟨a, relDs_append b k⟩
theorem relDs_get : ∀ {xs : List D} {vs : List V} {i : Nat} {d : D}, RelDs G F ι H xs vs → xs[i]? = some d → ∃ v, vs[i]? = some v ∧ RelD G F ι H d v
  | [], _, _, _, _, e => by simp at e
  | x :: xs, _, 0, d, h, e => by
    simp only [RelDs] at h
    obtain ⟨v, us, rfl, a, b⟩ := h
    simp at e
    subst e
    exact ⟨v, rfl, a⟩
  | x :: xs, _, i + 1, d, h, e => by
    simp only [RelDs] at h
    obtain ⟨v, us, rfl, a, b⟩ := h
    obtain ⟨w, p, q⟩ := relDs_get (i := i) b (by simpa using e)
    exact ⟨w, by simpa using p, q⟩
theorem relDs_take : ∀ {xs : List D} {vs : List V} (n : Nat), RelDs G F ι H xs vs → RelDs G F ι H (xs.take n) (vs.take n)
  | _, _, 0, _ => by simp only [List.take_zero]; exact relDs_nil'
  | [], _, n + 1, h => by rw [relDs_nil] at h; subst h; exact relDs_nil'
  | x :: xs, _, n + 1, h => by
    simp only [RelDs] at h
    obtain ⟨v, us, rfl, a, b⟩ := h
    exact relDs_cons.mpr ⟨a, relDs_take n b⟩
theorem relDs_drop : ∀ {xs : List D} {vs : List V} (n : Nat), RelDs G F ι H xs vs → RelDs G F ι H (xs.drop n) (vs.drop n)
  | _, _, 0, h => h
  | [], _, n + 1, h => by rw [relDs_nil] at h; subst h; exact relDs_nil'
  | x :: xs, _, n + 1, h => by
    simp only [RelDs] at h
    obtain ⟨v, us, rfl, a, b⟩ := h
    exact relDs_drop n b
theorem relDs_set {d : D} {v : V} (r : RelD G F ι H d v) : ∀ {xs : List D} {vs : List V} (i : Nat), RelDs G F ι H xs vs → RelDs G F ι H (xs.set i d) (vs.set i v)
  | [], _, _, h => by rw [relDs_nil] at h; subst h; exact relDs_nil'
  | x :: xs, _, 0, h => by
    simp only [RelDs] at h
    obtain ⟨w, us, rfl, a, b⟩ := h
    exact relDs_cons.mpr ⟨r, b⟩
  | x :: xs, _, i + 1, h => by
    simp only [RelDs] at h
    obtain ⟨w, us, rfl, a, b⟩ := h
    exact relDs_cons.mpr ⟨a, relDs_set r i b⟩
theorem relDs_erase : ∀ {xs : List D} {vs : List V} (i : Nat), RelDs G F ι H xs vs → RelDs G F ι H (xs.eraseIdx i) (vs.eraseIdx i)
  | [], _, _, h => by rw [relDs_nil] at h; subst h; exact relDs_nil'
  | x :: xs, _, 0, h => by
    simp only [RelDs] at h
    obtain ⟨w, us, rfl, a, b⟩ := h
    exact b
  | x :: xs, _, i + 1, h => by
    simp only [RelDs] at h
    obtain ⟨w, us, rfl, a, b⟩ := h
    exact relDs_cons.mpr ⟨a, relDs_erase i b⟩
theorem relDs_reverse : ∀ {xs : List D} {vs : List V}, RelDs G F ι H xs vs → RelDs G F ι H xs.reverse vs.reverse
  | [], _, h => by rw [relDs_nil] at h; subst h; exact relDs_nil'
  | x :: xs, _, h => by
    simp only [RelDs] at h
    obtain ⟨w, us, rfl, a, b⟩ := h
    rw [List.reverse_cons, List.reverse_cons]
    exact relDs_append (relDs_reverse b) (relDs_cons.mpr ⟨a, relDs_nil'⟩)
theorem relDs_rep {d : D} {v : V} (h : RelD G F ι H d v) : ∀ n : Nat, RelDs G F ι H (List.replicate n d) (List.replicate n v)
  | 0 => relDs_nil'
  | n + 1 => relDs_cons.mpr ⟨h, relDs_rep h n⟩
theorem relDs_flat {ds : List D} {vs : List V} (h : RelDs G F ι H ds vs) : ∀ n : Nat, RelDs G F ι H (List.replicate n ds).flatten (List.replicate n vs).flatten
  | 0 => relDs_nil'
  | n + 1 => by
    rw [List.replicate_succ, List.replicate_succ, List.flatten_cons, List.flatten_cons]
    exact relDs_append h (relDs_flat h n)

/-! ### all data -/
def pures : List D → Option (List P)
  | [] => some []
  | .p x :: r => match pures r with
    | some ps => some (x :: ps)
    | none => none
  | _ => none
theorem pures_map : ∀ ps : List P, pures (ps.map D.p) = some ps
  | [] => rfl
  | x :: ps => by simp only [List.map, pures, pures_map ps]
theorem pures_eq : ∀ {ds : List D} {ps : List P}, pures ds = some ps → ds = ps.map D.p
  | [], _, h => by cases h; rfl
  | .p x :: r, _, h => by
    simp only [pures] at h
    split at h
    · rename_i qs e
      cases h
      rw [pures_eq e]
      rfl
    · cases h
  | .r _ :: _, _, h => by cases h
  | .t _ :: _, _, h => by cases h
theorem relPs_of : ∀ {ps : List P} {vs : List V}, RelDs G F ι H (ps.map D.p) vs → RelPs G F H ps vs
  | [], _, h => by simpa only [RelPs, RelDs, List.map] using h
  | x :: ps, _, h => by
    simp only [RelDs, List.map] at h
    obtain ⟨v, ws, rfl, a, b⟩ := h
    simp only [RelPs]
    exact ⟨v, ws, rfl, (by simpa only [RelD] using a), relPs_of b⟩
theorem pures_rel {ds : List D} {ps : List P} {vs : List V} (h : pures ds = some ps) (r : RelDs G F ι H ds vs) : RelPs G F H ps vs := by
  rw [pures_eq h] at r
  exact relPs_of r

def mkTup (ds : List D) : D := match pures ds with
  | some ps => .p (.tup ps)
  | none => .t ds
theorem mkTup_map (ps : List P) : mkTup (ps.map D.p) = .p (.tup ps) := by simp only [mkTup, pures_map]
theorem mkTup_rel {ds : List D} {a : Addr} {vs : List V} (q : H a = some (.tup vs)) (r : RelDs G F ι H ds vs) : RelD G F ι H (mkTup ds) (.ref a) := by
  unfold mkTup
  split
  · rename_i ps e
    simp only [RelD, RelP]
    exact ⟨a, vs, rfl, q, pures_rel e r⟩
  · simp only [RelD]
    exact ⟨a, vs, rfl, q, r⟩
def D.tup? : D → Option (List D)
  | .p (.tup xs) => some (xs.map D.p)
  | .t xs => some xs
  | _ => none
theorem tup?_relH {d : D} {ds : List D} {v : V} (h : d.tup? = some ds) (r : RelD G F ι H d v) : ∃ a vs, v = .ref a ∧ H a = some (.tup vs) ∧ RelDs G F ι H ds vs := by
  cases d with
  | p x =>
    cases x with
    | tup xs =>
      simp only [D.tup?, Option.some.injEq] at h
      subst h
      simp only [RelD, RelP] at r
      obtain ⟨a, vs, e, q, r⟩ := r
      exact ⟨a, vs, e, q, relDs_map r⟩
    | _ => cases h
  | r n => cases h
  | t xs =>
    simp only [D.tup?, Option.some.injEq] at h
    subst h
    simp only [RelD] at r
    exact r
theorem tup?_rel {d : D} {ds : List D} {v : V} (h : d.tup? = some ds) (r : RelD G F ι H d v) : ∃ a vs, v = .ref a ∧ SqT G.K H a vs ∧ RelDs G F ι H ds vs := by
  obtain ⟨a, vs, e, q, r⟩ := tup?_relH h r
  exact ⟨a, vs, e, SqT.of q, r⟩
/-- a list that may be read: frozen, the script, of the store -/
def D.lst? (d : D) (S : Store) : Option (List D) := match d with
  | .p (.lst xs) => some (xs.map D.p)
  | .p (.scr xs) => some (xs.map D.p)
  | .r n => match S.objs[n]? with
    | some (.lst xs) => some xs
    | _ => none
  | _ => none
theorem R.obj (r : R G F ι S H) {n : Nat} {o : O} (h : S.objs[n]? = some o) : ∃ a, ι[n]? = some a ∧ RelO G F ι H a o := by
  have hl : n < ι.length := by
    rw [r.len]
    exact (List.getElem?_eq_some_iff.mp h).1
  exact ⟨ι[n], List.getElem?_eq_getElem hl, r.ob n _ o (List.getElem?_eq_getElem hl) h⟩
/-- a list of the layer's heap that is no object of the module's -/
def D.own? (d : D) (S : Store) : Option (List D) := match d with
  | .p (.lst xs) => some (xs.map D.p)
  | .r n => match S.objs[n]? with
    | some (.lst xs) => some xs
    | _ => none
  | _ => none
theorem own?_rel {d : D} {ds : List D} {v : V} (rs : R G F ι S H) (h : d.own? S = some ds) (r : RelD G F ι H d v) : ∃ a vs, v = .ref a ∧ H a = some (.lst vs) ∧ RelDs G F ι H ds vs := by
  cases d with
  | p x =>
    cases x with
    | lst xs =>
      simp only [D.own?, Option.some.injEq] at h
      subst h
      simp only [RelD, RelP] at r
      obtain ⟨a, vs, e, _, q, r⟩ := r
      exact ⟨a, vs, e, q, relDs_map r⟩
    | _ => cases h
  | r n =>
    simp only [D.own?] at h
    split at h
    · rename_i xs e
      cases h
      simp only [RelD] at r
      obtain ⟨a, rfl, q⟩ := r
      obtain ⟨b, qb, ro⟩ := rs.obj e
      rw [q] at qb
      cases qb
      obtain ⟨vs, hv, rv⟩ := ro
      exact ⟨a, vs, rfl, hv, rv⟩
    · cases h
  | t xs => cases h
theorem own_lst {d : D} {ds : List D} (h : d.own? S = some ds) : d.lst? S = some ds := by
  cases d with
  | p x => cases x <;> first | exact h | cases h
  | r n => exact h
  | t xs => cases h
theorem lst?_rel {d : D} {ds : List D} {v : V} (rs : R G F ι S H) (h : d.lst? S = some ds) (r : RelD G F ι H d v) : ∃ a vs, v = .ref a ∧ SqL G.K H a vs ∧ RelDs G F ι H ds vs := by
  cases d with
  | p x =>
    cases x with
    | lst xs =>
      obtain ⟨a, vs, e, q, r⟩ := own?_rel (d := .p (.lst xs)) rs h r
      exact ⟨a, vs, e, SqL.of q, r⟩
    | scr xs =>
      simp only [D.lst?, Option.some.injEq] at h
      subst h
      simp only [RelD, RelP] at r
      obtain ⟨a, vs, e, q, r⟩ := r
      exact ⟨a, vs, e, q.sq, relDs_map r⟩
    | _ => cases h
  | r n =>
    obtain ⟨a, vs, e, q, r⟩ := own?_rel (d := .r n) rs h r
    exact ⟨a, vs, e, SqL.of q, r⟩
  | t xs => cases h
/-- a list or a tuple -/
def D.seq? (d : D) (S : Store) : Option (List D) := match d.tup? with
  | some xs => some xs
  | none => d.lst? S
theorem seq?_relH {d : D} {ds : List D} {v : V} (rs : R G F ι S H) (h : d.seq? S = some ds) (r : RelD G F ι H d v) : ∃ a vs, v = .ref a ∧ (SqL G.K H a vs ∨ H a = some (.tup vs)) ∧ RelDs G F ι H ds vs := by
  unfold D.seq? at h
  split at h
  · rename_i xs e
    cases h
    obtain ⟨a, vs, e, q, r⟩ := tup?_relH e r
    exact ⟨a, vs, e, .inr q, r⟩
  · obtain ⟨a, vs, e, q, r⟩ := lst?_rel rs h r
    exact ⟨a, vs, e, .inl q, r⟩
theorem seq?_rel {d : D} {ds : List D} {v : V} (rs : R G F ι S H) (h : d.seq? S = some ds) (r : RelD G F ι H d v) : ∃ a vs, v = .ref a ∧ (SqL G.K H a vs ∨ SqT G.K H a vs) ∧ RelDs G F ι H ds vs := by
  unfold D.seq? at h
  split at h
  · rename_i xs e
    cases h
    obtain ⟨a, vs, e, q, r⟩ := tup?_rel e r
    exact ⟨a, vs, e, .inr q, r⟩
  · obtain ⟨a, vs, e, q, r⟩ := lst?_rel rs h r
    exact ⟨a, vs, e, .inl q, r⟩

/-! ### new things -/
theorem keepW_new {p : Addr} {o : HO} (hp : H p = none) : KeepW F H (upd H p o) := fun a u e _ => by
  rw [upd_ne (ne_of_none e hp)]
  exact e
theorem keep_new {p : Addr} {o : HO} (hp : H p = none) : Keep F ι H (upd H p o) := fun a u e _ => by
  rw [upd_ne (ne_of_none e hp)]
  exact e
theorem RelDf.mono' {fs : List (Str × D)} {vs : List (Str × V)} (k : KeepW F H H') (s : ∀ a, F a → F' a) (p : ι <+: ι') (h : RelDf G F ι H fs vs) : RelDf G F' ι' H' fs vs := RelDf.mono k s p h
theorem RelO.mono {a : Addr} {o : O} (k : KeepW F H H') (s : ∀ a, F a → F' a) (p : ι <+: ι') (ha : H' a = H a) (h : RelO G F ι H a o) : RelO G F' ι' H' a o := by
  cases o with
  | lst ds =>
    obtain ⟨vs, e, r⟩ := h
    exact ⟨vs, ha.trans e, r.mono k s p⟩
  | ins c fs =>
    obtain ⟨C, dx, fvs, m, e, r⟩ := h
    exact ⟨C, dx, fvs, m, ha.trans e, r.mono k s p⟩
  | dct fs =>
    obtain ⟨fvs, e, r⟩ := h
    exact ⟨fvs, ha.trans e, r.mono k s p⟩
  | dit fs =>
    obtain ⟨fvs, e, r⟩ := h
    exact ⟨fvs, ha.trans e, r.mono k s p⟩
theorem R.ne (r : R G F ι S H) {p a : Addr} (hp : H p = none) (ha : a ∈ ι) : a ≠ p := fun z => by
  obtain ⟨u, hu⟩ := r.there ha
  rw [z, hp] at hu
  cases hu
theorem R.nF (r : R G F ι S H) {p : Addr} (hp : H p = none) : ¬ F p := fun z => by
  obtain ⟨u, hu, _⟩ := r.fz p z
  rw [hp] at hu
  cases hu
theorem old_upd {p : Addr} {o : HO} : ∀ x u, H x = some u → ∃ u', upd H p o x = some u' := fun x u e => by
  by_cases z : x = p
  · subst z
    exact ⟨_, upd_same⟩
  · exact ⟨u, by rw [upd_ne z]; exact e⟩
theorem tabs_new {T : List (Addr × Str)} {p : Addr} {o : HO} (hp : H p = none) (h : LamX.Tabs T H) : LamX.Tabs T (upd H p o) := h.ext fun b u e => by
  rw [upd_ne (ne_of_none e hp)]
  exact e
theorem tabs_put {T : List (Addr × Str)} {p : Addr} {u o : HO} (hu : H p = some u) (hm : isThing u = true) (h : LamX.Tabs T H) : LamX.Tabs T (upd H p o) := fun q hq => by
  obtain ⟨ps, h1, h2, h3⟩ := h q hq
  refine ⟨ps, ?_, h2, fun pos cv hc => ?_⟩
  · rw [upd_ne (fun z => by rw [z, hu] at h1; cases h1; cases hm)]
    exact h1
  · obtain ⟨c, e1, e2⟩ := h3 pos cv hc
    refine ⟨c, e1, ?_⟩
    rw [upd_ne (fun z => by rw [z, hu] at e2; cases e2; cases hm)]
    exact e2
theorem fz_upd (r : R G F ι S H) {p : Addr} {o : HO} (hF : ¬ F p) {a : Addr} (h : F a) : ∃ u, upd H p o a = some u ∧ isThing u = true := by
  obtain ⟨u, hu, hm⟩ := r.fz a h
  exact ⟨u, by rw [upd_ne (fun z => by subst z; exact hF h)]; exact hu, hm⟩
/-- a new object of the layer's heap, not of the store -/
theorem R.fresh {p : Addr} {o : HO} (r : R G F ι S H) (hp : H p = none) : R G F ι S (upd H p o) where
  len := r.len
  nd := r.nd
  nf := r.nf
  fz := fun a h => fz_upd r (r.nF hp) h
  tb := tabs_new hp r.tb
  ob := fun n a x e q => RelO.mono (keepW_new hp) (fun _ h => h) (List.prefix_refl _) (upd_ne (r.ne hp (List.mem_of_getElem? e))) (r.ob n a x e q)
theorem Nxt.fresh {p : Addr} {o : HO} (r : R G F ι S H) (hp : H p = none) : Nxt G F ι H F ι S (upd H p o) := ⟨fun _ h => h, keep_new hp, List.prefix_refl _, fun x a b => absurd a b, fun x a b => absurd a b, old_upd, r.fresh hp⟩
/-- a new object that is frozen at once -/
theorem Nxt.frz {p : Addr} {o : HO} (r : R G F ι S H) (hp : H p = none) (ho : isThing o = true := by rfl) : Nxt G F ι H (fun a => F a ∨ a = p) ι S (upd H p o) where
  sub := fun _ h => .inl h
  keep := keep_new hp
  pre := List.prefix_refl _
  nw := fun x a b => absurd a b
  nF := fun x a b => a.elim (fun z => absurd z b) fun z => by rw [z]; exact hp
  old := old_upd
  r :=
    { len := r.len
      nd := r.nd
      nf := fun a ha z => z.elim (r.nf a ha) fun e => r.ne hp ha e
      fz := fun a h => h.elim (fun h => fz_upd r (r.nF hp) h) fun h => ⟨o, by rw [h]; exact upd_same, ho⟩
      tb := tabs_new hp r.tb
      ob := fun n a x e q => RelO.mono (F' := fun a => F a ∨ a = p) (ι := ι) (keepW_new hp) (fun _ h => Or.inl h) (List.prefix_refl _) (upd_ne (r.ne hp (List.mem_of_getElem? e))) (r.ob n a x e q) }
/-- a new thing of the store -/
theorem Nxt.newO {p : Addr} {x : O} {u : HO} (r : R G F ι S H) (hp : H p = none) (hw : x.lo S.objs.length = true) (rd : RelO G F (ι ++ [p]) (upd H p u) p x) :
    Nxt G F ι H F (ι ++ [p]) (S.new x hw) (upd H p u) := by
  refine ⟨fun _ h => h, keep_new hp, List.prefix_append _ _, fun x a b => ?_, fun x a b => absurd a b, old_upd, ⟨by simp [Store.new, r.len], ?_, ?_, fun a h => fz_upd r (r.nF hp) h, tabs_new hp r.tb, ?_⟩⟩
  · have e : x = p := by simpa [b] using a
    rw [e]
    exact hp
  · rw [List.nodup_append]
    refine ⟨r.nd, by simp, fun a ha b hb => ?_⟩
    have e : b = p := by simpa using hb
    rw [e]
    exact r.ne hp ha
  · intro a ha
    rcases List.mem_append.mp ha with h | h
    · exact r.nf a h
    · have e : a = p := by simpa using h
      rw [e]
      exact r.nF hp
  · intro n a o e q
    by_cases hn : n < ι.length
    · rw [List.getElem?_append_left hn] at e
      have q' : S.objs[n]? = some o := by
        have hn' : n < S.objs.length := by rw [← r.len]; exact hn
        simpa [Store.new, List.getElem?_append_left hn'] using q
      exact RelO.mono (keepW_new hp) (fun _ h => h) (List.prefix_append _ _) (upd_ne (r.ne hp (List.mem_of_getElem? e))) (r.ob n a o e q')
    · have hn2 : n = ι.length := by
        have := (List.getElem?_eq_some_iff.mp e).1
        simp at this
        omega
      subst hn2
      simp at e
      subst e
      have q' : o = x := by
        have : (S.objs ++ [x])[ι.length]? = some o := q
        rw [r.len] at this
        simp at this
        exact this.symm
      subst q'
      exact rd
theorem Nxt.newL {p : Addr} {ds : List D} {vs : List V} (r : R G F ι S H) (hp : H p = none) (rd : RelDs G F ι H ds vs) (hw : (O.lst ds).lo S.objs.length = true) :
    Nxt G F ι H F (ι ++ [p]) (S.new (.lst ds) hw) (upd H p (.lst vs)) := Nxt.newO r hp hw ⟨vs, upd_same, rd.mono (keepW_new hp) (fun _ h => h) (List.prefix_append _ _)⟩
theorem keep_put {p : Addr} {u o : HO} (hF : ¬ F p) (hi : p ∈ ι) (hu : H p = some u) (hm : isImm u = false) : Keep F ι H (upd H p o) := fun a o e h => by
  by_cases z : a = p
  · subst z
    rcases h with h | h | h
    · exact absurd h hF
    · rw [hu] at e
      cases e
      rw [hm] at h
      cases h
    · exact absurd hi h.1
  · rw [upd_ne z]
    exact e
/-- a changed thing of the store -/
theorem Nxt.putO {n : Nat} {p : Addr} {x : O} {u u' : HO} (r : R G F ι S H) (hi : ι[n]? = some p) (hu : H p = some u) (hm : isThing u = true) (hw : x.lo S.objs.length = true) (rd : RelO G F ι (upd H p u') p x) :
    Nxt G F ι H F ι (S.put n x hw) (upd H p u') := by
  have hF : ¬ F p := r.nf p (List.mem_of_getElem? hi)
  have hmm : isImm u = false := by cases u <;> first | rfl | cases hm
  have k : Keep F ι H (upd H p u') := keep_put hF (List.mem_of_getElem? hi) hu hmm
  refine ⟨fun _ h => h, k, List.prefix_refl _, fun x a b => absurd a b, fun x a b => absurd a b, old_upd, ⟨by simp [Store.put, r.len], r.nd, r.nf, fun a h => fz_upd r hF h, tabs_put hu hm r.tb, fun m a o e q => ?_⟩⟩
  by_cases hm : m = n
  · subst hm
    rw [hi] at e
    cases e
    have hlt : m < S.objs.length := by
      rw [← r.len]
      exact (List.getElem?_eq_some_iff.mp hi).1
    have q' : o = x := by
      have : (S.objs.set m x)[m]? = some o := q
      rw [List.getElem?_set_self hlt] at this
      exact (Option.some.inj this).symm
    subst q'
    exact rd
  · have q' : S.objs[m]? = some o := by
      have : (S.objs.set n x)[m]? = some o := q
      rwa [List.getElem?_set_ne (Ne.symm hm)] at this
    refine RelO.mono k.w (fun _ h => h) (List.prefix_refl _) (upd_ne fun z => hm ?_) (r.ob m a o e q')
    subst z
    obtain ⟨h1, e1⟩ := List.getElem?_eq_some_iff.mp e
    obtain ⟨h2, e2⟩ := List.getElem?_eq_some_iff.mp hi
    exact (List.getElem_inj r.nd).mp (e1.trans e2.symm)
theorem Nxt.putL {n : Nat} {p : Addr} {es : List D} {us vs : List V} (r : R G F ι S H) (hi : ι[n]? = some p) (hu : H p = some (.lst us)) (rd : RelDs G F ι H es vs) (hw : (O.lst es).lo S.objs.length = true) :
    Nxt G F ι H F ι (S.put n (.lst es) hw) (upd H p (.lst vs)) :=
  Nxt.putO r hi hu rfl hw ⟨vs, upd_same, rd.mono (keep_put (r.nf p (List.mem_of_getElem? hi)) (List.mem_of_getElem? hi) hu rfl).w (fun _ h => h) (List.prefix_refl _)⟩
theorem rel_frzL {p : Addr} {ps : List P} {vs : List V} (hp : H p = none) (h : RelPs G F H ps vs) : RelD G (fun a => F a ∨ a = p) ι (upd H p (.lst vs)) (.p (.lst ps)) (.ref p) := by
  simp only [RelD, RelP]
  exact ⟨p, vs, rfl, .inr rfl, upd_same, h.mono (keepW_new hp) fun _ h => .inl h⟩
theorem rel_newT {p : Addr} {ds : List D} {vs : List V} (hp : H p = none) (h : RelDs G F ι H ds vs) : RelD G F ι (upd H p (.tup vs)) (mkTup ds) (.ref p) :=
  mkTup_rel upd_same (h.mono (keepW_new hp) (fun _ h => h) (List.prefix_refl _))
end
end DL
set_option maxHeartbeats 2000000
/-! DLExpr: expressions. -/
namespace DL
open PySem PySem.Spec PyProof.Rows L2
variable [HasT]

abbrev gb (X : Cx) : Gb := ⟨X.K, X.mg⟩
def lift {α : Type} (f : Store → Option (α × Store)) : M α := fun S => match f S with
  | some (a, S') => .ok a S'
  | none => .stuck
abbrev F2 := D → D → Store → Option (D × Store)
abbrev F1 := D → Store → Option (D × Store)
abbrev FL := List D → Store → Option (D × Store)

/-! ### what the runs are -/
def mC (x : P) : ME D := fun _ S => .ok (.p x) S
def mVar (i : Nat) : ME D := fun ρ S => match ρ[i]? with
  | some (some d) => .ok d S
  | _ => .stuck
def mOp2 (f : F2) (ma mb : ME D) : ME D := fun ρ S => (ma ρ S).bind fun x => fun S => (mb ρ S).bind fun y => lift (f x y)
def mOp1 (f : F1) (ma : ME D) : ME D := fun ρ S => (ma ρ S).bind fun x => lift (f x)
def asB : D → M Bool
  | .p (.bl b) => fun S => .ok b S
  | _ => fun _ => .stuck
def mTest (m : ME D) : ME Bool := fun ρ S => (m ρ S).bind asB
def mNil : ME (List D) := fun _ S => .ok [] S
def mCons (ma : ME D) (mr : ME (List D)) : ME (List D) := fun ρ S => (ma ρ S).bind fun x => fun S => (mr ρ S).bind fun xs => fun S => .ok (x :: xs) S
def mCallB (g : FL) (m : ME (List D)) : ME D := fun ρ S => (m ρ S).bind fun xs => lift (g xs)
def mAnd (ma mb : ME D) : ME D := fun ρ S => (ma ρ S).bind fun x => fun S => (asB x S).bind fun b => fun S => if b = true then mb ρ S else .ok (.p (.bl false)) S
def mOr (ma mb : ME D) : ME D := fun ρ S => (ma ρ S).bind fun x => fun S => (asB x S).bind fun b => fun S => if b = true then .ok (.p (.bl true)) S else mb ρ S
def mNot (ma : ME D) : ME D := fun ρ S => (ma ρ S).bind fun x => fun S => (asB x S).bind fun b => fun S => .ok (.p (.bl (!b))) S
def mIf (mt : ME Bool) (ma mb : ME D) : ME D := fun ρ S => (mt ρ S).bind fun b => fun S => if b = true then ma ρ S else mb ρ S
def mAndT (ma mb : ME Bool) : ME Bool := fun ρ S => (ma ρ S).bind fun b => fun S => if b = true then mb ρ S else .ok false S
def mOrT (ma mb : ME Bool) : ME Bool := fun ρ S => (ma ρ S).bind fun b => fun S => if b = true then .ok true S else mb ρ S
def mNotT (ma : ME Bool) : ME Bool := fun ρ S => (ma ρ S).bind fun b => fun S => .ok (!b) S
def mChain (f g : F2) (ma mb mc : ME D) : ME D := fun ρ S => (ma ρ S).bind fun x => fun S => (mb ρ S).bind fun y => fun S => (lift (f x y) S).bind fun z => fun S => (asB z S).bind fun b => fun S =>
  if b = true then (mc ρ S).bind fun u => lift (g y u) else .ok (.p (.bl false)) S

section
variable {X : Cx} {W : WX} {e a b c : Expr} {es : List Expr} {pos : Pos} {ma mb mc : ME D}

/-! ### constants, names -/
theorem T_c {G : Gb} {x : P} {v : V} (h : ∀ F H, RelP G F H x v) {σ : L2.St} {H : Hp} {Q : VK} (q : T G W (mC x) σ H Q) : Q v H := by
  obtain ⟨ρ, S, ι, F, a, t⟩ := q
  exact t.val a.r (by simp only [RelD]; exact h F H)
theorem de_int {i : Int} {j} : DE X W (.Constant (.int i) j pos) (mC (.int i)) := PE.imp pe_int fun σ H Q q => T_c (fun _ _ => by simp only [RelP]) q
theorem de_bl {b : Bool} {j} : DE X W (.Constant (.bool b) j pos) (mC (.bl b)) := PE.imp pe_bl fun σ H Q q => T_c (fun _ _ => by simp only [RelP]) q
theorem de_non {j} : DE X W (.Constant .none j pos) (mC .non) := PE.imp pe_non fun σ H Q q => T_c (fun _ _ => by simp only [RelP]) q
theorem de_str {s : Str} {j} : DE X W (.Constant (.str s) j pos) (mC (.str s)) := PE.imp pe_str fun σ H Q q => T_c (fun _ _ => by simp only [RelP]) q
theorem de_var (i : Nat) {x : Str} (hN : X.N[i]? = some x := by rfl) (hv : Vis X.env.scope x := by first | exact Or.inl rfl | exact Or.inr (Or.inl rfl) | exact Or.inr (Or.inr rfl)) (hd : (x == ("__debug__" : Str)) = false := by decide)
    (hcd : (x == ("__classdict__" : Str)) = false := by decide) : DE X W (.Name x pos) (mVar i) := PE.imp (pe_var hN hv hd hcd) fun σ H Q q => by
  obtain ⟨ρ, S, ι, F, at', t⟩ := q
  unfold mVar at t
  split at t
  · rename_i d e
    obtain ⟨v, ev, r⟩ := at'.e.get e
    exact ⟨v, ev, t.val at'.r r⟩
  · exact t.elim
/-- a module's constant -/
theorem de_glob {x : Str} {v : V} {u : Value} {p : P} (hg : Gl X x) (hm : X.mg x = some u) (r : RelV v u) (hp : ∀ F H, RelP (gb X) F H p v) (hd : (x == ("__debug__" : Str)) = false := by decide) : DE X W (.Name x pos) (mC p) :=
  PE.imp (pe_glob hg hm r hd) fun σ H Q q => T_c (fun F H => hp F H) q
theorem de_gint {x : Str} {i : Int} (hm : ∃ t, X.mg x = some (.int i t)) (hg : Gl X x := by rfl) (hd : (x == ("__debug__" : Str)) = false := by decide) : DE X W (.Name x pos) (mC (.int i)) := by
  obtain ⟨t, hm⟩ := hm
  exact de_glob (v := .int i) hg hm ⟨t, rfl⟩ (fun _ _ => by simp only [RelP]) hd
theorem de_gstr {x : Str} {s : Str} (hm : ∃ t, X.mg x = some (.str s t)) (hg : Gl X x := by rfl) (hd : (x == ("__debug__" : Str)) = false := by decide) : DE X W (.Name x pos) (mC (.str s)) := by
  obtain ⟨t, hm⟩ := hm
  exact de_glob (v := .str s) hg hm ⟨t, rfl⟩ (fun _ _ => by simp only [RelP]) hd

/-! ### operators -/
def OpD (X : Cx) (g : Value → Value → Sem Value) (f : F2) : Prop :=
  ∃ r : R2, OpR X g r ∧ ∀ {F : Addr → Prop} {ι : List Addr} {S S' : Store} {H : Hp} {d1 d2 d' : D} {v1 v2 : V} {Q : VK}, R (gb X) F ι S H → RelD (gb X) F ι H d1 v1 → RelD (gb X) F ι H d2 v2 → f d1 d2 S = some (d', S') →
    (∀ F' ι' H' v, Nxt (gb X) F ι H F' ι' S' H' → RelD (gb X) F' ι' H' d' v → Q v H') → r v1 v2 H Q
theorem OpD.or {g : Value → Value → Sem Value} {f f' : F2} (h : OpD X g f) (h' : OpD X g f') : OpD X g (fun x y S => match f x y S with
    | some z => some z
    | none => f' x y S) := by
  obtain ⟨r, o, k⟩ := h
  obtain ⟨r', o', k'⟩ := h'
  refine ⟨_, o.or o', fun {F ι S S' H d1 d2 d' v1 v2 Q} rs r1 r2 e q => ?_⟩
  dsimp only at e
  split at e
  · rename_i z ez
    cases e
    exact .inl (k rs r1 r2 ez q)
  · exact .inr (k' rs r1 r2 e q)
theorem OpD.imp {g : Value → Value → Sem Value} {f f' : F2} (h : OpD X g f) (i : ∀ x y S z, f' x y S = some z → f x y S = some z) : OpD X g f' := by
  obtain ⟨r, o, k⟩ := h
  exact ⟨r, o, fun rs r1 r2 e q => k rs r1 r2 (i _ _ _ _ e) q⟩
theorem lift_then {G : Gb} {W : Value → Option Addr → Hp → Prop} {F : Addr → Prop} {ι : List Addr} {H : Hp} {α : Type} {f : Store → Option (α × Store)} {S : Store} {Q : α → Store → (Addr → Prop) → List Addr → Hp → Prop}
    (h : Then G W F ι H (lift f S) Q) : ∃ a S', f S = some (a, S') ∧ ∀ F' ι' H', Nxt G F ι H F' ι' S' H' → Q a S' F' ι' H' := by
  unfold lift at h
  split at h
  · rename_i a S' e
    exact ⟨a, S', e, h⟩
  · exact h.elim
theorem op2_imp {f : F2} {r : R2} (k : ∀ {F : Addr → Prop} {ι : List Addr} {S S' : Store} {H : Hp} {d1 d2 d' : D} {v1 v2 : V} {Q : VK}, R (gb X) F ι S H → RelD (gb X) F ι H d1 v1 → RelD (gb X) F ι H d2 v2 → f d1 d2 S = some (d', S') →
    (∀ F' ι' H' v, Nxt (gb X) F ι H F' ι' S' H' → RelD (gb X) F' ι' H' d' v → Q v H') → r v1 v2 H Q) (σ : L2.St) (H : Hp) (Q : VK) (q : T (gb X) W (mOp2 f ma mb) σ H Q) : tOp r (T (gb X) W ma) (T (gb X) W mb) σ H Q := by
  obtain ⟨ρ, S, ι, F, at', t⟩ := q
  refine T.first at' t fun d1 S1 F1 ι1 H1 v1 n1 a1 r1 t1 => ?_
  refine T.first a1 t1 fun d2 S2 F2 ι2 H2 v2 n2 a2 r2 t2 => ?_
  obtain ⟨d', S', e, q⟩ := lift_then t2
  exact k a2.r (n2.d r1) r2 e fun F' ι' H' v n r => q F' ι' H' n v r
theorem de_op2 {op : Operator} {f : F2} (ho : OpD X (binaryOp op) f) (ha : DE X W a ma) (hb : DE X W b mb) : DE X W (.BinOp a op b pos) (mOp2 f ma mb) := by
  obtain ⟨r, o, k⟩ := ho
  exact PE.imp (pe_op o ha hb) (op2_imp k)
theorem de_cmp {op : CmpOp} {f : F2} (ho : OpD X (compareOp op) f) (ha : DE X W a ma) (hb : DE X W b mb) (hm : behindInMarks op b = false) : DE X W (.Compare a [op] [b] pos) (mOp2 f ma mb) := by
  obtain ⟨r, o, k⟩ := ho
  exact PE.imp (pe_cmpR o ha hb hm) (op2_imp k)
theorem asB_then {G : Gb} {W : Value → Option Addr → Hp → Prop} {F : Addr → Prop} {ι : List Addr} {H : Hp} {α : Type} {d : D} {S : Store} {k : Bool → M α} {v : V} {Q : α → Store → (Addr → Prop) → List Addr → Hp → Prop}
    (h : Then G W F ι H ((asB d S).bind k) Q) (r : RelD G F ι H d v) : ∃ b, v = .bl b ∧ Then G W F ι H (k b S) Q := by
  unfold asB at h
  split at h
  · rename_i b
    simp only [RelD, RelP] at r
    exact ⟨b, r, h⟩
  · exact h.elim
theorem asB_then' {G : Gb} {W : Value → Option Addr → Hp → Prop} {F : Addr → Prop} {ι : List Addr} {H : Hp} {d : D} {S : Store} {v : V} {Q : Bool → Store → (Addr → Prop) → List Addr → Hp → Prop}
    (h : Then G W F ι H (asB d S) Q) (r : RelD G F ι H d v) (rs : R G F ι S H) : ∃ b, v = .bl b ∧ Q b S F ι H := by
  unfold asB at h
  split at h
  · rename_i b
    simp only [RelD, RelP] at r
    exact ⟨b, r, h.now rs⟩
  · exact h.elim
theorem test_imp {σ : L2.St} {H : Hp} {Q : Bool → Hp → Prop} (q : TB (gb X) W (mTest ma) σ H Q) : tTest (T (gb X) W ma) σ H Q := by
  obtain ⟨ρ, S, ι, F, at', t⟩ := q
  refine T.first at' t fun d1 S1 F1 ι1 H1 v1 n1 a1 r1 t1 => ?_
  exact asB_then' t1 r1 a1.r
theorem dt_cmp {op : CmpOp} {f : F2} (ho : OpD X (compareOp op) f) (ha : DE X W a ma) (hb : DE X W b mb) (hm : behindInMarks op b = false) : DT X W (.Compare a [op] [b] pos) (mTest (mOp2 f ma mb)) := by
  obtain ⟨r, o, k⟩ := ho
  refine PT.imp (pt_cmpR o ha hb hm) fun σ H Q q => ?_
  obtain ⟨ρ, S, ι, F, at', t⟩ := q
  exact op2_imp k σ H _ ⟨ρ, S, ι, F, at', t.bind.mono fun d S1 F1 ι1 H1 n t1 v r1 => asB_then' t1 r1 n.r⟩
theorem dt_val (h : DE X W e ma) (he : ∀ whole, isTrue e X.env whole = (do let v ← whole; standAt e.pos; holding [v] (truthy v)) := by intro _; rfl) : DT X W e (mTest ma) := PT.imp (pt_val h he) fun σ H Q q => by
  obtain ⟨ρ, S, ι, F, at', t⟩ := q
  refine T.first at' t fun d1 S1 F1 ι1 H1 v1 n1 a1 r1 t1 => ?_
  exact asB_then' t1 r1 a1.r
/-- a chain of two comparisons -/
theorem chain_imp {f g : F2} {r r' : R2} (k : ∀ {F : Addr → Prop} {ι : List Addr} {S S' : Store} {H : Hp} {d1 d2 d' : D} {v1 v2 : V} {Q : VK}, R (gb X) F ι S H → RelD (gb X) F ι H d1 v1 → RelD (gb X) F ι H d2 v2 → f d1 d2 S = some (d', S') →
    (∀ F' ι' H' v, Nxt (gb X) F ι H F' ι' S' H' → RelD (gb X) F' ι' H' d' v → Q v H') → r v1 v2 H Q) (k' : ∀ {F : Addr → Prop} {ι : List Addr} {S S' : Store} {H : Hp} {d1 d2 d' : D} {v1 v2 : V} {Q : VK}, R (gb X) F ι S H → RelD (gb X) F ι H d1 v1 → RelD (gb X) F ι H d2 v2 → g d1 d2 S = some (d', S') →
    (∀ F' ι' H' v, Nxt (gb X) F ι H F' ι' S' H' → RelD (gb X) F' ι' H' d' v → Q v H') → r' v1 v2 H Q) (σ : L2.St) (H : Hp) (Q : VK) (q : T (gb X) W (mChain f g ma mb mc) σ H Q) : tChain r r' (T (gb X) W ma) (T (gb X) W mb) (T (gb X) W mc) σ H Q := by
  obtain ⟨ρ, S, ι, F, at', t⟩ := q
  refine T.first at' t fun d1 S1 F1 ι1 H1 v1 n1 a1 r1 t1 => ?_
  refine T.first a1 t1 fun d2 S2 F2 ι2 H2 v2 n2 a2 r2 t2 => ?_
  obtain ⟨z, S3, e3, q3⟩ := lift_then t2.bind
  refine k a2.r (n2.d r1) r2 e3 fun F3 ι3 H3 v3 n3 r3 => ?_
  obtain ⟨c, rfl, t4⟩ := asB_then (q3 F3 ι3 H3 n3) r3
  refine ⟨c, rfl, ?_⟩
  have a3 := a2.next n3
  cases c with
  | true =>
    rw [if_pos rfl] at t4 ⊢
    refine T.first a3 t4 fun d4 S4 F4 ι4 H4 v4 n4 a4 r4 t4 => ?_
    obtain ⟨d5, S5, e5, q5⟩ := lift_then t4
    exact k' a4.r (n4.d (n3.d r2)) r4 e5 fun F' ι' H' v n r => q5 F' ι' H' n v r
  | false =>
    rw [if_neg (by decide)] at t4 ⊢
    exact t4.val a3.r (by simp only [RelD, RelP])
theorem de_chain {op op' : CmpOp} {f g : F2} (ho : OpD X (compareOp op) f) (ho' : OpD X (compareOp op') g) (ha : DE X W a ma) (hb : DE X W b mb) (hc : DE X W c mc)
    (h : ∀ r r', OpR X (compareOp op) r → OpR X (compareOp op') r' → PE X (.Compare a [op, op'] [b, c] pos) (tChain r r' (T (gb X) W ma) (T (gb X) W mb) (T (gb X) W mc))) : DE X W (.Compare a [op, op'] [b, c] pos) (mChain f g ma mb mc) := by
  obtain ⟨r, o, k⟩ := ho
  obtain ⟨r', o', k'⟩ := ho'
  exact PE.imp (h r r' o o') (chain_imp k k')
theorem dt_chain {op op' : CmpOp} {f g : F2} (ho : OpD X (compareOp op) f) (ho' : OpD X (compareOp op') g) (ha : DE X W a ma) (hb : DE X W b mb) (hc : DE X W c mc)
    (h : ∀ r r', OpR X (compareOp op) r → OpR X (compareOp op') r' → PT X (.Compare a [op, op'] [b, c] pos) (tTest (tChain r r' (T (gb X) W ma) (T (gb X) W mb) (T (gb X) W mc)))) : DT X W (.Compare a [op, op'] [b, c] pos) (mTest (mChain f g ma mb mc)) := by
  obtain ⟨r, o, k⟩ := ho
  obtain ⟨r', o', k'⟩ := ho'
  refine PT.imp (h r r' o o') fun σ H Q q => ?_
  obtain ⟨ρ, S, ι, F, at', t⟩ := q
  exact chain_imp k k' σ H _ ⟨ρ, S, ι, F, at', t.bind.mono fun d S1 F1 ι1 H1 n t1 v r1 => asB_then' t1 r1 n.r⟩

/-! ### one operand -/
def UnD (X : Cx) (g : Value → Sem Value) (f : F1) : Prop :=
  ∃ r : V → Hp → VK → Prop, UnR X g r ∧ ∀ {F : Addr → Prop} {ι : List Addr} {S S' : Store} {H : Hp} {d d' : D} {v : V} {Q : VK}, R (gb X) F ι S H → RelD (gb X) F ι H d v → f d S = some (d', S') →
    (∀ F' ι' H' v, Nxt (gb X) F ι H F' ι' S' H' → RelD (gb X) F' ι' H' d' v → Q v H') → r v H Q
theorem de_un {op : UnaryOp} {f : F1} (ho : UnD X (unaryOp op) f) (ha : DE X W a ma) : DE X W (.UnaryOp op a pos) (mOp1 f ma) := by
  obtain ⟨r, o, k⟩ := ho
  refine PE.imp (pe_un o ha) fun σ H Q q => ?_
  obtain ⟨ρ, S, ι, F, at', t⟩ := q
  refine T.first at' t fun d1 S1 F1 ι1 H1 v1 n1 a1 r1 t1 => ?_
  obtain ⟨d', S', e, q⟩ := lift_then t1
  exact k a1.r r1 e fun F' ι' H' v n r => q F' ι' H' n v r

/-! ### and, or, not, if -/
theorem de_one {op} (h : DE X W a ma) : DE X W (.BoolOp op [a] pos) ma := pe_one h
theorem de_and {rest : List Expr} (ha : DE X W a ma) (hb : DE X W (.BoolOp .And (b :: rest) pos) mb) : DE X W (.BoolOp .And (a :: b :: rest) pos) (mAnd ma mb) := PE.imp (pe_and ha hb) fun σ H Q q => by
  obtain ⟨ρ, S, ι, F, at', t⟩ := q
  refine T.first at' t fun d1 S1 F1 ι1 H1 v1 n1 a1 r1 t1 => ?_
  obtain ⟨c, rfl, t2⟩ := asB_then t1 r1
  refine ⟨c, rfl, ?_⟩
  cases c with
  | true =>
    rw [if_pos rfl] at t2 ⊢
    exact ⟨ρ, S1, ι1, F1, a1, t2⟩
  | false =>
    rw [if_neg (by decide)] at t2 ⊢
    exact t2.val a1.r (by simp only [RelD, RelP])
theorem de_or {rest : List Expr} (ha : DE X W a ma) (hb : DE X W (.BoolOp .Or (b :: rest) pos) mb) : DE X W (.BoolOp .Or (a :: b :: rest) pos) (mOr ma mb) := PE.imp (pe_or ha hb) fun σ H Q q => by
  obtain ⟨ρ, S, ι, F, at', t⟩ := q
  refine T.first at' t fun d1 S1 F1 ι1 H1 v1 n1 a1 r1 t1 => ?_
  obtain ⟨c, rfl, t2⟩ := asB_then t1 r1
  refine ⟨c, rfl, ?_⟩
  cases c with
  | true =>
    rw [if_pos rfl] at t2 ⊢
    exact t2.val a1.r (by simp only [RelD, RelP])
  | false =>
    rw [if_neg (by decide)] at t2 ⊢
    exact ⟨ρ, S1, ι1, F1, a1, t2⟩
theorem de_not (ha : DE X W a ma) : DE X W (.UnaryOp .Not a pos) (mNot ma) := PE.imp (pe_not ha) fun σ H Q q => by
  obtain ⟨ρ, S, ι, F, at', t⟩ := q
  refine T.first at' t fun d1 S1 F1 ι1 H1 v1 n1 a1 r1 t1 => ?_
  obtain ⟨c, rfl, t2⟩ := asB_then t1 r1
  exact ⟨c, rfl, t2.val a1.r (by simp only [RelD, RelP])⟩
theorem de_if {mt : ME Bool} (hc : DT X W c mt) (ha : DE X W a ma) (hb : DE X W b mb) : DE X W (.IfExp c a b pos) (mIf mt ma mb) := PE.imp (pe_ifExp hc ha hb) fun σ H Q q => by
  obtain ⟨ρ, S, ι, F, at', t⟩ := q
  refine TB.first at' t fun c S1 F1 ι1 H1 n1 a1 t1 => ?_
  cases c with
  | true =>
    rw [if_pos rfl] at t1 ⊢
    exact ⟨ρ, S1, ι1, F1, a1, t1⟩
  | false =>
    rw [if_neg (by decide)] at t1 ⊢
    exact ⟨ρ, S1, ι1, F1, a1, t1⟩
abbrev DW (X : Cx) (W : WX) (e : Expr) (m : ME Bool) : Prop := PW X e (TB (gb X) W m)
variable {mt mu : ME Bool}
theorem dw_and1 (ha : DT X W a mt) : DW X W (.BoolOp .And [a] pos) mt := pw_and1 ha
theorem dw_or1 (ha : DT X W a mt) : DW X W (.BoolOp .Or [a] pos) mt := pw_or1 ha
theorem dw_and {rest : List Expr} (ha : DT X W a mt) (hb : DW X W (.BoolOp .And (b :: rest) pos) mu) : DW X W (.BoolOp .And (a :: b :: rest) pos) (mAndT mt mu) := PW.imp (pw_and ha hb) fun σ H Q q => by
  obtain ⟨ρ, S, ι, F, at', t⟩ := q
  refine TB.first at' t fun c S1 F1 ι1 H1 n1 a1 t1 => ?_
  cases c with
  | true =>
    rw [if_pos rfl] at t1 ⊢
    exact ⟨ρ, S1, ι1, F1, a1, t1⟩
  | false =>
    rw [if_neg (by decide)] at t1 ⊢
    exact t1.now a1.r
theorem dw_or {rest : List Expr} (ha : DT X W a mt) (hb : DW X W (.BoolOp .Or (b :: rest) pos) mu) : DW X W (.BoolOp .Or (a :: b :: rest) pos) (mOrT mt mu) := PW.imp (pw_or ha hb) fun σ H Q q => by
  obtain ⟨ρ, S, ι, F, at', t⟩ := q
  refine TB.first at' t fun c S1 F1 ι1 H1 n1 a1 t1 => ?_
  cases c with
  | true =>
    rw [if_pos rfl] at t1 ⊢
    exact t1.now a1.r
  | false =>
    rw [if_neg (by decide)] at t1 ⊢
    exact ⟨ρ, S1, ι1, F1, a1, t1⟩
theorem dt_bool (h : DW X W e mt) : DT X W e mt := PW.pt h
theorem dt_not (ha : DT X W a mt) : DT X W (.UnaryOp .Not a pos) (mNotT mt) := PT.imp (pt_not ha) fun σ H Q q => by
  obtain ⟨ρ, S, ι, F, at', t⟩ := q
  refine TB.first at' t fun c S1 F1 ι1 H1 n1 a1 t1 => ?_
  exact t1.now a1.r

/-! ### arguments, built-in calls -/
theorem da_nil : DA X W [] mNil := PA.imp pa_nil fun σ H Q q => by
  obtain ⟨ρ, S, ι, F, at', t⟩ := q
  exact t.now at'.r [] relDs_nil'
variable {mr : ME (List D)}
theorem da_cons (ha : DE X W e ma) (hr : DA X W es mr) (hs : starEach (e :: es) X.env = (false, eval e X.env) :: starEach es X.env := by rfl) : DA X W (e :: es) (mCons ma mr) := PA.imp (pa_cons ha hr hs) fun σ H Q q => by
  obtain ⟨ρ, S, ι, F, at', t⟩ := q
  refine T.first at' t fun d1 S1 F1 ι1 H1 v1 n1 a1 r1 t1 => ?_
  refine TL.first a1 t1 fun ds S2 F2 ι2 H2 vs n2 a2 r2 t2 => ?_
  exact t2.now a2.r _ (relDs_cons.mpr ⟨n2.d r1, r2⟩)
def CallD (X : Cx) (f : Value) (g : FL) : Prop :=
  ∃ r : List V → Hp → VK → Prop, CallR X f r ∧ ∀ {F : Addr → Prop} {ι : List Addr} {S S' : Store} {H : Hp} {ds : List D} {d' : D} {vs : List V} {Q : VK}, R (gb X) F ι S H → RelDs (gb X) F ι H ds vs → g ds S = some (d', S') →
    (∀ F' ι' H' v, Nxt (gb X) F ι H F' ι' S' H' → RelD (gb X) F' ι' H' d' v → Q v H') → r vs H Q
theorem CallD.or {f : Value} {g g' : FL} (h : CallD X f g) (h' : CallD X f g') : CallD X f (fun x S => match g x S with
    | some z => some z
    | none => g' x S) := by
  obtain ⟨r, o, k⟩ := h
  obtain ⟨r', o', k'⟩ := h'
  refine ⟨_, o.or o', fun {F ι S S' H ds d' vs Q} rs r1 e q => ?_⟩
  dsimp only at e
  split at e
  · rename_i z ez
    cases e
    exact .inl (k rs r1 ez q)
  · exact .inr (k' rs r1 e q)
theorem CallD.imp {f : Value} {g g' : FL} (h : CallD X f g) (i : ∀ x S z, g' x S = some z → g x S = some z) : CallD X f g' := by
  obtain ⟨r, o, k⟩ := h
  exact ⟨r, o, fun rs r1 e q => k rs r1 (i _ _ _ e) q⟩
theorem callB_imp {g : FL} {r : List V → Hp → VK → Prop} (k : ∀ {F : Addr → Prop} {ι : List Addr} {S S' : Store} {H : Hp} {ds : List D} {d' : D} {vs : List V} {Q : VK}, R (gb X) F ι S H → RelDs (gb X) F ι H ds vs → g ds S = some (d', S') →
    (∀ F' ι' H' v, Nxt (gb X) F ι H F' ι' S' H' → RelD (gb X) F' ι' H' d' v → Q v H') → r vs H Q) (σ : L2.St) (H : Hp) (Q : VK) (q : T (gb X) W (mCallB g mr) σ H Q) : tCB r (TL (gb X) W mr) σ H Q := by
  obtain ⟨ρ, S, ι, F, at', t⟩ := q
  refine TL.first at' t fun ds S1 F1 ι1 H1 vs n1 a1 r1 t1 => ?_
  obtain ⟨d', S', e, q⟩ := lift_then t1
  exact k a1.r r1 e fun F' ι' H' v n r => q F' ι' H' n v r
theorem de_callB {x : Str} {id : String} {g : FL} {p : Pos} (hc : CallD X (.builtin id) g) (hm : X.mg x = none) (hv : bootBuiltins x = some (.builtin id)) (ha : DA X W (e :: es) mr) (hg : Gl X x := by rfl) (hn : x ≠ "__name__" := by decide) (hdb : (x == ("__debug__" : Str)) = false := by decide)
    (he : starEach (e :: es) X.env = (false, eval e X.env) :: starEach es X.env := by rfl) (hpl : (backTo pos (starEach es X.env)).any (·.1) = false := by rfl) : DE X W (.Call (.Name x p) (e :: es) [] pos) (mCallB g mr) := by
  obtain ⟨r, o, k⟩ := hc
  exact PE.imp (pe_callB o hg hm hv ha hn hdb he hpl) (callB_imp k)
theorem de_callTy {x : Str} {T : String} {g : FL} {p : Pos} (hc : CallD X (.type T) g) (hm : X.mg x = none) (hv : bootBuiltins x = some (.type T)) (ha : DA X W (e :: es) mr) (hg : Gl X x := by rfl) (hn : x ≠ "__name__" := by decide) (hdb : (x == ("__debug__" : Str)) = false := by decide)
    (he : starEach (e :: es) X.env = (false, eval e X.env) :: starEach es X.env := by rfl) (hpl : (backTo pos (starEach es X.env)).any (·.1) = false := by rfl) : DE X W (.Call (.Name x p) (e :: es) [] pos) (mCallB g mr) := by
  obtain ⟨r, o, k⟩ := hc
  exact PE.imp (pe_callTy o hg hm hv ha hn hdb he hpl) (callB_imp k)

/-! ### displays -/
def fTup : FL := fun ds S => if ds.length ≤ 100000 then some (mkTup ds, S) else none
def fLstF : FL := fun ds S => if ds.length ≤ 100000 then (match pures ds with
  | some ps => some (.p (.lst ps), S)
  | none => none) else none
def fLst : FL := fun ds S => if ds.length ≤ 100000 then (if h : (O.lst ds).lo S.objs.length = true then some (.r S.objs.length, S.new (.lst ds) h) else none) else none
theorem szOk {n : Nat} (h : n ≤ 100000) : n ≤ sizeLine := Nat.le_trans h (by rw [sizeLine_eq]; decide)
/-- what makes a new frozen list | a new list of the store -/
theorem fLstF_new {F : Addr → Prop} {ι : List Addr} {S S' : Store} {H : Hp} {ds : List D} {d' : D} {vs : List V} {Q : VK} (rs : R (gb X) F ι S H) (r : RelDs (gb X) F ι H ds vs) (e : fLstF ds S = some (d', S'))
    (q : ∀ F' ι' H' v, Nxt (gb X) F ι H F' ι' S' H' → RelD (gb X) F' ι' H' d' v → Q v H') : vs.length ≤ sizeLine ∧ ∀ p, H p = none → Q (.ref p) (upd H p (.lst vs)) := by
  unfold fLstF at e
  split at e
  · rename_i hl
    split at e
    · rename_i ps ep
      cases e
      exact ⟨by rw [← relDs_len r]; exact szOk hl, fun p hp => q _ _ _ _ (Nxt.frz rs hp) (rel_frzL hp (pures_rel ep r))⟩
    · cases e
  · cases e
theorem fLst_new {F : Addr → Prop} {ι : List Addr} {S S' : Store} {H : Hp} {ds : List D} {d' : D} {vs : List V} {Q : VK} (rs : R (gb X) F ι S H) (r : RelDs (gb X) F ι H ds vs) (e : fLst ds S = some (d', S'))
    (q : ∀ F' ι' H' v, Nxt (gb X) F ι H F' ι' S' H' → RelD (gb X) F' ι' H' d' v → Q v H') : vs.length ≤ sizeLine ∧ ∀ p, H p = none → Q (.ref p) (upd H p (.lst vs)) := by
  unfold fLst at e
  split at e
  · rename_i hl
    split at e
    · rename_i hw
      cases e
      refine ⟨by rw [← relDs_len r]; exact szOk hl, fun p hp => q _ _ _ _ (Nxt.newL rs hp r hw) ?_⟩
      simp only [RelD]
      exact ⟨p, rfl, by rw [← rs.len]; simp⟩
    · cases e
  · cases e
theorem fTup_new {F : Addr → Prop} {ι : List Addr} {S S' : Store} {H : Hp} {ds : List D} {d' : D} {vs : List V} {Q : VK} (rs : R (gb X) F ι S H) (r : RelDs (gb X) F ι H ds vs) (e : fTup ds S = some (d', S'))
    (q : ∀ F' ι' H' v, Nxt (gb X) F ι H F' ι' S' H' → RelD (gb X) F' ι' H' d' v → Q v H') : vs.length ≤ sizeLine ∧ ∀ p, H p = none → Q (.ref p) (upd H p (.tup vs)) := by
  unfold fTup at e
  split at e
  · rename_i hl
    cases e
    exact ⟨by rw [← relDs_len r]; exact szOk hl, fun p hp => q _ _ _ _ (Nxt.fresh rs hp) (rel_newT hp r)⟩
  · cases e
theorem de_tup {x1} (h : DA X W es mr) : DE X W (.Tuple es x1 pos) (mCallB fTup mr) := PE.imp (pe_tup h) fun σ H Q q => by
  obtain ⟨ρ, S, ι, F, at', t⟩ := q
  refine TL.first at' t fun ds S1 F1 ι1 H1 vs n1 a1 r1 t1 => ?_
  obtain ⟨d', S', e, q⟩ := lift_then t1
  exact fTup_new a1.r r1 e fun F' ι' H' v n r => q F' ι' H' n v r
theorem de_lstF (h : DA X W es mr) : DE X W (.List es pos) (mCallB fLstF mr) := PE.imp (pe_lst h) fun σ H Q q => by
  obtain ⟨ρ, S, ι, F, at', t⟩ := q
  refine TL.first at' t fun ds S1 F1 ι1 H1 vs n1 a1 r1 t1 => ?_
  obtain ⟨d', S', e, q⟩ := lift_then t1
  exact fLstF_new a1.r r1 e fun F' ι' H' v n r => q F' ι' H' n v r
theorem de_lst (h : DA X W es mr) : DE X W (.List es pos) (mCallB fLst mr) := PE.imp (pe_lst h) fun σ H Q q => by
  obtain ⟨ρ, S, ι, F, at', t⟩ := q
  refine TL.first at' t fun ds S1 F1 ι1 H1 vs n1 a1 r1 t1 => ?_
  obtain ⟨d', S', e, q⟩ := lift_then t1
  exact fLst_new a1.r r1 e fun F' ι' H' v n r => q F' ι' H' n v r
end
end DL
set_option maxHeartbeats 2000000
/-! DLStmt: statements, what is walked, comprehensions. -/
namespace DL
open PySem PySem.Spec PyProof.Rows L2
variable [HasT]

/-! ### the same value, by a look -/
mutual
def P.beq : P → P → Bool
  | .non, .non => true
  | .bl a, .bl b => a == b
  | .int a, .int b => a == b
  | .str a, .str b => a == b
  | .tup a, .tup b => P.beqs a b
  | .lst a, .lst b => P.beqs a b
  | .scr a, .scr b => P.beqs a b
  | .ins c a, .ins d b => c == d && P.beqf a b
  | .dic a, .dic b => P.beqk a b
  | .dit a, .dit b => P.beqt a b
  | .glo a, .glo b => a == b
  | .ty a, .ty b => a == b
  | _, _ => false
termination_by structural x => x
def P.beqs : List P → List P → Bool
  | [], [] => true
  | a :: x, b :: y => P.beq a b && P.beqs x y
  | _, _ => false
termination_by structural x => x
def P.beqf : List (Str × P) → List (Str × P) → Bool
  | [], [] => true
  | (f, a) :: x, (g, b) :: y => f == g && P.beq a b && P.beqf x y
  | _, _ => false
termination_by structural x => x
def P.beqk : List (Key × P) → List (Key × P) → Bool
  | [], [] => true
  | (f, a) :: x, (g, b) :: y => decide (f = g) && P.beq a b && P.beqk x y
  | _, _ => false
termination_by structural x => x
def P.beqt : List (List Key × P) → List (List Key × P) → Bool
  | [], [] => true
  | (f, a) :: x, (g, b) :: y => decide (f = g) && P.beq a b && P.beqt x y
  | _, _ => false
termination_by structural x => x
end
mutual
theorem P.beq_eq : ∀ {a b : P}, P.beq a b = true → a = b
  | .non, b, h => by cases b <;> simp_all [P.beq]
  | .bl a, b, h => by cases b <;> simp_all [P.beq]
  | .int a, b, h => by cases b <;> simp_all [P.beq]
  | .str a, b, h => by cases b <;> simp_all [P.beq]
  | .glo a, b, h => by cases b <;> simp_all [P.beq]
  | .ty a, b, h => by cases b <;> simp_all [P.beq]
  | .tup a, b, h => by
    cases b <;> simp only [P.beq, Bool.false_eq_true] at h
    rw [P.beqs_eq h]
  | .lst a, b, h => by
    cases b <;> simp only [P.beq, Bool.false_eq_true] at h
    rw [P.beqs_eq h]
  | .scr a, b, h => by
    cases b <;> simp only [P.beq, Bool.false_eq_true] at h
    rw [P.beqs_eq h]
  | .ins c a, b, h => by
    cases b <;> simp only [P.beq, Bool.false_eq_true, Bool.and_eq_true, beq_iff_eq] at h
    rw [h.1, P.beqf_eq h.2]
  | .dic a, b, h => by
    cases b <;> simp only [P.beq, Bool.false_eq_true] at h
    rw [P.beqk_eq h]
  | .dit a, b, h => by
    cases b <;> simp only [P.beq, Bool.false_eq_true] at h
    rw [P.beqt_eq h]
theorem P.beqs_eq : ∀ {a b : List P}, P.beqs a b = true → a = b
  | [], [], _ => rfl
  | [], _ :: _, h => by simp [P.beqs] at h
  | _ :: _, [], h => by simp [P.beqs] at h
  | a :: x, b :: y, h => by
    simp only [P.beqs, Bool.and_eq_true] at h
    rw [P.beq_eq h.1, P.beqs_eq h.2]
theorem P.beqf_eq : ∀ {a b : List (Str × P)}, P.beqf a b = true → a = b
  | [], [], _ => rfl
  | [], _ :: _, h => by simp [P.beqf] at h
  | _ :: _, [], h => by simp [P.beqf] at h
  | (f, a) :: x, (g, b) :: y, h => by
    simp only [P.beqf, Bool.and_eq_true, beq_iff_eq] at h
    rw [h.1.1, P.beq_eq h.1.2, P.beqf_eq h.2]
theorem P.beqk_eq : ∀ {a b : List (Key × P)}, P.beqk a b = true → a = b
  | [], [], _ => rfl
  | [], _ :: _, h => by simp [P.beqk] at h
  | _ :: _, [], h => by simp [P.beqk] at h
  | (f, a) :: x, (g, b) :: y, h => by
    simp only [P.beqk, Bool.and_eq_true, decide_eq_true_eq] at h
    rw [h.1.1, P.beq_eq h.1.2, P.beqk_eq h.2]
theorem P.beqt_eq : ∀ {a b : List (List Key × P)}, P.beqt a b = true → a = b
  | [], [], _ => rfl
  | [], _ :: _, h => by simp [P.beqt] at h
  | _ :: _, [], h => by simp [P.beqt] at h
  | (f, a) :: x, (g, b) :: y, h => by
    simp only [P.beqt, Bool.and_eq_true, decide_eq_true_eq] at h
    rw [h.1.1, P.beq_eq h.1.2, P.beqt_eq h.2]
end
mutual
theorem P.beq_refl : ∀ a : P, P.beq a a = true
  | .non | .bl _ | .int _ | .str _ | .glo _ | .ty _ => by simp [P.beq]
  | .tup a | .lst a | .scr a => by simp only [P.beq]; exact P.beqs_refl a
  | .ins c a => by simp only [P.beq, Bool.and_eq_true, beq_self_eq_true, true_and]; exact P.beqf_refl a
  | .dic a => by simp only [P.beq]; exact P.beqk_refl a
  | .dit a => by simp only [P.beq]; exact P.beqt_refl a
theorem P.beqs_refl : ∀ a : List P, P.beqs a a = true
  | [] => rfl
  | a :: x => by simp only [P.beqs, Bool.and_eq_true]; exact ⟨P.beq_refl a, P.beqs_refl x⟩
theorem P.beqf_refl : ∀ a : List (Str × P), P.beqf a a = true
  | [] => rfl
  | (f, a) :: x => by simp only [P.beqf, Bool.and_eq_true, beq_self_eq_true, true_and]; exact ⟨P.beq_refl a, P.beqf_refl x⟩
theorem P.beqk_refl : ∀ a : List (Key × P), P.beqk a a = true
  | [] => rfl
  | (f, a) :: x => by simp only [P.beqk, Bool.and_eq_true, decide_true, true_and]; exact ⟨P.beq_refl a, P.beqk_refl x⟩
theorem P.beqt_refl : ∀ a : List (List Key × P), P.beqt a a = true
  | [] => rfl
  | (f, a) :: x => by simp only [P.beqt, Bool.and_eq_true, decide_true, true_and]; exact ⟨P.beq_refl a, P.beqt_refl x⟩
end
mutual
def D.beq : D → D → Bool
  | .p a, .p b => P.beq a b
  | .r a, .r b => a == b
  | .t a, .t b => D.beqs a b
  | _, _ => false
def D.beqs : List D → List D → Bool
  | [], [] => true
  | a :: x, b :: y => D.beq a b && D.beqs x y
  | _, _ => false
end
mutual
theorem D.beq_eq : ∀ {a b : D}, D.beq a b = true → a = b
  | .p a, b, h => by
    cases b <;> simp only [D.beq, Bool.false_eq_true] at h
    rw [P.beq_eq h]
  | .r a, b, h => by cases b <;> simp_all [D.beq]
  | .t a, b, h => by
    cases b <;> simp only [D.beq, Bool.false_eq_true] at h
    rw [D.beqs_eq h]
theorem D.beqs_eq : ∀ {a b : List D}, D.beqs a b = true → a = b
  | [], [], _ => rfl
  | [], _ :: _, h => by simp [D.beqs] at h
  | _ :: _, [], h => by simp [D.beqs] at h
  | a :: x, b :: y, h => by
    simp only [D.beqs, Bool.and_eq_true] at h
    rw [D.beq_eq h.1, D.beqs_eq h.2]
end
mutual
theorem D.beq_refl : ∀ a : D, D.beq a a = true
  | .p a => by simp only [D.beq]; exact P.beq_refl a
  | .r a => by simp [D.beq]
  | .t a => by simp only [D.beq]; exact D.beqs_refl a
theorem D.beqs_refl : ∀ a : List D, D.beqs a a = true
  | [] => rfl
  | a :: x => by simp only [D.beqs, Bool.and_eq_true]; exact ⟨D.beq_refl a, D.beqs_refl x⟩
end

/-! ### what is walked -/
/-- the items; the lists of the store that must stay as they are meanwhile -/
structure Src where
  xs : List D
  watch : List (Nat × List D)
def watchOk : List (Nat × List D) → Store → Bool
  | [], _ => true
  | (n, ds) :: w, S => (match S.objs[n]? with
    | some (.lst es) => D.beqs ds es
    | _ => false) && watchOk w S
theorem watchOk_at : ∀ {w : List (Nat × List D)} {S : Store} {n : Nat} {ds : List D}, watchOk w S = true → (n, ds) ∈ w → S.objs[n]? = some (.lst ds)
  | (m, es) :: w, S, n, ds, h, hm => by
    simp only [watchOk, Bool.and_eq_true] at h
    rcases List.mem_cons.mp hm with e | hm
    · cases e
      have h1 := h.1
      split at h1
      · rename_i fs q
        rw [q, D.beqs_eq h1]
      · cases h1
    · exact watchOk_at h.2 hm

/-- the walked thing J yields the items of src, in each later state in which they stand -/
def ItOk (G : Gb) (F : Addr → Prop) (ι : List Addr) (H : Hp) (J : It) (src : Src) : Prop :=
  ∀ F' ι' H' S', Nxt G F ι H F' ι' S' H' → watchOk src.watch S' = true → ∀ i, (src.xs.length ≤ i → J.stop i H') ∧
    ∀ d, src.xs[i]? = some d → J.go i H' ∧ ∀ x H'', J.yld i H' x H'' → Nxt G F' ι' H' F' ι' S' H'' ∧ RelD G F' ι' H'' d x
def TIt (G : Gb) (W : WX) (mi : ME Src) : TI := fun σ H Rr => ∃ ρ S ι F, At G F ι H σ ρ S ∧ Then G (fun c d H' => W c d σ H') F ι H (mi ρ S) fun src _ F' ι' H' => ∀ J, ItOk G F' ι' H' J src → Rr J H'
abbrev DI (X : Cx) (W : WX) (tg iter : Expr) (mi : ME Src) : Prop := PI X tg iter (TIt (gb X) W mi)
theorem PI.imp {X : Cx} {tg iter : Expr} {t t' : TI} (h : PI X tg iter t) (i : ∀ σ H Q, t' σ H Q → t σ H Q) : PI X tg iter t' := ⟨fun pins s σ H R I q => h.run pins s σ H R I (i σ H R q)⟩
def watchOf (d : D) (ds : List D) : List (Nat × List D) := match d with
  | .r n => [(n, ds)]
  | _ => []
/-- a list, read as it stands | a tuple -/
def srcSeq (d : D) (S : Store) : Option (Src × Store) := match d.tup? with
  | some ds => some (⟨ds, []⟩, S)
  | none => match d.lst? S with
    | some ds => some (⟨ds, watchOf d ds⟩, S)
    | none => none
def srcLst (d : D) (S : Store) : Option (Src × Store) := match d.lst? S with
  | some ds => some (⟨ds, watchOf d ds⟩, S)
  | none => none
def srcTup (d : D) (S : Store) : Option (Src × Store) := match d.tup? with
  | some ds => some (⟨ds, []⟩, S)
  | none => none
def mSrc (f : D → Store → Option (Src × Store)) (m : ME D) : ME Src := fun ρ S => (m ρ S).bind fun d => lift (f d)
def mSrcA (f : List D → Store → Option (Src × Store)) (m : ME (List D)) : ME Src := fun ρ S => (m ρ S).bind fun d => lift (f d)

section
variable {X : Cx} {W : WX} {e a b c tg iter : Expr} {es : List Expr} {pos p : Pos} {ma mb mc : ME D} {mr : ME (List D)}
/-- what a readable list's address holds later on -/
theorem lst_later {G : Gb} {F F' : Addr → Prop} {ι ι' : List Addr} {H H' : Hp} {S S' : Store} {d : D} {ds : List D} {v : V} (r : RelD G F ι H d v) (hl : d.lst? S = some ds) (n : Nxt G F ι H F' ι' S' H') (w : watchOk (watchOf d ds) S' = true) : d.lst? S' = some ds := by
  cases d with
  | p x => cases x <;> first | exact hl | cases hl
  | r m =>
    simp only [D.lst?]
    rw [watchOk_at w (List.mem_singleton.mpr rfl)]
  | t xs => cases hl
theorem itl_ok {G : Gb} {F : Addr → Prop} {ι : List Addr} {H : Hp} {S : Store} {d : D} {ds : List D} {a : Addr} (hl : d.lst? S = some ds) (r : RelD G F ι H d (.ref a)) :
    ItOk G F ι H (Itl G.K a) ⟨ds, watchOf d ds⟩ := fun F' ι' H' S' n w i => by
  obtain ⟨b, vs, e, q, rd⟩ := lst?_rel n.r (lst_later r hl n w) (n.d r)
  cases e
  refine ⟨fun h => ⟨vs, q, by rw [← relDs_len rd]; exact h⟩, fun x hx => ?_⟩
  obtain ⟨v, hv, rv⟩ := relDs_get rd hx
  refine ⟨⟨vs, v, q, hv⟩, fun y H'' ⟨eH, hy⟩ => ?_⟩
  subst eH
  have := hy vs q
  rw [hv] at this
  cases this
  exact ⟨Nxt.refl n.r, rv⟩
theorem itt_ok {G : Gb} {F : Addr → Prop} {ι : List Addr} {H : Hp} {d : D} {ds : List D} {a : Addr} (hl : d.tup? = some ds) (r : RelD G F ι H d (.ref a)) : ItOk G F ι H (Itt G.K a) ⟨ds, []⟩ := fun F' ι' H' S' n w i => by
  obtain ⟨b, vs, e, q, rd⟩ := tup?_rel hl (n.d r)
  cases e
  refine ⟨fun h => ⟨vs, q, by rw [← relDs_len rd]; exact h⟩, fun x hx => ?_⟩
  obtain ⟨v, hv, rv⟩ := relDs_get rd hx
  refine ⟨⟨vs, v, q, hv⟩, fun y H'' ⟨eH, hy⟩ => ?_⟩
  subst eH
  have := hy vs q
  rw [hv] at this
  cases this
  exact ⟨Nxt.refl n.r, rv⟩
theorem src_first {G : Gb} {W : WX} {F : Addr → Prop} {ι : List Addr} {σ : L2.St} {ρ : Env} {S : Store} {H : Hp} {m : ME D} {f : D → Store → Option (Src × Store)} {Rr : It → Hp → Prop}
    (a : At G F ι H σ ρ S) (h : Then G (fun c d H' => W c d σ H') F ι H (mSrc f m ρ S) fun src _ F' ι' H' => ∀ J, ItOk G F' ι' H' J src → Rr J H') {Q' : VK}
    (q : ∀ d S1 F1 ι1 H1 v src S2, At G F1 ι1 H1 σ ρ S1 → RelD G F1 ι1 H1 d v → f d S1 = some (src, S2) → (∀ F' ι' H', Nxt G F1 ι1 H1 F' ι' S2 H' → ∀ J, ItOk G F' ι' H' J src → Rr J H') → Q' v H1) : T G W m σ H Q' :=
  T.first a h fun d S1 F1 ι1 H1 v n1 a1 r1 t1 => by
    obtain ⟨src, S2, e, z⟩ := lift_then t1
    exact q d S1 F1 ι1 H1 v src S2 a1 r1 e z
theorem di_list (h : DE X W iter ma) : DI X W tg iter (mSrc srcLst ma) := PI.imp (pi_list h) fun σ H Rr q => by
  obtain ⟨ρ, S, ι, F, at', t⟩ := q
  refine src_first at' t fun d S1 F1 ι1 H1 v src S2 a1 r1 e z => ?_
  unfold srcLst at e
  split at e
  · rename_i ds el
    cases e
    obtain ⟨a, vs, ev, q, rd⟩ := lst?_rel a1.r el r1
    subst ev
    exact ⟨a, rfl, ⟨vs, q⟩, z _ _ _ (Nxt.refl a1.r) _ (itl_ok el r1)⟩
  · cases e
theorem di_tup (h : DE X W iter ma) : DI X W tg iter (mSrc srcTup ma) := PI.imp (pi_tup h) fun σ H Rr q => by
  obtain ⟨ρ, S, ι, F, at', t⟩ := q
  refine src_first at' t fun d S1 F1 ι1 H1 v src S2 a1 r1 e z => ?_
  unfold srcTup at e
  split at e
  · rename_i ds el
    cases e
    obtain ⟨a, vs, ev, q, rd⟩ := tup?_rel el r1
    subst ev
    exact ⟨a, rfl, ⟨vs, q⟩, z _ _ _ (Nxt.refl a1.r) _ (itt_ok el r1)⟩
  · cases e
/-- either, by a look at what came -/
def iSeq (K : PySem.W.Frag) (tl : TE) : TI := fun σ H R => tl σ H fun x H1 => ∃ a, x = .ref a ∧ (((∃ xs, SqL K H1 a xs) ∧ R (Itl K a) H1) ∨ ((∃ xs, SqT K H1 a xs) ∧ R (Itt K a) H1))
theorem pi_seq {tl : TE} (hl : PE X iter tl) : PI X tg iter (iSeq X.K tl) := by
  refine ⟨fun pins s σ H Rr I h => ?_⟩
  have base := hl.run pins s σ H _ I h
  refine thn base fun v s1 ⟨x, H1, I1, r1, a, ex, q⟩ => ?_
  subst ex
  rcases q with ⟨⟨xs, hq⟩, q⟩ | ⟨⟨xs, hq⟩, q⟩
  · obtain ⟨its, r, hp, _⟩ := I1.list hq
    cases r1
    exact wpAny_pyIter_list hp.isList (pi_one I1 _ (turn_list a _) ⟨_, Heap.get?_push_size _ rfl, rfl, rfl⟩ q)
  · obtain ⟨its, r, hp, _⟩ := I1.tuple hq
    cases r1
    exact wpAny_pyIter_tuple hp (pi_one I1 _ (turn_tuple a _) ⟨_, Heap.get?_push_size _ rfl, rfl, rfl⟩ q)
theorem di_seq (h : DE X W iter ma) : DI X W tg iter (mSrc srcSeq ma) := PI.imp (pi_seq h) fun σ H Rr q => by
  obtain ⟨ρ, S, ι, F, at', t⟩ := q
  refine src_first at' t fun d S1 F1 ι1 H1 v src S2 a1 r1 e z => ?_
  unfold srcSeq at e
  split at e
  · rename_i ds el
    cases e
    obtain ⟨a, vs, ev, q, rd⟩ := tup?_rel el r1
    subst ev
    exact ⟨a, rfl, .inr ⟨⟨vs, q⟩, z _ _ _ (Nxt.refl a1.r) _ (itt_ok el r1)⟩⟩
  · split at e
    · rename_i ds el
      cases e
      obtain ⟨a, vs, ev, q, rd⟩ := lst?_rel a1.r el r1
      subst ev
      exact ⟨a, rfl, .inl ⟨⟨vs, q⟩, z _ _ _ (Nxt.refl a1.r) _ (itl_ok el r1)⟩⟩
    · cases e
theorem srcA_first {G : Gb} {W : WX} {F : Addr → Prop} {ι : List Addr} {σ : L2.St} {ρ : Env} {S : Store} {H : Hp} {m : ME (List D)} {f : List D → Store → Option (Src × Store)} {Rr : It → Hp → Prop}
    (a : At G F ι H σ ρ S) (h : Then G (fun c d H' => W c d σ H') F ι H (mSrcA f m ρ S) fun src _ F' ι' H' => ∀ J, ItOk G F' ι' H' J src → Rr J H') {Q' : List V → Hp → Prop}
    (q : ∀ d S1 F1 ι1 H1 v src S2, At G F1 ι1 H1 σ ρ S1 → RelDs G F1 ι1 H1 d v → f d S1 = some (src, S2) → (∀ F' ι' H', Nxt G F1 ι1 H1 F' ι' S2 H' → ∀ J, ItOk G F' ι' H' J src → Rr J H') → Q' v H1) : TL G W m σ H Q' :=
  TL.first a h fun d S1 F1 ι1 H1 v n1 a1 r1 t1 => by
    obtain ⟨src, S2, e, z⟩ := lift_then t1
    exact q d S1 F1 ι1 H1 v src S2 a1 r1 e z
/-! ranges -/
def fitR (i : Int) : Bool := decide (-1000000000000 ≤ i ∧ i ≤ 1000000000000)
theorem fitR_ok {i : Int} (h : fitR i = true) : -(2 ^ 62) ≤ i ∧ i < 2 ^ 62 := by
  simp only [fitR, decide_eq_true_eq] at h
  omega
def rangeD (lo : Int) (n : Nat) : List D := (List.range n).map fun (i : Nat) => D.p (.int (lo + i))
def srcR1 : List D → Store → Option (Src × Store)
  | [.p (.int n)], S => if fitR n = true then some (⟨rangeD 0 n.toNat, []⟩, S) else none
  | _, _ => none
def srcR2 : List D → Store → Option (Src × Store)
  | [.p (.int a), .p (.int b)], S => if (fitR a && fitR b) = true then some (⟨rangeD a (b - a).toNat, []⟩, S) else none
  | _, _ => none
theorem rangeD_get {lo : Int} {n i : Nat} {d : D} (h : (rangeD lo n)[i]? = some d) : i < n ∧ d = .p (.int (lo + i)) := by
  unfold rangeD at h
  rw [List.getElem?_map] at h
  by_cases z : i < n
  · rw [List.getElem?_range z] at h
    cases h
    exact ⟨z, rfl⟩
  · rw [List.getElem?_eq_none (by simp; omega)] at h
    cases h
theorem rangeD_len (lo : Int) (n : Nat) : (rangeD lo n).length = n := by simp [rangeD]
theorem itr_ok {G : Gb} {F : Addr → Prop} {ι : List Addr} {H : Hp} {lo : Int} {n : Nat} : ItOk G F ι H (Itr lo n) ⟨rangeD lo n, []⟩ := fun F' ι' H' S' nx w i => by
  refine ⟨fun h => by rw [rangeD_len] at h; exact h, fun d hd => ?_⟩
  obtain ⟨hi, rfl⟩ := rangeD_get hd
  refine ⟨hi, fun x H'' ⟨e, hx⟩ => ?_⟩
  subst e
  subst hx
  exact ⟨Nxt.refl nx.r, by simp only [RelD, RelP]⟩
theorem relDs1 {G : Gb} {F : Addr → Prop} {ι : List Addr} {H : Hp} {d : D} {vs : List V} (h : RelDs G F ι H [d] vs) : ∃ v, vs = [v] ∧ RelD G F ι H d v := by
  simp only [RelDs] at h
  obtain ⟨v, ws, rfl, r, rfl⟩ := h
  exact ⟨v, rfl, r⟩
theorem relDs2 {G : Gb} {F : Addr → Prop} {ι : List Addr} {H : Hp} {d e : D} {vs : List V} (h : RelDs G F ι H [d, e] vs) : ∃ v w, vs = [v, w] ∧ RelD G F ι H d v ∧ RelD G F ι H e w := by
  simp only [RelDs] at h
  obtain ⟨v, ws, rfl, r, w, us, rfl, r', rfl⟩ := h
  exact ⟨v, w, rfl, r, r'⟩
theorem relDs3 {G : Gb} {F : Addr → Prop} {ι : List Addr} {H : Hp} {d e f : D} {vs : List V} (h : RelDs G F ι H [d, e, f] vs) : ∃ v w u, vs = [v, w, u] ∧ RelD G F ι H d v ∧ RelD G F ι H e w ∧ RelD G F ι H f u := by
  simp only [RelDs] at h
  obtain ⟨v, ws, rfl, r, w, us, rfl, r', u, ts, rfl, r'', rfl⟩ := h
  exact ⟨v, w, u, rfl, r, r', r''⟩
theorem relInt {G : Gb} {F : Addr → Prop} {ι : List Addr} {H : Hp} {i : Int} {v : V} (h : RelD G F ι H (.p (.int i)) v) : v = .int i := by simpa only [RelD, RelP] using h
theorem di_range1 (hm : X.mg "range" = none) (h : DA X W [a] mr) (hg : Gl X "range" := by rfl) (hs : starEach [a] X.env = [(false, eval a X.env)] := by rfl) : DI X W tg (.Call (.Name "range" p) [a] [] pos) (mSrcA srcR1 mr) := PI.imp (pi_range1 hg hm h hs) fun σ H Rr q => by
  obtain ⟨ρ, S, ι, F, at', t⟩ := q
  refine srcA_first at' t fun ds S1 F1 ι1 H1 vs src S2 a1 r1 e z => ?_
  unfold srcR1 at e
  split at e
  · rename_i n
    split at e
    · rename_i hf
      cases e
      obtain ⟨v, rfl, r⟩ := relDs1 r1
      cases relInt r
      exact ⟨n, rfl, (fitR_ok hf).1, (fitR_ok hf).2, z _ _ _ (Nxt.refl a1.r) _ itr_ok⟩
    · cases e
  · cases e
theorem di_range2 (hm : X.mg "range" = none) (h : DA X W [a, b] mr) (hg : Gl X "range" := by rfl) (hs : starEach [a, b] X.env = [(false, eval a X.env), (false, eval b X.env)] := by rfl) (hs2 : starEach [b] X.env = [(false, eval b X.env)] := by rfl) :
    DI X W tg (.Call (.Name "range" p) [a, b] [] pos) (mSrcA srcR2 mr) := PI.imp (pi_range2 hg hm h hs hs2) fun σ H Rr q => by
  obtain ⟨ρ, S, ι, F, at', t⟩ := q
  refine srcA_first at' t fun ds S1 F1 ι1 H1 vs src S2 a1 r1 e z => ?_
  unfold srcR2 at e
  split at e
  · rename_i m n
    split at e
    · rename_i hf
      cases e
      simp only [Bool.and_eq_true] at hf
      obtain ⟨v, w, rfl, r, r'⟩ := relDs2 r1
      cases relInt r
      cases relInt r'
      exact ⟨m, n, rfl, ⟨(fitR_ok hf.1).1, (fitR_ok hf.1).2, (fitR_ok hf.2).1, (fitR_ok hf.2).2⟩, z _ _ _ (Nxt.refl a1.r) _ itr_ok⟩
    · cases e
  · cases e
/-! zip -/
def zipD (xs ys : List D) : List D := (xs.zip ys).map fun p => mkTup [p.1, p.2]
def srcZip : List D → Store → Option (Src × Store)
  | [x, y], S => match x.tup?, y.tup? with
    | some xs, some ys => some (⟨zipD xs ys, []⟩, S)
    | _, _ => match x.lst? S, y.lst? S with
      | some xs, some ys => some (⟨zipD xs ys, watchOf x xs ++ watchOf y ys⟩, S)
      | _, _ => none
  | _, _ => none
theorem zipD_get {xs ys : List D} {i : Nat} {d : D} (h : (zipD xs ys)[i]? = some d) : ∃ x y, xs[i]? = some x ∧ ys[i]? = some y ∧ d = mkTup [x, y] := by
  unfold zipD at h
  rw [List.getElem?_map] at h
  cases e : (xs.zip ys)[i]? with
  | none => rw [e] at h; cases h
  | some q =>
    rw [e] at h
    cases h
    obtain ⟨x, y⟩ := q
    rw [List.getElem?_zip_eq_some] at e
    exact ⟨x, y, e.1, e.2, rfl⟩
theorem zipD_len (xs ys : List D) : (zipD xs ys).length = min xs.length ys.length := by simp [zipD]
theorem watchOk_append : ∀ {w u : List (Nat × List D)} {S : Store}, watchOk (w ++ u) S = true → watchOk w S = true ∧ watchOk u S = true
  | [], u, S, h => ⟨rfl, h⟩
  | (n, ds) :: w, u, S, h => by
    simp only [List.cons_append, watchOk, Bool.and_eq_true] at h ⊢
    obtain ⟨a, b⟩ := watchOk_append h.2
    exact ⟨⟨h.1, a⟩, b⟩
theorem itz_ok {G : Gb} {F : Addr → Prop} {ι : List Addr} {H : Hp} {S : Store} {d d2 : D} {ds es : List D} {a b : Addr} (hl : d.lst? S = some ds) (r : RelD G F ι H d (.ref a)) (hl2 : d2.lst? S = some es) (r2 : RelD G F ι H d2 (.ref b)) :
    ItOk G F ι H (Itz G.K a b) ⟨zipD ds es, watchOf d ds ++ watchOf d2 es⟩ := fun F' ι' H' S' n w i => by
  obtain ⟨w1, w2⟩ := watchOk_append w
  obtain ⟨a', vs, e, q, rd⟩ := lst?_rel n.r (lst_later r hl n w1) (n.d r)
  cases e
  obtain ⟨b', us, e, q2, rd2⟩ := lst?_rel n.r (lst_later r2 hl2 n w2) (n.d r2)
  cases e
  refine ⟨fun h => ⟨vs, us, q, q2, ?_⟩, fun x hx => ?_⟩
  · have h' : (zipD ds es).length ≤ i := h
    rw [zipD_len, relDs_len rd, relDs_len rd2] at h'
    omega
  · obtain ⟨x1, x2, e1, e2, rfl⟩ := zipD_get hx
    obtain ⟨v, hv, rv⟩ := relDs_get rd e1
    obtain ⟨u, hu, ru⟩ := relDs_get rd2 e2
    refine ⟨⟨vs, us, v, u, q, q2, hv, hu⟩, fun y H'' ⟨T, y1, y2, ey, hT, eH, g1, g2⟩ => ?_⟩
    have k1 := g1 vs q
    have k2 := g2 us q2
    rw [hv] at k1
    rw [hu] at k2
    cases k1
    cases k2
    subst ey
    subst eH
    exact ⟨Nxt.fresh n.r hT, rel_newT hT (relDs_cons.mpr ⟨rv, relDs_cons.mpr ⟨ru, relDs_nil'⟩⟩)⟩
theorem itzT_ok {G : Gb} {F : Addr → Prop} {ι : List Addr} {H : Hp} {d d2 : D} {ds es : List D} {a b : Addr} (hl : d.tup? = some ds) (r : RelD G F ι H d (.ref a)) (hl2 : d2.tup? = some es) (r2 : RelD G F ι H d2 (.ref b)) :
    ItOk G F ι H (RZ.ItzT G.K a b) ⟨zipD ds es, []⟩ := fun F' ι' H' S' n w i => by
  obtain ⟨a', vs, e, q, rd⟩ := tup?_rel hl (n.d r)
  cases e
  obtain ⟨b', us, e, q2, rd2⟩ := tup?_rel hl2 (n.d r2)
  cases e
  refine ⟨fun h => ⟨vs, us, q, q2, ?_⟩, fun x hx => ?_⟩
  · have h' : (zipD ds es).length ≤ i := h
    rw [zipD_len, relDs_len rd, relDs_len rd2] at h'
    omega
  · obtain ⟨x1, x2, e1, e2, rfl⟩ := zipD_get hx
    obtain ⟨v, hv, rv⟩ := relDs_get rd e1
    obtain ⟨u, hu, ru⟩ := relDs_get rd2 e2
    refine ⟨⟨vs, us, v, u, q, q2, hv, hu⟩, fun y H'' ⟨T, y1, y2, ey, hT, eH, g1, g2⟩ => ?_⟩
    have k1 := g1 vs q
    have k2 := g2 us q2
    rw [hv] at k1
    rw [hu] at k2
    cases k1
    cases k2
    subst ey
    subst eH
    exact ⟨Nxt.fresh n.r hT, rel_newT hT (relDs_cons.mpr ⟨rv, relDs_cons.mpr ⟨ru, relDs_nil'⟩⟩)⟩
theorem di_zip {elts : List Expr} {kk : Nat} {tpos : Pos} (hm : X.mg "zip" = none) (h : DA X W [a, b] mr) (hg : Gl X "zip" := by rfl) (hs : starEach [a, b] X.env = (false, eval a X.env) :: starEach [b] X.env := by rfl) (hpl : (backTo pos (starEach [b] X.env)).any (·.1) = false := by rfl) :
    DI X W (.Tuple elts kk tpos) (.Call (.Name "zip" p) [a, b] [] pos) (mSrcA srcZip mr) := PI.imp (RZ.pi_zipA hg hm h hs hpl) fun σ H Rr q => by
  obtain ⟨ρ, S, ι, F, at', t⟩ := q
  refine srcA_first at' t fun ds S1 F1 ι1 H1 vs src S2 a1 r1 e z => ?_
  unfold srcZip at e
  split at e
  · rename_i x y
    obtain ⟨v, w, rfl, r, r'⟩ := relDs2 r1
    split at e
    · rename_i xs ys ex ey
      cases e
      obtain ⟨a', us, ev, q, rd⟩ := tup?_rel ex r
      obtain ⟨b', ws, ew, q2, rd2⟩ := tup?_rel ey r'
      subst ev
      subst ew
      exact ⟨a', b', us, ws, rfl, .inr ⟨q, q2, z _ _ _ (Nxt.refl a1.r) _ (itzT_ok ex r ey r')⟩⟩
    · split at e
      · rename_i xs ys ex ey
        cases e
        obtain ⟨a', us, ev, q, rd⟩ := lst?_rel a1.r ex r
        obtain ⟨b', ws, ew, q2, rd2⟩ := lst?_rel a1.r ey r'
        subst ev
        subst ew
        exact ⟨a', b', us, ws, rfl, .inl ⟨q, q2, z _ _ _ (Nxt.refl a1.r) _ (itz_ok ex r ey r')⟩⟩
      · cases e
  · cases e

/-! ### targets -/
abbrev MG := D → Env → Store → Option Env
def TGt (G : Gb) (vs : List Nat) (mg : MG) : TG := fun v σ H Q => ∃ d ρ S ι F, RelD G F ι H d v ∧ At G F ι H σ ρ S ∧ ∃ ρ', mg d ρ S = some ρ' ∧ ∀ σ', RelE G F ι H ρ' σ' → σ'.length = σ.length → wipe σ' vs = wipe σ vs → Q σ' H
def TGts (G : Gb) (vs : List Nat) (mg : List D → Env → Store → Option Env) : TGs := fun us σ H Q => ∃ ds ρ S ι F, RelDs G F ι H ds us ∧ At G F ι H σ ρ S ∧ ∃ ρ', mg ds ρ S = some ρ' ∧ ∀ σ', RelE G F ι H ρ' σ' → σ'.length = σ.length → wipe σ' vs = wipe σ vs → Q σ' H
theorem PG.imp {X : Cx} {e : Expr} {t t' : TG} (h : PG X e t) (i : ∀ v σ H Q, t' v σ H Q → t v σ H Q) : PG X e t' := ⟨fun pins s σ H v u Q I r q => h.run pins s σ H v u Q I r (i v σ H Q q)⟩
theorem PGs.imp {X : Cx} {e : List Expr} {t t' : TGs} (h : PGs X e t) (i : ∀ v σ H Q, t' v σ H Q → t v σ H Q) : PGs X e t' := ⟨fun pins s σ H v u Q I r q => h.run pins s σ H v u Q I r (i v σ H Q q)⟩
abbrev DG (X : Cx) (vs : List Nat) (e : Expr) (mg : MG) : Prop := PG X e (TGt (gb X) vs mg)
theorem set_comm_none (σ : L2.St) (i j : Nat) (x : Option V) : (σ.set i x).set j none = if i = j then σ.set j none else (σ.set j none).set i x := by
  by_cases h : i = j
  · subst h
    rw [if_pos rfl, List.set_set]
  · rw [if_neg h, List.set_comm _ _ h]
theorem wipe_set (i : Nat) (x : Option V) : ∀ (vs : List Nat) (σ : L2.St), wipe (σ.set i x) vs = if i ∈ vs then wipe σ vs else (wipe σ vs).set i x
  | [], σ => by simp [wipe]
  | v :: vs, σ => by
    simp only [wipe, wipe_set i x vs σ]
    by_cases h : i ∈ vs
    · rw [if_pos h, if_pos (List.mem_cons_of_mem _ h)]
    · rw [if_neg h, set_comm_none]
      by_cases hv : i = v
      · subst hv
        rw [if_pos rfl, if_pos List.mem_cons_self]
      · rw [if_neg hv, if_neg (by simp [hv, h])]
abbrev DGs (X : Cx) (vs : List Nat) (e : List Expr) (mg : List D → Env → Store → Option Env) : Prop := PGs X e (TGts (gb X) vs mg)
variable {ws : List Nat}
def gNm (i : Nat) : MG := fun d ρ _ => some (ρ.set i (some d))
def gsNil : List D → Env → Store → Option Env := fun ds ρ _ => match ds with
  | [] => some ρ
  | _ => none
def gsCons (g : MG) (gs : List D → Env → Store → Option Env) : List D → Env → Store → Option Env := fun ds ρ S => match ds with
  | d :: ds => (g d ρ S).bind fun ρ' => gs ds ρ' S
  | _ => none
def gTp (n : Nat) (gs : List D → Env → Store → Option Env) : MG := fun d ρ S => match d.tup? with
  | some ds => if ds.length = n then gs ds ρ S else none
  | none => none
theorem dg_name (i : Nat) {x : Str} (hN : X.N.Nodup) (hw : i ∈ ws := by decide) (hi : X.N[i]? = some x := by rfl) (hx : Loc X.env.scope x := by first | exact Or.inl rfl | exact Or.inr rfl) (hf : X.fn x = true ∨ X.env.scope.names.lookup x = some .local := by first | exact .inl rfl | exact .inr rfl | assumption) : DG X ws (.Name x pos) (gNm i) :=
  PG.imp (pg_name hN hi hx hf) fun v σ H Q q => by
    obtain ⟨d, ρ, S, ι, F, r, at', ρ', e, q⟩ := q
    cases e
    exact q _ (at'.e.set r i) (by simp) (by rw [wipe_set, if_pos hw])
theorem dgs_nil : DGs X ws [] gsNil := PGs.imp pgs_nil fun v σ H Q q => by
  obtain ⟨ds, ρ, S, ι, F, r, at', ρ', e, q⟩ := q
  unfold gsNil at e
  split at e
  · cases e
    rw [relDs_nil] at r
    exact ⟨r, q _ at'.e rfl rfl⟩
  · cases e
theorem dgs_cons {g : MG} {gs : List D → Env → Store → Option Env} (h1 : DG X ws e g) (h2 : DGs X ws es gs) (hs : (assignEach (e :: es) X.env).map (·.2) = assign e X.env :: (assignEach es X.env).map (·.2) := by rfl) : DGs X ws (e :: es) (gsCons g gs) := PGs.imp (pgs_cons h1 h2 hs) fun v σ H Q q => by
  obtain ⟨ds, ρ, S, ι, F, r, at', ρ', e, q⟩ := q
  unfold gsCons at e
  split at e
  · rename_i d ds
    simp only [RelDs] at r
    obtain ⟨v, ws, rfl, r1, r2⟩ := r
    obtain ⟨ρ1, e1, e2⟩ := Option.bind_eq_some_iff.mp e
    exact ⟨v, ws, rfl, d, ρ, S, ι, F, r1, at', ρ1, e1, fun σ' hσ hl hw => ⟨ds, ρ1, S, ι, F, r2, ⟨hσ, at'.r⟩, ρ', e2, fun σ'' h'' hl' hw' => q σ'' h'' (hl'.trans hl) (hw'.trans hw)⟩⟩
  · cases e
theorem dg_tup {k n : Nat} {gs : List D → Env → Store → Option Env} (hc : X.calm = true) (h : DGs X ws es gs) (hn : (assignEach es X.env).length = n := by rfl) (hst : (assignEach es X.env).findIdx? (·.1) = none := by rfl) : DG X ws (.Tuple es k pos) (gTp n gs) := PG.imp (pg_tup hc h hn hst) fun v σ H Q q => by
  obtain ⟨d, ρ, S, ι, F, r, at', ρ', e, q⟩ := q
  unfold gTp at e
  split at e
  · rename_i ds el
    split at e
    · rename_i hl
      obtain ⟨a, vs, ev, qt, rd⟩ := tup?_rel el r
      exact ⟨a, vs, ev, qt, by rw [← relDs_len rd]; exact hl, ds, ρ, S, ι, F, rd, at', ρ', e, q⟩
    · cases e
  · cases e
end
end DL
set_option maxHeartbeats 2000000
/-! DLBody: statements, loops, comprehensions. -/
namespace DL
open PySem PySem.Spec PyProof.Rows L2
variable [HasT]

/-- how a statement ends -/
inductive Out where
  | nx (ρ : Env) | rt (d : D) | bk (ρ : Env) | ct (ρ : Env)
abbrev MS := Env → M Out
def outOk (G : Gb) (n : Nat) (E : Ends) : Out → Store → (Addr → Prop) → List Addr → Hp → Prop
  | .nx ρ, _, F, ι, H => ∀ σ, σ.length = n → RelE G F ι H ρ σ → E.nx σ H
  | .rt d, _, F, ι, H => ∀ v, RelD G F ι H d v → E.rt v H
  | .bk ρ, _, F, ι, H => ∀ σ, σ.length = n → RelE G F ι H ρ σ → E.bk σ H
  | .ct ρ, _, F, ι, H => ∀ σ, σ.length = n → RelE G F ι H ρ σ → E.ct σ H
/-- a raise may come at any slots -/
abbrev WS (W : WX) : Value → Option Addr → Hp → Prop := fun c d H' => ∀ σ', W c d σ' H'
def TSt (G : Gb) (W : WX) (m : MS) : TS := fun E σ H => ∃ ρ S ι F, At G F ι H σ ρ S ∧ Then G (WS W) F ι H (m ρ S) (outOk G σ.length E)
abbrev DS (X : Cx) (W : WX) (st : Stmt) (m : MS) : Prop := PS X st (TSt (gb X) W m)
abbrev DSs (X : Cx) (W : WX) (st : List Stmt) (m : MS) : Prop := PSs X st (TSt (gb X) W m)
theorem Then.wimp {G : Gb} {W W' : Value → Option Addr → Hp → Prop} {F : Addr → Prop} {ι : List Addr} {H : Hp} {α : Type} {r : Res α} {Q : α → Store → (Addr → Prop) → List Addr → Hp → Prop} (h : Then G W F ι H r Q) (i : ∀ c d H, W c d H → W' c d H) : Then G W' F ι H r Q := by
  cases r with
  | ok a S => exact h
  | err e S => exact fun F' ι' H' c d n x => i _ _ _ (h F' ι' H' c d n x)
  | stuck => exact h
/-- the rest stays at its base -/
theorem Then.bind' {G : Gb} {W : Value → Option Addr → Hp → Prop} {F : Addr → Prop} {ι : List Addr} {H : Hp} {α β : Type} {r : Res α} {k : α → M β} {Q : β → Store → (Addr → Prop) → List Addr → Hp → Prop} (h : Then G W F ι H (r.bind k) Q) :
    Then G W F ι H r (fun a S' _ _ _ => Then G W F ι H (k a S') Q) := by
  cases r with
  | ok a S' => exact fun _ _ _ _ => h
  | err e S' => exact h
  | stuck => exact h

/-! ### what the runs are -/
def mNext : MS := fun ρ S => .ok (.nx ρ) S
def mBreak : MS := fun ρ S => .ok (.bk ρ) S
def mCont : MS := fun ρ S => .ok (.ct ρ) S
def mDrop (m : ME D) : MS := fun ρ S => (m ρ S).bind fun _ S => .ok (.nx ρ) S
def mRet (m : ME D) : MS := fun ρ S => (m ρ S).bind fun d S => .ok (.rt d) S
def mRetN : MS := fun _ S => .ok (.rt (.p .non)) S
def gRun (g : MG) (d : D) (ρ : Env) : M Out := fun S => match g d ρ S with
  | some ρ' => .ok (.nx ρ') S
  | none => .stuck
def mAsg (g : MG) (m : ME D) : MS := fun ρ S => (m ρ S).bind fun d => gRun g d ρ
def mAug (i : Nat) (f : F2) (m : ME D) : MS := fun ρ S => (mVar i ρ S).bind fun x => fun S => (m ρ S).bind fun y => fun S => (lift (f x y) S).bind fun z S => .ok (.nx (ρ.set i (some z))) S
def oSeq (b : MS) : Out → M Out
  | .nx ρ => b ρ
  | o => fun S => .ok o S
def mSeq (a b : MS) : MS := fun ρ S => (a ρ S).bind (oSeq b)
def mIfS (t : ME Bool) (a b : MS) : MS := fun ρ S => (t ρ S).bind fun k => if k = true then a ρ else b ρ
/-- a loop over items -/
def oLoop (k : Env → M Out) : Out → M Out
  | .nx ρ => k ρ
  | .ct ρ => k ρ
  | .bk ρ => fun S => .ok (.nx ρ) S
  | .rt d => fun S => .ok (.rt d) S
def gBind (g : MG) (d : D) (ρ : Env) (k : Env → M Out) : M Out := fun S => match g d ρ S with
  | some ρ' => k ρ' S
  | none => .stuck
def loopI (w : List (Nat × List D)) (g : MG) (b : MS) : List D → MS
  | [] => fun ρ S => if watchOk w S = true then .ok (.nx ρ) S else .stuck
  | x :: xs => fun ρ S => if watchOk w S = true then gBind g x ρ (fun ρ' S => (b ρ' S).bind (oLoop (loopI w g b xs))) S else .stuck
def mFor (mi : ME Src) (g : MG) (b : MS) : MS := fun ρ S => (mi ρ S).bind fun src => loopI src.watch g b src.xs ρ
/-- a while, at most n turns -/
def mWhile (t : ME Bool) (b : MS) : Nat → MS
  | 0 => fun _ _ => .stuck
  | n + 1 => fun ρ S => (t ρ S).bind fun k => if k = true then fun S => (b ρ S).bind (oLoop (mWhile t b n)) else fun S => .ok (.nx ρ) S
/-- a comprehension's items: slots vs are its own -/
def unsetE (ρ : Env) : List Nat → Env
  | [] => ρ
  | v :: vs => (unsetE ρ vs).set v none
def noErr {α : Type} : Res α → Res α
  | .err _ _ => .stuck
  | r => r
def compI (w : List (Nat × List D)) (g : MG) (t : ME Bool) (e : ME D) (ρ : Env) : List D → List D → M (List D)
  | acc, [] => fun S => if watchOk w S = true then .ok acc S else .stuck
  | acc, x :: xs => fun S => if watchOk w S = true then (match g x ρ S with
    | none => .stuck
    | some ρ' => (noErr (t ρ' S)).bind fun k => if k = true then fun S => (noErr (e ρ' S)).bind fun y => fun S => if acc.length < 100000 then compI w g t e ρ (acc ++ [y]) xs S else .stuck
      else compI w g t e ρ acc xs) else .stuck
def mCompL (mi : ME Src) (vs : List Nat) (g : MG) (t : ME Bool) (e : ME D) : ME (List D) := fun ρ S => (mi ρ S).bind fun src => compI src.watch g t e (unsetE ρ vs) [] src.xs
def mYes : ME Bool := fun _ S => .ok true S

section
variable {X : Cx} {W : WX} {e a b c tg iter : Expr} {es : List Expr} {pos p : Pos} {ma mb mc : ME D} {mr : ME (List D)} {st : Stmt} {sts : List Stmt} {m1 m2 : MS} {mt : ME Bool}
theorem T.firstS {G : Gb} {W : WX} {α : Type} {F : Addr → Prop} {ι : List Addr} {σ : L2.St} {ρ : Env} {S : Store} {H : Hp} {m : ME D} {k : D → M α} {Q : α → Store → (Addr → Prop) → List Addr → Hp → Prop} {Q' : VK}
    (a : At G F ι H σ ρ S) (h : Then G (WS W) F ι H ((m ρ S).bind k) Q)
    (q : ∀ d S1 F1 ι1 H1 v, Nxt G F ι H F1 ι1 S1 H1 → At G F1 ι1 H1 σ ρ S1 → RelD G F1 ι1 H1 d v → Then G (WS W) F1 ι1 H1 (k d S1) Q → Q' v H1) : T G W m σ H Q' :=
  ⟨ρ, S, ι, F, a, Then.wimp (h.bind.mono fun d S1 F1 ι1 H1 n t v r => q d S1 F1 ι1 H1 v n (a.next n) r t) fun c d H' w => w σ⟩
theorem TB.firstS {G : Gb} {W : WX} {α : Type} {F : Addr → Prop} {ι : List Addr} {σ : L2.St} {ρ : Env} {S : Store} {H : Hp} {m : ME Bool} {k : Bool → M α} {Q : α → Store → (Addr → Prop) → List Addr → Hp → Prop} {Q' : Bool → Hp → Prop}
    (a : At G F ι H σ ρ S) (h : Then G (WS W) F ι H ((m ρ S).bind k) Q)
    (q : ∀ b S1 F1 ι1 H1, Nxt G F ι H F1 ι1 S1 H1 → At G F1 ι1 H1 σ ρ S1 → Then G (WS W) F1 ι1 H1 (k b S1) Q → Q' b H1) : TB G W m σ H Q' :=
  ⟨ρ, S, ι, F, a, Then.wimp (h.bind.mono fun b S1 F1 ι1 H1 n t => q b S1 F1 ι1 H1 n (a.next n) t) fun c d H' w => w σ⟩

theorem ds_pass : DS X W (.Pass pos) mNext := PS.imp ps_pass fun E σ H q => by
  obtain ⟨ρ, S, ι, F, a, t⟩ := q
  exact t.now a.r σ rfl a.e
theorem ds_break : DS X W (.Break pos) mBreak := PS.imp ps_break fun E σ H q => by
  obtain ⟨ρ, S, ι, F, a, t⟩ := q
  exact t.now a.r σ rfl a.e
theorem ds_continue : DS X W (.Continue pos) mCont := PS.imp ps_continue fun E σ H q => by
  obtain ⟨ρ, S, ι, F, a, t⟩ := q
  exact t.now a.r σ rfl a.e
theorem ds_expr (he : DE X W e ma) (hs : swapsWith e none pos.line X.env = pure false := by rfl) : DS X W (.Expr e pos) (mDrop ma) := PS.imp (ps_expr he hs) fun E σ H q => by
  obtain ⟨ρ, S, ι, F, a, t⟩ := q
  refine T.firstS a t fun d S1 F1 ι1 H1 v n a1 r t1 => ?_
  exact t1.now a1.r σ rfl a1.e
theorem ds_ret (he : DE X W e ma) : DS X W (.Return (some e) pos) (mRet ma) := PS.imp (ps_ret he) fun E σ H q => by
  obtain ⟨ρ, S, ι, F, a, t⟩ := q
  refine T.firstS a t fun d S1 F1 ι1 H1 v n a1 r t1 => ?_
  exact t1.now a1.r v r
theorem ds_retN : DS X W (.Return none pos) mRetN := PS.imp ps_retN fun E σ H q => by
  obtain ⟨ρ, S, ι, F, a, t⟩ := q
  exact t.now a.r .non (by simp only [RelD, RelP])
theorem gRun_then {G : Gb} {W : Value → Option Addr → Hp → Prop} {F : Addr → Prop} {ι : List Addr} {H : Hp} {g : MG} {d : D} {ρ : Env} {S : Store} {Q : Out → Store → (Addr → Prop) → List Addr → Hp → Prop} (h : Then G W F ι H (gRun g d ρ S) Q) (r : R G F ι S H) : ∃ ρ', g d ρ S = some ρ' ∧ Q (.nx ρ') S F ι H := by
  unfold gRun at h
  split at h
  · rename_i ρ' e
    exact ⟨ρ', e, h.now r⟩
  · exact h.elim
theorem ds_asg {tgt : Expr} {g : MG} {ws : List Nat} (hg : DG X ws tgt g) (he : DE X W e ma) (hs : swapsWithSole [tgt] e pos.line X.env = pure false := by rfl) (hw : swappedStores [tgt] e X.env = pure none := by rfl) (h1 : (assignEach [tgt] X.env).map (·.2) = [assign tgt X.env] := by rfl) : DS X W (.Assign [tgt] e pos) (mAsg g ma) := PS.imp (ps_asg he hg hs hw h1) fun E σ H q => by
  obtain ⟨ρ, S, ι, F, a, t⟩ := q
  refine T.firstS a t fun d S1 F1 ι1 H1 v n a1 r t1 => ?_
  obtain ⟨ρ', e', q⟩ := gRun_then t1 a1.r
  exact ⟨d, ρ, S1, ι1, F1, r, a1, ρ', e', fun σ' h hl _ => q σ' hl h⟩
theorem ds_set (i : Nat) {x : Str} {pos' : Pos} (hN : X.N.Nodup) (he : DE X W e ma) (hi : X.N[i]? = some x := by rfl) (hx : Loc X.env.scope x := by first | exact Or.inl rfl | exact Or.inr rfl) (hs : swapsWith e (some (.Name x pos')) pos.line X.env = pure false := by rfl)
    (hf : X.fn x = true ∨ X.env.scope.names.lookup x = some .local := by first | exact .inl rfl | exact .inr rfl | assumption) : DS X W (.Assign [.Name x pos'] e pos) (mAsg (gNm i) ma) := PS.imp (ps_set hN hi hx he hs hf) fun E σ H q => by
  obtain ⟨ρ, S, ι, F, a, t⟩ := q
  refine T.firstS a t fun d S1 F1 ι1 H1 v n a1 r t1 => ?_
  obtain ⟨ρ', e', q⟩ := gRun_then t1 a1.r
  cases e'
  exact q _ (by simp) (a1.e.set r i)
def IpD (X : Cx) (op : Operator) (f : F2) : Prop :=
  ∃ r : TIp, PIp X op r ∧ ∀ {F : Addr → Prop} {ι : List Addr} {S S' : Store} {H : Hp} {d1 d2 d' : D} {v1 v2 : V} {Q : VK}, R (gb X) F ι S H → RelD (gb X) F ι H d1 v1 → RelD (gb X) F ι H d2 v2 → f d1 d2 S = some (d', S') →
    (∀ F' ι' H' v, Nxt (gb X) F ι H F' ι' S' H' → RelD (gb X) F' ι' H' d' v → Q v H') → r v1 v2 H Q
theorem mVar_then {G : Gb} {W : Value → Option Addr → Hp → Prop} {F : Addr → Prop} {ι : List Addr} {H : Hp} {α : Type} {i : Nat} {ρ : Env} {σ : L2.St} {S : Store} {k : D → M α} {Q : α → Store → (Addr → Prop) → List Addr → Hp → Prop} (a : At G F ι H σ ρ S) (h : Then G W F ι H ((mVar i ρ S).bind k) Q) :
    ∃ d v, σ[i]? = some (some v) ∧ RelD G F ι H d v ∧ Then G W F ι H (k d S) Q := by
  unfold mVar at h
  split at h
  · rename_i d e
    obtain ⟨v, ev, r⟩ := a.e.get e
    exact ⟨d, v, ev, r, h⟩
  · exact h.elim
theorem ds_aug (i : Nat) {x : Str} {op : Operator} {f : F2} {pos' : Pos} (hN : X.N.Nodup) (ho : IpD X op f) (he : DE X W e ma) (hi : X.N[i]? = some x := by rfl) (hx : Loc X.env.scope x := by first | exact Or.inl rfl | exact Or.inr rfl)
    (hf : X.fn x = true ∨ X.env.scope.names.lookup x = some .local := by first | exact .inl rfl | exact .inr rfl | assumption) : DS X W (.AugAssign (.Name x pos') op e pos) (mAug i f ma) := by
  obtain ⟨r, o, k⟩ := ho
  refine PS.imp (ps_aug hN hi hx he o hf) fun E σ H q => ?_
  obtain ⟨ρ, S, ι, F, a, t⟩ := q
  obtain ⟨d0, v0, ev, r0, t⟩ := mVar_then a t
  refine ⟨v0, ev, T.firstS a t fun d S1 F1 ι1 H1 v n a1 r1 t1 => ?_⟩
  obtain ⟨z, S2, ez, q2⟩ := lift_then t1.bind
  refine k a1.r (n.d r0) r1 ez fun F' ι' H' w n2 rw => ?_
  exact (q2 F' ι' H' n2).now n2.r _ (by simp) ((a1.e.mono n2).set rw i)

theorem dss_nil : DSs X W [] mNext := PSs.imp pss_nil fun E σ H q => by
  obtain ⟨ρ, S, ι, F, a, t⟩ := q
  exact t.now a.r σ rfl a.e
theorem dss_one (h : DS X W st m1) : DSs X W [st] m1 := pss_one h
theorem seq_imp {E : Ends} {σ : L2.St} {H : Hp} (q : TSt (gb X) W (mSeq m1 m2) E σ H) : tSeq (TSt (gb X) W m1) (TSt (gb X) W m2) E σ H := by
  obtain ⟨ρ, S, ι, F, a, t⟩ := q
  refine ⟨ρ, S, ι, F, a, t.bind.mono fun o S1 F1 ι1 H1 n t1 => ?_⟩
  cases o with
  | nx ρ1 => exact fun σ1 hl r1 => ⟨ρ1, S1, ι1, F1, ⟨r1, n.r⟩, by rw [hl]; exact t1⟩
  | rt d => exact t1.now n.r
  | bk ρ1 => exact t1.now n.r
  | ct ρ1 => exact t1.now n.r
theorem dss_cons (h1 : DS X W st m1) (h2 : DSs X W sts m2) : DSs X W (st :: sts) (mSeq m1 m2) := PSs.imp (pss_cons h1 h2) fun E σ H q => seq_imp q
theorem ds_if {sa sb : List Stmt} (hc : DT X W c mt) (ha : DSs X W sa m1) (hb : DSs X W sb m2) : DS X W (.If c sa sb pos) (mIfS mt m1 m2) := PS.imp (ps_if hc ha hb) fun E σ H q => by
  obtain ⟨ρ, S, ι, F, a, t⟩ := q
  refine TB.firstS a t fun k S1 F1 ι1 H1 n a1 t1 => ?_
  cases k with
  | true =>
    rw [if_pos rfl] at t1 ⊢
    exact ⟨ρ, S1, ι1, F1, a1, t1⟩
  | false =>
    rw [if_neg (by decide)] at t1 ⊢
    exact ⟨ρ, S1, ι1, F1, a1, t1⟩

/-! ### for -/
theorem TIt.firstS {G : Gb} {W : WX} {α : Type} {F : Addr → Prop} {ι : List Addr} {σ : L2.St} {ρ : Env} {S : Store} {H : Hp} {m : ME Src} {k : Src → M α} {Q : α → Store → (Addr → Prop) → List Addr → Hp → Prop} {Q' : It → Hp → Prop}
    (a : At G F ι H σ ρ S) (h : Then G (WS W) F ι H ((m ρ S).bind k) Q)
    (q : ∀ src S1 F1 ι1 H1 J, Nxt G F ι H F1 ι1 S1 H1 → At G F1 ι1 H1 σ ρ S1 → ItOk G F1 ι1 H1 J src → Then G (WS W) F1 ι1 H1 (k src S1) Q → Q' J H1) : TIt G W m σ H Q' :=
  ⟨ρ, S, ι, F, a, Then.wimp (h.bind.mono fun src S1 F1 ι1 H1 n t J ok => q src S1 F1 ι1 H1 J n (a.next n) ok t) fun c d H' w => w σ⟩
theorem loop_for {G : Gb} {W : WX} {g : MG} {tg : TG} {ws : List Nat} (hg : ∀ v σ H Q, TGt G ws g v σ H Q → tg v σ H Q) {b : MS} {J : It} {F : Addr → Prop} {ι : List Addr} {H : Hp} {σ : L2.St} {ρ : Env} {S : Store} {src : Src} {E : Ends} (a : At G F ι H σ ρ S) (ok : ItOk G F ι H J src)
    (t : Then G (WS W) F ι H (loopI src.watch g b src.xs ρ S) (outOk G σ.length E)) :
    ∃ Wf : Nat → Nat → L2.St → Hp → Prop, (∃ m, Wf 0 m σ H) ∧ ∀ i m σ H, Wf i m σ H →
      (J.stop i H ∧ E.nx σ H) ∨ (J.go i H ∧ ∃ N : L2.St → Hp → Prop, (∀ σ' H', N σ' H' → ∃ m', m' < m ∧ Wf (i + 1) m' σ' H') ∧ ∀ x H', J.yld i H x H' → tg x σ H' fun σ2 H2 => TSt G W b { E with nx := N, ct := N, bk := E.nx } σ2 H2) := by
  refine ⟨fun i m σ1 H1 => ∃ xs ρ1 S1 F1 ι1, xs = src.xs.drop i ∧ m = xs.length ∧ σ1.length = σ.length ∧ At G F1 ι1 H1 σ1 ρ1 S1 ∧ Nxt G F ι H F1 ι1 S1 H1 ∧ Then G (WS W) F1 ι1 H1 (loopI src.watch g b xs ρ1 S1) (outOk G σ.length E),
    ⟨_, src.xs, ρ, S, F, ι, rfl, rfl, rfl, a, Nxt.refl a.r, t⟩, ?_⟩
  rintro i m σ1 H1 ⟨xs, ρ1, S1, F1, ι1, ex, em, el, a1, n1, t1⟩
  cases xs with
  | nil =>
    unfold loopI at t1
    split at t1
    · rename_i w
      have hl : src.xs.length ≤ i := by
        have := congrArg List.length ex
        simp at this
        omega
      exact .inl ⟨((ok F1 ι1 H1 S1 n1 w) i).1 hl, t1.now a1.r σ1 el a1.e⟩
    · exact t1.elim
  | cons x xs =>
    unfold loopI at t1
    split at t1
    · rename_i w
      have hx : src.xs[i]? = some x := by
        have : (src.xs.drop i)[0]? = some x := by rw [← ex]; rfl
        simpa using this
      have hd : xs = src.xs.drop (i + 1) := by
        have h2 : src.xs.drop (i + 1) = (src.xs.drop i).drop 1 := by rw [List.drop_drop]
        rw [h2, ← ex]
        rfl
      obtain ⟨go, yl⟩ := ((ok F1 ι1 H1 S1 n1 w) i).2 x hx
      refine .inr ⟨go, fun σ2 H2 => ∃ ρ2 S2 F2 ι2, σ2.length = σ.length ∧ At G F2 ι2 H2 σ2 ρ2 S2 ∧ Nxt G F ι H F2 ι2 S2 H2 ∧ Then G (WS W) F2 ι2 H2 (loopI src.watch g b xs ρ2 S2) (outOk G σ.length E), ?_, ?_⟩
      · rintro σ2 H2 ⟨ρ2, S2, F2, ι2, el2, a2, n2, t2⟩
        refine ⟨xs.length, by rw [em]; simp, xs, ρ2, S2, F2, ι2, hd, rfl, el2, a2, n2, t2⟩
      · intro v H2 hy
        obtain ⟨nx, rx⟩ := yl v H2 hy
        refine hg _ _ _ _ ?_
        unfold gBind at t1
        split at t1
        · rename_i ρ' eg
          refine ⟨x, ρ1, S1, ι1, F1, rx, a1.next nx, ρ', eg, fun σ' hr hl _ => ?_⟩
          refine ⟨ρ', S1, ι1, F1, ⟨hr, nx.r⟩, ?_⟩
          refine (Then.later t1 nx).bind.mono fun o S3 F3 ι3 H3 n3 t3 => ?_
          have el' : σ'.length = σ.length := hl.trans el
          cases o with
          | nx ρ3 => exact fun σ3 hl3 r3 => ⟨ρ3, S3, F3, ι3, hl3.trans el', ⟨r3, n3.r⟩, n1.trans (nx.trans n3), t3⟩
          | ct ρ3 => exact fun σ3 hl3 r3 => ⟨ρ3, S3, F3, ι3, hl3.trans el', ⟨r3, n3.r⟩, n1.trans (nx.trans n3), t3⟩
          | bk ρ3 => exact fun σ3 hl3 r3 => t3.now n3.r σ3 (hl3.trans el') r3
          | rt d => exact t3.now n3.r
        · exact t1.elim
    · exact t1.elim
theorem ds_for {mi : ME Src} {g : MG} {ws : List Nat} {body : List Stmt} (hp : PassesOwn (model X.prog X.w) X.A X.env X.xe) (hc : X.calm = true) (hi : DI X W tg iter mi) (hg : DG X ws tg g) (hb : DSs X W body m1)
    (hs : ∀ x, foldedSetIterable iter X.env x = pure x := by intro _; rfl) : DS X W (.For tg iter body [] pos) (mFor mi g m1) := PS.imp (ps_for hp hc hi hg hb hs) fun E σ H q => by
  obtain ⟨ρ, S, ι, F, a, t⟩ := q
  refine TIt.firstS a t fun src S1 F1 ι1 H1 J n a1 ok t1 => ?_
  exact loop_for (fun _ _ _ _ h => h) a1 ok t1

/-! ### while -/
theorem ds_while (n : Nat) {body : List Stmt} (hp : PassesOwn (model X.prog X.w) X.A X.env X.xe) (hc : DT X W c mt) (hb : DSs X W body m1) : DS X W (.While c body [] pos) (mWhile mt m1 n) := PS.imp (ps_while hp hc hb) fun E σ H q => by
  obtain ⟨ρ, S, ι, F, a, t⟩ := q
  refine ⟨fun m σ1 H1 => ∃ ρ1 S1 F1 ι1, σ1.length = σ.length ∧ At (gb X) F1 ι1 H1 σ1 ρ1 S1 ∧ Then (gb X) (WS W) F1 ι1 H1 (mWhile mt m1 m ρ1 S1) (outOk (gb X) σ.length E), ⟨n, ρ, S, F, ι, rfl, a, t⟩, ?_⟩
  rintro m σ1 H1 ⟨ρ1, S1, F1, ι1, el, a1, t1⟩
  cases m with
  | zero => exact t1.elim
  | succ m =>
    refine TB.firstS a1 t1 fun k S2 F2 ι2 H2 n2 a2 t2 => ?_
    cases k with
    | true =>
      rw [if_pos rfl] at t2 ⊢
      refine ⟨fun σ3 H3 => ∃ ρ3 S3 F3 ι3, σ3.length = σ.length ∧ At (gb X) F3 ι3 H3 σ3 ρ3 S3 ∧ Then (gb X) (WS W) F3 ι3 H3 (mWhile mt m1 m ρ3 S3) (outOk (gb X) σ.length E), fun σ' H' h => ⟨m, Nat.lt_succ_self _, h⟩, ?_⟩
      refine ⟨ρ1, S2, ι2, F2, a2, t2.bind.mono fun o S3 F3 ι3 H3 n3 t3 => ?_⟩
      cases o with
      | nx ρ3 => exact fun σ3 hl3 r3 => ⟨ρ3, S3, F3, ι3, hl3.trans el, ⟨r3, n3.r⟩, t3⟩
      | ct ρ3 => exact fun σ3 hl3 r3 => ⟨ρ3, S3, F3, ι3, hl3.trans el, ⟨r3, n3.r⟩, t3⟩
      | bk ρ3 => exact fun σ3 hl3 r3 => t3.now n3.r σ3 (hl3.trans el) r3
      | rt d => exact t3.now n3.r
    | false =>
      rw [if_neg (by decide)] at t2 ⊢
      exact t2.now a2.r σ1 el a2.e

/-! ### comprehensions -/
abbrev W0 : WX := fun _ _ _ _ => False
theorem relE_wipe {G : Gb} {F : Addr → Prop} {ι : List Addr} {H : Hp} {ρ : Env} {σ : L2.St} (h : RelE G F ι H ρ σ) : ∀ vs : List Nat, RelE G F ι H (unsetE ρ vs) (wipe σ vs)
  | [] => h
  | v :: vs => (relE_wipe h vs).unset v
theorem noErr_then {G : Gb} {W W' : Value → Option Addr → Hp → Prop} {F : Addr → Prop} {ι : List Addr} {H : Hp} {α β : Type} {r : Res α} {k : α → M β} {Q : β → Store → (Addr → Prop) → List Addr → Hp → Prop} (h : Then G W F ι H ((noErr r).bind k) Q) :
    Then G W' F ι H r (fun a S' _ _ _ => Then G W F ι H (k a S') Q) := by
  cases r with
  | ok a S' => exact fun _ _ _ _ => h
  | err e S' => exact h.elim
  | stuck => exact h.elim
/-- an untracked object is changed -/
theorem Nxt.own {G : Gb} {F F' : Addr → Prop} {ι ι' : List Addr} {H H' : Hp} {S : Store} {a : Addr} {xs : List V} {o : HO} (n : Nxt G F ι H F' ι' S H') (ha : H a = none) (hi : a ∉ ι') (hf : ¬ F' a) (ho : H' a = some (.lst xs)) : Nxt G F ι H F' ι' S (upd H' a o) := by
  have kw : KeepW F' H' (upd H' a o) := fun b u e h => by
    have hb : b ≠ a := fun z => by
      subst z
      rcases h with h | h
      · exact hf h
      · rw [ho] at e
        cases e
        cases h
    rw [upd_ne hb]
    exact e
  refine ⟨n.sub, fun b u e h => ?_, n.pre, n.nw, n.nF, fun b u e => let ⟨u', e'⟩ := n.old b u e; old_upd b u' e', ⟨n.r.len, n.r.nd, n.r.nf, fun b h => fz_upd n.r hf h, tabs_put ho rfl n.r.tb, fun m b x e q => ?_⟩⟩
  · rw [upd_ne (fun z => by subst z; rw [ha] at e; cases e)]
    exact n.keep b u e h
  · exact RelO.mono kw (fun _ h => h) (List.prefix_refl _) (upd_ne fun z => hi (z ▸ List.mem_of_getElem? e)) (n.r.ob m b x e q)
/-- a list at a that nobody else holds becomes frozen | comes into the store -/
theorem Nxt.own_frz {G : Gb} {F F' : Addr → Prop} {ι ι' : List Addr} {H H' : Hp} {S : Store} {a : Addr} {xs : List V} (n : Nxt G F ι H F' ι' S H') (ha : H a = none) (hi : a ∉ ι') (ho : H' a = some (.lst xs)) : Nxt G F ι H (fun b => F' b ∨ b = a) ι' S H' where
  sub := fun b h => .inl (n.sub b h)
  keep := n.keep
  pre := n.pre
  nw := n.nw
  nF := fun b h z => h.elim (fun h => n.nF b h z) fun h => by rw [h]; exact ha
  old := n.old
  r :=
    { len := n.r.len
      nd := n.r.nd
      nf := fun b h z => z.elim (n.r.nf b h) fun z => hi (z ▸ h)
      fz := fun b h => h.elim (n.r.fz b) fun h => ⟨.lst xs, by rw [h]; exact ho, rfl⟩
      tb := n.r.tb
      ob := fun m b x e q => RelO.mono (F' := fun b => F' b ∨ b = a) (fun b u e _ => e) (fun _ h => Or.inl h) (List.prefix_refl _) rfl (n.r.ob m b x e q) }
theorem Nxt.own_new {G : Gb} {F F' : Addr → Prop} {ι ι' : List Addr} {H H' : Hp} {S : Store} {a : Addr} {ds : List D} {xs : List V} (n : Nxt G F ι H F' ι' S H') (ha : H a = none) (hi : a ∉ ι') (hf : ¬ F' a) (ho : H' a = some (.lst xs)) (rd : RelDs G F' ι' H' ds xs) (hw : (O.lst ds).lo S.objs.length = true) :
    Nxt G F ι H F' (ι' ++ [a]) (S.new (.lst ds) hw) H' where
  sub := n.sub
  keep := n.keep
  pre := n.pre.trans (List.prefix_append _ _)
  nw := fun b h z => by
    rcases List.mem_append.mp h with h | h
    · exact n.nw b h z
    · have e : b = a := by simpa using h
      rw [e]
      exact ha
  nF := n.nF
  old := n.old
  r :=
    { len := by simp [Store.new, n.r.len]
      nd := by
        rw [List.nodup_append]
        refine ⟨n.r.nd, by simp, fun b hb c hc => ?_⟩
        have e : c = a := by simpa using hc
        rw [e]
        exact fun z => hi (z ▸ hb)
      nf := fun b h => by
        rcases List.mem_append.mp h with h | h
        · exact n.r.nf b h
        · have e : b = a := by simpa using h
          rw [e]
          exact hf
      fz := n.r.fz
      tb := n.r.tb
      ob := fun m b x e q => by
        by_cases hm : m < ι'.length
        · rw [List.getElem?_append_left hm] at e
          have q' : S.objs[m]? = some x := by
            have hm' : m < S.objs.length := by rw [← n.r.len]; exact hm
            simpa [Store.new, List.getElem?_append_left hm'] using q
          exact RelO.mono (fun b u e _ => e) (fun _ h => h) (List.prefix_append _ _) rfl (n.r.ob m b x e q')
        · have hm2 : m = ι'.length := by
            have := (List.getElem?_eq_some_iff.mp e).1
            simp at this
            omega
          subst hm2
          simp at e
          subst e
          have q' : x = .lst ds := by
            have : (S.objs ++ [O.lst ds])[ι'.length]? = some x := q
            rw [n.r.len] at this
            simp at this
            exact this.symm
          subst q'
          exact ⟨xs, ho, rd.mono (fun b u e _ => e) (fun _ h => h) (List.prefix_append _ _)⟩ }
theorem Nxt.hole {G : Gb} {F F' : Addr → Prop} {ι ι' : List Addr} {H H' : Hp} {S : Store} {a : Addr} {o : HO} (n : Nxt G F ι H F' ι' S H') (ho : H a = some o) (hi : a ∉ ι) (hf : ¬ F a) (ht : isTbl o = false := by rfl) : H' a = some o ∧ a ∉ ι' ∧ ¬ F' a :=
  ⟨n.keep a o ho (.inr (.inr ⟨hi, ht⟩)), (fun z => by
    have := n.nw a z hi
    rw [ho] at this
    cases this), (fun z => by
    have := n.nF a z hf
    rw [ho] at this
    cases this)⟩
theorem wipe_sub (σ : L2.St) (vs : List Nat) : ∀ us : List Nat, (∀ u ∈ us, u ∈ vs) → wipe (wipe σ us) vs = wipe σ vs
  | [], _ => rfl
  | u :: us, h => by
    show wipe ((wipe σ us).set u none) vs = wipe σ vs
    rw [wipe_set, if_pos (h u List.mem_cons_self)]
    exact wipe_sub σ vs us fun x hx => h x (List.mem_cons_of_mem _ hx)
variable {vs : List Nat} {g : MG} {me : ME D}
/-- the comprehension's turns; fin: what its list becomes -/
theorem comp_imp {G : Gb} {W : WX} {mi : ME Src} {tg : TG} {tt : TT} {te : TE} {fin : FL} (hg : ∀ v σ H Q, TGt G vs g v σ H Q → tg v σ H Q) (ht : ∀ σ H Q, TB G W0 mt σ H Q → tt σ H Q) (he : ∀ σ H Q, T G W0 me σ H Q → te σ H Q)
    (hfin : ∀ {F F' : Addr → Prop} {ι ι' : List Addr} {H H' : Hp} {S S' : Store} {a : Addr} {xs : List V} {ds : List D} {d' : D}, Nxt G F ι H F' ι' S H' → H a = none → a ∉ ι' → ¬ F' a → H' a = some (.lst xs) → RelDs G F' ι' H' ds xs → fin ds S = some (d', S') →
      ∃ F'' ι'', Nxt G F ι H F'' ι'' S' H' ∧ RelD G F'' ι'' H' d' (.ref a)) {σ : L2.St} {H : Hp} {Q : VK} (q : T G W (mCallB fin (mCompL mi vs g mt me)) σ H Q) : tLc (TIt G W mi) tg tt te vs σ H Q := by
  obtain ⟨ρ, S, ι, F, a, t⟩ := q
  have t' : Then G (fun c d H' => W c d σ H') F ι H ((mi ρ S).bind fun src => fun S => (compI src.watch g mt me (unsetE ρ vs) [] src.xs S).bind fun ds => lift (fin ds)) (fun d _ F' ι' H' => ∀ v, RelD G F' ι' H' d v → Q v H') := by
    unfold mCallB mCompL at t
    cases e : mi ρ S with
    | ok src S1 => rw [e] at t; exact t
    | err x S1 => rw [e] at t; exact t
    | stuck => rw [e] at t; exact t
  refine ⟨ρ, S, ι, F, a, t'.bind.mono fun src S1 F1 ι1 H1 n1 t1 J ok L hL => ?_⟩
  have a1 := a.next n1
  refine ⟨fun i m H2 => ∃ xs acc S2 F2 ι2 us, xs = src.xs.drop i ∧ m = xs.length ∧ Nxt G F1 ι1 H1 F2 ι2 S2 H2 ∧ L ∉ ι2 ∧ ¬ F2 L ∧ H2 L = some (.lst us) ∧ RelDs G F2 ι2 H2 acc us ∧
      Then G (fun c d H' => W c d σ H') F1 ι1 H1 ((compI src.watch g mt me (unsetE ρ vs) acc xs S2).bind fun ds => lift (fin ds)) (fun d _ F' ι' H' => ∀ v, RelD G F' ι' H' d v → Q v H'),
    ⟨_, src.xs, [], S1, F1, ι1, [], rfl, rfl, Nxt.fresh n1.r hL, fun z => n1.r.ne hL z rfl, n1.r.nF hL, upd_same, relDs_nil', t1⟩, ?_⟩
  rintro i m H2 ⟨xs, acc, S2, F2, ι2, us, ex, em, n2, hi, hf, hus, racc, t2⟩
  cases xs with
  | nil =>
    unfold compI at t2
    split at t2
    · rename_i w
      have hl : src.xs.length ≤ i := by
        have := congrArg List.length ex
        simp at this
        omega
      refine .inl ⟨((ok F2 ι2 H2 S2 n2 w) i).1 hl, ?_⟩
      obtain ⟨d', S3, e3, q3⟩ := lift_then t2
      obtain ⟨F3, ι3, n3, r3⟩ := hfin n2 hL hi hf hus racc e3
      exact q3 F3 ι3 H2 n3 _ r3
    · exact t2.elim
  | cons x xs =>
    unfold compI at t2
    split at t2
    · rename_i w
      have hx : src.xs[i]? = some x := by
        have : (src.xs.drop i)[0]? = some x := by rw [← ex]; rfl
        simpa using this
      have hd : xs = src.xs.drop (i + 1) := by
        have h2 : src.xs.drop (i + 1) = (src.xs.drop i).drop 1 := by rw [List.drop_drop]
        rw [h2, ← ex]
        rfl
      obtain ⟨go, yl⟩ := ((ok F2 ι2 H2 S2 n2 w) i).2 x hx
      refine .inr ⟨go, fun H3 => ∃ acc S3 F3 ι3 us, Nxt G F1 ι1 H1 F3 ι3 S3 H3 ∧ L ∉ ι3 ∧ ¬ F3 L ∧ H3 L = some (.lst us) ∧ RelDs G F3 ι3 H3 acc us ∧
          Then G (fun c d H' => W c d σ H') F1 ι1 H1 ((compI src.watch g mt me (unsetE ρ vs) acc xs S3).bind fun ds => lift (fin ds)) (fun d _ F' ι' H' => ∀ v, RelD G F' ι' H' d v → Q v H'), ?_, ?_⟩
      · rintro H3 ⟨acc, S3, F3, ι3, us, n3, i3, f3, u3, r3, t3⟩
        exact ⟨xs.length, by rw [em]; simp, xs, acc, S3, F3, ι3, us, hd, rfl, n3, i3, f3, u3, r3, t3⟩
      · intro v H3 hy
        obtain ⟨nx, rx⟩ := yl v H3 hy
        have n23 := n2.trans nx
        have aw : At G F2 ι2 H3 (wipe σ vs) (unsetE ρ vs) S2 := ⟨relE_wipe ((a1.e.mono n23)) vs, nx.r⟩
        refine hg _ _ _ _ ?_
        split at t2
        · exact t2.elim
        · rename_i ρ' eg
          refine ⟨x, unsetE ρ vs, S2, ι2, F2, rx, aw, ρ', eg, fun σ' hr hl hw => ⟨hw.trans (wipe_sub σ vs vs fun _ h => h), ?_⟩⟩
          have t2' : Then G (fun c d H' => W c d σ H') F1 ι1 H1 ((noErr (mt ρ' S2)).bind fun k S => (if k = true then fun S => (noErr (me ρ' S)).bind fun y => fun S => if acc.length < 100000 then compI src.watch g mt me (unsetE ρ vs) (acc ++ [y]) xs S else .stuck else compI src.watch g mt me (unsetE ρ vs) acc xs) S |>.bind fun ds => lift (fin ds)) (fun d _ F' ι' H' => ∀ v, RelD G F' ι' H' d v → Q v H') := by
            cases ek : noErr (mt ρ' S2) with
            | ok k S3 => rw [ek] at t2; exact t2
            | err z S3 => rw [ek] at t2; exact t2
            | stuck => rw [ek] at t2; exact t2
          refine ht _ _ _ ⟨ρ', S2, ι2, F2, ⟨hr, nx.r⟩, (Then.later (noErr_then t2') n23).mono fun k S4 F4 ι4 H4 n4 t4 => ?_⟩
          have h2 := nx.hole hus hi hf
          have h4 := n4.hole h2.1 h2.2.1 h2.2.2
          cases k with
          | true =>
            rw [if_pos rfl] at t4
            show if (true : Bool) = true then _ else _
            rw [if_pos rfl]
            have t4' : Then G (fun c d H' => W c d σ H') F1 ι1 H1 ((noErr (me ρ' S4)).bind fun y S => (if acc.length < 100000 then compI src.watch g mt me (unsetE ρ vs) (acc ++ [y]) xs S else .stuck).bind fun ds => lift (fin ds)) (fun d _ F' ι' H' => ∀ v, RelD G F' ι' H' d v → Q v H') := by
              cases ek : noErr (me ρ' S4) with
              | ok k S3 => rw [ek] at t4; exact t4
              | err z S3 => rw [ek] at t4; exact t4
              | stuck => rw [ek] at t4; exact t4
            refine he _ _ _ ⟨ρ', S4, ι4, F4, ⟨hr.mono n4, n4.r⟩, (Then.later (noErr_then t4') (n23.trans n4)).mono fun y S5 F5 ι5 H5 n5 t5 v5 r5 => ?_⟩
            have h5 := n5.hole h4.1 h4.2.1 h4.2.2
            split at t5
            · rename_i hlen
              have racc5 : RelDs G F5 ι5 H5 acc us := n5.ds (n4.ds (nx.ds racc))
              refine ⟨us, h5.1, ?_, acc ++ [y], S5, F5, ι5, us ++ [v5], Nxt.own ((n23.trans n4).trans n5) hL h5.2.1 h5.2.2 h5.1, h5.2.1, h5.2.2, upd_same, ?_, t5⟩
              · rw [← relDs_len racc5]
                exact Nat.lt_of_lt_of_le hlen (szOk (Nat.le_refl _))
              · refine (relDs_append racc5 (relDs_cons.mpr ⟨r5, relDs_nil'⟩)).mono ?_ (fun _ h => h) (List.prefix_refl _)
                intro b u e h
                have hb : b ≠ L := fun z => by
                  subst z
                  rcases h with h | h
                  · exact h5.2.2 h
                  · rw [h5.1] at e
                    cases e
                    cases h
                rw [upd_ne hb]
                exact e
            · exact t5.elim
          | false =>
            rw [if_neg (by decide)] at t4
            show if (false : Bool) = true then _ else _
            rw [if_neg (by decide)]
            exact ⟨acc, S4, F4, ι4, us, n23.trans n4, h4.2.1, h4.2.2, h4.1, n4.ds (nx.ds racc), t4⟩
    · exact t2.elim
theorem fin_F {G : Gb} {F F' : Addr → Prop} {ι ι' : List Addr} {H H' : Hp} {S S' : Store} {a : Addr} {xs : List V} {ds : List D} {d' : D} (n : Nxt G F ι H F' ι' S H') (ha : H a = none) (hi : a ∉ ι') (hf : ¬ F' a) (ho : H' a = some (.lst xs)) (r : RelDs G F' ι' H' ds xs) (e : fLstF ds S = some (d', S')) :
    ∃ F'' ι'', Nxt G F ι H F'' ι'' S' H' ∧ RelD G F'' ι'' H' d' (.ref a) := by
  unfold fLstF at e
  split at e
  · split at e
    · rename_i ps ep
      cases e
      refine ⟨_, _, n.own_frz ha hi ho, ?_⟩
      simp only [RelD, RelP]
      exact ⟨a, xs, rfl, .inr rfl, ho, (pures_rel ep r).mono (fun b u e _ => e) fun _ h => .inl h⟩
    · cases e
  · cases e
theorem fin_N {G : Gb} {F F' : Addr → Prop} {ι ι' : List Addr} {H H' : Hp} {S S' : Store} {a : Addr} {xs : List V} {ds : List D} {d' : D} (n : Nxt G F ι H F' ι' S H') (ha : H a = none) (hi : a ∉ ι') (hf : ¬ F' a) (ho : H' a = some (.lst xs)) (r : RelDs G F' ι' H' ds xs) (e : fLst ds S = some (d', S')) :
    ∃ F'' ι'', Nxt G F ι H F'' ι'' S' H' ∧ RelD G F'' ι'' H' d' (.ref a) := by
  unfold fLst at e
  split at e
  · split at e
    · rename_i hw
      cases e
      refine ⟨_, _, n.own_new ha hi hf ho r hw, ?_⟩
      simp only [RelD]
      exact ⟨a, rfl, by rw [← n.r.len]; simp⟩
    · cases e
  · cases e
end
end DL
set_option maxHeartbeats 2000000
/-! DLFn: comprehensions as expressions, defs, calls. -/
namespace DL
open PySem PySem.Spec PyProof.Rows L2
variable [HasT]

section
variable {X : Cx} {W : WX} {e a b c tg iter elt : Expr} {es ifs : List Expr} {pos p : Pos} {mt : ME Bool} {me : ME D} {mi : ME Src} {g : MG} {scope : Scope} {own : List (Str × Nat)}
abbrev DTs (X : Cx) (W : WX) (e : List Expr) (m : ME Bool) : Prop := PTs X e (TB (gb X) W m)
theorem PTs.imp {X : Cx} {e : List Expr} {t t' : TT} (h : PTs X e t) (i : ∀ σ H Q, t' σ H Q → t σ H Q) : PTs X e t' := ⟨fun pins s σ H Q I q => h.run pins s σ H Q I (i σ H Q q)⟩
theorem dts_nil : DTs X W [] mYes := PTs.imp pts_nil fun σ H Q q => by
  obtain ⟨ρ, S, ι, F, a, t⟩ := q
  exact t.now a.r
theorem dts_one (h : DT X W c mt) : DTs X W [c] mt := pts_one h
/-- [elt for tg in iter if ..], the list frozen at once | in the store -/
theorem de_lcF (hc : X.calm = true) (hN : X.N.Nodup) (ok : BlkOk X.N X.env.scope scope own) (hi : DI X W tg iter mi)
    (hg : ∀ (s : Shared) (H : Hp) (C : Addr) (cl : List (Str × Addr)) (fp : List Addr), DG (X.blk s H scope (compEnvC scope cl C X.env) fp) (own.map (·.2)) tg g)
    (ht : ∀ (s : Shared) (H : Hp) (C : Addr) (cl : List (Str × Addr)) (fp : List Addr), DTs (X.blk s H scope (compEnvC scope cl C X.env) fp) W0 ifs mt)
    (he : ∀ (s : Shared) (H : Hp) (C : Addr) (cl : List (Str × Addr)) (fp : List Addr), DE (X.blk s H scope (compEnvC scope cl C X.env) fp) W0 elt me) (hs : ∀ x, foldedSetIterable iter X.env x = pure x := by intro _; rfl) :
    DE X W (.ListComp elt [⟨tg, iter, ifs, 0⟩] scope pos) (mCallB fLstF (mCompL mi (own.map (·.2)) g mt me)) :=
  PE.imp (pe_lc hc hN hi ok hg ht he hs) fun σ H Q q => comp_imp (fun _ _ _ _ h => h) (fun _ _ _ h => h) (fun _ _ _ h => h) (fun n ha hi hf ho r e => fin_F n ha hi hf ho r e) q
theorem de_lc (hc : X.calm = true) (hN : X.N.Nodup) (ok : BlkOk X.N X.env.scope scope own) (hi : DI X W tg iter mi)
    (hg : ∀ (s : Shared) (H : Hp) (C : Addr) (cl : List (Str × Addr)) (fp : List Addr), DG (X.blk s H scope (compEnvC scope cl C X.env) fp) (own.map (·.2)) tg g)
    (ht : ∀ (s : Shared) (H : Hp) (C : Addr) (cl : List (Str × Addr)) (fp : List Addr), DTs (X.blk s H scope (compEnvC scope cl C X.env) fp) W0 ifs mt)
    (he : ∀ (s : Shared) (H : Hp) (C : Addr) (cl : List (Str × Addr)) (fp : List Addr), DE (X.blk s H scope (compEnvC scope cl C X.env) fp) W0 elt me) (hs : ∀ x, foldedSetIterable iter X.env x = pure x := by intro _; rfl) :
    DE X W (.ListComp elt [⟨tg, iter, ifs, 0⟩] scope pos) (mCallB fLst (mCompL mi (own.map (·.2)) g mt me)) :=
  PE.imp (pe_lc hc hN hi ok hg ht he hs) fun σ H Q q => comp_imp (fun _ _ _ _ h => h) (fun _ _ _ h => h) (fun _ _ _ h => h) (fun n ha hi hf ho r e => fin_N n ha hi hf ho r e) q
/-- y = [..] -/
theorem asg_imp {i : Nat} {m : ME D} {t : TE} (hT : ∀ σ H Q, T (gb X) W m σ H Q → t σ H Q) {E : Ends} {σ : L2.St} {H : Hp} (q : TSt (gb X) W (mAsg (gNm i) m) E σ H) : tAsg t (gName i) E σ H := by
  obtain ⟨ρ, S, ι, F, a, t⟩ := q
  refine hT _ _ _ (T.firstS a t fun d S1 F1 ι1 H1 v n a1 r t1 => ?_)
  obtain ⟨ρ', e', q⟩ := gRun_then t1 a1.r
  cases e'
  exact q _ (by simp) (a1.e.set r i)
theorem ds_setLcF (i : Nat) {y : Str} {py spos : Pos} (hc : X.calm = true) (hN : X.N.Nodup) (ok : BlkOk X.N X.env.scope scope own) (hi : DI X W tg iter mi)
    (hg : ∀ (s : Shared) (H : Hp) (C : Addr) (cl : List (Str × Addr)) (fp : List Addr), DG (X.blk s H scope (compEnvC scope cl C X.env) fp) (own.map (·.2)) tg g)
    (ht : ∀ (s : Shared) (H : Hp) (C : Addr) (cl : List (Str × Addr)) (fp : List Addr), DTs (X.blk s H scope (compEnvC scope cl C X.env) fp) W0 ifs mt)
    (he : ∀ (s : Shared) (H : Hp) (C : Addr) (cl : List (Str × Addr)) (fp : List Addr), DE (X.blk s H scope (compEnvC scope cl C X.env) fp) W0 elt me)
    (hsw : swapsWith (.ListComp elt [⟨tg, iter, ifs, 0⟩] scope pos) (some (.Name y py)) spos.line X.env = pure true) (hy : X.N[i]? = some y := by rfl) (hyl : X.env.scope.names.lookup y = some .local := by rfl) (hs : ∀ x, foldedSetIterable iter X.env x = pure x := by intro _; rfl) :
    DS X W (.Assign [.Name y py] (.ListComp elt [⟨tg, iter, ifs, 0⟩] scope pos) spos) (mAsg (gNm i) (mCallB fLstF (mCompL mi (own.map (·.2)) g mt me))) :=
  PS.imp (ps_setLc hc hN hy hyl hsw hi ok hg ht he hs) fun E σ H q => asg_imp (fun σ H Q q => comp_imp (fun _ _ _ _ h => h) (fun _ _ _ h => h) (fun _ _ _ h => h) (fun n ha hi hf ho r e => fin_F n ha hi hf ho r e) q) q
theorem ds_setLc (i : Nat) {y : Str} {py spos : Pos} (hc : X.calm = true) (hN : X.N.Nodup) (ok : BlkOk X.N X.env.scope scope own) (hi : DI X W tg iter mi)
    (hg : ∀ (s : Shared) (H : Hp) (C : Addr) (cl : List (Str × Addr)) (fp : List Addr), DG (X.blk s H scope (compEnvC scope cl C X.env) fp) (own.map (·.2)) tg g)
    (ht : ∀ (s : Shared) (H : Hp) (C : Addr) (cl : List (Str × Addr)) (fp : List Addr), DTs (X.blk s H scope (compEnvC scope cl C X.env) fp) W0 ifs mt)
    (he : ∀ (s : Shared) (H : Hp) (C : Addr) (cl : List (Str × Addr)) (fp : List Addr), DE (X.blk s H scope (compEnvC scope cl C X.env) fp) W0 elt me)
    (hsw : swapsWith (.ListComp elt [⟨tg, iter, ifs, 0⟩] scope pos) (some (.Name y py)) spos.line X.env = pure true) (hy : X.N[i]? = some y := by rfl) (hyl : X.env.scope.names.lookup y = some .local := by rfl) (hs : ∀ x, foldedSetIterable iter X.env x = pure x := by intro _; rfl) :
    DS X W (.Assign [.Name y py] (.ListComp elt [⟨tg, iter, ifs, 0⟩] scope pos) spos) (mAsg (gNm i) (mCallB fLst (mCompL mi (own.map (·.2)) g mt me))) :=
  PS.imp (ps_setLc hc hN hy hyl hsw hi ok hg ht he hs) fun E σ H q => asg_imp (fun σ H Q q => comp_imp (fun _ _ _ _ h => h) (fun _ _ _ h => h) (fun _ _ _ h => h) (fun n ha hi hf ho r e => fin_N n ha hi hf ho r e) q) q
end

/-! ### defs, with nothing that is being shown around them -/
/-- as the layer's FnOk, called where no repr is under way -/
structure FnOkG (P : Program) (w : World) (K : PySem.W.Frag) (mg : Str → Option Value) (base : Heap) (k : Nat) (f : Addr) (fd : FuncData) (ps : List Str) (sp : Sp) : Prop where
  len : ∀ vs H Q E, sp vs H Q E → vs.length = ps.length
  run : ∀ (A : Around) (outer : List PySem.Env) (s : Shared) (H : Hp) (args : PySem.Args) (us : List Value) (vs : List V) (Q : VK) (E : XK), Room k A → A.guards = some [] → Env0 P w K mg base A outer s H → BindsTo s fd args (ps.zip us) → Vals vs us → sp vs H Q E →
    codeAny (model P w) A (.call (.ref f) args) (CR (L2.CX P w) outer P w H s Q E) s
theorem FnOkG.mono {P : Program} {w : World} {K : PySem.W.Frag} {mg : Str → Option Value} {base : Heap} {j k : Nat} {f : Addr} {fd : FuncData} {ps : List Str} {sp : Sp} (F : FnOkG P w K mg base j f fd ps sp) (h : j ≤ k) : FnOkG P w K mg base k f fd ps sp :=
  ⟨F.len, fun A outer s H args us vs Q E hr => F.run A outer s H args us vs Q E (hr.mono h)⟩
theorem fnG_of {P : Program} {w : World} {K : PySem.W.Frag} {mg : Str → Option Value} {base : Heap} {k : Nat} {f : Addr} {name qual : Str} {params : Arguments} {body : List Stmt} {scope : Scope} {dV kV doc pm cdv ct oc : Value} {an od : Option Addr}
    {osl : Array (Option Value)} {N ps : List Str} {sp : Sp} (lk : K.lookup f = some ⟨oc, od, .func (PySem.W.fnOf name qual params body scope dV kV doc pm an cdv ct), osl⟩) (hcd : PySem.W.codeIn K cdv qual = true) (S : FnScope N ps scope)
    (len : ∀ vs H Q E, sp vs H Q E → vs.length = ps.length)
    (hbody : ∀ (A : Around) (outer : List PySem.Env) (s : Shared) (H : Hp) (vs : List V) (Q : VK) (E : XK), Room k (A.deeper (envOfC qual scope s.heap.objs.size f cdv)) → (A.deeper (envOfC qual scope s.heap.objs.size f cdv)).guards = some [] → sp vs H Q E →
      ∃ t, PSs (cxOf (L2.CX P w) P w K mg base N qual scope f cdv A outer s H E) body t ∧ t { nx := fun _ H' => Q .non H', rt := Q } (L2.start N vs) H) :
    FnOkG P w K mg base (k + 1) f (PySem.W.fnOf name qual params body scope dV kV doc pm an cdv ct) ps sp := by
  refine ⟨len, fun A outer s H args us vs Q E hr hgd e0 hb r hsp => ?_⟩
  have KX : K.In s.heap := e0.mod.kin.keeps fun b o e => (e0.bs b o e).1
  have lim : s.heap.NoLimit := e0.mod.nolimit.keeps fun b o e => (e0.bs b o e).1
  have hkind : ∀ y ∈ ps.zip us, scope.names.lookup y.1 = some .local ∨ (scope.names.lookup y.1 = some .cell ∧ ((cellsFrom (s.heap.objs.size + 1) scope.names []).lookup y.1).isSome = true) := fun ⟨n, v⟩ hy => by
    rcases S.par n (List.of_mem_zip hy).1 with q | q
    · exact .inl q
    · exact .inr ⟨q, PySem.W.cellsFrom_some _ _ _ (.inl q)⟩
  refine codeAny_call_function hr.depth (KX _ _ lk) rfl S.co S.gen rfl (PySem.W.codeRec_of KX hcd) (hb _ _ _ _ ?_)
  refine wpAny_newFunctionEnv_cells S.kind hkind fun env he s1 x => ?_
  subst he
  refine ⟨lim.keeps x.toInCall.keep, codeAny_func ?_⟩
  obtain ⟨t, ht, hq⟩ := hbody A outer s H vs Q E (hr.deeper _) hgd hsp
  have I : Inv (cxOf (L2.CX P w) P w K mg base N qual scope f cdv A outer s H E) [] (L2.start N vs) H s1 := inv_start S hr.hd e0 (len _ _ _ _ hsp) r x
  refine wpAny_mono (ht.run [] s1 (L2.start N vs) H _ I hq) (fun fl s' hs => ?_) fun e s' hs => hs
  have done : ∀ {σ' : L2.St} {H' : Hp} {v : V} {u : Value}, Inv (cxOf (L2.CX P w) P w K mg base N qual scope f cdv A outer s H E) [] σ' H' s' → RelV v u → Q v H' → CE outer P w H s Q u s' :=
    fun {σ' H' v u} J rv q => ⟨v, H', J.os, J.bare, J.base, J.hok, rv, q⟩
  cases fl with
  | ret u =>
    obtain ⟨v, σ', H', J, rv, q⟩ := hs
    exact done J rv q
  | next =>
    obtain ⟨σ', H', J, q⟩ := hs
    exact done (v := V.non) (u := Value.none) J rfl q
  | brk =>
    obtain ⟨_, _, _, q⟩ := hs
    exact False.elim q
  | cont =>
    obtain ⟨_, _, _, q⟩ := hs
    exact False.elim q
section
variable {X : Cx} {k : Nat} {f : Addr} {fd : FuncData} {ps : List Str} {sp : Sp} {E : L2.St → XK} {x : Str} {p pos : Pos} {e : Expr} {es : List Expr} {t : TA}
theorem run_fnG {pins : List (Addr × Obj)} {σ : L2.St} {H : Hp} {s : Shared} {Q : VK} {us : List Value} {vs : List V} (F : FnOkG X.prog X.w X.K X.mg X.base k f fd ps sp) (hr : Room k X.A) (hgd : X.A.guards = some []) (hb : Binds X.K fd ps []) (hx : PassesAt (L2.CX X.prog X.w) X σ (E σ))
    (I : Inv X pins σ H s) (r : Vals vs us) (h : sp vs H Q (E σ)) : wpAny (model X.prog X.w) X.A (call (.ref f) us) (EP X pins σ Q) X.xe s := by
  have hl : us.length = ps.length := by rw [← r.length]; exact F.len _ _ _ _ h
  have b := hb s us I.kIn (by rw [List.append_nil]; exact hl)
  rw [List.append_nil] at b
  refine wpAny_call (codeAny_mono (F.run X.A X.stack s H ⟨us, []⟩ us vs Q (E σ) hr hgd I.env0 b r h) fun r s' hq => ?_)
  cases r with
  | error e => exact hx pins H s e s' I hq
  | ok fl =>
    cases fl with
    | ret u => exact I.after hq
    | next => exact False.elim hq
    | brk => exact False.elim hq
    | cont => exact False.elim hq
theorem pe_callG (F : FnOkG X.prog X.w X.K X.mg X.base k f fd ps sp) (hr : Room k X.A) (hgd : X.A.guards = some []) (hg : Gl X x) (hm : X.mg x = some (.ref f)) (hk : PySem.W.keepIn X.K (.ref f) = true) (hb : Binds X.K fd ps []) (hx : ∀ σ, PassesAt (L2.CX X.prog X.w) X σ (E σ))
    (ha : PA X (e :: es) t) (hdb : (x == ("__debug__" : Str)) = false := by decide) (he : starEach (e :: es) X.env = (false, eval e X.env) :: starEach es X.env := by rfl) (hpl : (backTo pos (starEach es X.env)).any (·.1) = false := by rfl) :
    PE X (.Call (.Name x p) (e :: es) [] pos) (tCallS sp E t) := by
  refine ⟨fun pins s σ H Q I h => ?_⟩
  refine wpAny_Call_Name_kw (ld_glob I hg hm ?_ hdb)
  refine PySem.W.callWith_K (h₀ := X.base) I.ok.mod.kin hk (thn (ha.run pos pins s σ H _ I h) fun us s1 ⟨vs, H1, I1, r, q⟩ => ⟨I1.kIn, ?_⟩) he hpl
  exact run_fnG F hr hgd hb (hx σ) I1 r q
end

/-! ### defs -/
def spD (G : Gb) (n : Nat) (mf : List D → M D) : Sp := fun vs H Q E => vs.length = n ∧ ∃ ds S ι F, R G F ι S H ∧ RelDs G F ι H ds vs ∧ Then G E F ι H (mf ds S) fun d _ F' ι' H' => ∀ v, RelD G F' ι' H' d v → Q v H'
/-- a def of the module: by at most level k, of n parameters, its run mf -/
def FnD (P : Program) (w : World) (K : PySem.W.Frag) (mg : Str → Option Value) (base : Heap) (x : Str) (k n : Nat) (mf : List D → M D) : Prop :=
  ∃ f fd ps, mg x = some (.ref f) ∧ PySem.W.keepIn K (.ref f) = true ∧ Binds K fd ps [] ∧ ps.length = n ∧ FnOkG P w K mg base k f fd ps (spD ⟨K, mg⟩ n mf)
theorem FnD.mono {P : Program} {w : World} {K : PySem.W.Frag} {mg : Str → Option Value} {base : Heap} {x : Str} {j k n : Nat} {mf : List D → M D} (h : FnD P w K mg base x j n mf) (hj : j ≤ k) : FnD P w K mg base x k n mf := by
  obtain ⟨f, fd, ps, a, b, c, d, e⟩ := h
  exact ⟨f, fd, ps, a, b, c, d, e.mono hj⟩
def asRet : Out → M D
  | .nx _ => fun S => .ok (.p .non) S
  | .rt d => fun S => .ok d S
  | _ => fun _ => .stuck
/-! what is thrown away behind a call -/
/-- the first k things alone -/
def Store.cut (k : Nat) (S : Store) : Option Store := if h : (decide (k ≤ S.objs.length) && allBelow k (S.objs.take k)) = true then some ⟨S.objs.take k, by
    simp only [Bool.and_eq_true, decide_eq_true_eq] at h
    rw [List.length_take, Nat.min_eq_left h.1]
    exact h.2⟩ else none
/-- of each one, if of all -/
def frzAll (g : D → Option P) : List D → Option (List P)
  | [] => some []
  | d :: ds => match g d, frzAll g ds with
    | some p, some ps => some (p :: ps)
    | _, _ => none
/-- data of a value whose lists were all made behind the first k things -/
def frzD (k : Nat) (S : Store) : Nat → D → Option P
  | 0, .p x => some x
  | 0, .r _ => none
  | 0, .t _ => none
  | _ + 1, .p x => some x
  | f + 1, .r n => if k ≤ n then (match S.objs[n]? with
    | some (.lst ds) => (frzAll (fun d => frzD k S f d) ds).map P.lst
    | some (.ins c fs) => (frzAll (fun d => frzD k S f d) (fs.map (·.2))).map fun ps => P.ins c ((fs.map (·.1)).zip ps)
    | some (.dct fs) => (frzAll (fun d => frzD k S f d) (fs.map (·.2))).map fun ps => P.dic ((fs.map (·.1)).zip ps)
    | some (.dit fs) => (frzAll (fun d => frzD k S f d) (fs.map (·.2))).map fun ps => P.dit ((fs.map (·.1)).zip ps)
    | _ => none) else none
  | f + 1, .t ds => (frzAll (fun d => frzD k S f d) ds).map P.tup
def frzDs (k : Nat) (S : Store) (f : Nat) (ds : List D) : Option (List P) := frzAll (fun d => frzD k S f d) ds
theorem frzD_p {k : Nat} {S : Store} {f : Nat} {x : P} : frzD k S f (.p x) = some x := by cases f <;> rfl
abbrev Fin := Nat → D → Store → D × Store
/-- nothing is thrown away -/
def fin0 : Fin := fun _ d S => (d, S)
/-- the answer is data -/
def finP : Fin := fun k d S => match Store.cut k S with
  | some S' => (match frzD k S 8 d with
    | some p => (.p p, S')
    | none => (d, S))
  | none => (d, S)
/-- the answer is a new list of the store, or data, or a thing from before -/
def finN : Fin := fun k d S => match Store.cut k S with
  | some S' => (match d with
    | .r n => if k ≤ n then (match S.objs[n]? with
      | some o => if h : o.lo S'.objs.length = true then (.r S'.objs.length, S'.new o h) else (d, S)
      | none => (d, S)) else (d, S')
    | .p x => (.p x, S')
    | .t _ => (d, S))
  | none => (d, S)
def FinOk (fin : Fin) : Prop := ∀ {G : Gb} {F F' : Addr → Prop} {ι ι' : List Addr} {H H' : Hp} {S S' : Store} {d : D} {v : V}, R G F ι S H → Nxt G F ι H F' ι' S' H' → RelD G F' ι' H' d v →
  ∃ F'' ι'', Nxt G F ι H F'' ι'' (fin S.objs.length d S').2 H' ∧ RelD G F'' ι'' H' (fin S.objs.length d S').1 v
theorem fin0_ok : FinOk fin0 := fun rs n r => ⟨_, _, n, r⟩
mutual
theorem RelD.lo {G : Gb} {F : Addr → Prop} {ι ι' : List Addr} {H : Hp} (p : ι <+: ι') : ∀ {d : D} {v : V}, d.lo ι.length = true → RelD G F ι' H d v → RelD G F ι H d v
  | .p x, _, _, h => by simpa only [RelD] using h
  | .r n, _, e, h => by
    simp only [RelD, D.lo, decide_eq_true_eq] at h e ⊢
    obtain ⟨a, ev, q⟩ := h
    obtain ⟨t, rfl⟩ := p
    rw [List.getElem?_append_left e] at q
    exact ⟨a, ev, q⟩
  | .t xs, _, e, h => by
    simp only [RelD, D.lo] at h e ⊢
    obtain ⟨a, vs, ev, q, r⟩ := h
    exact ⟨a, vs, ev, q, RelDs.lo p e r⟩
theorem RelDs.lo {G : Gb} {F : Addr → Prop} {ι ι' : List Addr} {H : Hp} (p : ι <+: ι') : ∀ {ds : List D} {vs : List V}, D.los ι.length ds = true → RelDs G F ι' H ds vs → RelDs G F ι H ds vs
  | [], _, _, h => by simpa only [RelDs] using h
  | d :: ds, _, e, h => by
    simp only [RelDs, D.los, Bool.and_eq_true] at h e ⊢
    obtain ⟨v, ws, ev, a, b⟩ := h
    exact ⟨v, ws, ev, RelD.lo p e.1 a, RelDs.lo p e.2 b⟩
end
theorem relDf_lo {G : Gb} {F : Addr → Prop} {ι ι' : List Addr} {H : Hp} (p : ι <+: ι') : ∀ {fs : List (Str × D)} {vs : List (Str × V)}, D.los ι.length (fs.map (·.2)) = true → RelDf G F ι' H fs vs → RelDf G F ι H fs vs
  | [], _, _, h => h
  | (f, d) :: fs, _, e, h => by
    obtain ⟨v, ws, ev, a, b⟩ := h
    simp only [List.map, D.los, Bool.and_eq_true] at e
    exact ⟨v, ws, ev, RelD.lo p e.1 a, relDf_lo p e.2 b⟩
theorem relDk_lo {α : Type} {G : Gb} {F : Addr → Prop} {ι ι' : List Addr} {H : Hp} (p : ι <+: ι') : ∀ {fs : List (α × D)} {vs : List (α × V)}, D.los ι.length (fs.map (·.2)) = true → RelDk G F ι' H fs vs → RelDk G F ι H fs vs
  | [], _, _, h => h
  | (f, d) :: fs, _, e, h => by
    obtain ⟨v, ws, ev, a, b⟩ := h
    simp only [List.map, D.los, Bool.and_eq_true] at e
    exact ⟨v, ws, ev, RelD.lo p e.1 a, relDk_lo p e.2 b⟩
theorem RelO.lo {G : Gb} {F : Addr → Prop} {ι ι' : List Addr} {H : Hp} {a : Addr} {o : O} (p : ι <+: ι') (e : o.lo ι.length = true) (h : RelO G F ι' H a o) : RelO G F ι H a o := by
  cases o with
  | lst ds =>
    obtain ⟨vs, q, r⟩ := h
    exact ⟨vs, q, r.lo p e⟩
  | ins c fs =>
    obtain ⟨C, dx, fvs, m, q, r⟩ := h
    exact ⟨C, dx, fvs, m, q, relDf_lo p e r⟩
  | dct fs =>
    obtain ⟨fvs, q, r⟩ := h
    exact ⟨fvs, q, relDk_lo p e r⟩
  | dit fs =>
    obtain ⟨fvs, q, r⟩ := h
    exact ⟨fvs, q, relDk_lo p e r⟩
theorem allBelow_get {k : Nat} : ∀ {os : List O} {n : Nat} {o : O}, allBelow k os = true → os[n]? = some o → o.lo k = true
  | [], _, _, _, h => by simp at h
  | x :: os, 0, o, e, h => by
    simp only [allBelow, Bool.and_eq_true] at e
    simp at h
    rw [← h]
    exact e.1
  | x :: os, n + 1, o, e, h => by
    simp only [allBelow, Bool.and_eq_true] at e
    exact allBelow_get (n := n) e.2 (by simpa using h)
/-- all that is new in the store is thrown away; it counts as frozen -/
theorem Nxt.cut {G : Gb} {F F' : Addr → Prop} {ι ι' : List Addr} {H H' : Hp} {S S' S'' : Store} (rs : R G F ι S H) (n : Nxt G F ι H F' ι' S' H') (e : Store.cut S.objs.length S' = some S'') :
    Nxt G F ι H (fun a => F' a ∨ (a ∈ ι' ∧ a ∉ ι)) ι S'' H' ∧ S''.objs = S'.objs.take S.objs.length ∧ S''.objs.length = S.objs.length := by
  unfold Store.cut at e
  split at e
  · rename_i h
    simp only [Bool.and_eq_true, decide_eq_true_eq] at h
    cases e
    have hl : (S'.objs.take S.objs.length).length = S.objs.length := by rw [List.length_take, Nat.min_eq_left h.1]
    refine ⟨⟨fun a z => .inl (n.sub a z), n.keep, List.prefix_refl _, fun x a b => absurd a b, fun x a b => ?_, n.old, ⟨?_, rs.nd, fun a ha z => ?_, fun a z => ?_, n.r.tb, fun m a o ea eo => ?_⟩⟩, rfl, hl⟩
    · rcases a with a | a
      · exact n.nF x a b
      · exact n.nw x a.1 a.2
    · rw [rs.len]
      exact hl.symm
    · rcases z with z | z
      · obtain ⟨t, ht⟩ := n.pre
        exact n.r.nf a (ht ▸ List.mem_append_left _ ha) z
      · exact z.2 ha
    · rcases z with z | z
      · exact n.r.fz a z
      · exact n.r.thing z.1
    · have hm : m < S.objs.length := by
        rw [← rs.len]
        exact (List.getElem?_eq_some_iff.mp ea).1
      have eo' : S'.objs[m]? = some o := by
        have : (S'.objs.take S.objs.length)[m]? = some o := eo
        rwa [List.getElem?_take_of_lt hm] at this
      have ea' : ι'[m]? = some a := pre_get n.pre ea
      have q := n.r.ob m a o ea' eo'
      refine RelO.mono (F' := fun a => F' a ∨ (a ∈ ι' ∧ a ∉ ι)) (fun b u e _ => e) (fun _ h => Or.inl h) (List.prefix_refl _) rfl (RelO.lo n.pre ?_ q)
      rw [rs.len]
      exact allBelow_get h.2 eo
  · cases e
theorem relDf_split {G : Gb} {F : Addr → Prop} {ι : List Addr} {H : Hp} : ∀ {fs : List (Str × D)} {fvs : List (Str × V)}, RelDf G F ι H fs fvs → ∃ vs, RelDs G F ι H (fs.map (·.2)) vs ∧ fvs = (fs.map (·.1)).zip vs
  | [], _, h => ⟨[], by simp [RelDs], h⟩
  | (f, d) :: fs, _, h => by
    obtain ⟨v, ws, ev, a, b⟩ := h
    obtain ⟨vs, r, e⟩ := relDf_split b
    exact ⟨v :: vs, by simp only [List.map_cons, RelDs]; exact ⟨v, vs, rfl, a, r⟩, by rw [ev, e]; rfl⟩
theorem relDk_split {α : Type} {G : Gb} {F : Addr → Prop} {ι : List Addr} {H : Hp} : ∀ {fs : List (α × D)} {fvs : List (α × V)}, RelDk G F ι H fs fvs → ∃ vs, RelDs G F ι H (fs.map (·.2)) vs ∧ fvs = (fs.map (·.1)).zip vs
  | [], _, h => ⟨[], by simp [RelDs], h⟩
  | (f, d) :: fs, _, h => by
    obtain ⟨v, ws, ev, a, b⟩ := h
    obtain ⟨vs, r, e⟩ := relDk_split b
    exact ⟨v :: vs, by simp only [List.map_cons, RelDs]; exact ⟨v, vs, rfl, a, r⟩, by rw [ev, e]; rfl⟩
theorem relPf_join {G : Gb} {F : Addr → Prop} {H : Hp} : ∀ {ks : List Str} {ps : List P} {vs : List V}, RelPs G F H ps vs → RelPf G F H (ks.zip ps) (ks.zip vs)
  | [], _, _, _ => by simp [RelPf]
  | _ :: _, [], vs, h => by
    simp only [RelPs] at h
    subst h
    simp [RelPf]
  | k :: ks, p :: ps, vs, h => by
    simp only [RelPs] at h
    obtain ⟨v, ws, rfl, a, b⟩ := h
    simp only [List.zip_cons_cons, RelPf]
    exact ⟨v, _, rfl, a, relPf_join b⟩
theorem relPk_join {G : Gb} {F : Addr → Prop} {H : Hp} : ∀ {ks : List Key} {ps : List P} {vs : List V}, RelPs G F H ps vs → RelPk G F H (ks.zip ps) (ks.zip vs)
  | [], _, _, _ => by simp [RelPk]
  | _ :: _, [], vs, h => by
    simp only [RelPs] at h
    subst h
    simp [RelPk]
  | k :: ks, p :: ps, vs, h => by
    simp only [RelPs] at h
    obtain ⟨v, ws, rfl, a, b⟩ := h
    simp only [List.zip_cons_cons, RelPk]
    exact ⟨v, _, rfl, a, relPk_join b⟩
theorem relPt_join {G : Gb} {F : Addr → Prop} {H : Hp} : ∀ {ks : List (List Key)} {ps : List P} {vs : List V}, RelPs G F H ps vs → RelPt G F H (ks.zip ps) (ks.zip vs)
  | [], _, _, _ => by simp [RelPt]
  | _ :: _, [], vs, h => by
    simp only [RelPs] at h
    subst h
    simp [RelPt]
  | k :: ks, p :: ps, vs, h => by
    simp only [RelPs] at h
    obtain ⟨v, ws, rfl, a, b⟩ := h
    simp only [List.zip_cons_cons, RelPt]
    exact ⟨v, _, rfl, a, relPt_join b⟩
theorem new_thing {G : Gb} {F F' : Addr → Prop} {ι ι' : List Addr} {H H' : Hp} {S S' : Store} (rs : R G F ι S H) (n : Nxt G F ι H F' ι' S' H') {m : Nat} {a : Addr} (ea : ι'[m]? = some a) (hk : S.objs.length ≤ m) : a ∈ ι' ∧ a ∉ ι := by
  refine ⟨List.mem_of_getElem? ea, fun z => ?_⟩
  obtain ⟨j, hj, ej⟩ := List.getElem_of_mem z
  have ej' : ι'[j]? = some a := pre_get n.pre (by rw [List.getElem?_eq_getElem hj, ej])
  obtain ⟨h1, e1⟩ := List.getElem?_eq_some_iff.mp ea
  obtain ⟨h2, e2⟩ := List.getElem?_eq_some_iff.mp ej'
  have := (List.getElem_inj n.r.nd).mp (e1.trans e2.symm)
  rw [rs.len] at hj
  omega
mutual
theorem frzD_rel {G : Gb} {F F' : Addr → Prop} {ι ι' : List Addr} {H H' : Hp} {S S' : Store} (rs : R G F ι S H) (n : Nxt G F ι H F' ι' S' H') : ∀ {f : Nat} {d : D} {v : V} {p : P}, frzD S.objs.length S' f d = some p → RelD G F' ι' H' d v → RelP G (fun a => F' a ∨ (a ∈ ι' ∧ a ∉ ι)) H' p v
  | f, .p x, v, p, e, r => by
    have e' : x = p := by
      rw [frzD_p] at e
      exact Option.some.inj e
    subst e'
    simp only [RelD] at r
    exact r.mono (fun b u e _ => e) fun _ h => .inl h
  | 0, .r n, v, p, e, r => by simp [frzD] at e
  | 0, .t ds, v, p, e, r => by simp [frzD] at e
  | f + 1, .r m, v, p, e, r => by
    simp only [frzD] at e
    split at e
    · rename_i hk
      split at e
      · rename_i ds eo
        obtain ⟨ps, ep, rfl⟩ := Option.map_eq_some_iff.mp e
        simp only [RelD] at r
        obtain ⟨a, rfl, ea⟩ := r
        obtain ⟨vs, hv, rv⟩ := n.r.ob m a _ ea eo
        simp only [RelP]
        exact ⟨a, vs, rfl, .inr (new_thing rs n ea hk), hv, frzDs_rel rs n ep rv⟩
      · rename_i c fs eo
        obtain ⟨ps, ep, rfl⟩ := Option.map_eq_some_iff.mp e
        simp only [RelD] at r
        obtain ⟨a, rfl, ea⟩ := r
        obtain ⟨C, dx, fvs, hm, hv, rv⟩ := n.r.ob m a _ ea eo
        obtain ⟨vs, rdv, rfl⟩ := relDf_split rv
        simp only [RelP]
        exact ⟨a, C, dx, _, rfl, .inr (new_thing rs n ea hk), hm, hv, relPf_join (frzDs_rel rs n ep rdv)⟩
      · rename_i fs eo
        obtain ⟨ps, ep, rfl⟩ := Option.map_eq_some_iff.mp e
        simp only [RelD] at r
        obtain ⟨a, rfl, ea⟩ := r
        obtain ⟨fvs, hv, rv⟩ := n.r.ob m a _ ea eo
        obtain ⟨vs, rdv, rfl⟩ := relDk_split rv
        simp only [RelP]
        exact ⟨a, _, rfl, .inr (new_thing rs n ea hk), hv, relPk_join (frzDs_rel rs n ep rdv)⟩
      · rename_i fs eo
        obtain ⟨ps, ep, rfl⟩ := Option.map_eq_some_iff.mp e
        simp only [RelD] at r
        obtain ⟨a, rfl, ea⟩ := r
        obtain ⟨fvs, hv, rv⟩ := n.r.ob m a _ ea eo
        obtain ⟨vs, rdv, rfl⟩ := relDk_split rv
        simp only [RelP]
        exact ⟨a, _, rfl, .inr (new_thing rs n ea hk), hv, relPt_join (frzDs_rel rs n ep rdv)⟩
      · cases e
    · cases e
  | f + 1, .t ds, v, p, e, r => by
    simp only [frzD] at e
    obtain ⟨ps, ep, rfl⟩ := Option.map_eq_some_iff.mp e
    simp only [RelD] at r
    obtain ⟨a, vs, rfl, q, rv⟩ := r
    simp only [RelP]
    exact ⟨a, vs, rfl, q, frzDs_rel rs n ep rv⟩
theorem frzDs_rel {G : Gb} {F F' : Addr → Prop} {ι ι' : List Addr} {H H' : Hp} {S S' : Store} (rs : R G F ι S H) (n : Nxt G F ι H F' ι' S' H') : ∀ {f : Nat} {ds : List D} {vs : List V} {ps : List P}, frzDs S.objs.length S' f ds = some ps → RelDs G F' ι' H' ds vs → RelPs G (fun a => F' a ∨ (a ∈ ι' ∧ a ∉ ι)) H' ps vs
  | f, [], vs, ps, e, r => by
    have e' : ps = [] := (Option.some.inj (show some [] = some ps from e)).symm
    subst e'
    simpa only [RelDs, RelPs] using r
  | f, d :: ds, vs, ps, e, r => by
    have e' : (match frzD S.objs.length S' f d, frzDs S.objs.length S' f ds with
      | some p, some ps => some (p :: ps)
      | _, _ => none) = some ps := e
    split at e'
    · rename_i q qs e1 e2
      cases e'
      simp only [RelDs] at r
      obtain ⟨v, ws, rfl, a, b⟩ := r
      simp only [RelPs]
      exact ⟨v, ws, rfl, frzD_rel rs n e1 a, frzDs_rel rs n e2 b⟩
    · cases e'
end
theorem finP_ok : FinOk finP := fun {G F F' ι ι' H H' S S' d v} rs n r => by
  unfold finP
  split
  · rename_i S2 e
    split
    · rename_i q eq
      exact ⟨_, _, (n.cut rs e).1, by simp only [RelD]; exact frzD_rel rs n eq r⟩
    · exact ⟨_, _, n, r⟩
  · exact ⟨_, _, n, r⟩
theorem finN_ok : FinOk finN := fun {G F F' ι ι' H H' S S' d v} rs n r => by
  unfold finN
  split
  · rename_i S2 e
    obtain ⟨n2, eo, el⟩ := n.cut rs e
    split
    · rename_i m
      split
      · rename_i hk
        split
        · rename_i o em
          split
          · rename_i hw
            -- a new thing, put behind the old ones
            simp only [RelD] at r
            obtain ⟨a, rfl, ea⟩ := r
            have hnot : a ∉ ι := fun z => by
              obtain ⟨j, hj, ej⟩ := List.getElem_of_mem z
              have ej' : ι'[j]? = some a := pre_get n.pre (by rw [List.getElem?_eq_getElem hj, ej])
              obtain ⟨h1, e1⟩ := List.getElem?_eq_some_iff.mp ea
              obtain ⟨h2, e2⟩ := List.getElem?_eq_some_iff.mp ej'
              have := (List.getElem_inj n.r.nd).mp (e1.trans e2.symm)
              rw [rs.len] at hj
              omega
            have ha' : a ∈ ι' := List.mem_of_getElem? ea
            have hlen : ι.length = S2.objs.length := n2.r.len
            have ro : RelO G F' ι H' a o := by
              refine RelO.lo n.pre ?_ (n.r.ob m a o ea em)
              rw [hlen]
              exact hw
            refine ⟨F', ι ++ [a], ⟨n.sub, n.keep, List.prefix_append _ _, fun x h z => ?_, n.nF, n.old, ⟨by simp [Store.new, hlen], ?_, fun b h => ?_, n.r.fz, n.r.tb, fun j b x eb ex => ?_⟩⟩, ?_⟩
            · rcases List.mem_append.mp h with h | h
              · exact absurd h z
              · have e3 : x = a := by simpa using h
                rw [e3]
                exact n.nw a ha' hnot
            · rw [List.nodup_append]
              refine ⟨rs.nd, by simp, fun b hb c hc => ?_⟩
              have e3 : c = a := by simpa using hc
              rw [e3]
              exact fun z => hnot (z ▸ hb)
            · rcases List.mem_append.mp h with h | h
              · obtain ⟨t, ht⟩ := n.pre
                exact n.r.nf b (ht ▸ List.mem_append_left _ h)
              · have e3 : b = a := by simpa using h
                rw [e3]
                exact n.r.nf a ha'
            · by_cases hj : j < ι.length
              · rw [List.getElem?_append_left hj] at eb
                have ex' : S2.objs[j]? = some x := by
                  have hj' : j < S2.objs.length := by rw [← hlen]; exact hj
                  simpa [Store.new, List.getElem?_append_left hj'] using ex
                have ex2 : S'.objs[j]? = some x := by
                  rw [eo] at ex'
                  rwa [List.getElem?_take_of_lt (by rw [← rs.len]; exact hj)] at ex'
                refine RelO.mono (fun b u e _ => e) (fun _ h => h) (List.prefix_append ι [a]) rfl (RelO.lo n.pre ?_ (n.r.ob j b x (pre_get n.pre eb) ex2))
                rw [hlen]
                exact allBelow_get S2.wf ex'
              · have hj2 : j = ι.length := by
                  have := (List.getElem?_eq_some_iff.mp eb).1
                  simp at this
                  omega
                subst hj2
                simp at eb
                subst eb
                have ex' : x = o := by
                  have : (S2.objs ++ [o])[ι.length]? = some x := ex
                  rw [hlen] at this
                  simp at this
                  exact this.symm
                subst ex'
                exact RelO.mono (fun b u e _ => e) (fun _ h => h) (List.prefix_append _ _) rfl ro
            · simp only [RelD]
              exact ⟨a, rfl, by rw [← hlen]; simp⟩
          · exact ⟨_, _, n, r⟩
        · exact ⟨_, _, n, r⟩
      · rename_i hk
        refine ⟨_, _, n2, ?_⟩
        have r' := r.mono (F' := fun a => F' a ∨ (a ∈ ι' ∧ a ∉ ι)) (fun b u e _ => e) (fun _ h => Or.inl h) (List.prefix_refl _)
        refine RelD.lo n.pre ?_ r'
        simp only [D.lo, decide_eq_true_eq]
        rw [rs.len]
        omega
    · refine ⟨_, _, n2, ?_⟩
      simp only [RelD] at r ⊢
      exact r.mono (fun b u e _ => e) fun _ h => .inl h
    · exact ⟨_, _, n, r⟩
  · exact ⟨_, _, n, r⟩

/-- an error's data; what is new in the store is thrown away -/
def pureFs : List (Str × D) → Bool
  | [] => true
  | (_, .p _) :: fs => pureFs fs
  | _ => false
def finE (k : Nat) (e : Exc) (S : Store) : Res D := if pureFs e.fs = true then (match Store.cut k S with
  | some S' => .err e S'
  | none => .err e S) else .err e S
def finR (fin : Fin) (k : Nat) : Res D → Res D
  | .ok d S => .ok (fin k d S).1 (fin k d S).2
  | .err e S => finE k e S
  | .stuck => .stuck
def env0 (N : Nat) (ds : List D) : Env := ds.map some ++ List.replicate (N - ds.length) none
def mFn (N : Nat) (fin : Fin) (body : MS) : List D → M D := fun ds S => finR fin S.objs.length ((body (env0 N ds) S).bind asRet)
theorem pureFs_rel {G : Gb} {F F' : Addr → Prop} {ι ι' : List Addr} {H : Hp} (s : ∀ a, F a → F' a) : ∀ {fs : List (Str × D)} {vs : List (Str × V)}, pureFs fs = true → RelDf G F ι H fs vs → RelDf G F' ι' H fs vs
  | [], _, _, h => h
  | (f, .p x) :: fs, _, e, h => by
    obtain ⟨v, ws, ev, a, b⟩ := h
    refine ⟨v, ws, ev, ?_, pureFs_rel s e b⟩
    simp only [RelD] at a ⊢
    exact a.mono (fun b u e _ => e) s
  | (f, .r _) :: fs, _, e, h => by simp [pureFs] at e
  | (f, .t _) :: fs, _, e, h => by simp [pureFs] at e
theorem finR_then {G : Gb} {W : Value → Option Addr → Hp → Prop} {F : Addr → Prop} {ι : List Addr} {H : Hp} {S : Store} {fin : Fin} {r : Res D} {Q : VK} (rs : R G F ι S H) (fo : FinOk fin) (h : Then G W F ι H (finR fin S.objs.length r) fun d _ F' ι' H' => ∀ v, RelD G F' ι' H' d v → Q v H') :
    Then G W F ι H r fun d _ F' ι' H' => ∀ v, RelD G F' ι' H' d v → Q v H' := by
  cases r with
  | ok d S' =>
    intro F' ι' H' n v rv
    obtain ⟨F'', ι'', n2, r2⟩ := fo rs n rv
    exact h F'' ι'' H' n2 v r2
  | err e S' =>
    intro F' ι' H' c d n x
    have h : Then G W F ι H (finE S.objs.length e S') fun d _ F' ι' H' => ∀ v, RelD G F' ι' H' d v → Q v H' := h
    unfold finE at h
    split at h
    · rename_i hp
      split at h
      · rename_i S2 e2
        obtain ⟨n2, _, _⟩ := n.cut rs e2
        refine h _ _ H' c d n2 ?_
        obtain ⟨C, m, ec, ef⟩ := x
        refine ⟨C, m, ec, ?_⟩
        revert ef hp
        generalize e.fs = fs
        cases fs with
        | nil => exact fun _ ef => ef
        | cons y ys =>
          intro hp ef
          obtain ⟨dd, fvs, ed, hd, rf⟩ := ef
          exact ⟨dd, fvs, ed, hd, pureFs_rel (fun _ h => .inl h) hp rf⟩
      · exact h F' ι' H' c d n x
    · exact h F' ι' H' c d n x
  | stuck => exact h
theorem relE_none {G : Gb} {F : Addr → Prop} {ι : List Addr} {H : Hp} : ∀ n : Nat, RelE G F ι H (List.replicate n none) (List.replicate n none)
  | 0 => rfl
  | n + 1 => ⟨none, _, rfl, relE_none n⟩
theorem relE_start {G : Gb} {F : Addr → Prop} {ι : List Addr} {H : Hp} (m : Nat) : ∀ {ds : List D} {vs : List V}, RelDs G F ι H ds vs → RelE G F ι H (ds.map some ++ List.replicate m none) (vs.map some ++ List.replicate m none)
  | [], _, h => by
    rw [relDs_nil] at h
    subst h
    exact relE_none m
  | d :: ds, _, h => by
    simp only [RelDs] at h
    obtain ⟨v, ws, rfl, a, b⟩ := h
    exact ⟨v, _, rfl, a, relE_start m b⟩
abbrev WfE (E : XK) : WX := fun c d _ H => E c d H
/-- a def's promise by its body's run -/
theorem fn_body {P : Program} {w : World} {K : PySem.W.Frag} {mg : Str → Option Value} {base : Heap} {x qual : Str} {params : Arguments} {body : List Stmt} {scope : Scope} {f : Addr} {fd : FuncData} {N ps : List Str} {dvs : List V} {kws : List (Str × V)} {k n m : Nat} {fin : Fin} {ms : MS}
    (Fd : FunD K x qual params body scope dvs kws f fd) (S : FnScope N ps scope) (hn : ps.length = n) (hm : N.length = m) (fo : FinOk fin)
    (hb : ∀ (cdv : Value) (A : Around) (outer : List PySem.Env) (s : Shared) (H : Hp) (E : XK), Room k (A.deeper (envOfC qual scope s.heap.objs.size f cdv)) → (A.deeper (envOfC qual scope s.heap.objs.size f cdv)).guards = some [] → DSs (cxOf (L2.CX P w) P w K mg base N qual scope f cdv A outer s H E) (WfE E) body ms) :
    FnOkG P w K mg base (k + 1) f fd ps (spD ⟨K, mg⟩ n (mFn m fin ms)) := by
  obtain ⟨oc, od, dV, kV, doc, pm, an, cdv, ct, osl, rfl, lk, hcd, _, _⟩ := Fd.ex
  refine fnG_of lk hcd S (fun vs H Q E h => by rw [hn]; exact h.1) fun A outer s H vs Q E hr hgd h => ⟨_, hb cdv A outer s H E hr hgd, ?_⟩
  obtain ⟨hl, ds, St, ι, F, rs, rd, t⟩ := h
  have t1 := finR_then rs fo t
  refine ⟨env0 m ds, St, ι, F, ⟨?_, rs⟩, ?_⟩
  · unfold env0 L2.start
    rw [hm, relDs_len rd]
    exact relE_start _ rd
  · refine Then.wimp (W := E) ?_ fun c d H z _ => z
    refine (Then.bind' t1).mono fun o S1 F1 ι1 H1 n1 t2 => ?_
    cases o with
    | nx ρ => exact fun σ _ _ => (Then.later t2 n1).now n1.r .non (by simp only [RelD, RelP])
    | rt d => exact fun v rv => (Then.later t2 n1).now n1.r v rv
    | bk ρ => exact t2.elim
    | ct ρ => exact t2.elim
/-- .. as a def of the module -/
theorem fn_mkD {P : Program} {w : World} {K : PySem.W.Frag} {mg : Str → Option Value} {base : Heap} {x qual : Str} {params : Arguments} {body : List Stmt} {scope : Scope} {f : Addr} {fd : FuncData} {N ps : List Str} {k n m : Nat} {fin : Fin} {ms : MS}
    (hg : mg x = some (.ref f)) (Fd : FunD K x qual params body scope [] [] f fd) (S : FnScope N ps scope) (hn : ps.length = n) (hm : N.length = m) (fo : FinOk fin)
    (hbind : ∀ (kV doc pm : Value) (an : Option Addr) (cdv ct : Value) (us : List Value), us.length = ps.length → bindArgs (PySem.W.fnOf x qual params body scope .none kV doc pm an cdv ct) ⟨us, []⟩ = pure (ps.zip us))
    (hb : ∀ (cdv : Value) (A : Around) (outer : List PySem.Env) (s : Shared) (H : Hp) (E : XK), Room k (A.deeper (envOfC qual scope s.heap.objs.size f cdv)) → (A.deeper (envOfC qual scope s.heap.objs.size f cdv)).guards = some [] → DSs (cxOf (L2.CX P w) P w K mg base N qual scope f cdv A outer s H E) (WfE E) body ms) :
    FnD P w K mg base x (k + 1) n (mFn m fin ms) := ⟨f, fd, ps, hg, Fd.kp, Fd.bindsN hbind, hn, fn_body Fd S hn hm fo hb⟩

/-- the length of an argument list -/
class Args (m : ME (List D)) (n : outParam Nat) : Prop where
  len : ∀ ρ S ds S', m ρ S = .ok ds S' → ds.length = n
instance : Args mNil 0 := ⟨fun ρ S ds S' h => by cases h; rfl⟩
instance {ma : ME D} {mr : ME (List D)} {n : Nat} [i : Args mr n] : Args (mCons ma mr) (n + 1) := ⟨fun ρ S ds S' h => by
  unfold mCons at h
  cases e1 : ma ρ S with
  | ok d S1 =>
    rw [e1] at h
    simp only [Res.bind] at h
    cases e2 : mr ρ S1 with
    | ok ds2 S3 =>
      rw [e2] at h
      cases h
      rw [List.length_cons, i.len ρ S1 ds2 _ e2]
    | err x S2 => rw [e2] at h; cases h
    | stuck => rw [e2] at h; cases h
  | err x S1 => rw [e1] at h; cases h
  | stuck => rw [e1] at h; cases h⟩
/-! ### calls -/
def mCall (mf : List D → M D) (m : ME (List D)) : ME D := fun ρ S => (m ρ S).bind mf
section
variable {X : Cx} {W : WX} {e : Expr} {es : List Expr} {pos p : Pos} {mr : ME (List D)}
theorem de_call {x : Str} {k n : Nat} {mf : List D → M D} (F : FnD X.prog X.w X.K X.mg X.base x k n mf) (hr : Room k X.A) (hgd : X.A.guards = some []) (tk : Takes X W) (ha : DA X W (e :: es) mr) [ar : Args mr n] (hg : Gl X x := by rfl)
    (hdb : (x == ("__debug__" : Str)) = false := by decide) (he : starEach (e :: es) X.env = (false, eval e X.env) :: starEach es X.env := by rfl) (hpl : (backTo pos (starEach es X.env)).any (·.1) = false := by rfl) :
    DE X W (.Call (.Name x p) (e :: es) [] pos) (mCall mf mr) := by
  obtain ⟨f, fd, ps, hm, hk, hb, hn, Fo⟩ := F
  refine PE.imp (pe_callG Fo hr hgd hg hm hk hb (fun σ => passAt tk σ) ha hdb he hpl) fun σ H Q q => ?_
  obtain ⟨ρ, S, ι, F, a, t⟩ := q
  refine ⟨ρ, S, ι, F, a, ?_⟩
  have t1 := Then.bind t
  revert t1
  generalize em : mr ρ S = r
  intro t1
  cases r with
  | ok ds S' =>
    intro F' ι' H' nx vs rv
    exact ⟨by rw [← relDs_len rv]; exact ar.len ρ S ds S' em, ds, S', ι', F', nx.r, rv, t1 F' ι' H' nx⟩
  | err x S' => exact t1
  | stuck => exact t1.elim
end
end DL
set_option maxHeartbeats 2000000
/-! DLLib: operators and built-in functions over the data layer. -/
namespace DL
open PySem PySem.Spec PyProof.Rows L2
variable [HasT]
section
variable {X : Cx}

/-! ### relation by cases -/
theorem relBl {G : Gb} {F : Addr → Prop} {ι : List Addr} {H : Hp} {b : Bool} {v : V} (h : RelD G F ι H (.p (.bl b)) v) : v = .bl b := by simpa only [RelD, RelP] using h
theorem relStr {G : Gb} {F : Addr → Prop} {ι : List Addr} {H : Hp} {b : Str} {v : V} (h : RelD G F ι H (.p (.str b)) v) : v = .str b := by simpa only [RelD, RelP] using h
theorem relNon {G : Gb} {F : Addr → Prop} {ι : List Addr} {H : Hp} {v : V} (h : RelD G F ι H (.p .non) v) : v = .non := by simpa only [RelD, RelP] using h
theorem relTy {G : Gb} {F : Addr → Prop} {ι : List Addr} {H : Hp} {n : String} {v : V} (h : RelD G F ι H (.p (.ty n)) v) : v = .ty n := by simpa only [RelD, RelP] using h
theorem mkInt {G : Gb} {F : Addr → Prop} {ι : List Addr} {H : Hp} {i : Int} : RelD G F ι H (.p (.int i)) (.int i) := by simp only [RelD, RelP]
theorem mkBl {G : Gb} {F : Addr → Prop} {ι : List Addr} {H : Hp} {i : Bool} : RelD G F ι H (.p (.bl i)) (.bl i) := by simp only [RelD, RelP]
theorem mkStr {G : Gb} {F : Addr → Prop} {ι : List Addr} {H : Hp} {i : Str} : RelD G F ι H (.p (.str i)) (.str i) := by simp only [RelD, RelP]
theorem mkNon {G : Gb} {F : Addr → Prop} {ι : List Addr} {H : Hp} : RelD G F ι H (.p .non) .non := by simp only [RelD, RelP]

/-! ### ints -/
/-- an operator on two ints, where C holds -/
def fII (C : Int → Int → Bool) (g : Int → Int → P) : F2 := fun x y S => match x, y with
  | .p (.int i), .p (.int j) => if C i j = true then some (.p (g i j), S) else none
  | _, _ => none
theorem opd_II {g : Value → Value → Sem Value} {C : Int → Int → Bool} {C' : Int → Int → Prop} {f : Int → Int → P} {v : Int → Int → V} (o : OpR X g (rI C' v)) (hc : ∀ i j, C i j = true → C' i j) (hv : ∀ i j F H, RelP (gb X) F H (f i j) (v i j)) : OpD X g (fII C f) :=
  ⟨_, o, fun {F ι S S' H d1 d2 d' v1 v2 Q} rs r1 r2 e q => by
    unfold fII at e
    split at e
    · rename_i i j
      split at e
      · rename_i h
        cases e
        cases relInt r1
        cases relInt r2
        exact ⟨i, j, rfl, rfl, hc i j h, q F ι H _ (Nxt.refl rs) (by simp only [RelD]; exact hv i j F H)⟩
      · cases e
    · cases e⟩
theorem opd_II0 {g : Value → Value → Sem Value} {f : Int → Int → P} {v : Int → Int → V} (o : OpR X g (rI0 v)) (hv : ∀ i j F H, RelP (gb X) F H (f i j) (v i j)) : OpD X g (fII (fun _ _ => true) f) :=
  ⟨_, o, fun {F ι S S' H d1 d2 d' v1 v2 Q} rs r1 r2 e q => by
    unfold fII at e
    split at e
    · rename_i i j
      rw [if_pos rfl] at e
      cases e
      cases relInt r1
      cases relInt r2
      exact ⟨i, j, rfl, rfl, q F ι H _ (Nxt.refl rs) (by simp only [RelD]; exact hv i j F H)⟩
    · cases e⟩
def fAddI : F2 := fII (fun _ _ => true) fun i j => .int (i + j)
def fSub : F2 := fII (fun _ _ => true) fun i j => .int (i - j)
/-- bits of an int, a bound -/
def bitsB (n : Nat) (i : Int) : Bool := decide (i.natAbs.log2 < n)
def fMulI : F2 := fII (fun i j => bitsB 400000 i && bitsB 400000 j) fun i j => .int (i * j)
def fDiv : F2 := fII (fun _ j => decide (0 < j) && bitsB 9000 j) fun i j => .int (i / j)
def fMod : F2 := fII (fun _ j => decide (0 < j)) fun i j => .int (i % j)
def fPow : F2 := fII (fun i j => decide (0 ≤ j) && decide ((i.natAbs.log2 + 1 : Int) * j ≤ 1000000)) fun i j => .int (i ^ j.toNat)
def fLt : F2 := fII (fun _ _ => true) fun i j => .bl (decide (i < j))
def fLe : F2 := fII (fun _ _ => true) fun i j => .bl (decide (i ≤ j))
def fGt : F2 := fII (fun _ _ => true) fun i j => .bl (decide (j < i))
def fGe : F2 := fII (fun _ _ => true) fun i j => .bl (decide (j ≤ i))
theorem od_addI : OpD X (binaryOp .Add) fAddI := opd_II0 op_add fun _ _ _ _ => by simp only [RelP]
theorem od_sub : OpD X (binaryOp .Sub) fSub := opd_II0 op_sub fun _ _ _ _ => by simp only [RelP]
theorem od_mulI : OpD X (binaryOp .Mult) fMulI := opd_II op_mulW (fun i j h => by
  simp only [Bool.and_eq_true, bitsB, decide_eq_true_eq] at h
  unfold CMulW
  omega) fun _ _ _ _ => by simp only [RelP]
theorem od_div : OpD X (binaryOp .FloorDiv) fDiv := opd_II op_fdivW (fun i j h => by
  simp only [Bool.and_eq_true, bitsB, decide_eq_true_eq] at h
  exact h) fun _ _ _ _ => by simp only [RelP]
theorem od_mod : OpD X (binaryOp .Mod) fMod := opd_II op_mod (fun i j h => by simpa using h) fun _ _ _ _ => by simp only [RelP]
def CPowG (i j : Int) : Prop := 0 ≤ j ∧ (Builtin.Int.intBits i : Int) * j ≤ 2 ^ 27
theorem op_powG : OpR X (binaryOp .Pow) (rI CPowG fun i j => .int (i ^ j.toNat)) := opI fun _ _ _ _ _ _ _ hc q => pow_int hc.1 hc.2 q
theorem bits_le (x : Int) : Builtin.Int.intBits x ≤ x.natAbs.log2 + 1 := by
  unfold Builtin.Int.intBits
  split <;> omega
theorem od_pow : OpD X (binaryOp .Pow) fPow := opd_II op_powG (fun i j h => by
  simp only [Bool.and_eq_true, decide_eq_true_eq] at h
  refine ⟨h.1, Int.le_trans (Int.le_trans (Int.mul_le_mul_of_nonneg_right ?_ h.1) h.2) (by decide)⟩
  have := bits_le i
  omega) fun _ _ _ _ => by simp only [RelP]
theorem od_lt : OpD X (compareOp .Lt) fLt := opd_II0 op_lt fun _ _ _ _ => by simp only [RelP]
theorem od_le : OpD X (compareOp .LtE) fLe := opd_II0 op_le fun _ _ _ _ => by simp only [RelP]
theorem od_gt : OpD X (compareOp .Gt) fGt := opd_II0 op_gt fun _ _ _ _ => by simp only [RelP]
theorem od_ge : OpD X (compareOp .GtE) fGe := opd_II0 op_ge fun _ _ _ _ => by simp only [RelP]
def fNeg : F1 := fun x S => match x with
  | .p (.int i) => some (.p (.int (-i)), S)
  | _ => none
theorem ud_neg : UnD X (unaryOp .USub) fNeg := ⟨_, un_neg, fun {F ι S S' H d d' v Q} rs r e q => by
  unfold fNeg at e
  split at e
  · cases e
    cases relInt r
    exact ⟨_, rfl, q F ι H _ (Nxt.refl rs) mkInt⟩
  · cases e⟩
/-! a op= b of ints -/
theorem ip_of {op : Operator} {r : R2} (o : OpR X (inplaceOp op) r) : PIp X op r := o
theorem ipd_add : IpD X .Add fAddI := ⟨_, ip_of iop_add, by
  intro F ι S S' H d1 d2 d' v1 v2 Q rs r1 r2 e q
  unfold fAddI fII at e
  split at e
  · rename_i i j
    rw [if_pos rfl] at e
    cases e
    cases relInt r1
    cases relInt r2
    exact ⟨i, j, rfl, rfl, q F ι H _ (Nxt.refl rs) mkInt⟩
  · cases e⟩
theorem ipd_sub : IpD X .Sub fSub := ⟨_, ip_of iop_sub, by
  intro F ι S S' H d1 d2 d' v1 v2 Q rs r1 r2 e q
  unfold fSub fII at e
  split at e
  · rename_i i j
    rw [if_pos rfl] at e
    cases e
    cases relInt r1
    cases relInt r2
    exact ⟨i, j, rfl, rfl, q F ι H _ (Nxt.refl rs) mkInt⟩
  · cases e⟩

/-! ### lists and tuples joined, repeated -/
def fAddS : F2 := fun x y S => match x, y with
  | .p (.str a), .p (.str b) => if a.length + b.length ≤ 100000 then some (.p (.str (a ++ b)), S) else none
  | _, _ => none
theorem od_addS : OpD X (binaryOp .Add) fAddS := ⟨_, op_add_str, fun {F ι S S' H d1 d2 d' v1 v2 Q} rs r1 r2 e q => by
  unfold fAddS at e
  split at e
  · split at e
    · rename_i h
      cases e
      cases relStr r1
      cases relStr r2
      exact ⟨_, _, rfl, rfl, szOk h, q F ι H _ (Nxt.refl rs) mkStr⟩
    · cases e
  · cases e⟩
def fAddT : F2 := fun x y S => match x.tup?, y.tup? with
  | some a, some b => if a.length + b.length ≤ 100000 then some (mkTup (a ++ b), S) else none
  | _, _ => none
theorem od_addT : OpD X (binaryOp .Add) fAddT := ⟨_, op_catA, fun {F ι S S' H d1 d2 d' v1 v2 Q} rs r1 r2 e q => by
  unfold fAddT at e
  split at e
  · rename_i a b ea eb
    split at e
    · rename_i h
      cases e
      obtain ⟨p1, vs, rfl, q1, rd1⟩ := tup?_relH ea r1
      obtain ⟨p2, ws, rfl, q2, rd2⟩ := tup?_relH eb r2
      refine ⟨p1, p2, vs, ws, rfl, rfl, SqT.of q1, SqT.of q2, by rw [← relDs_len rd1, ← relDs_len rd2]; exact szOk h, fun z => ?_, fun z z2 => ?_, fun z z2 p hp => ?_⟩
      · subst z
        have : a = [] := by
          have := relDs_len rd1
          simpa using this
        subst this
        exact q F ι H _ (Nxt.refl rs) (mkTup_rel q2 rd2)
      · subst z2
        have : b = [] := by
          have := relDs_len rd2
          simpa using this
        subst this
        rw [List.append_nil] at q
        exact q F ι H _ (Nxt.refl rs) (mkTup_rel q1 rd1)
      · exact q F ι _ _ (Nxt.fresh rs hp) (rel_newT hp (relDs_append rd1 rd2))
    · cases e
  · cases e⟩
/-- two lists joined, the answer frozen | of the store -/
def fAddL (fin : FL) : F2 := fun x y S => match x.own? S, y.own? S with
  | some a, some b => if a.length + b.length ≤ 100000 then fin (a ++ b) S else none
  | _, _ => none
def NewL (X : Cx) (fin : FL) : Prop := ∀ {F : Addr → Prop} {ι : List Addr} {S S' : Store} {H : Hp} {ds : List D} {d' : D} {vs : List V} {Q : VK}, R (gb X) F ι S H → RelDs (gb X) F ι H ds vs → fin ds S = some (d', S') →
    (∀ F' ι' H' v, Nxt (gb X) F ι H F' ι' S' H' → RelD (gb X) F' ι' H' d' v → Q v H') → vs.length ≤ sizeLine ∧ ∀ p, H p = none → Q (.ref p) (upd H p (.lst vs))
theorem newL_F : NewL X fLstF := fun rs r e q => fLstF_new rs r e q
theorem newL_N : NewL X fLst := fun rs r e q => fLst_new rs r e q
theorem od_addL {fin : FL} (n : NewL X fin) : OpD X (binaryOp .Add) (fAddL fin) := ⟨_, op_cat, fun {F ι S S' H d1 d2 d' v1 v2 Q} rs r1 r2 e q => by
  unfold fAddL at e
  split at e
  · rename_i a b ea eb
    split at e
    · rename_i h
      obtain ⟨p1, vs, rfl, q1, rd1⟩ := own?_rel rs ea r1
      obtain ⟨p2, ws, rfl, q2, rd2⟩ := own?_rel rs eb r2
      exact ⟨p1, p2, vs, ws, rfl, rfl, q1, q2, by rw [← relDs_len rd1, ← relDs_len rd2]; exact szOk h, (n rs (relDs_append rd1 rd2) e q).2⟩
    · cases e
  · cases e⟩
/-- a + b: ints, texts, tuples, lists -/
def fAddG (fin : FL) : F2 := fun x y S => match fAddI x y S with
  | some z => some z
  | none => match fAddS x y S with
    | some z => some z
    | none => match fAddT x y S with
      | some z => some z
      | none => fAddL fin x y S
def fAdd : F2 := fAddG fLstF
def fAddN : F2 := fAddG fLst
theorem od_addG {fin : FL} (n : NewL X fin) : OpD X (binaryOp .Add) (fAddG fin) := od_addI.or (od_addS.or (od_addT.or (od_addL n)))
theorem od_add : OpD X (binaryOp .Add) fAdd := od_addG newL_F
theorem od_addN : OpD X (binaryOp .Add) fAddN := od_addG newL_N
def fRepT : F2 := fun x y S => match x.tup?, y with
  | some a, .p (.int k) => if (decide (a ≠ []) && decide (2 ≤ k) && decide (k ≤ 1000) && decide (a.length ≤ 1000)) = true then some (mkTup (List.replicate k.toNat a).flatten, S) else none
  | _, _ => none
theorem od_repT : OpD X (binaryOp .Mult) fRepT := ⟨_, op_repT, fun {F ι S S' H d1 d2 d' v1 v2 Q} rs r1 r2 e q => by
  unfold fRepT at e
  split at e
  · rename_i a k ea
    split at e
    · rename_i h
      cases e
      simp only [Bool.and_eq_true, decide_eq_true_eq] at h
      obtain ⟨p1, vs, rfl, q1, rd1⟩ := tup?_rel ea r1
      cases relInt r2
      have hl := relDs_len rd1
      refine ⟨p1, k, vs, rfl, rfl, q1, fun z => h.1.1.1 ?_, h.1.1.2, h.1.2, by omega, fun p hp => q F ι _ _ (Nxt.fresh rs hp) (rel_newT hp (relDs_flat rd1 _))⟩
      subst z
      simpa using hl
    · cases e
  · cases e⟩
def fRepL (fin : FL) : F2 := fun x y S => match x.own? S, y with
  | some a, .p (.int k) => if (decide (-1000 ≤ k) && decide (k ≤ 100000) && decide (a.length * k.toNat ≤ 100000)) = true then fin (List.replicate k.toNat a).flatten S else none
  | _, _ => none
theorem od_repL {fin : FL} (n : NewL X fin) : OpD X (binaryOp .Mult) (fRepL fin) := ⟨_, op_rep, fun {F ι S S' H d1 d2 d' v1 v2 Q} rs r1 r2 e q => by
  unfold fRepL at e
  split at e
  · rename_i a k ea
    split at e
    · rename_i h
      simp only [Bool.and_eq_true, decide_eq_true_eq] at h
      obtain ⟨p1, vs, rfl, q1, rd1⟩ := own?_rel rs ea r1
      cases relInt r2
      exact ⟨p1, k, vs, rfl, rfl, q1, by omega, by omega, by rw [← relDs_len rd1]; exact szOk h.2, (n rs (relDs_flat rd1 _) e q).2⟩
    · cases e
  · cases e⟩
def fMulG (fin : FL) : F2 := fun x y S => match fMulI x y S with
  | some z => some z
  | none => match fRepT x y S with
    | some z => some z
    | none => fRepL fin x y S
def fMul : F2 := fMulG fLstF
def fMulN : F2 := fMulG fLst
theorem od_mul : OpD X (binaryOp .Mult) fMul := od_mulI.or (od_repT.or (od_repL newL_F))
theorem od_mulN : OpD X (binaryOp .Mult) fMulN := od_mulI.or (od_repT.or (od_repL newL_N))

/-! ### equality of data -/
mutual
def P.py : P → Option PyData
  | .non => some .none
  | .bl b => some (.bool b)
  | .int i => some (.int i)
  | .str s => some (.str s)
  | .tup xs => match P.pys xs with
    | some ds => some (.tuple ds)
    | none => none
  | .lst xs => match P.pys xs with
    | some ds => some (.list ds)
    | none => none
  | .scr xs => match P.pys xs with
    | some ds => some (.list ds)
    | none => none
  | _ => none
def P.pys : List P → Option (List PyData)
  | [] => some []
  | x :: xs => match P.py x, P.pys xs with
    | some d, some ds => some (d :: ds)
    | _, _ => none
end
mutual
theorem P.py_dp {G : Gb} {F : Addr → Prop} {H : Hp} : ∀ {x : P} {d : PyData} {v : V}, x.py = some d → RelP G F H x v → Dp G.K H v d
  | .non, d, v, e, r => by
    simp only [P.py, Option.some.injEq, RelP] at e r
    subst e
    subst r
    exact .non
  | .bl b, d, v, e, r => by
    simp only [P.py, Option.some.injEq, RelP] at e r
    subst e
    subst r
    exact .bl b
  | .int i, d, v, e, r => by
    simp only [P.py, Option.some.injEq, RelP] at e r
    subst e
    subst r
    exact .int i
  | .str s, d, v, e, r => by
    simp only [P.py, Option.some.injEq, RelP] at e r
    subst e
    subst r
    exact .str s
  | .tup xs, d, v, e, r => by
    simp only [P.py, RelP] at e r
    split at e
    · rename_i ds eds
      cases e
      obtain ⟨a, vs, rfl, q, rv⟩ := r
      exact .tup (SqT.of q) (P.pys_dp eds rv)
    · cases e
  | .lst xs, d, v, e, r => by
    simp only [P.py, RelP] at e r
    split at e
    · rename_i ds eds
      cases e
      obtain ⟨a, vs, rfl, _, q, rv⟩ := r
      exact .lst (SqL.of q) (P.pys_dp eds rv)
    · cases e
  | .scr xs, d, v, e, r => by
    simp only [P.py, RelP] at e r
    split at e
    · rename_i ds eds
      cases e
      obtain ⟨a, vs, rfl, q, rv⟩ := r
      exact .lst q.sq (P.pys_dp eds rv)
    · cases e
  | .ins c fs, d, v, e, r => by simp [P.py] at e
  | .dic fs, d, v, e, r => by simp [P.py] at e
  | .dit fs, d, v, e, r => by simp [P.py] at e
  | .glo x, d, v, e, r => by simp [P.py] at e
  | .ty n, d, v, e, r => by simp [P.py] at e
theorem P.pys_dp {G : Gb} {F : Addr → Prop} {H : Hp} : ∀ {xs : List P} {ds : List PyData} {vs : List V}, P.pys xs = some ds → RelPs G F H xs vs → DpAll G.K H vs ds
  | [], ds, vs, e, r => by
    simp only [P.pys, Option.some.injEq, RelPs] at e r
    subst e
    subst r
    exact .nil
  | x :: xs, ds, vs, e, r => by
    simp only [P.pys, RelPs] at e r
    split at e
    · rename_i d es e1 e2
      cases e
      obtain ⟨v, ws, rfl, a, b⟩ := r
      exact .cons (P.py_dp e1 a) (P.pys_dp e2 b)
    · cases e
end
/-- the data behind a value; a list of the store as it stands -/
def D.dat? (d : D) (S : Store) : Option P := match d with
  | .p x => some x
  | .r n => match S.objs[n]? with
    | some (.lst ds) => (match pures ds with
      | some ps => some (.lst ps)
      | none => none)
    | _ => none
  | .t _ => none
/-- data of a value as the layer's equality wants it -/
def D.py? (d : D) (S : Store) : Option PyData := match d with
  | .p x => x.py
  | .r n => match S.objs[n]? with
    | some (.lst ds) => (match pures ds with
      | some ps => (match P.pys ps with
        | some es => some (.list es)
        | none => none)
      | none => none)
    | _ => none
  | .t _ => none
theorem D.py?_dp {G : Gb} {F : Addr → Prop} {ι : List Addr} {S : Store} {H : Hp} {d : D} {z : PyData} {v : V} (rs : R G F ι S H) (e : d.py? S = some z) (r : RelD G F ι H d v) : Dp G.K H v z := by
  cases d with
  | p x =>
    simp only [RelD] at r
    exact P.py_dp e r
  | r n =>
    simp only [D.py?] at e
    split at e
    · rename_i ds eo
      split at e
      · rename_i ps ep
        split at e
        · rename_i es ee
          cases e
          simp only [RelD] at r
          obtain ⟨a, rfl, ea⟩ := r
          obtain ⟨vs, hv, rv⟩ := rs.ob n a _ ea eo
          exact .lst (SqL.of hv) (P.pys_dp ee (pures_rel ep rv))
        · cases e
      · cases e
    · cases e
  | t xs => cases e
def fEq : F2 := fun x y S => match x.py? S, y.py? S with
  | some a, some b => if (SeqAt.shaped a && SeqAt.shaped b) = true then some (.p (.bl (PyData.eqv a b)), S) else none
  | _, _ => none
def fNe : F2 := fun x y S => match x.py? S, y.py? S with
  | some a, some b => if (SeqAt.shaped a && SeqAt.shaped b) = true then some (.p (.bl (!PyData.eqv a b)), S) else none
  | _, _ => none
theorem od_eq (hu : X.A.units + 65 < cLine) : OpD X (compareOp .Eq) fEq := ⟨_, op_eqD (by omega), fun {F ι S S' H d1 d2 d' v1 v2 Q} rs r1 r2 e q => by
  unfold fEq at e
  split at e
  · rename_i a b ea eb
    split at e
    · rename_i h
      cases e
      simp only [Bool.and_eq_true] at h
      exact ⟨a, b, D.py?_dp rs ea r1, D.py?_dp rs eb r2, h.1, h.2, q F ι H _ (Nxt.refl rs) mkBl⟩
    · cases e
  · cases e⟩
theorem od_ne (hu : X.A.units + 65 < cLine) : OpD X (compareOp .NotEq) fNe := ⟨_, op_neD (by omega), fun {F ι S S' H d1 d2 d' v1 v2 Q} rs r1 r2 e q => by
  unfold fNe at e
  split at e
  · rename_i a b ea eb
    split at e
    · rename_i h
      cases e
      simp only [Bool.and_eq_true] at h
      exact ⟨a, b, D.py?_dp rs ea r1, D.py?_dp rs eb r2, h.1, h.2, q F ι H _ (Nxt.refl rs) mkBl⟩
    · cases e
  · cases e⟩
/-! is None, is True -/
def isNonP : D → Bool
  | .p .non => true
  | _ => false
theorem rel_non {G : Gb} {F : Addr → Prop} {ι : List Addr} {H : Hp} {d : D} {v : V} (r : RelD G F ι H d v) (hg : ∀ x, d ≠ .p (.glo x)) : decide (v = .non) = isNonP d := by
  cases d with
  | p x =>
    cases x with
    | non => cases relNon r; rfl
    | bl b => cases relBl r; rfl
    | int b => cases relInt r; rfl
    | str b => cases relStr r; rfl
    | ty b => cases relTy r; rfl
    | tup xs => simp only [RelD, RelP] at r; obtain ⟨a, vs, rfl, _⟩ := r; rfl
    | lst xs => simp only [RelD, RelP] at r; obtain ⟨a, vs, rfl, _⟩ := r; rfl
    | scr xs => simp only [RelD, RelP] at r; obtain ⟨a, vs, rfl, _⟩ := r; rfl
    | ins c xs => simp only [RelD, RelP] at r; obtain ⟨a, _, _, _, rfl, _⟩ := r; rfl
    | dic xs => simp only [RelD, RelP] at r; obtain ⟨a, _, rfl, _⟩ := r; rfl
    | dit xs => simp only [RelD, RelP] at r; obtain ⟨a, _, rfl, _⟩ := r; rfl
    | glo x => exact absurd rfl (hg x)
  | r n => simp only [RelD] at r; obtain ⟨a, rfl, _⟩ := r; rfl
  | t xs => simp only [RelD] at r; obtain ⟨a, vs, rfl, _⟩ := r; rfl
def notGlo : D → Bool
  | .p (.glo _) => false
  | _ => true
theorem notGlo_ne {d : D} (h : notGlo d = true) : ∀ x, d ≠ .p (.glo x) := fun x e => by
  subst e
  cases h
/-- x is None, x is True (two truth values) -/
def fIs (neg : Bool) : F2 := fun x y S => match y with
  | .p .non => if notGlo x = true then some (.p (.bl (xor neg (isNonP x))), S) else none
  | .p (.bl b) => (match x with
    | .p (.bl a) => some (.p (.bl (xor neg (decide (a = b)))), S)
    | _ => none)
  | _ => none
theorem od_is : OpD X (compareOp .Is) (fIs false) := ⟨_, op_isN.or op_isBl, fun {F ι S S' H d1 d2 d' v1 v2 Q} rs r1 r2 e q => by
  unfold fIs at e
  split at e
  · split at e
    · rename_i hg
      cases e
      cases relNon r2
      refine .inl ⟨rfl, ?_⟩
      rw [rel_non r1 (notGlo_ne hg)]
      exact q F ι H _ (Nxt.refl rs) (by simp only [Bool.false_bne]; exact mkBl)
    · cases e
  · split at e
    · cases e
      cases relBl r2
      cases relBl r1
      exact .inr ⟨_, _, rfl, rfl, q F ι H _ (Nxt.refl rs) (by simp only [Bool.false_bne]; exact mkBl)⟩
    · cases e
  · cases e⟩
theorem od_isnot : OpD X (compareOp .IsNot) (fIs true) := ⟨_, op_notN.or op_notBl, fun {F ι S S' H d1 d2 d' v1 v2 Q} rs r1 r2 e q => by
  unfold fIs at e
  split at e
  · split at e
    · rename_i hg
      cases e
      cases relNon r2
      refine .inl ⟨rfl, ?_⟩
      rw [rel_non r1 (notGlo_ne hg)]
      exact q F ι H _ (Nxt.refl rs) (by simp only [Bool.true_bne]; exact mkBl)
    · cases e
  · split at e
    · cases e
      cases relBl r2
      cases relBl r1
      exact .inr ⟨_, _, rfl, rfl, q F ι H _ (Nxt.refl rs) (by simp only [Bool.true_bne]; exact mkBl)⟩
    · cases e
  · cases e⟩
end
end DL
set_option maxHeartbeats 2000000
/-! DLSort: rules over the layer for tuples: sorted, sum, all, any; what sorted ints are. -/
namespace DL
open PySem PySem.Spec PyProof.Rows L2

/-! ### a tuple's items, collected -/
section
variable {prog : Program} {w : World} {A : Around} {E : Value → Shared → Prop} {s : Shared}
def colHeap (h : Heap) (vs : List Value) : Heap := (h.push (seqObj "list" #[] 0)).update h.objs.size (Obj.mapSeq (· ++ vs.toArray))
/-- l is collected as vs, without a walk -/
def Coll (s : Shared) (l : Addr) (vs : List Value) : Prop := s.heap.IsList l vs.toArray ∨ s.heap.IsTuple l vs.toArray
theorem coll_run {l : Addr} {vs : List Value} {Q : List Value → Shared → Prop} (hl : Coll s l vs) (hsz : vs.length ≤ sizeLine) (h : Q vs { s with heap := colHeap s.heap vs }) : wpAny (model prog w) A (collect (.ref l)) Q E s := by
  rcases hl with hl | hl
  · exact collect_list hl h hsz
  · obtain ⟨o, ho, hc, n, hd⟩ := id hl
    unfold collect
    refine wpAny_bind (wpAny_runValue (codeAny_builtin entry_proto_collect' ?_))
    show wpAny _ _ (do again (.builtin "list.__iadd__" ⟨[← newList [], .ref l], []⟩)) _ _ s
    refine wpAny_bind (wpAny_newList (wpAny_pure ⟨Code.quiet_builtin _ (by decide +kernel), codeAny_builtin entry_list_iadd' ?_⟩))
    show wpAny _ _ (Builtin.List.listExtendWith (.ref s.heap.objs.size) (.ref l) (.ref s.heap.objs.size)) _ _ { s with heap := s.heap.push (seqObj "list" #[] 0) }
    unfold Builtin.List.listExtendWith
    have ho' : (s.heap.push (seqObj "list" #[] 0)).get? l = some o := Heap.get?_push_of_some _ ho
    refine wpAny_bind (wpAny_typeOf (T := "tuple") ⟨o, ho', hc⟩ ?_)
    have ht : (Value.type "tuple" == Value.type "tuple") = true := by rfl
    rw [if_pos (by rw [ht]; simp)]
    refine wpAny_bind (listItems_at ho' hd ?_)
    refine wpAny_bind (listItems_at (xs := #[]) (n := 0) (Heap.get?_push_size _ rfl) rfl ?_)
    rw [if_neg (by simp)]
    refine wpAny_bind (listUpdate_at (xs := #[]) (n := 0) (Heap.get?_push_size _ rfl) rfl ?_ (Nat.zero_le _) (by show (#[] ++ vs.toArray).size ≤ sizeLine + 1; simp only [Array.size_append, List.size_toArray, List.length_nil]; omega))
    refine wpAny_pure ?_
    show wpAny (model prog w) A (do
        let o ← load s.heap.objs.size
        match o.data with
        | .seq xs _ => pure xs.toList
        | _ => unsupported "internal:collect") Q E { s with heap := (s.heap.push (seqObj "list" #[] 0)).update s.heap.objs.size (Obj.mapSeq (· ++ vs.toArray)) }
    refine wpAny_bind (wpAny_load (get?_update_seq (Heap.get?_push_size _ rfl) _) ?_)
    show wpAny _ _ (pure ((#[] : Array Value) ++ vs.toArray).toList) Q E _
    rw [show ((#[] : Array Value) ++ vs.toArray).toList = vs by simp]
    exact wpAny_pure h
theorem col_size (h : Heap) (vs : List Value) : (colHeap h vs).objs.size = h.objs.size + 1 := by
  unfold colHeap
  rw [Heap.size_update, size_push']
theorem col_new (h : Heap) (vs : List Value) : ((colHeap h vs).push (seqObj "list" vs.toArray 0)).get? (h.objs.size + 1) = some (seqObj "list" vs.toArray 0) := by
  rw [← col_size h vs]
  exact Heap.get?_push_size _ rfl
theorem col_keep (h : Heap) (vs : List Value) : ∀ b o, h.get? b = some o → b ≠ h.objs.size + 1 ∧ ((colHeap h vs).push (seqObj "list" vs.toArray 0)).get? b = some o := fun b o q => by
  have hlt : b < h.objs.size := Heap.lt_size q
  refine ⟨Nat.ne_of_lt (Nat.lt_succ_of_lt hlt), Heap.get?_push_of_some _ ?_⟩
  unfold colHeap
  rw [Heap.get?_update_ne _ _ _ _ (Nat.ne_of_lt hlt)]
  exact Heap.get?_push_of_some _ q
/-- sorted of ints, a list or a tuple, up or down -/
theorem sorted_coll {l : Addr} {vs : List Value} {ns : List Int} {b : Bool} {kw : List (Str × Value)} {Q : Value → Shared → Prop} (hk : (kw = [] ∧ b = false) ∨ kw = [(Str.ofString "reverse", .bool b)])
    (hl : Coll s l vs) (hi : IntsAre vs ns) (hz : vs.length ≤ sizeLine)
    (h : ∀ (out : Array Value) (ns' : List Int), IntsAre out.toList ns' → ns'.Perm ns → Ordered b ns' → Q (.ref (s.heap.objs.size + 1)) { s with heap := sortedAll s.heap vs out }) :
    wpAny (model prog w) A (call (.builtin "sorted") [.ref l] kw) Q E s := by
  have go : ∀ {out : List Value}, SrtO.Srtd SrtO.ltIv out → SrtO.Stb SrtO.ltIv out (if b = true then vs.reverse else vs) → Q (.ref (s.heap.objs.size + 1)) { s with heap := sortedAll s.heap vs (if b = true then out.toArray.reverse else out.toArray) } := fun h1 h2 => by
    obtain ⟨ns', k1, k2, k3⟩ := SrtR.ints_outR hi h1 h2
    exact h _ ns' k1 k2 k3
  have hS : ∀ (h₁ : Heap) (a : Addr), 2 ≤ vs.length → SrtO.SortableO prog w A.in1.in1 { s with heap := h₁ } a vs SrtO.ltIv := fun h₁ a h2 => SrtO.ints_sortable hi h2
  rcases hk with ⟨rfl, rfl⟩ | rfl
  · refine Calls.call_function_entry kind_sorted plain_sorted entry_sorted (args_sorted1 _) ?_
    unfold Builtin.«sorted»
    refine wpAny_bind (m := checkCount "sorted" 1 1 _) (wpAny_pure ?_)
    refine wpAny_bind (coll_run hl hz ?_)
    refine wpAny_bind (wpAny_newList ?_ hz)
    show wpAny _ _ _ _ _ { s with heap := (colHeap s.heap vs).push (seqObj "list" vs.toArray 0) }
    simp only [col_size]
    refine wpAny_bind (wpAny_holding (wpAny_call_entry slot_list_sort ⟨_, col_new s.heap vs, rfl⟩ entry_list_sort (SrtO.list_sort_ord SrtO.swo_int (col_new s.heap vs) hz (fun h2 => hS _ _ h2) fun out hs hb => ⟨_, rfl, ?_⟩) (args_list_sort _)))
    exact wpAny_pure ⟨_, rfl, go hs (by simpa using hb)⟩
  · refine call_function_entry_kw kind_sorted plain_sorted entry_sorted (PyProof.Rows.args_sorted_rev _ _) ?_
    unfold Builtin.«sorted»
    refine wpAny_bind (m := checkCount "sorted" 1 1 _) (wpAny_pure ?_)
    refine wpAny_bind (coll_run hl hz ?_)
    refine wpAny_bind (wpAny_newList ?_ hz)
    show wpAny _ _ _ _ _ { s with heap := (colHeap s.heap vs).push (seqObj "list" vs.toArray 0) }
    simp only [col_size]
    refine wpAny_bind (wpAny_holding (wpAny_call_entry_kw slot_list_sort ⟨_, col_new s.heap vs, rfl⟩ entry_list_sort ?_ (PyProof.Rows.args_list_sort_rev _ _)))
    refine SrtR.list_sort_ordR SrtO.swo_int (col_new s.heap vs) hz (fun h2 => hS _ _ h2) fun out hs hb => ⟨_, rfl, ?_⟩
    exact wpAny_pure ⟨_, rfl, go hs hb⟩
end

/-! ### the rules -/
/-- x among ascending ones (structural: the kernel can run it) -/
def insUp (x : Int) : List Int → List Int
  | [] => [x]
  | y :: r => if x ≤ y then x :: y :: r else y :: insUp x r
def sortUp : List Int → List Int
  | [] => []
  | x :: r => insUp x (sortUp r)
theorem insUp_perm (x : Int) : ∀ r : List Int, (insUp x r).Perm (x :: r)
  | [] => List.Perm.refl _
  | y :: r => by
    unfold insUp
    by_cases h : x ≤ y
    · rw [if_pos h]
    · rw [if_neg h]
      exact ((insUp_perm x r).cons y).trans (List.Perm.swap x y r)
theorem insUp_up (x : Int) : ∀ {r : List Int}, r.Pairwise (· ≤ ·) → (insUp x r).Pairwise (· ≤ ·)
  | [], _ => List.pairwise_singleton _ _
  | y :: r, h => by
    obtain ⟨h1, h2⟩ := List.pairwise_cons.mp h
    unfold insUp
    by_cases c : x ≤ y
    · rw [if_pos c]
      refine List.pairwise_cons.mpr ⟨fun z hz => ?_, h⟩
      rcases List.mem_cons.mp hz with e | e
      · rw [e]; exact c
      · have := h1 z e
        omega
    · rw [if_neg c]
      refine List.pairwise_cons.mpr ⟨fun z hz => ?_, insUp_up x h2⟩
      rcases List.mem_cons.mp ((insUp_perm x r).mem_iff.mp hz) with e | e
      · rw [e]; omega
      · exact h1 z e
theorem srtUp_perm : ∀ ns : List Int, (sortUp ns).Perm ns
  | [] => List.Perm.refl _
  | x :: r => (insUp_perm x (sortUp r)).trans ((srtUp_perm r).cons x)
theorem srtUp_up : ∀ ns : List Int, (sortUp ns).Pairwise (· ≤ ·)
  | [] => List.Pairwise.nil
  | x :: r => insUp_up x (srtUp_up r)
theorem srtUp_eq {a ns : List Int} (h : a.Perm ns) (o : a.Pairwise (· ≤ ·)) : a = sortUp ns :=
  (PySem.W.os_sorted_mergeSort h o).trans (PySem.W.os_sorted_mergeSort (srtUp_perm ns) (srtUp_up ns)).symm
def sortDn (ns : List Int) : List Int := (sortUp ns).reverse
def sortBy (b : Bool) (ns : List Int) : List Int := if b = true then sortDn ns else sortUp ns
theorem sortBy_eq {b : Bool} {a ns : List Int} (h : a.Perm ns) (o : Ordered b a) : a = sortBy b ns := by
  cases b with
  | false => exact srtUp_eq h o
  | true =>
    have h1 : a.reverse = sortUp ns := srtUp_eq ((List.reverse_perm a).trans h) (by
      rw [List.pairwise_reverse]
      exact o)
    show a = (sortUp ns).reverse
    rw [← h1, List.reverse_reverse]
section
variable {X : Cx}
/-- a list or a tuple of the layer's heap, its values in the machine's -/
theorem seq_coll {pins : List (Addr × Obj)} {σ : L2.St} {H : Hp} {s : Shared} {a : Addr} {xs : List V} (I : Inv X pins σ H s) (h : SqL X.K H a xs ∨ SqT X.K H a xs) : ∃ its : List Value, Vals xs its ∧ Coll s a its ∧ xs.length ≤ sizeLine := by
  rcases h with h | h
  · obtain ⟨its, rv, hl, hz⟩ := I.list h
    exact ⟨its, rv, .inl hl.isList, hz⟩
  · obtain ⟨its, rv, hl, hz⟩ := I.tuple h
    exact ⟨its, rv, .inr hl, hz⟩
def rSrt (K : PySem.W.Frag) (b : Bool) : List V → Hp → VK → Prop := fun vs H Q => ∃ (a : Addr) (ns : List Int), vs = [V.ref a] ∧ (SqL K H a (ns.map V.int) ∨ SqT K H a (ns.map V.int)) ∧
  ∀ p, H p = none → Q (.ref p) (upd H p (.lst ((sortBy b ns).map V.int)))
theorem srt_run {b : Bool} {kw : List (Str × Value)} {pins : List (Addr × Obj)} {s : Shared} {σ : L2.St} {H : Hp} {a : Addr} {ns : List Int} {Q : VK} (hk : (kw = [] ∧ b = false) ∨ kw = [(Str.ofString "reverse", .bool b)]) (I : Inv X pins σ H s)
    (hs : SqL X.K H a (ns.map V.int) ∨ SqT X.K H a (ns.map V.int)) (q : ∀ p, H p = none → Q (.ref p) (upd H p (.lst ((sortBy b ns).map V.int)))) : wpAny (model X.prog X.w) X.A (call (.builtin "sorted") [.ref a] kw) (EP X pins σ Q) X.xe s := by
  obtain ⟨its, rv, hl, hz⟩ := seq_coll I hs
  have hi := rv.ints
  refine sorted_coll hk hl hi (by rw [← rv.length]; exact hz) fun out ns' h1 h2 h3 => ?_
  have e := sortBy_eq h2 h3
  subst e
  obtain ⟨ep, he'⟩ := PyProof.Rows.sortedAll_at s.heap its out
  have hlen : ((sortBy b ns).map V.int).length ≤ sizeLine := by
    rw [List.length_map, h2.length_eq]
    rw [List.length_map] at hz
    exact hz
  exact ⟨.ref _, upd H (s.heap.objs.size + 1) (.lst ((sortBy b ns).map V.int)), I.laid (t' := s.toks) (fun _ _ => PyProof.Rows.sortedAll_old) (Nat.le_succ _) ⟨hlen, out.toList, ep, vals_of_ints h1, he'⟩, rfl, q _ (I.hok.fresh (Nat.le_succ _))⟩
theorem cr_srt : CallR X (.builtin "sorted") (rSrt X.K false) := by
  intro pins s σ H vs us Q I r h
  obtain ⟨a, ns, rfl, hs, q⟩ := h
  rw [Vals.ref1 r]
  exact srt_run (.inl ⟨rfl, rfl⟩) I hs q
theorem cr_srtR {b : Bool} : CallRK X (.builtin "sorted") [Str.ofString "reverse"] (fun vs zs H Q => zs = [.bl b] ∧ rSrt X.K b vs H Q) := by
  intro pins s σ H vs zs us ws Q I r rz h
  obtain ⟨rfl, a, ns, rfl, hs, q⟩ := h
  obtain rfl := Vals.ref1 r
  obtain ⟨w1, rfl, e1⟩ := vals1 rz
  obtain rfl : w1 = Value.bool b := e1
  exact srt_run (.inr rfl) I hs q
theorem cr_sumT (hc : X.calm = true) : CallR X (.builtin "sum") (fun vs H Q => ∃ (a : Addr) (ns : List Int), vs = [V.ref a] ∧ SqT X.K H a (ns.map V.int) ∧ Q (.int ns.sum) H) := by
  intro pins s σ H vs us Q I r h
  obtain ⟨a, ns, rfl, hs, q⟩ := h
  obtain ⟨its, rv, hl, _⟩ := I.tuple hs
  rw [Vals.ref1 r]
  have hi := rv.ints
  obtain ⟨xs, hx⟩ := hi.allInts.items
  have hn : numsOf its.toArray.toList = ns := by rw [show its.toArray.toList = its from rfl, hi.numsOf]
  rw [hx] at hl hn
  rw [nums_intItems] at hn
  refine PySem.W.ktm_sumG (I.ok.hd hc) hl fun h' tk t' hk => ⟨.int _, H, I.kept hk, ⟨_, rfl⟩, ?_⟩
  rw [preSum_eq, List.take_of_length_le (by simp), hn]
  exact q
end
end DL
set_option maxHeartbeats 2000000
/-! DLSeq: subscripts, slices, stores, methods of lists, built-in functions over data. -/
namespace DL
open PySem PySem.Spec PyProof.Rows L2
variable [HasT]
section
variable {X : Cx} {W : WX} {e a b o i : Expr} {es : List Expr} {pos p p2 : Pos} {ma mb mo mi me : ME D} {mr : ME (List D)}

/-! ### views -/
def intsD : List D → Option (List Int)
  | [] => some []
  | .p (.int i) :: r => match intsD r with
    | some ns => some (i :: ns)
    | none => none
  | _ => none
def bools : List D → Option (List Bool)
  | [] => some []
  | .p (.bl i) :: r => match bools r with
    | some ns => some (i :: ns)
    | none => none
  | _ => none
def dInts (ns : List Int) : List D := ns.map fun i => .p (.int i)
theorem ints_dInts : ∀ ns : List Int, intsD (dInts ns) = some ns
  | [] => rfl
  | n :: ns => by
    show intsD (D.p (.int n) :: dInts ns) = _
    simp only [intsD, ints_dInts ns]
theorem ints_eq : ∀ {ds : List D} {ns : List Int}, intsD ds = some ns → ds = dInts ns
  | [], _, h => by cases h; rfl
  | .p (.int i) :: r, ns, h => by
    simp only [intsD] at h
    split at h
    · rename_i ms e
      cases h
      rw [ints_eq e]
      rfl
    · cases h
  | .p .non :: _, _, h => by cases h
  | .p (.bl _) :: _, _, h => by cases h
  | .p (.str _) :: _, _, h => by cases h
  | .p (.tup _) :: _, _, h => by cases h
  | .p (.lst _) :: _, _, h => by cases h
  | .p (.scr _) :: _, _, h => by cases h
  | .p (.ins _ _) :: _, _, h => by cases h
  | .p (.dic _) :: _, _, h => by cases h
  | .p (.glo _) :: _, _, h => by cases h
  | .p (.ty _) :: _, _, h => by cases h
  | .r _ :: _, _, h => by cases h
  | .t _ :: _, _, h => by cases h
theorem relInts {G : Gb} {F : Addr → Prop} {ι : List Addr} {H : Hp} : ∀ {ns : List Int} {vs : List V}, RelDs G F ι H (dInts ns) vs → vs = ns.map V.int
  | [], _, h => by simpa only [RelDs, dInts, List.map] using h
  | n :: ns, _, h => by
    have h' : RelDs G F ι H (D.p (.int n) :: dInts ns) _ := h
    simp only [RelDs] at h'
    obtain ⟨v, ws, rfl, a, b⟩ := h'
    rw [relInt a, relInts b]
    rfl
theorem mkInts {G : Gb} {F : Addr → Prop} {ι : List Addr} {H : Hp} : ∀ ns : List Int, RelDs G F ι H (dInts ns) (ns.map V.int)
  | [] => relDs_nil'
  | n :: ns => relDs_cons.mpr ⟨mkInt, mkInts ns⟩
theorem relBools {G : Gb} {F : Addr → Prop} {ι : List Addr} {H : Hp} : ∀ {ds : List D} {bs : List Bool} {vs : List V}, bools ds = some bs → RelDs G F ι H ds vs → vs = bs.map V.bl
  | [], _, _, h, r => by
    cases h
    simpa only [RelDs, List.map] using r
  | .p (.bl i) :: ds, bs, _, h, r => by
    simp only [bools] at h
    split at h
    · rename_i ms e
      cases h
      simp only [RelDs] at r
      obtain ⟨v, ws, rfl, a, b⟩ := r
      rw [relBl a, relBools e b]
      rfl
    · cases h
  | .p .non :: _, _, _, h, _ => by cases h
  | .p (.int _) :: _, _, _, h, _ => by cases h
  | .p (.str _) :: _, _, _, h, _ => by cases h
  | .p (.tup _) :: _, _, _, h, _ => by cases h
  | .p (.lst _) :: _, _, _, h, _ => by cases h
  | .p (.scr _) :: _, _, _, h, _ => by cases h
  | .p (.ins _ _) :: _, _, _, h, _ => by cases h
  | .p (.dic _) :: _, _, _, h, _ => by cases h
  | .p (.glo _) :: _, _, _, h, _ => by cases h
  | .p (.ty _) :: _, _, _, h, _ => by cases h
  | .r _ :: _, _, _, h, _ => by cases h
  | .t _ :: _, _, _, h, _ => by cases h

theorem relDs_dropLast {G : Gb} {F : Addr → Prop} {ι : List Addr} {H : Hp} {xs : List D} {vs : List V} (r : RelDs G F ι H xs vs) : RelDs G F ι H xs.dropLast vs.dropLast := by
  rw [List.dropLast_eq_take, List.dropLast_eq_take, ← relDs_len r]
  exact relDs_take _ r

/-! ### a[i] -/
def IxD (X : Cx) (f : F2) : Prop :=
  ∃ r : R2, IxR X r ∧ ∀ {F : Addr → Prop} {ι : List Addr} {S S' : Store} {H : Hp} {d1 d2 d' : D} {v1 v2 : V} {Q : VK}, R (gb X) F ι S H → RelD (gb X) F ι H d1 v1 → RelD (gb X) F ι H d2 v2 → f d1 d2 S = some (d', S') →
    (∀ F' ι' H' v, Nxt (gb X) F ι H F' ι' S' H' → RelD (gb X) F' ι' H' d' v → Q v H') → r v1 v2 H Q
theorem de_ix {f : F2} (ho : IxD X f) (ha : DE X W a ma) (hb : DE X W b mb) (hs : PlainIx b := by intro _ _; rfl) : DE X W (.Subscript a b pos) (mOp2 f ma mb) := by
  obtain ⟨r, o, k⟩ := ho
  exact PE.imp (pe_ix o ha hb hs) (op2_imp k)
def fIx : F2 := fun x y S => match y with
  | .p (.int i) => (match x.tup? with
    | some xs => (match atI xs i with
      | some d => some (d, S)
      | none => none)
    | none => (match x.lst? S with
      | some xs => (match atI xs i with
        | some d => some (d, S)
        | none => none)
      | none => (match x with
        | .p (.str z) => if z.length ≤ 100000 then (match atI z.cps.toList i with
          | some c => some (.p (.str ⟨#[c]⟩), S)
          | none => none) else none
        | _ => none)))
  | _ => none
theorem atI_rel {G : Gb} {F : Addr → Prop} {ι : List Addr} {H : Hp} {xs : List D} {vs : List V} {i : Int} {d : D} (r : RelDs G F ι H xs vs) (h : atI xs i = some d) : ∃ v, atI vs i = some v ∧ RelD G F ι H d v := by
  unfold atI at h ⊢
  rw [← relDs_len r]
  cases e : ixN xs.length i with
  | none => rw [e] at h; cases h
  | some j =>
    rw [e] at h
    exact relDs_get r h
theorem ixd : IxD X fIx := ⟨_, ix_seq, fun {F ι S S' H d1 d2 d' v1 v2 Q} rs r1 r2 e q => by
  unfold fIx at e
  split at e
  · rename_i i
    cases relInt r2
    split at e
    · rename_i xs ex
      split at e
      · rename_i d ed
        cases e
        obtain ⟨p, vs, rfl, q1, rd⟩ := tup?_rel ex r1
        obtain ⟨v, hv, rv⟩ := atI_rel rd ed
        exact .inr (.inl ⟨p, vs, i, v, rfl, rfl, q1, hv, q F ι H v (Nxt.refl rs) rv⟩)
      · cases e
    · split at e
      · rename_i xs ex
        split at e
        · rename_i d ed
          cases e
          obtain ⟨p, vs, rfl, q1, rd⟩ := lst?_rel rs ex r1
          obtain ⟨v, hv, rv⟩ := atI_rel rd ed
          exact .inl ⟨p, vs, i, v, rfl, rfl, q1, hv, q F ι H v (Nxt.refl rs) rv⟩
        · cases e
      · split at e
        · split at e
          · rename_i hz
            split at e
            · rename_i c ec
              cases e
              cases relStr r1
              exact .inr (.inr ⟨_, i, c, rfl, rfl, szOk hz, ec, q F ι H _ (Nxt.refl rs) mkStr⟩)
            · cases e
          · cases e
        · cases e
  · cases e⟩

/-! ### a[lo:hi] -/
def mNoPart : ME (Option Int) := fun _ S => .ok none S
def asInt : D → M Int
  | .p (.int i) => fun S => .ok i S
  | _ => fun _ => .stuck
def mPart (m : ME D) : ME (Option Int) := fun ρ S => (m ρ S).bind fun x => fun S => (asInt x S).bind fun i S => .ok (some i) S
def TOp (G : Gb) (W : WX) (m : ME (Option Int)) : TO := fun σ H Q => ∃ ρ S ι F, At G F ι H σ ρ S ∧ Then G (fun c d H' => W c d σ H') F ι H (m ρ S) fun o _ F' ι' H' => Q o H'
abbrev DO (X : Cx) (W : WX) (e : Option Expr) (m : ME (Option Int)) : Prop := PO X e (TOp (gb X) W m)
theorem PO.imp {X : Cx} {e : Option Expr} {t t' : TO} (h : PO X e t) (i : ∀ σ H Q, t' σ H Q → t σ H Q) : PO X e t' := ⟨fun pins s σ H Q I q => h.run pins s σ H Q I (i σ H Q q)⟩
theorem do_none : DO X W none mNoPart := PO.imp po_none fun σ H Q q => by
  obtain ⟨ρ, S, ι, F, at', t⟩ := q
  exact t.now at'.r
theorem asInt_then {G : Gb} {W : Value → Option Addr → Hp → Prop} {F : Addr → Prop} {ι : List Addr} {H : Hp} {α : Type} {d : D} {S : Store} {k : Int → M α} {v : V} {Q : α → Store → (Addr → Prop) → List Addr → Hp → Prop}
    (h : Then G W F ι H ((asInt d S).bind k) Q) (r : RelD G F ι H d v) : ∃ b, v = .int b ∧ Then G W F ι H (k b S) Q := by
  unfold asInt at h
  split at h
  · rename_i b
    exact ⟨b, relInt r, h⟩
  · exact h.elim
theorem do_some (h : DE X W e me) : DO X W (some e) (mPart me) := PO.imp (po_some h) fun σ H Q q => by
  obtain ⟨ρ, S, ι, F, at', t⟩ := q
  refine T.first at' t fun d1 S1 F1 ι1 H1 v1 n1 a1 r1 t1 => ?_
  obtain ⟨b, eb, t2⟩ := asInt_then t1 r1
  exact ⟨b, eb, t2.now a1.r⟩
def cutD (xs : List D) (lo hi : Option Int) : List D := (xs.drop (HT.sIx xs.length 0 lo)).take (HT.sIx xs.length xs.length hi - HT.sIx xs.length 0 lo)
theorem cut_rel {G : Gb} {F : Addr → Prop} {ι : List Addr} {H : Hp} {xs : List D} {vs : List V} (r : RelDs G F ι H xs vs) (lo hi : Option Int) : RelDs G F ι H (cutD xs lo hi) (cutV vs lo hi) := by
  unfold cutD cutV
  rw [← relDs_len r]
  exact relDs_take _ (relDs_drop _ r)
abbrev FS := D → Option Int → Option Int → Store → Option (D × Store)
/-- a slice of a list (the answer by fin) or of a tuple, not the whole of it -/
def fCut (fin : FL) : FS := fun x lo hi S => match x.tup? with
  | some xs => if HT.sIx xs.length 0 lo = 0 ∧ HT.sIx xs.length xs.length hi = xs.length then none else some (mkTup (cutD xs lo hi), S)
  | none => match x.lst? S with
    | some xs => fin (cutD xs lo hi) S
    | none => none
def mSl (f : FS) (ma : ME D) (ml mh : ME (Option Int)) : ME D := fun ρ S => (ma ρ S).bind fun x => fun S => (ml ρ S).bind fun l => fun S => (mh ρ S).bind fun h => lift (f x l h)
theorem TO.first {G : Gb} {W : WX} {α : Type} {F : Addr → Prop} {ι : List Addr} {σ : L2.St} {ρ : Env} {S : Store} {H : Hp} {m : ME (Option Int)} {k : Option Int → M α} {Q : α → Store → (Addr → Prop) → List Addr → Hp → Prop} {Q' : Option Int → Hp → Prop}
    (a : At G F ι H σ ρ S) (h : Then G (fun c d H' => W c d σ H') F ι H ((m ρ S).bind k) Q)
    (q : ∀ d S1 F1 ι1 H1, Nxt G F ι H F1 ι1 S1 H1 → At G F1 ι1 H1 σ ρ S1 → Then G (fun c d H' => W c d σ H') F1 ι1 H1 (k d S1) Q → Q' d H1) : TOp G W m σ H Q' :=
  ⟨ρ, S, ι, F, a, h.bind.mono fun d S1 F1 ι1 H1 n t => q d S1 F1 ι1 H1 n (a.next n) t⟩
theorem de_cut {fin : FL} {lo hi : Option Expr} {ml mh : ME (Option Int)} (n : NewL X fin) (ha : DE X W a ma) (hl : DO X W lo ml) (hh : DO X W hi mh) : DE X W (.Subscript a (.Slice lo hi none p2) pos) (mSl (fCut fin) ma ml mh) :=
  PE.imp (pe_slice (SlR.or sl_tup sl_list) ha hl hh) fun σ H Q q => by
    obtain ⟨ρ, S, ι, F, at', t⟩ := q
    refine T.first at' t fun d1 S1 F1 ι1 H1 v1 n1 a1 r1 t1 => ?_
    refine TO.first a1 t1 fun l S2 F2 ι2 H2 n2 a2 t2 => ?_
    refine TO.first a2 t2 fun h S3 F3 ι3 H3 n3 a3 t3 => ?_
    obtain ⟨d', S', e, q⟩ := lift_then t3
    have r3 := n3.d (n2.d r1)
    unfold fCut at e
    split at e
    · rename_i xs ex
      split at e
      · cases e
      · rename_i hw
        cases e
        obtain ⟨p, vs, rfl, q1, rd⟩ := tup?_rel ex r3
        refine .inl ⟨p, vs, rfl, q1, by rw [← relDs_len rd]; exact hw, fun p hp => ?_⟩
        exact q _ _ _ (Nxt.fresh a3.r hp) _ (rel_newT hp (cut_rel rd l h))
    · split at e
      · rename_i xs ex
        obtain ⟨p, vs, rfl, q1, rd⟩ := lst?_rel a3.r ex r3
        exact .inr ⟨p, vs, rfl, q1, (n a3.r (cut_rel rd l h) e fun F' ι' H' v n r => q F' ι' H' n v r).2⟩
      · cases e
/-- xs[::-1] -/
def fRevL (fin : FL) : F1 := fun x S => match x.lst? S with
  | some xs => fin xs.reverse S
  | none => none
theorem de_revL {fin : FL} {k : Nat} {p1 p3 p4 : Pos} (n : NewL X fin) (ha : DE X W a ma) : DE X W (.Subscript a (.Slice none none (some (.UnaryOp .USub (.Constant (.int 1) k p1) p3)) p4) pos) (mOp1 (fRevL fin) ma) :=
  PE.imp (pe_revL ha) fun σ H Q q => by
    obtain ⟨ρ, S, ι, F, at', t⟩ := q
    refine T.first at' t fun d1 S1 F1 ι1 H1 v1 n1 a1 r1 t1 => ?_
    obtain ⟨d', S', e, q⟩ := lift_then t1
    unfold fRevL at e
    split at e
    · rename_i xs ex
      obtain ⟨p, vs, rfl, q1, rd⟩ := lst?_rel a1.r ex r1
      exact ⟨p, vs, rfl, q1, (n a1.r (relDs_reverse rd) e fun F' ι' H' v n r => q F' ι' H' n v r).2⟩
    · cases e

/-! ### a[i] = e -/
def putL (n : Nat) (xs : List D) (S : Store) : Option Store := if h : (O.lst xs).lo S.objs.length = true then some (S.put n (.lst xs) h) else none
/-- a list of the store, at its place -/
def D.mut? (d : D) (S : Store) : Option (Nat × List D) := match d with
  | .r n => match S.objs[n]? with
    | some (.lst xs) => some (n, xs)
    | _ => none
  | _ => none
theorem mut?_rel {G : Gb} {F : Addr → Prop} {ι : List Addr} {S : Store} {H : Hp} {d : D} {n : Nat} {xs : List D} {v : V} (rs : R G F ι S H) (h : d.mut? S = some (n, xs)) (r : RelD G F ι H d v) : ∃ a vs, v = .ref a ∧ ι[n]? = some a ∧ H a = some (.lst vs) ∧ RelDs G F ι H xs vs := by
  unfold D.mut? at h
  split at h
  · rename_i m
    split at h
    · rename_i ys e
      cases h
      simp only [RelD] at r
      obtain ⟨a, rfl, q⟩ := r
      obtain ⟨b, qb, ro⟩ := rs.obj e
      rw [q] at qb
      cases qb
      obtain ⟨vs, hv, rv⟩ := ro
      exact ⟨a, vs, rfl, q, hv, rv⟩
    · cases h
  · cases h
/-- a list of the store is changed -/
theorem putL_nxt {G : Gb} {F : Addr → Prop} {ι : List Addr} {S S' : Store} {H : Hp} {n : Nat} {a : Addr} {us vs : List V} {es : List D} (rs : R G F ι S H) (hi : ι[n]? = some a) (hu : H a = some (.lst us)) (rd : RelDs G F ι H es vs) (e : putL n es S = some S') : Nxt G F ι H F ι S' (upd H a (.lst vs)) := by
  unfold putL at e
  split at e
  · rename_i hw
    cases e
    exact Nxt.putL rs hi hu rd hw
  · cases e
def fPut : D → D → D → Store → Option Store := fun x i y S => match x.mut? S, i with
  | some (n, xs), .p (.int k) => (match ixN xs.length k with
    | some j => putL n (xs.set j y) S
    | none => none)
  | _, _ => none
def liftS (f : Store → Option Store) (ρ : Env) : M Out := fun S => match f S with
  | some S' => .ok (.nx ρ) S'
  | none => .stuck
def mPut (me mo mi : ME D) : MS := fun ρ S => (me ρ S).bind fun y => fun S => (mo ρ S).bind fun x => fun S => (mi ρ S).bind fun i => liftS (fPut x i y) ρ
theorem liftS_then {G : Gb} {W : Value → Option Addr → Hp → Prop} {F : Addr → Prop} {ι : List Addr} {H : Hp} {f : Store → Option Store} {ρ : Env} {S : Store} {Q : Out → Store → (Addr → Prop) → List Addr → Hp → Prop}
    (h : Then G W F ι H (liftS f ρ S) Q) : ∃ S', f S = some S' ∧ ∀ F' ι' H', Nxt G F ι H F' ι' S' H' → Q (.nx ρ) S' F' ι' H' := by
  unfold liftS at h
  split at h
  · rename_i S' e
    exact ⟨S', e, h⟩
  · exact h.elim
theorem ds_put (he : DE X W e me) (ho : DE X W o mo) (hi : DE X W i mi)
    (ha : ∀ v, assign (.Subscript o i p) X.env v = (do
      let ov ← holding [v] (eval o X.env)
      let iv ← holding [v, ov] (eval i X.env)
      standAt p
      holding [v, ov, iv] (setItem ov iv v)
      release [v, ov, iv] []) := by intro _; rfl)
    (hs : swapsWithSole [.Subscript o i p] e pos.line X.env = pure false := by rfl) (hw : swappedStores [.Subscript o i p] e X.env = pure none := by rfl) (h1 : (assignEach [.Subscript o i p] X.env).map (·.2) = [assign (.Subscript o i p) X.env] := by rfl) :
    DS X W (.Assign [.Subscript o i p] e pos) (mPut me mo mi) := PS.imp (ps_asg he (pg_sub ho hi set_list ha) hs hw h1) fun E σ H q => by
  obtain ⟨ρ, S, ι, F, a, t⟩ := q
  refine T.firstS a t fun d S1 F1 ι1 H1 v n a1 r t1 => ?_
  refine T.firstS a1 t1 fun d2 S2 F2 ι2 H2 v2 n2 a2 r2 t2 => ?_
  refine T.firstS a2 t2 fun d3 S3 F3 ι3 H3 v3 n3 a3 r3 t3 => ?_
  obtain ⟨S', e', q⟩ := liftS_then t3
  unfold fPut at e'
  split at e'
  · rename_i n xs k em
    split at e'
    · rename_i j ej
      obtain ⟨a4, vs, rfl, q4, h4, rd⟩ := mut?_rel a3.r em (n3.d r2)
      cases relInt r3
      refine ⟨a4, vs, k, j, rfl, rfl, h4, by rw [← relDs_len rd]; exact ej, ?_⟩
      have nx := putL_nxt a3.r q4 h4 (relDs_set (n3.d (n2.d r)) j rd) e'
      exact q _ _ _ nx σ rfl (a3.e.mono nx)
    · cases e'
  · cases e'

/-! ### methods -/
abbrev FM := D → List D → Store → Option (D × Store)
def MtD (X : Cx) (id : String) (f : FM) : Prop :=
  ∃ r : V → List V → Hp → VK → Prop, MtR X id r ∧ ∀ {F : Addr → Prop} {ι : List Addr} {S S' : Store} {H : Hp} {d d' : D} {ds : List D} {v : V} {vs : List V} {Q : VK}, R (gb X) F ι S H → RelD (gb X) F ι H d v → RelDs (gb X) F ι H ds vs → f d ds S = some (d', S') →
    (∀ F' ι' H' v, Nxt (gb X) F ι H F' ι' S' H' → RelD (gb X) F' ι' H' d' v → Q v H') → r v vs H Q
/-- the receiver is a list -/
def mMeth (f : FM) (mo : ME D) (mr : ME (List D)) : ME D := fun ρ S => (mo ρ S).bind fun x => fun S => (lift (fun S => match x.lst? S with
  | some _ => some ((), S)
  | none => none) S).bind fun _ S => (mr ρ S).bind fun ys => lift (f x ys)
theorem lst_ty {F : Addr → Prop} {ι : List Addr} {S : Store} {H : Hp} {d : D} {xs : List D} {v : V} (rs : R (gb X) F ι S H) (h : d.lst? S = some xs) (r : RelD (gb X) F ι H d v) : tyV X.K "list" v H := by
  obtain ⟨a, vs, rfl, q, _⟩ := lst?_rel rs h r
  exact .inl ⟨rfl, vs, q⟩
theorem de_meth {name : Str} {apos cpos : Pos} {id : String} {f : FM} (hm : MtD X id f) (slot : Slot "list" name id) (hty : typeOf (.builtin id) = pure (.type "method_descriptor")) (ho : DE X W o mo) (ha : DA X W (e :: es) mr)
    (hbase : attributeBase o name X.env (eval o X.env) = eval o X.env := by rfl)
    (hfew : ((backTo cpos (starEach (e :: es) X.env)).all (fun x => !x.1) && (backToKw cpos (keywordEach [] X.env)).all (fun x => x.1.isSome)
      && decide ((e :: es).length + ([] : List Keyword).length + (if ([] : List Keyword).isEmpty then 0 else 1) < 30)) = true := by rfl)
    (hline : (apos.endLine == cpos.line) = true := by rfl) (hs : starEach (e :: es) X.env = (false, eval e X.env) :: starEach es X.env := by rfl) (hplain : (backTo cpos (starEach es X.env)).any (·.1) = false := by rfl) :
    DE X W (.Call (.Attribute o name apos) (e :: es) [] cpos) (mMeth f mo mr) := by
  obtain ⟨r, hr, k⟩ := hm
  refine PE.imp (pe_bm PySem.F.plainAttrs_list slot hty hr ho ha hbase hfew hline hs hplain) fun σ H Q q => ?_
  obtain ⟨ρ, S, ι, F, at', t⟩ := q
  refine T.first at' t fun d1 S1 F1 ι1 H1 v1 n1 a1 r1 t1 => ?_
  obtain ⟨u, S2, e2, q2⟩ := lift_then t1.bind
  split at e2
  · rename_i xs ex
    cases e2
    refine ⟨lst_ty a1.r ex r1, ?_⟩
    refine TL.first a1 (q2 _ _ _ (Nxt.refl a1.r)) fun ds S2 F2 ι2 H2 vs n2 a2 r2 t2 => ?_
    obtain ⟨d', S', e, q⟩ := lift_then t2
    exact k a2.r (n2.d r1) r2 e fun F' ι' H' v n r => q F' ι' H' n v r
  · cases e2
theorem de_meth0 {name : Str} {apos cpos : Pos} {id : String} {f : FM} (hm : MtD X id f) (slot : Slot "list" name id) (hty : typeOf (.builtin id) = pure (.type "method_descriptor")) (ho : DE X W o mo)
    (hbase : attributeBase o name X.env (eval o X.env) = eval o X.env := by rfl) (hline : (apos.endLine == cpos.line) = true := by rfl) :
    DE X W (.Call (.Attribute o name apos) [] [] cpos) (mMeth f mo mNil) := by
  obtain ⟨r, hr, k⟩ := hm
  refine PE.imp (pe_bm0 PySem.F.plainAttrs_list slot hty hr ho hbase hline) fun σ H Q q => ?_
  obtain ⟨ρ, S, ι, F, at', t⟩ := q
  refine T.first at' t fun d1 S1 F1 ι1 H1 v1 n1 a1 r1 t1 => ?_
  obtain ⟨u, S2, e2, q2⟩ := lift_then t1.bind
  split at e2
  · rename_i xs ex
    cases e2
    refine ⟨lst_ty a1.r ex r1, ?_⟩
    obtain ⟨d', S', e, q⟩ := lift_then (q2 _ _ _ (Nxt.refl a1.r))
    exact k a1.r r1 relDs_nil' e fun F' ι' H' v n r => q F' ι' H' n v r
  · cases e2
def fAppend : FM := fun x ys S => match x.mut? S, ys with
  | some (n, xs), [y] => if xs.length < 100000 then (match putL n (xs ++ [y]) S with
    | some S' => some (.p .non, S')
    | none => none) else none
  | _, _ => none
theorem md_append : MtD X "list.append" fAppend := ⟨_, mt_append, fun {F ι S S' H d d' ds v vs Q} rs r1 r2 e q => by
  unfold fAppend at e
  split at e
  · rename_i n xs y em
    split at e
    · rename_i hl
      split at e
      · rename_i S2 e2
        cases e
        obtain ⟨a, us, rfl, hi, hu, rd⟩ := mut?_rel rs em r1
        obtain ⟨w, rfl, ry⟩ := relDs1 r2
        exact ⟨a, us, w, rfl, rfl, hu, by rw [← relDs_len rd]; rw [sizeLine_eq]; omega, q _ _ _ _ (putL_nxt rs hi hu (relDs_append rd (relDs_cons.mpr ⟨ry, relDs_nil'⟩)) e2) mkNon⟩
      · cases e
    · cases e
  · cases e⟩
def fPopAt : FM := fun x ys S => match x.mut? S, ys with
  | some (n, xs), [.p (.int i)] => (match seqIndex? i xs.length with
    | some k => if fitR i = true then (match xs[k]? with
      | some y => (match putL n (xs.eraseIdx k) S with
        | some S' => some (y, S')
        | none => none)
      | none => none) else none
    | none => none)
  | _, _ => none
theorem md_popAt : MtD X "list.pop" fPopAt := ⟨_, mt_popAt, fun {F ι S S' H d d' ds v vs Q} rs r1 r2 e q => by
  unfold fPopAt at e
  split at e
  · rename_i n xs i em
    split at e
    · rename_i k ek
      split at e
      · rename_i hf
        split at e
        · rename_i y ey
          split at e
          · rename_i S2 e2
            cases e
            obtain ⟨a, us, rfl, hi, hu, rd⟩ := mut?_rel rs em r1
            obtain ⟨w, rfl, ry⟩ := relDs1 r2
            cases relInt ry
            obtain ⟨v, hv, rv⟩ := relDs_get rd ey
            have nx := putL_nxt rs hi hu (relDs_erase k rd) e2
            have := fitR_ok hf
            exact ⟨a, us, i, k, v, rfl, rfl, hu, by omega, by omega, by rw [← relDs_len rd]; exact ek, hv, q _ _ _ _ nx (nx.d rv)⟩
          · cases e
        · cases e
      · cases e
    · cases e
  · cases e⟩
def fPop : FM := fun x ys S => match x.mut? S, ys with
  | some (n, xs), [] => (match xs[xs.length - 1]? with
      | some y => (match putL n xs.dropLast S with
        | some S' => some (y, S')
        | none => none)
      | none => none)
  | _, _ => none
theorem md_pop : MtD X "list.pop" fPop := ⟨_, mt_pop, fun {F ι S S' H d d' ds v vs Q} rs r1 r2 e q => by
  unfold fPop at e
  split at e
  · rename_i n xs em
    split at e
    · rename_i y ey
      split at e
      · rename_i S2 e2
        cases e
        obtain ⟨a, us, rfl, hi, hu, rd⟩ := mut?_rel rs em r1
        rw [relDs_nil] at r2
        subst r2
        obtain ⟨v, hv, rv⟩ := relDs_get rd ey
        have nx := putL_nxt rs hi hu (relDs_dropLast rd) e2
        exact ⟨a, us, v, rfl, rfl, hu, by rw [← relDs_len rd]; exact hv, q _ _ _ _ nx (nx.d rv)⟩
      · cases e
    · cases e
  · cases e⟩

/-! ### built-in functions -/
def fLen : FL := fun ds S => match ds with
  | [x] => (match x.seq? S with
    | some xs => some (.p (.int xs.length), S)
    | none => (match x with
      | .p (.str z) => if z.length ≤ 100000 then some (.p (.int z.length), S) else none
      | _ => none))
  | _ => none
theorem cd_len : CallD X (.builtin "len") fLen := ⟨_, call_len_seq.or call_len_str, fun {F ι S S' H ds d' vs Q} rs r e q => by
  unfold fLen at e
  split at e
  · obtain ⟨v, rfl, r1⟩ := relDs1 r
    split at e
    · rename_i xs ex
      cases e
      obtain ⟨p, us, rfl, q1, rd⟩ := seq?_rel rs ex r1
      exact .inl ⟨p, us, rfl, q1, by rw [← relDs_len rd]; exact q F ι H _ (Nxt.refl rs) mkInt⟩
    · split at e
      · split at e
        · rename_i hz
          cases e
          cases relStr r1
          exact .inr ⟨_, rfl, szOk hz, q F ι H _ (Nxt.refl rs) mkInt⟩
        · cases e
      · cases e
  · cases e⟩
def fAbs : FL := fun ds S => match ds with
  | [.p (.int i)] => some (.p (.int (if i < 0 then -i else i)), S)
  | _ => none
theorem cd_abs : CallD X (.builtin "abs") fAbs := ⟨_, call_abs, fun {F ι S S' H ds d' vs Q} rs r e q => by
  unfold fAbs at e
  split at e
  · cases e
    obtain ⟨v, rfl, r1⟩ := relDs1 r
    cases relInt r1
    exact ⟨_, rfl, q F ι H _ (Nxt.refl rs) mkInt⟩
  · cases e⟩
def fInt : FL := fun ds S => match ds with
  | [.p (.int i)] => some (.p (.int i), S)
  | [.p (.bl k)] => some (.p (.int (if k then 1 else 0)), S)
  | _ => none
theorem cd_int : CallD X (.type "int") fInt := ⟨_, call_int1, fun {F ι S S' H ds d' vs Q} rs r e q => by
  unfold fInt at e
  split at e
  · cases e
    obtain ⟨v, rfl, r1⟩ := relDs1 r
    cases relInt r1
    exact .inl ⟨_, rfl, q F ι H _ (Nxt.refl rs) mkInt⟩
  · cases e
    obtain ⟨v, rfl, r1⟩ := relDs1 r
    cases relBl r1
    exact .inr ⟨_, rfl, q F ι H _ (Nxt.refl rs) mkInt⟩
  · cases e⟩
def fBool : FL := fun ds S => match ds with
  | [.p (.int i)] => some (.p (.bl (i != 0)), S)
  | [.p (.bl k)] => some (.p (.bl k), S)
  | _ => none
theorem cd_bool : CallD X (.type "bool") fBool := ⟨_, call_bool1, fun {F ι S S' H ds d' vs Q} rs r e q => by
  unfold fBool at e
  split at e
  · cases e
    obtain ⟨v, rfl, r1⟩ := relDs1 r
    cases relInt r1
    exact .inl ⟨_, rfl, q F ι H _ (Nxt.refl rs) mkBl⟩
  · cases e
    obtain ⟨v, rfl, r1⟩ := relDs1 r
    cases relBl r1
    exact .inr ⟨_, rfl, q F ι H _ (Nxt.refl rs) mkBl⟩
  · cases e⟩
def fMax2 : FL := fun ds S => match ds with
  | [.p (.int i), .p (.int j)] => some (.p (.int (if j > i then j else i)), S)
  | _ => none
def fMin2 : FL := fun ds S => match ds with
  | [.p (.int i), .p (.int j)] => some (.p (.int (if j < i then j else i)), S)
  | _ => none
theorem cd_max2 (hc : X.calm = true) : CallD X (.builtin "max") fMax2 := ⟨_, call_max2 hc, fun {F ι S S' H ds d' vs Q} rs r e q => by
  unfold fMax2 at e
  split at e
  · cases e
    obtain ⟨v, w, rfl, r1, r2⟩ := relDs2 r
    cases relInt r1
    cases relInt r2
    exact ⟨_, _, rfl, q F ι H _ (Nxt.refl rs) mkInt⟩
  · cases e⟩
theorem cd_min2 (hc : X.calm = true) : CallD X (.builtin "min") fMin2 := ⟨_, call_min2 hc, fun {F ι S S' H ds d' vs Q} rs r e q => by
  unfold fMin2 at e
  split at e
  · cases e
    obtain ⟨v, w, rfl, r1, r2⟩ := relDs2 r
    cases relInt r1
    cases relInt r2
    exact ⟨_, _, rfl, q F ι H _ (Nxt.refl rs) mkInt⟩
  · cases e⟩
/-! list(x), tuple(x) -/
def fToL (fin : FL) : FL := fun ds S => match ds with
  | [x] => (match x.seq? S with
    | some xs => fin xs S
    | none => none)
  | _ => none
theorem cd_toL {fin : FL} (n : NewL X fin) : CallD X (.type "list") (fToL fin) := ⟨_, call_list_of, fun {F ι S S' H ds d' vs Q} rs r e q => by
  unfold fToL at e
  split at e
  · obtain ⟨v, rfl, r1⟩ := relDs1 r
    split at e
    · rename_i xs ex
      obtain ⟨p, us, rfl, q1, rd⟩ := seq?_rel rs ex r1
      exact ⟨p, us, rfl, q1, (n rs rd e q).2⟩
    · cases e
  · cases e⟩
def fToT : FL := fun ds S => match ds with
  | [x] => (match x.seq? S with
    | some xs => some (mkTup xs, S)
    | none => none)
  | _ => none
theorem cd_toT : CallD X (.type "tuple") fToT := ⟨_, call_tuple_of, fun {F ι S S' H ds d' vs Q} rs r e q => by
  unfold fToT at e
  split at e
  · obtain ⟨v, rfl, r1⟩ := relDs1 r
    split at e
    · rename_i xs ex
      cases e
      obtain ⟨p, us, rfl, q1, rd⟩ := seq?_relH rs ex r1
      rcases q1 with q1 | q1
      · exact ⟨p, us, rfl, .inl ⟨q1, fun l hl => q _ _ _ _ (Nxt.fresh rs hl) (rel_newT hl rd)⟩⟩
      · exact ⟨p, us, rfl, .inr ⟨SqT.of q1, q _ _ _ _ (Nxt.refl rs) (mkTup_rel q1 rd)⟩⟩
    · cases e
  · cases e⟩
/-! sum, all, any -/
def fSum : FL := fun ds S => match ds with
  | [x] => (match x.seq? S with
    | some xs => (match intsD xs with
      | some ns => some (.p (.int ns.sum), S)
      | none => none)
    | none => none)
  | _ => none
theorem cd_sum (hc : X.calm = true) : CallD X (.builtin "sum") fSum := ⟨_, (cr_sum hc).or (cr_sumT hc), fun {F ι S S' H ds d' vs Q} rs r e q => by
  unfold fSum at e
  split at e
  · obtain ⟨v, rfl, r1⟩ := relDs1 r
    split at e
    · rename_i xs ex
      split at e
      · rename_i ns en
        cases e
        obtain ⟨p, us, rfl, q1, rd⟩ := seq?_rel rs ex r1
        rw [ints_eq en] at rd
        rw [relInts rd] at q1
        rcases q1 with q1 | q1
        · exact .inl ⟨p, ns, rfl, q1, q _ _ _ _ (Nxt.refl rs) mkInt⟩
        · exact .inr ⟨p, ns, rfl, q1, q _ _ _ _ (Nxt.refl rs) mkInt⟩
      · cases e
    · cases e
  · cases e⟩
def fAll : FL := fun ds S => match ds with
  | [x] => (match x.lst? S with
    | some xs => (match bools xs with
      | some ns => some (.p (.bl (ns.all id)), S)
      | none => none)
    | none => none)
  | _ => none
theorem cd_all (hc : X.calm = true) : CallD X (.builtin "all") fAll := ⟨_, cr_all hc, fun {F ι S S' H ds d' vs Q} rs r e q => by
  unfold fAll at e
  split at e
  · obtain ⟨v, rfl, r1⟩ := relDs1 r
    split at e
    · rename_i xs ex
      split at e
      · rename_i ns en
        cases e
        obtain ⟨p, us, rfl, q1, rd⟩ := lst?_rel rs ex r1
        rw [relBools en rd] at q1
        exact ⟨p, ns, rfl, q1, q _ _ _ _ (Nxt.refl rs) mkBl⟩
      · cases e
    · cases e
  · cases e⟩
def fAny : FL := fun ds S => match ds with
  | [x] => (match x.lst? S with
    | some xs => (match bools xs with
      | some ns => some (.p (.bl (ns.any id)), S)
      | none => none)
    | none => none)
  | _ => none
theorem cd_any (hc : X.calm = true) : CallD X (.builtin "any") fAny := ⟨_, cr_any hc, fun {F ι S S' H ds d' vs Q} rs r e q => by
  unfold fAny at e
  split at e
  · obtain ⟨v, rfl, r1⟩ := relDs1 r
    split at e
    · rename_i xs ex
      split at e
      · rename_i ns en
        cases e
        obtain ⟨p, us, rfl, q1, rd⟩ := lst?_rel rs ex r1
        rw [relBools en rd] at q1
        exact ⟨p, ns, rfl, q1, q _ _ _ _ (Nxt.refl rs) mkBl⟩
      · cases e
    · cases e
  · cases e⟩
/-! sorted -/
def fSrt (b : Bool) (fin : FL) : FL := fun ds S => match ds with
  | [x] => (match x.seq? S with
    | some xs => (match intsD xs with
      | some ns => fin (dInts (sortBy b ns)) S
      | none => none)
    | none => none)
  | _ => none
theorem srt_imp {b : Bool} {fin : FL} (n : NewL X fin) {F : Addr → Prop} {ι : List Addr} {S S' : Store} {H : Hp} {ds : List D} {d' : D} {vs : List V} {Q : VK} (rs : R (gb X) F ι S H) (r : RelDs (gb X) F ι H ds vs) (e : fSrt b fin ds S = some (d', S'))
    (q : ∀ F' ι' H' v, Nxt (gb X) F ι H F' ι' S' H' → RelD (gb X) F' ι' H' d' v → Q v H') : rSrt X.K b vs H Q := by
  unfold fSrt at e
  split at e
  · obtain ⟨v, rfl, r1⟩ := relDs1 r
    split at e
    · rename_i xs ex
      split at e
      · rename_i ns en
        obtain ⟨p, us, rfl, q1, rd⟩ := seq?_rel rs ex r1
        rw [ints_eq en] at rd
        rw [relInts rd] at q1
        exact ⟨p, ns, rfl, q1, (n rs (mkInts _) e q).2⟩
      · cases e
    · cases e
  · cases e
theorem cd_srt {fin : FL} (n : NewL X fin) : CallD X (.builtin "sorted") (fSrt false fin) := ⟨_, cr_srt, fun rs r e q => srt_imp n rs r e q⟩
end
end DL
set_option maxHeartbeats 2000000
/-! DLEnum: for i, x in enumerate(xs), a list or a tuple. -/
namespace DL
open PySem PySem.Spec PyProof.Rows L2

theorem enum1_new {v : Value} {o : Obj} {H : Heap → Prop} (B : Begins v o H) :
    Meets (Builtin.«enumerate.__new__» ⟨[.type "enumerate", v], []⟩) (fun _ R s => H s.heap ∧
      R (.ok (.ret (.ref (s.heap.push o).objs.size))) { s with heap := (s.heap.push o).push { cls := .type "enumerate", data := .fields #[.none, .bool false, .ref s.heap.objs.size, rawInt 0, .none, .none] } }) :=
  .of_wp fun prog w A R s h => by
    obtain ⟨hp, g, d, tk, os⟩ := s
    obtain ⟨h1, h⟩ := h
    have hsub := sub_enumerate
    have q1 : ∀ {A' : Around} {E : Value → Shared → Prop} {Q : Value → Shared → Prop}, Q (.ref hp.objs.size) ⟨hp.push o, g, d, tk, os⟩ → wpAny (model prog w) A' (pyIter v) Q E ⟨hp, g, d, tk, os⟩ :=
      fun q => B.iter prog w _ _ ⟨hp, g, d, tk, os⟩ _ h1 q
    wp_walk using q1
    refine wpAny_stack_any fun st => wpAny_pure ?_
    split
    · rename_i c _ _ _ _ _
      cases (c == Value.type "enumerate")
      · wp_walk using q1
        exact ⟨_, rfl, h⟩
      · wp_walk using q1
        exact ⟨_, rfl, h⟩
    · wp_walk using q1
      exact ⟨_, rfl, h⟩
section
variable {prog : Program} {w : World} {A : Around} {E : Value → Shared → Prop} {s : Shared}
theorem enum1_call {v : Value} {o : Obj} {H : Heap → Prop} {Q : Value → Shared → Prop} (B : Begins v o H) (h1 : H s.heap)
    (h : ∀ h', IsEnum h' (s.heap.objs.size + 1) s.heap.objs.size ((0 : Nat) : Int) .none → h'.get? s.heap.objs.size = some o → h'.objs.size = s.heap.objs.size + 2 →
      (∀ b o, s.heap.get? b = some o → h'.get? b = some o) → Q (.ref (s.heap.objs.size + 1)) { s with heap := h' }) :
    wpAny (model prog w) A (call (.type "enumerate") [v]) Q E s := by
  refine callType_new F.called_enumerate (by decide) (F.typeCall_enumerate_1 _) (F.newCall_enumerate_1 _) (fun obj => F.args_object_init_2 obj _) F.entry_enumerate_new (enum1_new B) ⟨h1, ?_⟩
  have hz : (s.heap.push o).objs.size = s.heap.objs.size + 1 := Heap.size_push ..
  show _ ∧ _
  rw [hz]
  have he : IsEnum ((s.heap.push o).push { cls := .type "enumerate", data := .fields #[.none, .bool false, .ref s.heap.objs.size, rawInt 0, .none, .none] }) (s.heap.objs.size + 1) s.heap.objs.size ((0 : Nat) : Int) .none := by
    have := Heap.get?_push_size (s.heap.push o) (o := { cls := .type "enumerate", data := .fields #[.none, .bool false, .ref s.heap.objs.size, rawInt 0, .none, .none] }) rfl
    rw [hz] at this
    exact this
  refine ⟨⟨_, he, rfl⟩, h _ he (Heap.get?_push_of_some _ (Heap.get?_push_size _ B.free)) (by rw [Heap.size_push, hz]) fun b o x => Heap.get?_push_of_some _ (Heap.get?_push_of_some _ x)⟩
end
theorem isTup_tuple {h : Heap} {a : Addr} {items : Array Value} (p : IsTup h a items) : h.IsTuple a items := p

/-- the tuple at a, its items in new pairs -/
def IteT (K : PySem.W.Frag) (a : Addr) : It :=
  ⟨fun i H => ∃ (xs : List V) (x : V), SqT K H a xs ∧ xs[i]? = some x, fun i H v H' => ∃ T x, v = .ref T ∧ H T = none ∧ H' = upd H T (.tup [.int (i : Nat), x]) ∧ ∀ xs, SqT K H a xs → xs[i]? = some x, fun i H => ∃ xs : List V, SqT K H a xs ∧ xs.length ≤ i⟩
theorem tup_ne_enum {h : Heap} {a e it : Addr} {i : Int} {old : Value} {its : Array Value} (p : h.IsTuple a its) (q : IsEnum h e it i old) : a ≠ e := fun z => by
  obtain ⟨o, ho, hc, _⟩ := p
  have q' : h.get? e = some _ := q
  rw [z, q'] at ho
  cases ho
  injection (show Value.type "enumerate" = Value.type "tuple" from hc) with hc
  exact absurd hc (by decide)
theorem tup_ne_iter {h : Heap} {a b it : Addr} {i : Nat} {its : Array Value} (p : h.IsTuple a its) (q : h.IsTupleIter it b i) : a ≠ it := fun z => by
  obtain ⟨o, ho, hc, _⟩ := p
  obtain ⟨o2, ho2, hc2, _⟩ := q
  rw [z, ho2] at ho
  cases ho
  rw [hc2] at hc
  exact absurd hc (by decide)
theorem turn_enumT {P : Program} {w : World} {K : PySem.W.Frag} {elts : List Expr} {kk : Nat} {tpos : Pos} (a e it : Addr) :
    Turn P w K (.Tuple elts kk tpos) (IteT K a) [e, it] e (fun i h => (∃ old, IsEnum h e it ((i : Nat) : Int) old) ∧ h.IsTupleIter it a i ∧ e ≠ it) where
  mem := by simp
  obj := fun i h st b hb => by
    obtain ⟨⟨old, he⟩, ⟨o, ho, hc, hd⟩, _⟩ := st
    have e' : b = e ∨ b = it := by simpa using hb
    rcases e' with z | z
    · rw [z]; exact ⟨_, he, fun v q => nomatch q⟩
    · rw [z]; exact ⟨o, ho, fun v q => by rw [hd] at q; cases q⟩
  keep := fun i h h' st k => let ⟨⟨old, he⟩, hi, hne⟩ := st; ⟨⟨old, k e (by simp) _ he⟩, hi.at fun o q => k it (by simp) o q, hne⟩
  item := by
    intro X hP hw hK hc i pins s σ H E I hf st hg
    subst hP hw hK
    obtain ⟨⟨old, he⟩, hit, hne⟩ := st
    obtain ⟨xs, x, hq, hx⟩ := hg
    obtain ⟨its, rv, p, hz⟩ := I.tuple hq
    obtain ⟨u, hu, ru⟩ := rv.get hx
    have hel : e < s.heap.objs.size := Heap.lt_size he
    have hil : it < s.heap.objs.size := by obtain ⟨_, q, _⟩ := hit; exact Heap.lt_size q
    have hi : i < its.toArray.size := by
      have := (List.getElem?_eq_some_iff.mp hu).1
      simpa using this
    have n1 := tup_ne_iter p hit
    have n2 := tup_ne_enum p he
    refine wpAny_pyNext_enum_itemD (Draws.tuple (A := X.A.in1) (I.ok.hd hc) it a n1 its.toArray) he ⟨hit, p⟩ hi hne (by simp [hne, Ne.symm n2]) fun x' h' tk hPx ho hst hT hsz hk => ?_
    have ex : x' = u := by
      have : its.toArray[i]? = some x' := hPx
      rw [List.getElem?_toArray, hu] at this
      exact (Option.some.inj this).symm
    subst ex
    refine ⟨_, rfl, wpAny_letOwnedTupleGo_enum (s := { s with heap := h', toks := tk + 1 }) ho fun h'' he' sb => ?_⟩
    have hT2 : h''.get? s.heap.objs.size = some { cls := .type "tuple", data := .seq #[.int i tk, x'] } := (sb.2 _ (Nat.ne_of_gt hel)).trans hT
    have new : ObjOk X.prog X.w (upd H s.heap.objs.size (.tup [.int (i : Nat), x])) h'' s.heap.objs.size (.tup [.int (i : Nat), x]) :=
      ⟨by show 2 ≤ sizeLine; decide, [.int i tk, x'], .cons ⟨_, rfl⟩ (.cons ru .nil), ⟨_, hT2, rfl, _, rfl⟩⟩
    have I1 : Inv X pins σ (upd H s.heap.objs.size (.tup [.int (i : Nat), x])) { s with heap := h'', toks := tk + 1 } :=
      I.turnedNew (ch := [e, it]) (fun b ob hb q => (sb.2 b (fun z => hb (by simp [z]))).trans (hk b ob (fun z => hb (by simp [z])) (fun z => hb (by simp [z])) q)) hf (Nat.le_refl _) new
    refine ⟨.ref s.heap.objs.size, _, I1, rfl, ⟨_, x, rfl, I.hok.fresh (Nat.le_refl _), rfl, fun ys hy => by rw [I.tuple_inj hy hq]; exact hx⟩, ⟨⟨x', ?_⟩, hst.1.at fun o q => (sb.2 it (Ne.symm hne)).trans q, hne⟩, fun b hb => ?_⟩
    · have e1 : ((i + 1 : Nat) : Int) = (i : Int) + 1 := by omega
      rw [e1]
      exact he'
    · have hb' : b < s.heap.objs.size := by
        have e' : b = e ∨ b = it := by simpa using hb
        rcases e' with z | z
        · rw [z]; exact hel
        · rw [z]; exact hil
      rw [upd_ne (Nat.ne_of_lt hb')]
      exact (hf b hb).1
  done := by
    intro X hP hw hK hc i pins s σ H E I hf st hg
    subst hP hw hK
    obtain ⟨⟨old, he⟩, hit, hne⟩ := st
    obtain ⟨xs, hq, hx⟩ := hg
    obtain ⟨its, rv, p, hz⟩ := I.tuple hq
    obtain ⟨f0, f1, f2, f3, f4, f5⟩ := hf it (by simp)
    have hl := rv.length
    have n1 := tup_ne_iter p hit
    have hT : s.TypeIs (.ref e) "enumerate" := ⟨_, he, rfl⟩
    unfold pyNext
    refine wpAny_bind (wpAny_attempt (wpAny_callSpecial?_slot (name := Str.ofString "__next__") hT F.slot_enumerate_next
      (wpAny_call_entry F.slot_enumerate_next hT F.entry_enumerate_next ?_ (F.args_enumerate_next_1 _))))
    show wpAny _ _ (field (.ref e) 2 >>= _) _ _ _
    refine wpAny_bind (wpAny_field he rfl (x := .ref it) rfl ?_)
    refine wpAny_bind (wpAny_nextOf_tuple_end (items := its.toArray) (I.ok.hd hc) hit p ?_ fun h' x he' hx' => ?_)
    · rw [List.getElem?_toArray, List.getElem?_eq_none_iff]
      omega
    · obtain ⟨o, ho, hcx⟩ := hx'
      refine wpAny_bind (wpAny_isInstance (T := "StopIteration") (b := true) ⟨o, ho, hcx⟩ isSubtype_stop ?_)
      exact wpAny_pure ⟨rfl, I.turned (t' := s.toks) (fun b o hb q => he' b o hb q) f0 f1 f3 f4 f5⟩
  self := fun A i s Q E st h => let ⟨⟨_, he⟩, _⟩ := st; wpAny_pyIter_enum he h

def iEnumA (K : PySem.W.Frag) (ta : TA) : TI := fun σ H R => ta σ H fun vs H1 => ∃ a xs, vs = [.ref a] ∧ ((SqL K H1 a xs ∧ R (Ite K a) H1) ∨ (SqT K H1 a xs ∧ R (IteT K a) H1))
theorem pi_enumA {X : Cx} {e : Expr} {ta : TA} {p pos tpos : Pos} {elts : List Expr} {kk : Nat} (hg : Gl X "enumerate") (hm : X.mg "enumerate" = none) (ha : PA X [e] ta) (hs : starEach [e] X.env = [(false, eval e X.env)] := by rfl) :
    PI X (.Tuple elts kk tpos) (.Call (.Name "enumerate" p) [e] [] pos) (iEnumA X.K ta) := by
  refine ⟨fun pins s σ H R I h => ?_⟩
  refine Call_ (ld_blt I hg hm boot_enumerate (PyProof.Rows.callWith_type1 (thn (ha.run pos pins s σ H _ I h) fun us s1 ⟨vs, H1, I1, r1, q1⟩ => ?_) hs rfl))
  obtain ⟨a, xs, ex, q1⟩ := q1
  subst ex
  cases r1 with
  | cons r rr =>
    cases rr
    cases r
    have fp : ∀ b ∈ [s1.heap.objs.size + 1, s1.heap.objs.size], s1.heap.objs.size ≤ b := fun b hb => by
      have e' : b = s1.heap.objs.size + 1 ∨ b = s1.heap.objs.size := by simpa using hb
      rcases e' with z | z
      · rw [z]; exact Nat.le_add_right _ _
      · rw [z]; exact Nat.le_refl _
    rcases q1 with ⟨hq, q⟩ | ⟨hq, q⟩
    · obtain ⟨its, rv, p', hz⟩ := I1.list hq
      refine enum1_call (begins_list a its.toArray) p'.isList fun h' he hit hsz hk => wpAny_pyIter_enum he ?_
      have I2 : Inv X pins σ H1 { s1 with heap := h' } := I1.kept (t' := s1.toks) hk
      exact ⟨s1.heap.objs.size + 1, [s1.heap.objs.size + 1, s1.heap.objs.size], _, _, H1, rfl, I2, turn_enum a (s1.heap.objs.size + 1) s1.heap.objs.size, ⟨⟨.none, he⟩, ⟨_, hit, rfl, rfl⟩, Nat.succ_ne_self _⟩, fun b hb => I1.fpOk (fp b hb) (I1.hok.fresh (fp b hb)), q⟩
    · obtain ⟨its, rv, p', hz⟩ := I1.tuple hq
      refine enum1_call (begins_tuple a its.toArray) p' fun h' he hit hsz hk => wpAny_pyIter_enum he ?_
      have I2 : Inv X pins σ H1 { s1 with heap := h' } := I1.kept (t' := s1.toks) hk
      exact ⟨s1.heap.objs.size + 1, [s1.heap.objs.size + 1, s1.heap.objs.size], _, _, H1, rfl, I2, turn_enumT a (s1.heap.objs.size + 1) s1.heap.objs.size, ⟨⟨.none, he⟩, ⟨_, hit, rfl, rfl⟩, Nat.succ_ne_self _⟩, fun b hb => I1.fpOk (fp b hb) (I1.hok.fresh (fp b hb)), q⟩

/-! ### over the data layer -/
variable [HasT]
section
variable {X : Cx} {W : WX} {e : Expr} {es : List Expr} {pos p : Pos} {mr : ME (List D)}
def enumD (xs : List D) : List D := (List.range xs.length).zip xs |>.map fun q => mkTup [.p (.int q.1), q.2]
theorem enumD_get {xs : List D} {i : Nat} {d : D} (h : (enumD xs)[i]? = some d) : ∃ x, xs[i]? = some x ∧ d = mkTup [.p (.int i), x] := by
  unfold enumD at h
  rw [List.getElem?_map] at h
  cases e : ((List.range xs.length).zip xs)[i]? with
  | none => rw [e] at h; cases h
  | some q =>
    rw [e] at h
    cases h
    obtain ⟨k, x⟩ := q
    rw [List.getElem?_zip_eq_some] at e
    obtain ⟨e1, e2⟩ := e
    have hi : i < (List.range xs.length).length := (List.getElem?_eq_some_iff.mp e1).1
    rw [List.getElem?_range (by simpa using hi)] at e1
    cases e1
    exact ⟨x, e2, rfl⟩
theorem enumD_len (xs : List D) : (enumD xs).length = xs.length := by simp [enumD]
def srcEnum : List D → Store → Option (Src × Store)
  | [x], S => match x.tup? with
    | some xs => some (⟨enumD xs, []⟩, S)
    | none => match x.lst? S with
      | some xs => some (⟨enumD xs, watchOf x xs⟩, S)
      | none => none
  | _, _ => none
theorem ite_ok {G : Gb} {F : Addr → Prop} {ι : List Addr} {H : Hp} {S : Store} {d : D} {ds : List D} {a : Addr} (hl : d.lst? S = some ds) (r : RelD G F ι H d (.ref a)) : ItOk G F ι H (Ite G.K a) ⟨enumD ds, watchOf d ds⟩ := fun F' ι' H' S' n w i => by
  obtain ⟨a', vs, e, q, rd⟩ := lst?_rel n.r (lst_later r hl n w) (n.d r)
  cases e
  refine ⟨fun h => ⟨vs, q, ?_⟩, fun x hx => ?_⟩
  · have h' : (enumD ds).length ≤ i := h
    rw [enumD_len, relDs_len rd] at h'
    exact h'
  · obtain ⟨x1, e1, rfl⟩ := enumD_get hx
    obtain ⟨v, hv, rv⟩ := relDs_get rd e1
    refine ⟨⟨vs, v, q, hv⟩, fun y H'' ⟨T, y1, ey, hT, eH, g1⟩ => ?_⟩
    have k1 := g1 vs q
    rw [hv] at k1
    cases k1
    subst ey
    subst eH
    exact ⟨Nxt.fresh n.r hT, rel_newT hT (relDs_cons.mpr ⟨mkInt, relDs_cons.mpr ⟨rv, relDs_nil'⟩⟩)⟩
theorem iteT_ok {G : Gb} {F : Addr → Prop} {ι : List Addr} {H : Hp} {d : D} {ds : List D} {a : Addr} (hl : d.tup? = some ds) (r : RelD G F ι H d (.ref a)) : ItOk G F ι H (IteT G.K a) ⟨enumD ds, []⟩ := fun F' ι' H' S' n w i => by
  obtain ⟨a', vs, e, q, rd⟩ := tup?_rel hl (n.d r)
  cases e
  refine ⟨fun h => ⟨vs, q, ?_⟩, fun x hx => ?_⟩
  · have h' : (enumD ds).length ≤ i := h
    rw [enumD_len, relDs_len rd] at h'
    exact h'
  · obtain ⟨x1, e1, rfl⟩ := enumD_get hx
    obtain ⟨v, hv, rv⟩ := relDs_get rd e1
    refine ⟨⟨vs, v, q, hv⟩, fun y H'' ⟨T, y1, ey, hT, eH, g1⟩ => ?_⟩
    have k1 := g1 vs q
    rw [hv] at k1
    cases k1
    subst ey
    subst eH
    exact ⟨Nxt.fresh n.r hT, rel_newT hT (relDs_cons.mpr ⟨mkInt, relDs_cons.mpr ⟨rv, relDs_nil'⟩⟩)⟩
theorem di_enum {elts : List Expr} {kk : Nat} {tpos : Pos} (hm : X.mg "enumerate" = none) (h : DA X W [e] mr) (hg : Gl X "enumerate" := by rfl) (hs : starEach [e] X.env = [(false, eval e X.env)] := by rfl) :
    DI X W (.Tuple elts kk tpos) (.Call (.Name "enumerate" p) [e] [] pos) (mSrcA srcEnum mr) := PI.imp (pi_enumA hg hm h hs) fun σ H Rr q => by
  obtain ⟨ρ, S, ι, F, at', t⟩ := q
  refine srcA_first at' t fun ds S1 F1 ι1 H1 vs src S2 a1 r1 e z => ?_
  unfold srcEnum at e
  split at e
  · obtain ⟨v, rfl, r⟩ := relDs1 r1
    split at e
    · rename_i xs ex
      cases e
      obtain ⟨a', us, ev, q, rd⟩ := tup?_rel ex r
      subst ev
      exact ⟨a', us, rfl, .inr ⟨q, z _ _ _ (Nxt.refl a1.r) _ (iteT_ok ex r)⟩⟩
    · split at e
      · rename_i xs ex
        cases e
        obtain ⟨a', us, ev, q, rd⟩ := lst?_rel a1.r ex r
        subst ev
        exact ⟨a', us, rfl, .inl ⟨q, z _ _ _ (Nxt.refl a1.r) _ (ite_ok ex r)⟩⟩
      · cases e
  · cases e
end
end DL
set_option maxHeartbeats 2000000
/-! DLMore: max and min of sequences, isinstance, in, index, extend, parallel assignments. -/
namespace DL
open PySem PySem.Spec PyProof.Rows L2

/-! ### max, min of a tuple of ints -/
section
variable {prog : Program} {w : World} {A : Around} {E : Value → Shared → Prop} {s : Shared}
theorem ints_reads {h : Heap} : ∀ {vs : List Value} {ns : List Int}, IntsAre vs ns → ReadsAll h vs (ns.map PyData.int) []
  | _, _, .nil => .nil
  | _, _, .cons n t i => .cons (as := []) (bs := []) (Reads.int n t) (ints_reads i)
theorem ints_alike (n : Int) (ns : List Int) : PySem.W.AlikeAll (.int n :: ns.map .int) := by
  have k : ∀ x ∈ (PyData.int n :: ns.map .int), ∃ i, x = .int i := fun x hx => by
    rcases List.mem_cons.mp hx with rfl | hx
    · exact ⟨n, rfl⟩
    · obtain ⟨i, _, rfl⟩ := List.mem_map.mp hx
      exact ⟨i, rfl⟩
  refine ⟨fun x hx y hy => ?_, fun x hx z => ?_⟩
  · obtain ⟨i, rfl⟩ := k x hx
    obtain ⟨j, rfl⟩ := k y hy
    simp [PySem.W.alike]
  · obtain ⟨i, rfl⟩ := k x hx
    cases z
theorem ints_depth : ∀ (ns : List Int), PyData.depthAll (ns.map .int) = 0
  | [] => by simp [PyData.depthAll]
  | n :: ns => by
    rw [List.map_cons, PyData.depthAll, ints_depth ns]
    simp [PyData.depth]
end
variable [HasT]
section
variable {X : Cx}
def rMxT (K : PySem.W.Frag) : List V → Hp → VK → Prop := fun vs H Q => ∃ (a : Addr) (n : Int) (ns : List Int), vs = [V.ref a] ∧ SqT K H a ((n :: ns).map V.int) ∧ Q (.int (ns.foldl max n)) H
def rMnT (K : PySem.W.Frag) : List V → Hp → VK → Prop := fun vs H Q => ∃ (a : Addr) (n : Int) (ns : List Int), vs = [V.ref a] ∧ SqT K H a ((n :: ns).map V.int) ∧ Q (.int (ns.foldl min n)) H
theorem cr_maxT (hc : X.calm = true) (hu : X.A.units + 65 < cLine) : CallR X (.builtin "max") (rMxT X.K) := by
  intro pins s σ H vs us Q I r h
  obtain ⟨a, n, ns, rfl, hs, q⟩ := h
  obtain ⟨its, rv, hl, _⟩ := I.tuple hs
  rw [Vals.ref1 r]
  have hi := rv.ints
  refine PySem.W.max_tuple_data (x := .int n) (xs := ns.map .int) (I.ok.hd hc) hl (ints_reads hi) (ints_alike n ns) (by rw [show PyData.int n :: ns.map PyData.int = (n :: ns).map PyData.int from rfl, ints_depth]; omega) fun i v h' tk bs hv hr hk => ?_
  rw [PySem.W.maxD_ints] at hr
  cases hr
  exact ⟨.int _, H, I.kept hk, ⟨_, rfl⟩, q⟩
theorem cr_minT (hc : X.calm = true) (hu : X.A.units + 65 < cLine) : CallR X (.builtin "min") (rMnT X.K) := by
  intro pins s σ H vs us Q I r h
  obtain ⟨a, n, ns, rfl, hs, q⟩ := h
  obtain ⟨its, rv, hl, _⟩ := I.tuple hs
  rw [Vals.ref1 r]
  have hi := rv.ints
  refine PySem.W.min_tuple_data (x := .int n) (xs := ns.map .int) (I.ok.hd hc) hl (ints_reads hi) (ints_alike n ns) (by rw [show PyData.int n :: ns.map PyData.int = (n :: ns).map PyData.int from rfl, ints_depth]; omega) fun i v h' tk bs hv hr hk => ?_
  rw [PySem.W.minD_ints] at hr
  cases hr
  exact ⟨.int _, H, I.kept hk, ⟨_, rfl⟩, q⟩
theorem max_uniq {n : Int} {ns : List Int} {m : Int} (h1 : m ∈ n :: ns) (h2 : ∀ y, y ∈ n :: ns → y ≤ m) : m = ns.foldl max n := by
  have a1 : ∀ (ns : List Int) (n : Int), n ≤ ns.foldl max n ∧ (∀ y ∈ ns, y ≤ ns.foldl max n) ∧ (ns.foldl max n = n ∨ ns.foldl max n ∈ ns) := by
    intro ns
    induction ns with
    | nil => intro n; simp
    | cons k ns ih =>
      intro n
      obtain ⟨b1, b2, b3⟩ := ih (max n k)
      have e : (k :: ns).foldl max n = ns.foldl max (max n k) := rfl
      rw [e]
      have c1 : n ≤ max n k := Int.le_max_left _ _
      have c2 : k ≤ max n k := Int.le_max_right _ _
      refine ⟨Int.le_trans c1 b1, fun y hy => ?_, ?_⟩
      · rcases List.mem_cons.mp hy with rfl | hy
        · exact Int.le_trans c2 b1
        · exact b2 y hy
      · rcases b3 with b3 | b3
        · rw [b3]
          by_cases h : n ≤ k
          · exact .inr (by rw [Int.max_eq_right h]; exact List.mem_cons_self)
          · exact .inl (Int.max_eq_left (by omega))
        · exact .inr (List.mem_cons_of_mem _ b3)
  obtain ⟨b1, b2, b3⟩ := a1 ns n
  have hm : ns.foldl max n ∈ n :: ns := by
    rcases b3 with b3 | b3
    · rw [b3]; exact List.mem_cons_self
    · exact List.mem_cons_of_mem _ b3
  have le1 := h2 _ hm
  have le2 : m ≤ ns.foldl max n := by
    rcases List.mem_cons.mp h1 with rfl | h1
    · exact b1
    · exact b2 m h1
  omega
theorem min_uniq {n : Int} {ns : List Int} {m : Int} (h1 : m ∈ n :: ns) (h2 : ∀ y, y ∈ n :: ns → m ≤ y) : m = ns.foldl min n := by
  have a1 : ∀ (ns : List Int) (n : Int), ns.foldl min n ≤ n ∧ (∀ y ∈ ns, ns.foldl min n ≤ y) ∧ (ns.foldl min n = n ∨ ns.foldl min n ∈ ns) := by
    intro ns
    induction ns with
    | nil => intro n; simp
    | cons k ns ih =>
      intro n
      obtain ⟨b1, b2, b3⟩ := ih (min n k)
      have e : (k :: ns).foldl min n = ns.foldl min (min n k) := rfl
      rw [e]
      have c1 : min n k ≤ n := Int.min_le_left _ _
      have c2 : min n k ≤ k := Int.min_le_right _ _
      refine ⟨Int.le_trans b1 c1, fun y hy => ?_, ?_⟩
      · rcases List.mem_cons.mp hy with rfl | hy
        · exact Int.le_trans b1 c2
        · exact b2 y hy
      · rcases b3 with b3 | b3
        · rw [b3]
          by_cases h : n ≤ k
          · exact .inl (Int.min_eq_left h)
          · exact .inr (by rw [Int.min_eq_right (by omega)]; exact List.mem_cons_self)
        · exact .inr (List.mem_cons_of_mem _ b3)
  obtain ⟨b1, b2, b3⟩ := a1 ns n
  have hm : ns.foldl min n ∈ n :: ns := by
    rcases b3 with b3 | b3
    · rw [b3]; exact List.mem_cons_self
    · exact List.mem_cons_of_mem _ b3
  have le1 := h2 _ hm
  have le2 : ns.foldl min n ≤ m := by
    rcases List.mem_cons.mp h1 with rfl | h1
    · exact b1
    · exact b2 m h1
  omega
/-- max(a, b); max(xs) of ints -/
def fMax : FL := fun ds S => match ds with
  | [.p (.int i), .p (.int j)] => some (.p (.int (if j > i then j else i)), S)
  | [x] => (match x.seq? S with
    | some xs => (match intsD xs with
      | some (n :: ns) => some (.p (.int (ns.foldl max n)), S)
      | _ => none)
    | none => none)
  | _ => none
def fMin : FL := fun ds S => match ds with
  | [.p (.int i), .p (.int j)] => some (.p (.int (if j < i then j else i)), S)
  | [x] => (match x.seq? S with
    | some xs => (match intsD xs with
      | some (n :: ns) => some (.p (.int (ns.foldl min n)), S)
      | _ => none)
    | none => none)
  | _ => none
theorem cd_max (hc : X.calm = true) (hu : X.A.units + 65 < cLine) : CallD X (.builtin "max") fMax := ⟨_, (call_max2 hc).or ((cr_max hc).or (cr_maxT hc hu)), fun {F ι S S' H ds d' vs Q} rs r e q => by
  unfold fMax at e
  split at e
  · cases e
    obtain ⟨v, w, rfl, r1, r2⟩ := relDs2 r
    cases relInt r1
    cases relInt r2
    exact .inl ⟨_, _, rfl, q F ι H _ (Nxt.refl rs) mkInt⟩
  · obtain ⟨v, rfl, r1⟩ := relDs1 r
    split at e
    · rename_i xs ex
      split at e
      · rename_i n ns en
        cases e
        obtain ⟨p, us, rfl, q1, rd⟩ := seq?_rel rs ex r1
        rw [ints_eq en] at rd
        rw [relInts rd] at q1
        rcases q1 with q1 | q1
        · refine .inr (.inl ⟨p, _, rfl, q1, by simp, fun m h1 h2 => ?_⟩)
          rw [max_uniq h1 h2]
          exact q F ι H _ (Nxt.refl rs) mkInt
        · exact .inr (.inr ⟨p, n, ns, rfl, q1, q F ι H _ (Nxt.refl rs) mkInt⟩)
      · cases e
    · cases e
  · cases e⟩
theorem cd_min (hc : X.calm = true) (hu : X.A.units + 65 < cLine) : CallD X (.builtin "min") fMin := ⟨_, (call_min2 hc).or ((cr_min hc).or (cr_minT hc hu)), fun {F ι S S' H ds d' vs Q} rs r e q => by
  unfold fMin at e
  split at e
  · cases e
    obtain ⟨v, w, rfl, r1, r2⟩ := relDs2 r
    cases relInt r1
    cases relInt r2
    exact .inl ⟨_, _, rfl, q F ι H _ (Nxt.refl rs) mkInt⟩
  · obtain ⟨v, rfl, r1⟩ := relDs1 r
    split at e
    · rename_i xs ex
      split at e
      · rename_i n ns en
        cases e
        obtain ⟨p, us, rfl, q1, rd⟩ := seq?_rel rs ex r1
        rw [ints_eq en] at rd
        rw [relInts rd] at q1
        rcases q1 with q1 | q1
        · refine .inr (.inl ⟨p, _, rfl, q1, by simp, fun m h1 h2 => ?_⟩)
          rw [min_uniq h1 h2]
          exact q F ι H _ (Nxt.refl rs) mkInt
        · exact .inr (.inr ⟨p, n, ns, rfl, q1, q F ι H _ (Nxt.refl rs) mkInt⟩)
      · cases e
    · cases e
  · cases e⟩

/-! ### x in xs, x not in xs -/
def D.pyL? (d : D) (S : Store) : Option (List PyData) := match d.py? S with
  | some (.list ds) => some ds
  | _ => none
def fIn (neg : Bool) : F2 := fun x y S => match x.py? S, y.pyL? S with
  | some d, some ds => if (SeqAt.shaped d && SeqAt.shaped (.list ds)) = true then some (.p (.bl (xor neg (ds.any fun z => PyData.eqv z d))), S) else none
  | _, _ => none
theorem pyL?_dp {G : Gb} {F : Addr → Prop} {ι : List Addr} {S : Store} {H : Hp} {d : D} {ds : List PyData} {v : V} (rs : R G F ι S H) (e : d.pyL? S = some ds) (r : RelD G F ι H d v) : Dp G.K H v (.list ds) := by
  unfold D.pyL? at e
  split at e
  · rename_i es ee
    cases e
    exact D.py?_dp rs ee r
  · cases e
theorem od_in (hu : X.A.units + 65 < cLine) : OpD X (compareOp .In) (fIn false) := ⟨_, op_inD hu, fun {F ι S S' H d1 d2 d' v1 v2 Q} rs r1 r2 e q => by
  unfold fIn at e
  split at e
  · rename_i d ds ed eds
    split at e
    · rename_i hs
      cases e
      simp only [Bool.and_eq_true] at hs
      exact ⟨d, ds, D.py?_dp rs ed r1, pyL?_dp rs eds r2, hs.1, hs.2, q F ι H _ (Nxt.refl rs) (by simp only [Bool.false_bne]; exact mkBl)⟩
    · cases e
  · cases e⟩
theorem od_notin (hu : X.A.units + 65 < cLine) : OpD X (compareOp .NotIn) (fIn true) := ⟨_, op_notInD hu, fun {F ι S S' H d1 d2 d' v1 v2 Q} rs r1 r2 e q => by
  unfold fIn at e
  split at e
  · rename_i d ds ed eds
    split at e
    · rename_i hs
      cases e
      simp only [Bool.and_eq_true] at hs
      exact ⟨d, ds, D.py?_dp rs ed r1, pyL?_dp rs eds r2, hs.1, hs.2, q F ι H _ (Nxt.refl rs) (by simp only [Bool.true_bne]; exact mkBl)⟩
    · cases e
  · cases e⟩
/-! ### xs.index(i), ints; xs.extend(ys) -/
def fIndex : FM := fun x ys S => match x.lst? S, ys with
  | some xs, [.p (.int i)] => (match intsD xs with
    | some ns => (match ns.idxOf? i with
      | some j => some (.p (.int j), S)
      | none => none)
    | none => none)
  | _, _ => none
theorem all_flat : ∀ ns : List Int, (ns.map V.int).all flatV = true
  | [] => rfl
  | _ :: ns => by
    rw [List.map_cons, List.all_cons, all_flat ns]
    rfl
theorem md_index : MtD X "list.index" fIndex := ⟨_, mt_index, fun {F ι S S' H d d' ds v vs Q} rs r1 r2 e q => by
  unfold fIndex at e
  split at e
  · rename_i xs i ex
    split at e
    · rename_i ns en
      split at e
      · rename_i j ej
        cases e
        obtain ⟨a, us, rfl, hu, rd⟩ := lst?_rel rs ex r1
        obtain ⟨w, rfl, ry⟩ := relDs1 r2
        cases relInt ry
        rw [ints_eq en] at rd
        cases relInts rd
        rw [List.idxOf?, List.findIdx?_eq_some_iff_getElem] at ej
        obtain ⟨hj, e1, e2⟩ := ej
        have e1' : ns[j] = i := by simpa using e1
        refine ⟨a, ns.map V.int, .int i, j, .int i, rfl, rfl, hu, rfl, all_flat ns, by rw [List.getElem?_map, List.getElem?_eq_getElem hj, e1']; rfl, by simp [eqV], fun m z' hm hz => ?_, q F ι H _ (Nxt.refl rs) mkInt⟩
        have hml : m < ns.length := by omega
        rw [List.getElem?_map, List.getElem?_eq_getElem hml] at hz
        cases hz
        have := e2 m hm
        have this' : ¬ ns[m] = i := by simpa using this
        simp [eqV, this']
      · cases e
    · cases e
  · cases e⟩
def fExtend : FM := fun x ys S => match x.mut? S, ys with
  | some (n, xs), [y] => (match y.own? S with
    | some zs => if xs.length + zs.length ≤ 100000 then (match putL n (xs ++ zs) S with
      | some S' => some (.p .non, S')
      | none => none) else none
    | none => none)
  | _, _ => none
theorem md_extend : MtD X "list.extend" fExtend := ⟨_, mt_extend, fun {F ι S S' H d d' ds v vs Q} rs r1 r2 e q => by
  unfold fExtend at e
  split at e
  · rename_i n xs y em
    split at e
    · rename_i zs ez
      split at e
      · rename_i hl
        split at e
        · rename_i S2 e2
          cases e
          obtain ⟨a, us, rfl, hi, hu, rd⟩ := mut?_rel rs em r1
          obtain ⟨w, rfl, ry⟩ := relDs1 r2
          obtain ⟨b, ws, rfl, hb, rz⟩ := own?_rel rs ez ry
          exact ⟨a, b, us, ws, rfl, rfl, hu, hb, by rw [← relDs_len rd, ← relDs_len rz]; exact szOk hl, q _ _ _ _ (putL_nxt rs hi hu (relDs_append rd rz) e2) mkNon⟩
        · cases e
      · cases e
    · cases e
  · cases e⟩

/-! ### isinstance with a built-in class -/
def D.tyOf? (d : D) (S : Store) : Option String := match d with
  | .p .non => some "NoneType"
  | .p (.bl _) => some "bool"
  | .p (.int _) => some "int"
  | .p (.str _) => some "str"
  | .p (.tup _) => some "tuple"
  | .t _ => some "tuple"
  | .p (.lst _) => some "list"
  | .p (.scr _) => some "list"
  | .p (.dic _) => some "dict"
  | .p (.dit _) => some "dict"
  | .r n => (match S.objs[n]? with
    | some (.lst _) => some "list"
    | some (.dct _) => some "dict"
    | some (.dit _) => some "dict"
    | _ => none)
  | _ => none
theorem sqT_ty {K : PySem.W.Frag} {H : Hp} {a : Addr} {vs : List V} (h : SqT K H a vs) : TyX K H (.ref a) (.type "tuple") := by
  rcases h with h | ⟨o, its, n, hk, hc, _⟩
  · rcases h with h | ⟨o, h⟩
    · exact .base (.tup h)
    · exact .fTuple h
  · exact .kTuple hk hc
theorem sqC_ty {K : PySem.W.Frag} {H : Hp} {a : Addr} {vs : List V} (h : SqC K H a vs) : TyX K H (.ref a) (.type "list") := by
  rcases h with ⟨o, h⟩ | ⟨o, its, n, hk, hc, _⟩
  · exact .base (.frz h)
  · exact .kList hk hc
theorem tyOf_rel {G : Gb} {F : Addr → Prop} {ι : List Addr} {S : Store} {H : Hp} {d : D} {t : String} {v : V} (rs : R G F ι S H) (e : d.tyOf? S = some t) (r : RelD G F ι H d v) : TyX G.K H v (.type t) := by
  cases d with
  | p x =>
    simp only [RelD] at r
    cases x with
    | non => simp only [RelP] at r; subst r; cases e; exact .base .non
    | bl b => simp only [RelP] at r; subst r; cases e; exact .base (.bl b)
    | int b => simp only [RelP] at r; subst r; cases e; exact .base (.int b)
    | str b => simp only [RelP] at r; subst r; cases e; exact .base (.str b)
    | tup xs => simp only [RelP] at r; obtain ⟨a, vs, rfl, q, _⟩ := r; cases e; exact sqT_ty (SqT.of q)
    | lst xs => simp only [RelP] at r; obtain ⟨a, vs, rfl, _, q, _⟩ := r; cases e; exact .base (.lst q)
    | scr xs => simp only [RelP] at r; obtain ⟨a, vs, rfl, q, _⟩ := r; cases e; exact sqC_ty q
    | dic xs => simp only [RelP] at r; obtain ⟨a, vs, rfl, _, q, _⟩ := r; cases e; exact .base (.dK q)
    | dit xs => simp only [RelP] at r; obtain ⟨a, vs, rfl, _, q, _⟩ := r; cases e; exact .base (.dT q)
    | ins c xs => cases e
    | glo x => cases e
    | ty x => cases e
  | t xs => simp only [RelD] at r; obtain ⟨a, vs, rfl, q, _⟩ := r; cases e; exact sqT_ty (SqT.of q)
  | r n =>
    simp only [D.tyOf?] at e
    split at e
    · rename_i ds eo
      cases e
      simp only [RelD] at r
      obtain ⟨a, rfl, ea⟩ := r
      obtain ⟨vs, hv, rv⟩ := rs.ob n a _ ea eo
      exact .base (.lst hv)
    · rename_i ds eo
      cases e
      simp only [RelD] at r
      obtain ⟨a, rfl, ea⟩ := r
      obtain ⟨vs, hv, rv⟩ := rs.ob n a _ ea eo
      exact .base (.dK hv)
    · rename_i ds eo
      cases e
      simp only [RelD] at r
      obtain ⟨a, rfl, ea⟩ := r
      obtain ⟨vs, hv, rv⟩ := rs.ob n a _ ea eo
      exact .base (.dT hv)
    · cases e
def tyNames : List String := ["NoneType", "bool", "int", "str", "tuple", "list", "dict"]
def isiB (a b : String) : Bool := a == b || (a == "bool" && b == "int")
theorem isiB_ok {a b : String} (h : (tyNames.contains a && tyNames.contains b && b != "NoneType") = true) : kitB a b = some (isiB a b) := by
  have all : tyNames.all (fun a => tyNames.all fun b => b == "NoneType" || decide (kitB a b = some (isiB a b))) = true := by decide +kernel
  simp only [Bool.and_eq_true, List.contains_iff_mem, bne_iff_ne, ne_eq] at h
  have h1 := List.all_eq_true.mp all a h.1.1
  have h2 := List.all_eq_true.mp h1 b h.1.2
  simp only [Bool.or_eq_true, beq_iff_eq, decide_eq_true_eq] at h2
  exact h2.resolve_left h.2
def fIsi : FL := fun ds S => match ds with
  | [x, .p (.ty b)] => (match x.tyOf? S with
    | some a => if (tyNames.contains a && tyNames.contains b && b != "NoneType") = true then some (.p (.bl (isiB a b)), S) else none
    | none => none)
  | _ => none
theorem cd_isi : CallD X (.builtin "isinstance") fIsi := ⟨_, call_isi, fun {F ι S S' H ds d' vs Q} rs r e q => by
  unfold fIsi at e
  split at e
  · rename_i x b
    split at e
    · rename_i a ea
      split at e
      · rename_i hh
        cases e
        obtain ⟨v, w, rfl, r1, r2⟩ := relDs2 r
        cases relTy r2
        exact ⟨v, .ty b, .type a, .type b, _, rfl, .ty b, tyOf_rel rs ea r1, kit_ty (isiB_ok hh), q F ι H _ (Nxt.refl rs) mkBl⟩
      · cases e
    · cases e
  · cases e⟩
/-- a built-in class's name -/
theorem de_tyn {W : WX} {x : Str} {n : String} {pos : Pos} (hm : X.mg x = none) (hv : bootBuiltins x = some (.type n)) (hg : Gl X x := by rfl) (hn : x ≠ "__name__" := by decide) (hdb : (x == ("__debug__" : Str)) = false := by decide) : DE X W (.Name x pos) (mC (.ty n)) :=
  PE.imp (pe_bltn (v := .ty n) hg hm hv rfl hn hdb) fun σ H Q q => T_c (fun _ _ => by simp only [RelP]) q

/-! ### sorted(x, reverse=b) -/
theorem de_srtR {W : WX} {e : Expr} {m : ME D} {b : Bool} {fin : FL} {j : Nat} {p p2 pos kp : Pos} (n : NewL X fin) (hm : X.mg "sorted" = none) (hb : bootBuiltins "sorted" = some (.builtin "sorted")) (h : DE X W e m) (hg : Gl X "sorted" := by rfl)
    (hs : starEach [e] X.env = (false, eval e X.env) :: starEach [] X.env := by rfl)
    (he : backTo pos (starEach [e] X.env) = (false, eval e X.env) :: backTo pos (starEach [] X.env) := by rfl) (hpl : (backTo pos (starEach [e] X.env)).any (·.1) = false := by rfl)
    (hk : PK X [⟨some "reverse", .Constant (.bool b) j p2, kp⟩] (fun σ H Q => Q [.bl b] H) := pk_cons pe_bl pk_nil)
    (hall : (backToKw pos (keywordEach [⟨some "reverse", .Constant (.bool b) j p2, kp⟩] X.env)).all (·.1.isSome) = true := by rfl) (hnone : (backToKw pos (keywordEach [⟨some "reverse", .Constant (.bool b) j p2, kp⟩] X.env)).any (·.1.isNone) = false := by rfl)
    (hks : (backToKw pos (keywordEach [⟨some "reverse", .Constant (.bool b) j p2, kp⟩] X.env)).filterMap (·.1) = [Str.ofString "reverse"] := by rfl) :
    DE X W (.Call (.Name "sorted" p) [e] [⟨some "reverse", .Constant (.bool b) j p2, kp⟩] pos) (mCallB (fSrt b fin) (mCons m mNil)) :=
  PE.imp (pe_callBK cr_srtR hg hm hb (da_cons h da_nil hs) hk (by decide) (by decide) he hpl hall hnone hks) fun σ H Q q => by
    obtain ⟨ρ, S, ι, F, at', t⟩ := q
    refine TL.first at' t fun ds S1 F1 ι1 H1 vs n1 a1 r1 t1 => ?_
    obtain ⟨d', S', e, q⟩ := lift_then t1
    exact ⟨rfl, srt_imp n a1.r r1 e fun F' ι' H' v n r => q F' ι' H' n v r⟩

/-! ### a, b = e1, e2 -/
variable {W : WX} {pos : Pos}
def gPar (is : List Nat) (ds : List D) (ρ : Env) : Env := (is.zip ds).foldl (fun ρ q => ρ.set q.1 (some q.2)) ρ
def mPar (is : List Nat) (m : ME (List D)) : MS := fun ρ S => (m ρ S).bind fun ds S => if ds.length = is.length then .ok (.nx (gPar is ds ρ)) S else .stuck
theorem TL.firstS {G : Gb} {W : WX} {α : Type} {F : Addr → Prop} {ι : List Addr} {σ : L2.St} {ρ : Env} {S : Store} {H : Hp} {m : ME (List D)} {k : List D → M α} {Q : α → Store → (Addr → Prop) → List Addr → Hp → Prop} {Q' : List V → Hp → Prop}
    (a : At G F ι H σ ρ S) (h : Then G (WS W) F ι H ((m ρ S).bind k) Q)
    (q : ∀ d S1 F1 ι1 H1 v, Nxt G F ι H F1 ι1 S1 H1 → At G F1 ι1 H1 σ ρ S1 → RelDs G F1 ι1 H1 d v → Then G (WS W) F1 ι1 H1 (k d S1) Q → Q' v H1) : TL G W m σ H Q' :=
  ⟨ρ, S, ι, F, a, Then.wimp (h.bind.mono fun d S1 F1 ι1 H1 n t v r => q d S1 F1 ι1 H1 v n (a.next n) r t) fun c d H' w => w σ⟩
theorem ds_par2 (i j : Nat) {x y : Str} {a b : Expr} {ta : ME (List D)} {px py pt : Pos} {kt k2 pt2} (hc : X.calm = true) (hN : X.N.Nodup) (ha : DA X W [a, b] ta)
    (hw : swappedStores [.Tuple [.Name x px, .Name y py] kt pt] (.Tuple [a, b] k2 pt2) X.env = pure (some [x, y]) := by rfl)
    (hi : X.N[i]? = some x := by rfl) (hj : X.N[j]? = some y := by rfl) (hij : i ≠ j := by decide)
    (hx : X.env.scope.names.lookup x = some .local := by rfl) (hy : X.env.scope.names.lookup y = some .local := by rfl)
    (hs : swapsWithSole [.Tuple [.Name x px, .Name y py] kt pt] (.Tuple [a, b] k2 pt2) pos.line X.env = pure false := by rfl) :
    DS X W (.Assign [.Tuple [.Name x px, .Name y py] kt pt] (.Tuple [a, b] k2 pt2) pos) (mPar [i, j] ta) := PS.imp (ps_par hc hN hi hj hij hx hy ha hw hs) fun E σ H q => by
  obtain ⟨ρ, S, ι, F, a, t⟩ := q
  refine TL.firstS a t fun ds S1 F1 ι1 H1 vs n a1 r t1 => ?_
  split at t1
  · rename_i hl
    match ds, hl, r, t1 with
    | [d, e], _, r, t1 =>
      obtain ⟨v, w, rfl, r1, r2⟩ := relDs2 r
      exact ⟨v, w, rfl, t1.now a1.r _ (by simp) ((a1.e.set r1 i).set r2 j)⟩
  · exact t1.elim
theorem ds_par3 (i j l : Nat) {x y z : Str} {a b c : Expr} {ta : ME (List D)} {px py pz pt : Pos} {kt k2 pt2} (hc : X.calm = true) (hN : X.N.Nodup) (ha : DA X W [a, b, c] ta)
    (hw : swappedStores [.Tuple [.Name x px, .Name y py, .Name z pz] kt pt] (.Tuple [a, b, c] k2 pt2) X.env = pure (some [x, y, z]) := by rfl)
    (hi : X.N[i]? = some x := by rfl) (hj : X.N[j]? = some y := by rfl) (hl : X.N[l]? = some z := by rfl) (hij : i ≠ j := by decide) (hil : i ≠ l := by decide) (hjl : j ≠ l := by decide)
    (hx : X.env.scope.names.lookup x = some .local := by rfl) (hy : X.env.scope.names.lookup y = some .local := by rfl) (hz : X.env.scope.names.lookup z = some .local := by rfl)
    (hs : swapsWithSole [.Tuple [.Name x px, .Name y py, .Name z pz] kt pt] (.Tuple [a, b, c] k2 pt2) pos.line X.env = pure false := by rfl) :
    DS X W (.Assign [.Tuple [.Name x px, .Name y py, .Name z pz] kt pt] (.Tuple [a, b, c] k2 pt2) pos) (mPar [i, j, l] ta) := PS.imp (ps_par3 hc hN hi hj hl hij hil hjl hx hy hz ha hw hs) fun E σ H q => by
  obtain ⟨ρ, S, ι, F, a, t⟩ := q
  refine TL.firstS a t fun ds S1 F1 ι1 H1 vs n a1 r t1 => ?_
  split at t1
  · rename_i hl
    match ds, hl, r, t1 with
    | [d, e, f], _, r, t1 =>
      obtain ⟨v, w, u, rfl, r1, r2, r3⟩ := relDs3 r
      exact ⟨v, w, u, rfl, t1.now a1.r _ (by simp) (((a1.e.set r1 i).set r2 j).set r3 l)⟩
  · exact t1.elim
/-! ### what is never reached -/
def mNever : MS := fun _ _ => .stuck
theorem ds_never {st : Stmt} : DS X W st mNever := PS.imp ps_never fun E σ H q => by
  obtain ⟨ρ, S, ι, F, a, t⟩ := q
  exact t.elim
end
end DL
set_option maxHeartbeats 4000000
/-! DLDict: written dicts that stay as they are; a tuple once, no times. -/
namespace DL
open PySem PySem.Spec PyProof.Rows L2

/-! ### a tuple once, or no times -/
theorem tuple_mul1 (l : Addr) (items : Array Value) (n : Nat) (sl : Array (Option Value)) (dd : Option Addr) (x : Int) (u : Tok) (c0 : (decide (x < -(2 ^ 63)) || decide (x ≥ 2 ^ 63)) = false) (c1 : (items.isEmpty || x == 1) = true) :
    Meets (Builtin.«tuple.__mul__» ⟨[.ref l, .int x u], []⟩) (fun _ R s => s.heap.get? l = some { cls := .type "tuple", dict := dd, data := .seq items n, slots := sl } ∧ R (.ok (.ret (Value.ref l))) s) :=
  .of_wp fun prog w A R s h => by
    obtain ⟨hp, g, d, tk, os⟩ := s
    obtain ⟨hl, h⟩ := h
    have f1 := AutoSeq1.idx_int
    wp_walk using wpAny_loadPart' hl
    repeat (first
      | (refine wpAny_ite_false (decide_eq_false (by rw [c0]; exact Bool.false_ne_true)) ?_; wp_walk using wpAny_loadPart' hl)
      | (refine wpAny_ite_true (decide_eq_true (by rw [c1])) ?_; wp_walk using wpAny_loadPart' hl)
      | (rw [if_pos c1]; wp_walk using wpAny_loadPart' hl))
    exact ⟨_, rfl, h⟩
theorem tuple_mul0 (l : Addr) (items : Array Value) (n : Nat) (sl : Array (Option Value)) (dd : Option Addr) (x : Int) (u : Tok) (c0 : (decide (x < -(2 ^ 63)) || decide (x ≥ 2 ^ 63)) = false) (c1 : (items.isEmpty || x == 1) = false) (c2 : (decide (x ≤ 0) || items.isEmpty) = true) :
    Meets (Builtin.«tuple.__mul__» ⟨[.ref l, .int x u], []⟩) (fun _ R s => s.heap.get? l = some { cls := .type "tuple", dict := dd, data := .seq items n, slots := sl } ∧
      R (.ok (.ret (Value.ref s.heap.objs.size))) { s with heap := s.heap.push { cls := Value.type "tuple", data := Data.seq #[] }, toks := s.toks }) :=
  .of_wp fun prog w A R s h => by
    obtain ⟨hp, g, d, tk, os⟩ := s
    obtain ⟨hl, h⟩ := h
    have f1 := AutoSeq1.idx_int
    wp_walk using wpAny_loadPart' hl
    repeat (first
      | (refine wpAny_ite_false (decide_eq_false (by rw [c0]; exact Bool.false_ne_true)) ?_; wp_walk using wpAny_loadPart' hl)
      | (refine wpAny_ite_false (decide_eq_false (by rw [c1]; exact Bool.false_ne_true)) ?_; wp_walk using wpAny_loadPart' hl)
      | (refine wpAny_ite_true (decide_eq_true (by rw [c2])) ?_; wp_walk using wpAny_loadPart' hl)
      | (rw [if_pos c2]; wp_walk using wpAny_loadPart' hl))
    exact ⟨_, rfl, h⟩
variable [HasT]
section
variable {X : Cx} {W : WX} {pos : Pos}
def rRep1 (K : PySem.W.Frag) : R2 := fun x y H Q => ∃ l k xs, x = .ref l ∧ y = .int k ∧ SqT K H l xs ∧ -1000 ≤ k ∧ k ≤ 1 ∧ ((k = 1 ∨ xs = []) → Q (.ref l) H) ∧ (k ≤ 0 → xs ≠ [] → ∀ p, H p = none → Q (.ref p) (upd H p (.tup [])))
theorem op_rep1 : OpR X (binaryOp .Mult) (rRep1 X.K) := by
  intro pins s σ H x y v u Q I rx ry h
  obtain ⟨l, k, xs, rfl, rfl, hT, h1, h2, q1, q2⟩ := h
  cases rx
  obtain ⟨t, rfl⟩ := ry
  obtain ⟨its, r, ⟨⟨cls, dd, data, sl⟩, ho, hc, n, hd⟩, hs⟩ := I.tuple hT
  simp only at hc hd
  subst hc hd
  have hle : its.length = xs.length := r.length.symm
  have c0 : (decide (k < -(2 ^ 63)) || decide (k ≥ 2 ^ 63)) = false := by
    rw [decide_eq_false (by omega), decide_eq_false (by omega)] <;> rfl
  refine wpAny_binaryOp_repeat_ref (T := "tuple") (U := "int") (by decide) ⟨_, ho, rfl⟩ (fun s' => typeIs_int s' k t) noFill_tuple_mul F.fills_int_mul F.slot_int_rmul repeat_tuple F.slot_int_index.lookup
    (call_meets F.slot_int_rmul (typeIs_int s k t) F.entry_int_rmul (F.args_int_rmul_2 _ _) (int_rmul_tuple k t l its.toArray n dd sl)
      ⟨ho, rfl, ⟨_, ho, rfl⟩, ?_⟩)
  by_cases hx : k = 1 ∨ xs = []
  · have c1 : (its.toArray.isEmpty || k == 1) = true := by
      rcases hx with hx | hx
      · rw [hx]; simp
      · subst hx
        have : its = [] := List.eq_nil_of_length_eq_zero hle
        rw [this]
        rfl
    exact call_meets F.slot_tuple_mul ⟨_, ho, rfl⟩ F.entry_tuple_mul (F.args_tuple_mul_2 _ _) (tuple_mul1 l its.toArray n sl dd k t c0 c1) ⟨ho, ⟨.ref l, H, I, rfl, q1 hx⟩⟩
  · have hk : k ≤ 0 := by
      have : k ≠ 1 := fun z => hx (.inl z)
      omega
    have hn : xs ≠ [] := fun z => hx (.inr z)
    have hn2 : its ≠ [] := fun e => hn (List.eq_nil_of_length_eq_zero (by rw [← hle, e]; rfl))
    have hi : its.toArray.isEmpty = false := by
      cases its with
      | nil => exact absurd rfl hn2
      | cons a b => rfl
    have c1 : (its.toArray.isEmpty || k == 1) = false := by
      rw [hi, Bool.false_or]
      exact beq_eq_false_iff_ne.mpr (by omega)
    have c2 : (decide (k ≤ 0) || its.toArray.isEmpty) = true := by
      rw [decide_eq_true hk]
      rfl
    refine call_meets F.slot_tuple_mul ⟨_, ho, rfl⟩ F.entry_tuple_mul (F.args_tuple_mul_2 _ _) (tuple_mul0 l its.toArray n sl dd k t c0 c1 c2) ⟨ho, ?_⟩
    exact ⟨.ref s.heap.objs.size, _, I.laid (t' := s.toks) (o := .tup []) (fun b ob q => Heap.get?_push_of_some _ q) (Nat.le_refl _) ⟨Nat.zero_le _, [], .nil, IsTup.new _ _⟩, rfl, q2 hk hn _ (I.hok.fresh (Nat.le_refl _))⟩
def fRep1 : F2 := fun x y S => match x.tup?, y with
  | some a, .p (.int k) => if (decide (-1000 ≤ k) && decide (k ≤ 1)) = true then (if k = 1 ∨ a = [] then some (mkTup a, S) else some (mkTup [], S)) else none
  | _, _ => none
theorem od_rep1 : OpD X (binaryOp .Mult) fRep1 := ⟨_, op_rep1, fun {F ι S S' H d1 d2 d' v1 v2 Q} rs r1 r2 e q => by
  unfold fRep1 at e
  split at e
  · rename_i a k ea
    split at e
    · rename_i h
      simp only [Bool.and_eq_true, decide_eq_true_eq] at h
      obtain ⟨p1, vs, rfl, q1, rd1⟩ := tup?_relH ea r1
      cases relInt r2
      have hl := relDs_len rd1
      refine ⟨p1, k, vs, rfl, rfl, SqT.of q1, h.1, h.2, fun hx => ?_, fun hk hn p hp => ?_⟩
      · have hx' : k = 1 ∨ a = [] := hx.imp id fun z => by
          subst z
          simpa using hl
        rw [if_pos hx'] at e
        cases e
        exact q F ι _ _ (Nxt.refl rs) (mkTup_rel q1 rd1)
      · have hx' : ¬ (k = 1 ∨ a = []) := fun z => z.elim (fun z => by omega) fun z => hn (by
          subst z
          exact List.eq_nil_of_length_eq_zero hl.symm)
        rw [if_neg hx'] at e
        cases e
        exact q F ι _ _ (Nxt.fresh rs hp) (rel_newT hp relDs_nil')
    · cases e
  · cases e⟩
/-- a * b: ints, tuples by any small number, lists -/
def fMulA (fin : FL) : F2 := fun x y S => match fRep1 x y S with
  | some z => some z
  | none => fMulG fin x y S
theorem od_mulA {fin : FL} (n : NewL X fin) : OpD X (binaryOp .Mult) (fMulA fin) := od_rep1.or (od_mulI.or (od_repT.or (od_repL n)))

/-! ### {} and {k: v} of ints -/
def mDic0 : ME D := fun _ S => .ok (.p (.dic [])) S
theorem de_dic0 : DE X W (.Dict [] [] pos) mDic0 := PE.imp pe_dnewK fun σ H Q q => by
  obtain ⟨ρ, S, ι, F, a, t⟩ := q
  intro p hp
  refine t _ _ _ (Nxt.frz a.r hp) _ ?_
  simp only [RelD, RelP, RelPk]
  exact ⟨p, [], rfl, .inr rfl, upd_same, rfl⟩
theorem upd_upd {H : Hp} {p : Addr} {o u : HO} : upd (upd H p o) p u = upd H p u := by
  funext b
  by_cases h : b = p
  · rw [h, upd_same, upd_same]
  · rw [upd_ne h, upd_ne h, upd_ne h]
def mDic1 (k v : Int) : ME D := fun _ S => .ok (.p (.dic [(.inl k, .int v)])) S
theorem de_dic1 {k v : Int} {i j : Nat} {p1 p2 : Pos} : DE X W (.Dict [some (.Constant (.int k) i p1)] [.Constant (.int v) j p2] pos) (mDic1 k v) :=
  PE.imp (pe_disp (pps_cons pe_int pe_int pps_nil) (by rfl) (by rfl) (fun z => by cases z) (by show 1 ≤ 15; decide)) fun σ H Q q => by
    obtain ⟨ρ, S, ι, F, a, t⟩ := q
    intro p hp
    refine ⟨upd_same, [(.inl k, .int v)], rfl, (by show 1 ≤ 15; decide), ?_⟩
    rw [upd_upd]
    refine t _ _ _ (Nxt.frz a.r hp) _ ?_
    simp only [RelD, RelP, RelPk]
    exact ⟨p, [(.inl k, .int v)], rfl, .inr rfl, upd_same, .int v, [], rfl, rfl, rfl⟩
end
end DL
set_option maxHeartbeats 4000000
/-! DLEnd: the law at its caller. -/
namespace DL
open PySem PySem.Spec PyProof.Rows L2 LamX
theorem CX_no {P : Program} {w : World} {H : Hp} {s : Shared} {e : Value} {s' : Shared} {α : Prop} (h : L2.CX P w [] H s (fun _ _ _ => False) e s') : α := by
  obtain ⟨_, _, _, _, _, _, _, _, _, _, _, _, z⟩ := h
  exact z.elim
theorem end_call {P : Program} {w : World} {K : PySem.W.Frag} {mg mb : Str → Option Value} {k : Nat} {fa a : Addr} {cs : List (Addr × Addr)} {fd : FuncData} {x : Str} {sp : Sp} {s₁ : Shared} {vs : List Value} {ns : List Int}
    (KX : K.In s₁.heap) (hns : s₁.heap.Ns mainGlobals mg) (hb : s₁.heap.Ns builtinsNs mb) (hbb : ∀ x : Str, x ≠ "__name__" → mb x = bootBuiltins x) (hlim : s₁.heap.NoLimit) (hg : s₁.gens = #[])
    (hT : ∀ p ∈ cs, s₁.heap.get? p.2 = some { cls := .none, data := .fields #[] }) (nT : ∀ p ∈ cs, K.lookup p.2 = none) (C : ∀ p ∈ cs, PySem.W.CodeHd s₁.heap p.1 p.2)
    (hbm : ∃ (bm : Addr) (ob : Obj), mg "__builtins__" = some (.ref bm) ∧ bm ≠ builtinsNs ∧ s₁.heap.get? bm = some ob ∧ ob.cls = .type "module" ∧ ob.dict = some builtinsNs ∧ ob.data = .plain)
    (ha : s₁.heap.get? a = some { cls := .type "list", data := .seq vs.toArray }) (hi : IntsAre vs ns) (hl : ns.length ≤ sizeLine) (hr : Room k callerA)
    (F : ∀ base : Heap, K.In base → base.Ns mainGlobals mg → (∀ p ∈ cs, TabB base mg p.1 p.2) → FnOkG P w K mg base k fa fd [x] sp) (hbind : ∀ (s : Shared) (u : Value), BindsTo s fd ⟨[u], []⟩ [(x, u)])
    (hsp : ∀ H : Hp, (∀ p ∈ cs, H p.2 = some (.tbl #[])) → SqC K H a (ns.map V.int) → sp [.ref a] H (fun v _ => v = .bl true) fun _ _ _ => False) :
    codeAny (model P w) callerA (.call (.ref fa) ⟨[.ref a], []⟩) (fun r s' => r = .ok (.ret (.bool true)) ∧ OldK s₁.heap s'.heap ∧ s'.os = s₁.os ∧ AllBare s'.gens) s₁ := by
  have rv := vals_ints hi
  have lenV := hi.length
  have isT : ∀ b : Addr, b ∈ cs.map (·.2) → s₁.heap.get? b = some { cls := .none, data := .fields #[] } := fun b hb => by
    obtain ⟨p, hp, e⟩ := List.mem_map.mp hb
    rw [← e]
    exact hT p hp
  have aT : a ∉ cs.map (·.2) := fun z => by
    have q := isT a z
    rw [ha] at q
    have z' : Data.seq vs.toArray _ = Data.fields #[] := congrArg Obj.data (Option.some.inj q)
    cases z'
  have memT : ∀ p ∈ cs, p.2 ∈ cs.map (·.2) := fun p hp => List.mem_map.mpr ⟨p, hp, rfl⟩
  -- from an abstract heap in which nothing but the script and the tables may be tracked
  have core : ∀ H : Hp, (∀ p ∈ cs, H p.2 = some (.tbl #[])) → (∀ b, H b = none ∨ b ∈ cs.map (·.2) ∨ ∃ o xs, H b = some (.frz o (.lst xs))) → SqC K H a (ns.map V.int) → HOk P w H s₁.heap → (∀ b, H b ≠ none → b = a ∨ b ∈ cs.map (·.2)) → (H a ≠ none → K.lookup a = none) →
      codeAny (model P w) callerA (.call (.ref fa) ⟨[.ref a], []⟩) (fun r s' => r = .ok (.ret (.bool true)) ∧ OldK s₁.heap s'.heap ∧ s'.os = s₁.os ∧ AllBare s'.gens) s₁ := by
    intro H hH hO hS hok hA hK
    have base_of : ∀ {b : Addr} {o : Obj}, s₁.heap.get? b = some o → H b = none → (hidT s₁.heap H).get? b = some o := fun e n => hidT_get e n
    have noD : ∀ {b : Addr} {o : Obj}, s₁.heap.get? b = some o → (∀ vs n, o.data ≠ .seq vs n) → o.data ≠ .fields #[] → H b = none := fun {b o} e h1 h2 => by
      cases q : H b with
      | none => rfl
      | some u =>
        rcases hA b (by rw [q]; simp) with e' | e'
        · rw [e', ha] at e
          cases e
          exact (h1 _ _ rfl).elim
        · rw [isT b e'] at e
          cases e
          exact (h2 rfl).elim
    have noA : ∀ {b : Addr} {o : Obj} {es : Array DictEntry} {ep : Nat}, s₁.heap.get? b = some o → o.data = .dict es ep → H b = none := fun {b o es ep} e d => by
      refine noD e (fun vs n z => ?_) fun z => ?_
      · rw [d] at z
        cases z
      · rw [d] at z
        cases z
    have nsK : ∀ {b : Addr} {m : Str → Option Value}, s₁.heap.Ns b m → (hidT s₁.heap H).Ns b m := fun {b m} ⟨o, es, ep, e, d, r⟩ => ⟨o, es, ep, base_of e (noA e d), d, r⟩
    have hKb : K.In (hidT s₁.heap H) := fun b o e => base_of (KX b o e) (by
      cases q : H b with
      | none => rfl
      | some u =>
        rcases hA b (by rw [q]; simp) with e' | e'
        · rw [e'] at e q
          rw [hK (by rw [q]; simp)] at e
          cases e
        · obtain ⟨p, hp, ep⟩ := List.mem_map.mp e'
          rw [← ep, nT p hp] at e
          cases e)
    have hM : L2.Mod K mg (hidT s₁.heap H) := ⟨hKb, nsK hns, ⟨mb, nsK hb, hbb⟩, let ⟨mc, h1, h2⟩ := hlim; ⟨mc, nsK h1, h2⟩⟩
    have TB : ∀ p ∈ cs, TabB (hidT s₁.heap H) mg p.1 p.2 := fun p hp => by
      have hTp := hT p hp
      refine ⟨?_, ?_, fun z => ?_⟩
      · obtain ⟨o, us, file, tf, flags, tg, inF, text, tt, e1, r1, r2, r3, r4, r5, r6, r7, r8, hne⟩ := C p hp
        refine ⟨o, us, file, tf, flags, tg, inF, text, tt, base_of e1 (noD e1 (fun vs n z => ?_) fun z => ?_), r1, r2, r3, r4, r5, r6, r7, r8, hne⟩
        · rw [r2] at z
          cases z
        · rw [r2] at z
          cases z
          simp at r3
      · obtain ⟨bm, ob, b1, b2, b3, b4, b5, b6⟩ := hbm
        have nG : bm ≠ mainGlobals := fun q => by
          obtain ⟨o, es, ep, e, hd, _⟩ := hns
          rw [q, e] at b3
          cases b3
          rw [hd] at b6
          cases b6
        have nP : bm ≠ p.2 := fun q => by
          rw [q, hTp] at b3
          cases b3
          cases b6
        refine ⟨bm, ob, b1, b2, nG, nP, base_of b3 (noD b3 (fun vs n z => ?_) fun z => ?_), b4, b5, b6⟩
        · rw [b6] at z
          cases z
        · rw [b6] at z
          cases z
      · obtain ⟨o, es, ep, e, hd, _⟩ := hns
        rw [z, hTp] at e
        cases e
        cases hd
    have e0 : Env0 P w K mg (hidT s₁.heap H) callerA [] s₁ H := ⟨rfl, hM, fun b o e => of_hidT e, Nat.le_of_eq (hidT_size _ _), trivial, fun b hb => absurd (show b ∈ ([] : List Addr) from hb) (by simp), hok, .of_eq hg⟩
    refine codeAny_mono ((F _ hKb (nsK hns) TB).run callerA [] s₁ H ⟨[.ref a], []⟩ [.ref a] [.ref a] _ _ hr rfl e0 (hbind s₁ (.ref a)) (.cons rfl .nil) (hsp H hH hS)) fun r s' h => ?_
    cases r with
    | error e => exact CX_no h
    | ok fl =>
      cases fl with
      | next => exact False.elim h
      | brk => exact False.elim h
      | cont => exact False.elim h
      | ret u =>
        obtain ⟨v, H', os, bare, un, hok', r', q⟩ := h
        have q' : v = .bl true := q
        subst q'
        obtain rfl : u = Value.bool true := r'
        have key : ∀ b o, b ∉ cs.map (·.2) → s₁.heap.get? b = some o → s'.heap.get? b = some o := fun b o nb e => by
          cases q : H b with
          | none => exact un.keep b o e q (by intro z; exact absurd (show b ∈ ([] : List Addr) from z) (by simp)) (by simp)
          | some u =>
            rcases hO b with z | z | ⟨ob, xs, z⟩
            · rw [q] at z; cases z
            · exact absurd z nb
            · have z2 := un.frzs b ob _ z
              obtain ⟨e1, _⟩ := hok b _ z
              obtain ⟨e2, _⟩ := hok' b _ z2
              rw [e] at e1; cases e1
              exact e2
        have grown : ∀ p ∈ cs, ∃ more : Array Value, s'.heap.get? p.2 = some { cls := .none, data := .fields more } := fun p hp => by
          obtain ⟨more, z⟩ := un.tbls p.2 #[] (hH p hp)
          exact ⟨_, hok' p.2 _ z⟩
        refine ⟨rfl, ⟨fun b o e => ?_, fun b o e => ?_⟩, os, bare⟩
        · by_cases hb : b ∈ cs.map (·.2)
          · obtain ⟨p, hp, ep⟩ := List.mem_map.mp hb
            obtain ⟨more, hm⟩ := grown p hp
            rw [← ep] at e ⊢
            rw [hT p hp] at e
            cases e
            exact .inr (.inl ⟨((C p hp).tab (hT p hp)).isCodeTable, rfl, #[], more, rfl, by rw [Array.empty_append]; exact hm⟩)
          · exact .inl (key b o hb e)
        · by_cases hb : b ∈ cs.map (·.2)
          · obtain ⟨p, hp, ep⟩ := List.mem_map.mp hb
            obtain ⟨more, hm⟩ := grown p hp
            rw [← ep]
            exact ⟨_, hm⟩
          · exact ⟨o, key b o hb e⟩
  cases hk : K.lookup a with
  | some o =>
    have e := KX a o hk
    rw [ha] at e
    cases e
    refine core (fun b => if b ∈ cs.map (·.2) then some (.tbl #[]) else none) (fun p hp => if_pos (memT p hp)) (fun b => ?_) (.inr ⟨_, vs.toArray, _, hk, rfl, rfl, rfl, by rw [List.size_toArray, lenV]; exact hl, by simpa using rv⟩) (fun b u z => ?_) (fun b z => ?_) fun z => absurd (show (if a ∈ cs.map (·.2) then some (HO.tbl #[]) else none) = none from if_neg aT) z
    · by_cases hb : b ∈ cs.map (·.2)
      · exact .inr (.inl hb)
      · exact .inl (if_neg hb)
    · by_cases hb : b ∈ cs.map (·.2)
      · have z' := (if_pos hb).symm.trans z
        cases z'
        exact isT b hb
      · have z' := (if_neg hb).symm.trans z
        cases z'
    · by_cases hb : b ∈ cs.map (·.2)
      · exact .inr hb
      · exact absurd (if_neg hb) z
  | none =>
    refine core (fun b => if b = a then some (.frz { cls := .type "list", data := .seq vs.toArray } (.lst (ns.map V.int))) else if b ∈ cs.map (·.2) then some (.tbl #[]) else none) (fun p hp => (if_neg (show ¬ p.2 = a from fun z => aT (by rw [← z]; exact memT p hp))).trans (if_pos (memT p hp))) (fun b => ?_)
      (.inl ⟨{ cls := .type "list", data := .seq vs.toArray }, if_pos rfl⟩) (fun b u z => ?_) (fun b z => ?_) fun _ => hk
    · by_cases hb : b = a
      · exact .inr (.inr ⟨_, _, if_pos hb⟩)
      · by_cases hb2 : b ∈ cs.map (·.2)
        · exact .inr (.inl hb2)
        · exact .inl ((if_neg hb).trans (if_neg hb2))
    · by_cases hb : b = a
      · have z' := (if_pos hb).symm.trans z
        cases z'
        rw [hb]
        exact ⟨ha, by rw [List.length_map]; exact hl, vs, _, rv, ha⟩
      · have z1 := (if_neg hb).symm.trans z
        by_cases hb2 : b ∈ cs.map (·.2)
        · have z' := (if_pos hb2).symm.trans z1
          cases z'
          exact isT b hb2
        · have z' := (if_neg hb2).symm.trans z1
          cases z'
    · by_cases hb : b = a
      · exact .inl hb
      · by_cases hb2 : b ∈ cs.map (·.2)
        · exact .inr hb2
        · exact absurd ((if_neg hb).trans (if_neg hb2)) z


/-- what the walk shows at the head's heap h: the law's run mf answers True -/
theorem walk_G {l : PySem.W.OpenLaw} {n k : Nat} {q : Program} {loose : List Str} {XP : (Str → Option Value) → Heap → Prop} {YP : World → Heap → Prop} {d : DefRec} {x : Str} {mf : List D → M D}
    (hn : l.most = some n) (hn2 : n ≤ sizeLine) (hdf : d.params.defaults = []) (hr : Room k callerA)
    (hlaw : ∀ ns : List Int, ns.length ≤ n → (∀ z ∈ ns, Builtin.Int.intBits z ≤ 1048576) → ∃ S', mf [.p (.scr (ns.map P.int))] ⟨[], rfl⟩ = .ok (.p (.bl true)) S')
    (F : ∀ (w : World) (mg : Str → Option Value) (fa : Addr) (h : Heap), YP w h → h.Ns mainGlobals mg → mg d.name = some (.ref fa) →
      ∃ (K : PySem.W.Frag) (fd : FuncData) (cs : List ((Addr × Addr) × Str)), K.In h ∧ (∀ p ∈ cs, h.get? p.1.2 = some { cls := .none, data := .fields #[] }) ∧ (∀ p ∈ cs, K.lookup p.1.2 = none) ∧ (∀ p ∈ cs, PySem.W.CodeHd h p.1.1 p.1.2) ∧ (∀ (s : Shared) (u : Value), BindsTo s fd ⟨[u], []⟩ [(x, u)]) ∧
        ∀ base : Heap, K.In base → base.Ns mainGlobals mg → (∀ p ∈ cs, TabB base mg p.1.1 p.1.2) → letI : HasT := ⟨cs.map fun p => (p.1.2, p.2)⟩; FnOkG l.prog w K mg base k fa fd [x] (spD ⟨K, mg⟩ 1 mf)) :
    PySem.W.WalkO q loose XP YP l.row.toRowW d [] (fun f vs => PySem.call f vs) := by
  refine Att.attach_callB hn hdf fun w s₀ s₁ mg mb fa o pm cd doc a vs ns G Y ho hd hcd hmg hobj hints hlen hbits hg => ?_
  obtain ⟨K, fd, cs, KX, hT, nT, C, hb, hF⟩ := F w mg fa _ Y G.T.g hmg
  refine end_call (cs := cs.map (·.1)) (k := k) KX G.T.g G.T.b G.T.builtins G.T.nolimit hg (fun p hp => ?_) (fun p hp => ?_) (fun p hp => ?_) G.T.bmain hobj hints (Nat.le_trans hlen hn2) hr (fun base h1 h2 h3 => hF base h1 h2 fun p hp => h3 p.1 (List.mem_map.mpr ⟨p, hp, rfl⟩)) hb fun H hH hS => ?_
  · obtain ⟨p', hp', rfl⟩ := List.mem_map.mp hp
    exact hT p' hp'
  · obtain ⟨p', hp', rfl⟩ := List.mem_map.mp hp
    exact nT p' hp'
  · obtain ⟨p', hp', rfl⟩ := List.mem_map.mp hp
    exact C p' hp'
  · letI : HasT := ⟨cs.map fun p => (p.1.2, p.2)⟩
    obtain ⟨S', e⟩ := hlaw ns hlen hbits
    refine ⟨rfl, [.p (.scr (ns.map P.int))], ⟨[], rfl⟩, [], fun _ => False, ⟨rfl, List.nodup_nil, (fun a h => absurd h List.not_mem_nil), (fun a h => h.elim), fun q hq => ?_, fun m b u h => by simp at h⟩, ?_, ?_⟩
    · obtain ⟨p, hp, rfl⟩ := List.mem_map.mp hq
      exact TabS.nil (hH p.1 (List.mem_map.mpr ⟨p, hp, rfl⟩))
    · refine relDs_cons.mpr ⟨?_, relDs_nil'⟩
      simp only [RelD, RelP]
      refine ⟨a, ns.map V.int, rfl, hS, ?_⟩
      have all : ∀ ns : List Int, RelPs ⟨K, mg⟩ (fun _ => False) H (ns.map P.int) (ns.map V.int) := by
        intro ns
        induction ns with
        | nil => simp only [List.map, RelPs]
        | cons m ns ih =>
          simp only [List.map, RelPs]
          exact ⟨_, _, rfl, by simp only [RelP], ih⟩
      exact all ns
    · show Then _ _ _ _ _ (mf [.p (.scr (ns.map P.int))] ⟨[], rfl⟩) _
      rw [e]
      intro F' ι' H' nx v rv
      exact relBl rv
end DL
set_option maxHeartbeats 4000000
/-! DLGen: what the printed walks lean on. -/
namespace DL
open PySem PySem.Spec PyProof.Rows L2
theorem boot_len : bootBuiltins "len" = some (.builtin "len") := by rfl
theorem boot_abs : bootBuiltins "abs" = some (.builtin "abs") := by rfl
theorem boot_max : bootBuiltins "max" = some (.builtin "max") := by rfl
theorem boot_min : bootBuiltins "min" = some (.builtin "min") := by rfl
theorem boot_sum : bootBuiltins "sum" = some (.builtin "sum") := by rfl
theorem boot_all : bootBuiltins "all" = some (.builtin "all") := by rfl
theorem boot_any : bootBuiltins "any" = some (.builtin "any") := by rfl
theorem boot_sorted : bootBuiltins "sorted" = some (.builtin "sorted") := by rfl
theorem boot_isinstance : bootBuiltins "isinstance" = some (.builtin "isinstance") := by rfl
theorem boot_repr : bootBuiltins "repr" = some (.builtin "repr") := by rfl
theorem boot_int : bootBuiltins "int" = some (.type "int") := by rfl
theorem boot_bool : bootBuiltins "bool" = some (.type "bool") := by rfl
theorem boot_str : bootBuiltins "str" = some (.type "str") := by rfl
theorem boot_tuple : bootBuiltins "tuple" = some (.type "tuple") := by rfl
theorem boot_list : bootBuiltins "list" = some (.type "list") := by rfl
theorem boot_dict : bootBuiltins "dict" = some (.type "dict") := by rfl
theorem room_u {k : Nat} {A : Around} (r : Room k A) : A.units + 65 < cLine := by
  have := r.un
  omega
end DL
set_option maxHeartbeats 4000000
/-! DLTry: one try with several clauses, of which some name the error. -/
namespace DL
open PySem PySem.Spec PyProof.Rows L2
/-- a clause: its class, the slot of the error's name, the suite's reading -/
structure Cl where
  c : Value
  i : Option Nat
  ts : Addr → Value → Option Addr → TS
/-- the ways on behind a suite that named its error in slot i -/
def forget (i : Nat) (D : Ends) : Ends := ⟨fun σ H => D.nx (σ.set i none) H, D.rt, fun σ H => D.bk (σ.set i none) H, fun σ H => D.ct (σ.set i none) H⟩
def wMix (K : PySem.W.Frag) (Wo : WX) (D : Ends) : List Cl → WX
  | [] => Wo
  | q :: r => fun cls d σ H => ∃ b, PySem.W.exmOne K cls q.c = some b ∧ (b = false → wMix K Wo D r cls d σ H) ∧
      (b = true → ∀ a, H a = none → match q.i with
        | none => q.ts a cls d D σ H
        | some i => q.ts a cls d (forget i D) (σ.set i (some (.ref a))) H)
inductive ClsOk (X : Cx) : List ExceptHandler → List Cl → Prop
  | nil : ClsOk X [] []
  | plain {x : Str} {c : Value} {ts : Addr → Value → Option Addr → TS} {st : Stmt} {su : List Stmt} {p1 p2 : Pos} {hs : List ExceptHandler} {l : List Cl} (n : Names X x c)
      (g : ∀ (a : Addr) (o : Obj) (cls : Value) (d : Option Addr) (pn : List (Addr × Obj)), Zc cls d o → (∃ vs, o.data = .fields vs) → PSs (X.suite a ((a, o) :: pn)) (st :: su) (ts a cls d)) (r : ClsOk X hs l) :
      ClsOk X (.ExceptHandler (some (.Name x p1)) none (st :: su) p2 :: hs) (⟨c, none, ts⟩ :: l)
  | named {x y : Str} {c : Value} {i : Nat} {ts : Addr → Value → Option Addr → TS} {st : Stmt} {su : List Stmt} {p1 p2 : Pos} {hs : List ExceptHandler} {l : List Cl} (n : Names X x c) (sl : X.N[i]? = some y) (lo : X.env.kindOf y = some .local)
      (g : ∀ (a : Addr) (o : Obj) (cls : Value) (d : Option Addr) (pn : List (Addr × Obj)), Zc cls d o → (∃ vs, o.data = .fields vs) → PSs (X.suite a ((a, o) :: pn)) (st :: su) (ts a cls d)) (r : ClsOk X hs l) :
      ClsOk X (.ExceptHandler (some (.Name x p1)) (some y) (st :: su) p2 :: hs) (⟨c, some i, ts⟩ :: l)
section
variable {X : Cx} {body : List Stmt} {hd : ExceptHandler} {hs : List ExceptHandler} {l : List Cl} {pos : Pos} {tb : WX → TS} {Wo : WX}
/-- the test of a clause -/
theorem cl_test {x : Str} {c : Value} {np : Pos} {a : Addr} {o : Obj} {pn : List (Addr × Obj)} {σ : L2.St} {H : Hp} {s : Shared} {Q : Value → Shared → Prop} {E : Value → Shared → Prop} (n : Names X x c) (I : L2.Inv (X.suite a ((a, o) :: pn)) [] σ H s)
    (q : Q c s) : wpAny (model X.prog X.w) (X.A.mark (some (.ref a))) (eval (.Name x np) X.env) Q E s := by
  obtain ⟨hg, hb, hm | ⟨hm, hv, hn⟩⟩ := n
  · exact ld_glob (X := X.suite a ((a, o) :: pn)) I hg hm q hb
  · exact ld_blt (X := X.suite a ((a, o) :: pn)) I hg hm hv q hn hb
theorem ps_try_mix (est : X.stack = X.env :: X.outer) (efr : X.env.frame = some X.env.locals) (nd : X.N.Nodup) (tk : Takes X Wo)
    (hb : ∀ (W : WX) (pn : List (Addr × Obj)) (xe : Value → Shared → Prop), Takes (X.tr pn xe) W → PassesOwn (model X.prog X.w) X.A X.env xe → PSs (X.tr pn xe) body (tb W))
    (hc : ClsOk X (hd :: hs) l) : PS X (.Try body (hd :: hs) [] [] pos) (fun D σ H => tb (wMix X.K Wo D l) D σ H) := by
  refine ⟨fun pins s σ H D I h => ?_⟩
  have ok := I.ok
  have efs : X.A.frames = some (X.env :: X.outer) := by rw [ok.frames, est]
  refine wpAny_Try_except (wpAny_mono ((hb (wMix X.K Wo D l) (X.pn ++ pins)
    (fun e s1 => wpAny (model X.prog X.w) X.A (noteFrame e X.env) (fun _ s2 => wpAny (model X.prog X.w) X.A (setFlight e none) (fun _ s3 => wpAny (model X.prog X.w) X.A (handleBy e X.env (hd :: hs)) (SP X pins D) X.xe s3) X.xe s2) X.xe s1)
    (fun u s' z => ?_) PassesOwn.looking).run [] s σ H D (I.toTry _) h) (fun f s1 z => ?_) (fun e s1 he => he))
  · obtain ⟨a, B, sI, pins', σ', H', cls, d, rfl, J0, nb, up, sk, na, eo, ag, w⟩ := z
    have J : L2.Inv X pins σ' H' sI := J0.ofTry ok
    have sk' : Sky B (X.env :: X.outer) a (Zc cls d) X.env.locals s'.heap := by
      rw [← est]
      exact sk
    show wpAny (model X.prog X.w) X.A (noteFrame (.ref a) X.env) _ _ _
    refine Sky.land Zc.steady efs efr sk' fun h3 fl up3 => ?_
    have J3 : L2.Inv X pins σ' H' { s' with heap := h3 } := J.landed nb fl.1 (up.trans up3) eo ag
    obtain ⟨oe, vs, eoe, hz, ed⟩ := fl.there
    have away : a ∉ frs (X.env :: X.outer) := fun hm => by
      obtain ⟨_, o', e', hnf⟩ := fl.2.2.1.mem hm
      rw [eoe] at e'
      cases e'
      exact hnf _ ed
    have aL : a ≠ X.env.locals := fun z => away (List.mem_filterMap.mpr ⟨X.env, List.mem_cons_self, by rw [efr, z]⟩)
    have aF : a ∉ X.fs := fun hm => by
      obtain ⟨e, he, q⟩ := List.mem_filterMap.mp hm
      exact away (List.mem_filterMap.mpr ⟨e, List.mem_cons_of_mem _ he, q⟩)
    have S3 := J3.suite eoe ed na aL aF
    have look : PySem.W.Looks (model X.prog X.w) h3 (typeOf (.ref a)) cls := fun A Q E s k q => wpAny_typeOf_ref (k _ _ eoe) (by rw [hz.1]; exact q)
    suffices go : ∀ {hs' : List ExceptHandler} {l' : List Cl}, ClsOk X hs' l' → wMix X.K Wo D l' cls d σ' H' → wpAny (model X.prog X.w) X.A (handleBy (.ref a) X.env hs') (SP X pins D) X.xe { s' with heap := h3 } from go hc w
    intro hs' l' k
    induction k with
    | nil =>
      intro w
      refine wpAny_handleBy_nil ?_
      obtain ⟨_, _, _, oe', vs', T, oT, ts', he', hz', hd', h1, hr⟩ := id fl
      unfold PySem.passOn
      refine wpAny_bind (wpAny_field he' hd' h1 ?_)
      rw [if_neg (show ¬ ((Value.ref T == Value.none) = true) from by simp)]
      have fin : wpAny (model X.prog X.w) X.A (setFlight (.ref a) X.env.frame) (fun _ s4 => wpAny (model X.prog X.w) X.A (throw (.ref a) : Sem Flow) (SP X pins D) X.xe s4) X.xe { s' with heap := h3 } := by
        rw [efr]
        exact HandSPX.setFlight_upZ fl fun h4 hh up4 => wpAny_throw (tk _ _ ⟨a, B, sI, pins, σ', H', cls, d, rfl, J, nb, (up.trans up3).trans up4, .inr (.inr (by rw [est]; exact hh)), na, eo, ag, w⟩)
      first
        | exact wpAny_bind (wpAny_pure (wpAny_bind fin))
        | exact wpAny_bind fin
    | @plain x c ts st su p1 p2 hs2 l2 n g r ih =>
      intro w
      obtain ⟨b, e1, eno, eyes⟩ := w
      refine wpAny_handleBy_cons (codeAny_handlers_test (cl_test n S3 ((PySem.W.exm_one (M := model X.prog X.w) (J3.kIn) look e1).here ?_))) (by intro q; cases q)
      cases b with
      | false => exact ih (eno rfl)
      | true =>
        refine codeAny_handlers_suite (HandSPX.lands_againZ fl fun h4 fl4 up4 => ?_)
        have J4 : L2.Inv X pins σ' H' { s' with heap := h4 } := J.landed nb fl4.1 ((up.trans up3).trans up4) eo ag
        obtain ⟨o4, v4, e4, z4, d4⟩ := fl4.there
        refine wpAny_mono ((g a o4 cls d (X.pn ++ pins) z4 ⟨_, d4⟩).run [] _ _ H' _ (J4.suite e4 d4 na aL aF) (eyes rfl a na)) (fun f s6 y => ?_) (fun _ _ z => False.elim z)
        cases f with
        | ret u => obtain ⟨v6, σ6, H6, S6, r6, q6⟩ := y; exact ⟨_, _, _, S6.unsuite ok, r6, q6⟩
        | next => obtain ⟨σ6, H6, S6, q6⟩ := y; exact ⟨_, _, S6.unsuite ok, q6⟩
        | brk => obtain ⟨σ6, H6, S6, q6⟩ := y; exact ⟨_, _, S6.unsuite ok, q6⟩
        | cont => obtain ⟨σ6, H6, S6, q6⟩ := y; exact ⟨_, _, S6.unsuite ok, q6⟩
    | @named x nm c i ts st su p1 p2 hs2 l2 n sl lo g r ih =>
      intro w
      obtain ⟨b, e1, eno, eyes⟩ := w
      refine wpAny_handleBy_cons (codeAny_handlers_test (cl_test n S3 ((PySem.W.exm_one (M := model X.prog X.w) (J3.kIn) look e1).here ?_))) (by intro q; cases q)
      cases b with
      | false => exact ih (eno rfl)
      | true =>
        refine codeAny_handlers_suite_as (HandSPX.lands_againZ fl fun h4 fl4 up4 => ?_)
        have J4 : L2.Inv X pins σ' H' { s' with heap := h4 } := J.landed nb fl4.1 ((up.trans up3).trans up4) eo ag
        obtain ⟨o4, v4, e4, z4, d4⟩ := fl4.there
        refine store_ok (X := X.suite a ((a, o4) :: (X.pn ++ pins))) (v := .ref a) (J4.suite e4 d4 na aL aF) nd sl (.inl lo) rfl (fun s5 S5 => ?_) (.inr lo)
        refine wpAny_mono ((g a o4 cls d (X.pn ++ pins) z4 ⟨_, d4⟩).run [] s5 _ H' _ S5 (eyes rfl a na)) (fun f s6 y => ?_) (fun _ _ z => False.elim z)
        have gone : ∀ {σ6 : L2.St} {H6 : Hp} {Q : Shared → Prop}, L2.Inv (X.suite a ((a, o4) :: (X.pn ++ pins))) [] σ6 H6 s6 → (∀ s7, L2.Inv X pins (σ6.set i none) H6 s7 → Q s7) →
            wpAny (model X.prog X.w) X.A (do bindName X.env nm .none; unbindBehindTheSuite X.env nm p2) (fun _ s7 => Q s7) X.xe s6 := fun S6 q => gone_ok (S6.unsuite ok) nd sl lo q
        cases f with
        | next => obtain ⟨σ6, H6, S6, q6⟩ := y; exact gone S6 fun s7 J7 => ⟨_, _, J7, q6⟩
        | brk => obtain ⟨σ6, H6, S6, q6⟩ := y; exact gone S6 fun s7 J7 => ⟨_, _, J7, q6⟩
        | cont => obtain ⟨σ6, H6, S6, q6⟩ := y; exact gone S6 fun s7 J7 => ⟨_, _, J7, q6⟩
        | ret u => obtain ⟨v6, σ6, H6, S6, r6, q6⟩ := y; exact gone S6 fun s7 J7 => ⟨_, _, _, J7, r6, q6⟩
  · cases f with
    | ret u => obtain ⟨v, σ', H', J', r, q⟩ := z; exact ⟨v, σ', H', J'.ofTry ok, r, q⟩
    | next => obtain ⟨σ', H', J', q⟩ := z; exact wpAny_execs_nil ⟨σ', H', J'.ofTry ok, q⟩
    | brk => obtain ⟨σ', H', J', q⟩ := z; exact ⟨σ', H', J'.ofTry ok, q⟩
    | cont => obtain ⟨σ', H', J', q⟩ := z; exact ⟨σ', H', J'.ofTry ok, q⟩
end
end DL
set_option maxHeartbeats 4000000
/-! DLLam: f(lambda: e) where f tries the call and tells the errors. -/
namespace DL
open PySem PySem.Spec PyProof.Rows L2 LamX
section
variable {X : Cx} {pins : List (Addr × Obj)} {σ : L2.St} {H : Hp} {s : Shared}
/-- the call of what was handed in; X is the giver's context, the call's own is entered at s -/
theorem pe_actG {CXg : CXT} {Eg : XK} {Ng : List Str} {qg : Str} {sg : Scope} {g f c2 : Addr} {cdg pm ctv : Value} {params : Arguments} {body : Expr} {scope : Scope} {k i : Nat} {a : Str} {pn : List (Addr × Obj)} {xe : Value → Shared → Prop} {W : WX} {tb : XK → TE} {p1 p2 : Pos}
    (I : Inv X pins σ H s) (L : LamS X.env.scope scope) (ef : s.heap.get? f = some (PySem.W.kla_obj "<lambda>" (X.env.qual ++ "<lambda>") params body scope (cloFrom X.env.cells scope.names []) pm c2 ctv)) (nf : H f = none) (af : f ∉ frs X.stack)
    (bnd : bindArgs (PySem.W.kla_fn "<lambda>" (X.env.qual ++ "<lambda>") params body scope (cloFrom X.env.cells scope.names []) pm (.ref c2) ctv) ⟨[], []⟩ = pure [])
    (tk : Takes ((cxOf CXg X.prog X.w X.K X.mg X.base Ng qg sg g cdg X.A X.stack s H Eg).tr pn xe) W) (hr : Room (k + 1) (X.A.deeper (envOfC qg sg s.heap.objs.size g cdg))) (hgd : X.A.guards = some [])
    (hbody : ∀ (E : XK) (A : Around) (outer : List PySem.Env) (s : Shared) (H : Hp), Room k (A.deeper (lamEnv X scope s.heap.objs.size f c2)) → (A.deeper (lamEnv X scope s.heap.objs.size f c2)).guards = some [] → PE (lamCx X A outer s H E scope f c2) body (tb E))
    (hN : Ng[i]? = some a) (hv : Vis sg a) (hd : (a == ("__debug__" : Str)) = false := by decide) (hcd : (a == ("__classdict__" : Str)) = false := by decide) :
    PE ((cxOf CXg X.prog X.w X.K X.mg X.base Ng qg sg g cdg X.A X.stack s H Eg).tr pn xe) (.Call (.Name a p1) [] [] p2)
      (fun τ HZ Q => τ[i]? = some (some (.ref f)) ∧ HZ c2 = some (CodeO c2 (X.env.qual ++ "<lambda>")) ∧ tb (WE W τ) σ HZ Q) := by
  refine ⟨fun pz sz τ HZ Q IZ ⟨h1, h2, h3⟩ => ?_⟩
  refine wpAny_Call_Name_kw (thn ((pe_var (pos := p1) (i := i) hN hv hd hcd).run pz sz τ HZ (fun v H1 => v = .ref f ∧ H1 = HZ) IZ ⟨.ref f, h1, rfl, rfl⟩) fun u s1 ⟨v, H1, I1, r1, ev, eH⟩ => ?_)
  subst ev
  subst eH
  obtain rfl : u = Value.ref f := r1
  have ef1 : s1.heap.get? f = some (PySem.W.kla_obj "<lambda>" (X.env.qual ++ "<lambda>") params body scope (cloFrom X.env.cells scope.names []) pm c2 ctv) := I1.base.keep f _ ef nf af (fun z => nomatch (show f ∈ ([] : List Addr) from z))
  refine PySem.W.callWith_F0 ⟨_, _, _, _, ef1⟩ ?_
  have un : Un (frs X.stack) [] H H1 s.heap s1.heap := I1.base
  obtain ⟨⟨oc, vs, t, e1, e2, e3⟩, _, _⟩ := I1.hok c2 _ h2
  have rc : codeAny (model X.prog X.w) (X.A.deeper (envOfC qg sg s.heap.objs.size g cdg)) (.call (.ref f) ⟨[], []⟩) (CR (L2.CX X.prog X.w) (envOfC qg sg s.heap.objs.size g cdg :: X.stack) X.prog X.w H1 s1 Q (WE W τ)) s1 := by
    refine PySem.W.kla_callFunE hr.depth ef1 rfl L.co L.gen rfl ⟨c2, oc, vs, t, rfl, e1, e2, e3⟩ ?_
    rw [bnd]
    refine wpAny_pure (wpAny_newFunctionEnv (fun y hy => (L.own y hy).2) (fun y hy => absurd hy (by simp)) (fun h1 hns hsb => ⟨I1.nolimit.fresh _ hsb, ?_⟩) L.kind)
    show codeAny _ _ (.expr body (lamEnv X scope s1.heap.objs.size f c2)) _ _
    have J := lam_start2 (h₁ := h1) (tk := s1.toks + ([] : List (Str × Value)).length) (E := WE W τ) (f := f) (c' := c2) I L I1.env0 hr.hd un hns (fun b o e => hsb.extBut b o (Nat.ne_of_lt (Heap.lt_size e)) (Heap.get?_push_of_some _ e))
    refine PySem.W.kla_codeExpr (wpAny_mono ((hbody (WE W τ) _ _ s1 H1 (hr.deeper _) hgd).run [] _ _ H1 Q J h3) (fun v s' ⟨w', H', J', rv, q⟩ => ⟨w', H', J'.os, J'.bare, J'.base, J'.hok, rv, q⟩) fun e s' hq => hq)
  refine wpAny_call (codeAny_mono rc fun r s' hq => ?_)
  cases r with
  | error e => exact (passAt tk τ) pz H1 s1 e s' I1 hq
  | ok fl =>
    cases fl with
    | ret u => exact I1.after hq
    | next => exact False.elim hq
    | brk => exact False.elim hq
    | cont => exact False.elim hq
theorem updOld {H : Hp} {p : Addr} {u : HO} (b : Addr) (o : HO) (e : H b = some o) : ∃ o', upd H p u b = some o' := by
  by_cases h : b = p
  · exact ⟨u, by rw [h, upd_same]⟩
  · exact ⟨o, by rw [upd_ne h, e]⟩
/-- the making of a lambda; what was known stays known -/
theorem lam_makeG {T : List (Addr × Str)} {c P : Addr} {params : Arguments} {body : Expr} {scope : Scope} {pos : Pos} {E : Value → Shared → Prop} {R : Value → Shared → Prop} (I : Inv X pins σ H s) (TB : TabB X.base X.mg c P) (hcode : X.env.code = .ref c)
    (inT : (P, X.env.qual ++ "<lambda>") ∈ T) (one : ∀ p ∈ T, p.1 = P → p.2 = X.env.qual ++ "<lambda>") (tabs : Tabs T H) (hdef : defaultsOf params X.env = ([], [])) (free : ∀ y ∈ scope.names, y.2 = .free → ∃ c, X.env.cells.lookup y.1 = some c)
    (go : ∀ (f c2 : Addr) (pm ctv : Value) (H1 : Hp) (s1 : Shared), Inv X pins σ H1 s1 → ExtN H H1 → (∀ b o, H b = some o → ∃ o', H1 b = some o') → Tabs T H1 →
      s1.heap.get? f = some (PySem.W.kla_obj "<lambda>" (X.env.qual ++ "<lambda>") params body scope (cloFrom X.env.cells scope.names []) pm c2 ctv) → H1 f = none → f ∉ frs X.stack → H1 c2 = some (CodeO c2 (X.env.qual ++ "<lambda>")) → R (.ref f) s1) :
    wpAny (model X.prog X.w) X.A (eval (.Lambda params body scope pos) X.env) R E s := by
  obtain ⟨ps, eP, tri, am⟩ := tabs _ inT
  have getP : s.heap.get? P = some { cls := .none, data := .fields ps } := I.hok P _ eP
  have off : ∀ f, s.heap.objs.size ≤ f → f ∉ frs X.stack := fun f hf z => (List.mem_cons.mp (I.stkSub _ z)).elim (fun e => by
    have lt := I.lt
    rw [← e] at lt
    exact Nat.lt_irrefl _ (Nat.lt_of_lt_of_le lt hf)) fun e => I.nofs hf e
  refine PySem.W.kla_eval hdef ?_
  cases hit : codeAmong pos ps.toList with
  | some cv =>
    obtain ⟨c2, e, known⟩ := am pos cv hit
    subst e
    refine PySem.W.kla_makeFunctionHit (mg := X.mg) (c := c) (P := P) (ps := ps) (closure_ok free) I.ok.glob (I.mod.glob.keeps I.bk) hcode (TB.code.keeps I.bk) getP tri hit (TB.bm.keeps I.bk) fun ctv h1 tk ext sz => ?_
    exact go h1.objs.size c2 ((X.mg "__name__").getD .none) ctv H _ (I.kept (t' := tk) fun b o e => Heap.get?_push_of_some _ (ext b o e)) (ExtN.refl H) (fun b o e => ⟨o, e⟩) tabs (Heap.get?_push_size _ rfl) (I.hok.fresh sz) (off _ sz) known
  | none =>
    refine PySem.W.kla_makeFunction (mg := X.mg) (c := c) (P := P) (ps := ps) (closure_ok free) I.ok.glob (I.mod.glob.keeps I.bk) hcode (TB.code.keeps I.bk) getP tri hit TB.gP (TB.bm.keeps I.bk) fun c2 ctv h1 tk ext ge lt rec tb => ?_
    obtain ⟨c3, oc, vs, t, e2, e3, e4, e5⟩ := rec
    cases e2
    have sz : s.heap.objs.size ≤ h1.objs.size := Nat.le_trans ge (Nat.le_of_lt lt)
    have new : H c2 = none := I.hok.fresh ge
    have I1 := inv_table (t' := tk) (more := #[rawInt pos.line, rawInt pos.col, .ref c2]) (h' := h1.push (PySem.W.kla_obj "<lambda>" (X.env.qual ++ "<lambda>") params body scope (cloFrom X.env.cells scope.names []) ((X.mg "__name__").getD .none) c2 ctv)) I eP
      (fun b o n e => Heap.get?_push_of_some _ (ext b o n e)) (Heap.get?_push_of_some _ tb) ge ⟨oc, vs, t, Heap.get?_push_of_some _ e3, e4, e5⟩
    have stays : ExtN H (upd (upd H P (.tbl (ps ++ #[rawInt pos.line, rawInt pos.col, .ref c2]))) c2 (CodeO c2 (X.env.qual ++ "<lambda>"))) := fun b o e n => by
      rw [upd_ne (ne_of_none e new), upd_ne fun z => n ps (Option.some.inj (e.symm.trans (by rw [z]; exact eP))), e]
    have row : (ps ++ #[rawInt pos.line, rawInt pos.col, .ref c2]).toList = ps.toList ++ [rawInt pos.line, rawInt pos.col, .ref c2] := by simp
    refine go h1.objs.size c2 ((X.mg "__name__").getD .none) ctv _ _ I1 stays (fun b o e => let ⟨o1, q⟩ := updOld b o e; updOld b o1 q) (fun p hp => ?_) (Heap.get?_push_size _ rfl) ?_ (off _ sz) upd_same
    · by_cases eb : p.1 = P
      · rw [one p hp eb, eb]
        refine ⟨_, by rw [upd_ne (ne_of_none eP new), upd_same], by rw [row]; exact PySem.TriplesOk_snoc _ _ _ _ tri, fun p2 cv z => ?_⟩
        rw [row] at z
        exact (among_app _ tri z).elim (fun z => let ⟨c0, a, b⟩ := am p2 cv z; ⟨c0, a, stays _ _ b codeO_ne⟩) fun z => ⟨c2, z, upd_same⟩
      · obtain ⟨qs, a1, a2, a3⟩ := tabs p hp
        exact ⟨qs, by rw [upd_ne (ne_of_none a1 new), upd_ne eb, a1], a2, fun p2 cv z => let ⟨c0, a, b⟩ := a3 p2 cv z; ⟨c0, a, stays _ _ b codeO_ne⟩⟩
    · rw [upd_ne (Nat.ne_of_gt lt), upd_ne (Nat.ne_of_gt (Nat.lt_of_lt_of_le (Heap.lt_size getP) sz))]
      exact I.hok.fresh sz
end
/-- the def that tries what it got -/
def TriesIt (X : Cx) (Ng : List Str) (x : Str) (sg : Scope) (g : Addr) (cdg : Value) (bg : List Stmt) (a q : Str) (TT : Addr → (XK → Hp → VK → Prop) → Hp → VK → Prop) : Prop :=
  ∀ (f c2 : Addr) (s : Shared) (H : Hp) (Q : VK) (tl : XK → Hp → VK → Prop),
    (∀ (W : WX) (pn : List (Addr × Obj)) (xe : Value → Shared → Prop) (p1 p2 : Pos), Takes ((cxOf C8.CX0 X.prog X.w X.K X.mg X.base Ng x sg g cdg X.A X.stack s H C8.E0).tr pn xe) W →
      PE ((cxOf C8.CX0 X.prog X.w X.K X.mg X.base Ng x sg g cdg X.A X.stack s H C8.E0).tr pn xe) (.Call (.Name a p1) [] [] p2) (fun τ HZ Q => τ[0]? = some (some (.ref f)) ∧ HZ c2 = some (CodeO c2 q) ∧ tl (WE W τ) HZ Q)) →
    H c2 = some (CodeO c2 q) → TT f tl H Q →
    ∃ t, PSs (cxOf C8.CX0 X.prog X.w X.K X.mg X.base Ng x sg g cdg X.A X.stack s H C8.E0).nox bg t ∧ t { nx := fun _ H' => Q .non H', rt := Q } (L2.start Ng [.ref f]) H
def tLamG (T : List (Addr × Str)) (TT : Addr → (XK → Hp → VK → Prop) → Hp → VK → Prop) (t : XK → TE) : TE := fun σ H Q => Tabs T H ∧ ∀ f H1, ExtN H H1 → (∀ b o, H b = some o → ∃ o', H1 b = some o') → Tabs T H1 → TT f (fun E H' Q' => t E σ H' Q') H1 Q
section
variable {X : Cx}
/-- x(lambda: body) -/
theorem pe_lamG {T : List (Addr × Str)} {TT : Addr → (XK → Hp → VK → Prop) → Hp → VK → Prop} {x a : Str} {g c P : Addr} {k : Nat} {pg : Arguments} {bg : List Stmt} {sg : Scope} {dV kV doc pm cdv ct oc : Value} {an od : Option Addr} {osl : Array (Option Value)} {Ng : List Str}
    {params : Arguments} {body : Expr} {scope : Scope} {t : XK → TE} {p lpos pos : Pos} (hg : Gl X x) (hm : X.mg x = some (.ref g)) (hk : PySem.W.keepIn X.K (.ref g) = true)
    (lk : X.K.lookup g = some ⟨oc, od, .func (PySem.W.fnOf x x pg bg sg dV kV doc pm an cdv ct), osl⟩) (hcg : PySem.W.codeIn X.K cdv x = true) (hb : L2.Binds X.K (PySem.W.fnOf x x pg bg sg dV kV doc pm an cdv ct) [a] []) (Sg : FnScope Ng [a] sg) (hN : Ng[0]? = some a) (hva : Vis sg a)
    (hG : TriesIt X Ng x sg g cdv bg a (X.env.qual ++ "<lambda>") TT)
    (TB : TabB X.base X.mg c P) (hcode : X.env.code = .ref c) (hmT : (P, X.env.qual ++ "<lambda>") ∈ T) (hu : ∀ p ∈ T, p.1 = P → p.2 = X.env.qual ++ "<lambda>") (hr : Room (k + 2) X.A) (hgd : X.A.guards = some []) (L : LamS X.env.scope scope) (hdef : defaultsOf params X.env = ([], []))
    (bnd : ∀ (q : Str) (cl : List (Str × Addr)) (pm cv ctv : Value), bindArgs (PySem.W.kla_fn "<lambda>" q params body scope cl pm cv ctv) ⟨[], []⟩ = pure [])
    (hbody : ∀ (E : XK) (A : Around) (outer : List PySem.Env) (s : Shared) (H : Hp) (f c2 : Addr), Room k (A.deeper (lamEnv X scope s.heap.objs.size f c2)) → (A.deeper (lamEnv X scope s.heap.objs.size f c2)).guards = some [] → PE (lamCx X A outer s H E scope f c2) body (t E))
    (hdb : (x == ("__debug__" : Str)) = false := by decide) (hd : (a == ("__debug__" : Str)) = false := by decide) (hcd : (a == ("__classdict__" : Str)) = false := by decide) :
    PE X (.Call (.Name x p) [.Lambda params body scope lpos] [] pos) (tLamG T TT t) := by
  refine ⟨fun pins s σ H Q I ⟨hT, h⟩ => ?_⟩
  refine wpAny_Call_Name_kw (ld_glob I hg hm (PySem.W.callWith_K (h₀ := X.base) I.ok.mod.kin hk ?_ (by rfl) (by rfl)) hdb)
  show wpAny _ _ (spliced ((false, eval (.Lambda params body scope lpos) X.env) :: backTo pos (starEach [] X.env))) _ _ s
  refine Calls.spliced_cons (lam_makeG I TB hcode hmT hu hT hdef (L.has I.ok) fun f c2 pm2 ctv H1 s1 I1 eN oN T1 ef nf af ec => Calls.spliced_nil ⟨I1.kIn, ?_⟩)
  have rc : codeAny (model X.prog X.w) X.A (.call (.ref g) ⟨[.ref f], []⟩) (CR C8.CX0 X.stack X.prog X.w H1 s1 Q C8.E0) s1 := by
    refine run_ofS (N := Ng) (ps := [a]) (us := [.ref f]) (vs := [.ref f]) lk hcg Sg hr I1.env0 (hb s1 [.ref f] I1.kIn rfl) (.cons rfl .nil) rfl fun hr2 => ?_
    obtain ⟨t2, ht, hq⟩ := hG f c2 s1 H1 Q (fun E H' Q' => t E σ H' Q') (fun W pn xe p1 p2 tk => pe_actG (i := 0) (tb := t) I1 L ef nf af (bnd _ _ _ _ _) tk hr2 hgd (fun E A outer s H hr3 hg3 => hbody E A outer s H f c2 hr3 hg3) hN hva hd hcd) ec (h f H1 eN oN T1)
    exact ⟨t2, ht.nox, hq⟩
  refine wpAny_call (codeAny_mono rc fun r s2 hq => ?_)
  cases r with
  | error e => exact (show False from hq).elim
  | ok fl =>
    cases fl with
    | ret u => exact I1.after hq
    | next => exact False.elim hq
    | brk => exact False.elim hq
    | cont => exact False.elim hq
/-- .. whose body is: try: return a() with the clauses l -/
def TTmix (K : PySem.W.Frag) (Ng : List Str) (l : List Cl) : Addr → (XK → Hp → VK → Prop) → Hp → VK → Prop := fun f tl H Q =>
  tl (WE (wMix K (fun _ _ _ _ => False) { nx := fun _ H' => Q .non H', rt := Q } l) (L2.start Ng [.ref f])) H Q
theorem mix_tries {Ng : List Str} {x a q : Str} {sg : Scope} {g : Addr} {cdg : Value} {hd : ExceptHandler} {hs : List ExceptHandler} {l : List Cl} {p1 p2 p3 p4 : Pos} (nd : Ng.Nodup) (h0 : ∀ f : Addr, (L2.start Ng [V.ref f])[0]? = some (some (V.ref f)))
    (hc : ∀ s H, ClsOk (cxOf C8.CX0 X.prog X.w X.K X.mg X.base Ng x sg g cdg X.A X.stack s H C8.E0).nox (hd :: hs) l) :
    TriesIt X Ng x sg g cdg [.Try [.Return (some (.Call (.Name a p1) [] [] p2)) p3] (hd :: hs) [] [] p4] a q (TTmix X.K Ng l) := by
  intro f c2 s H Q tl act ec h
  refine ⟨_, pss_one (ps_try_mix (X := (cxOf C8.CX0 X.prog X.w X.K X.mg X.base Ng x sg g cdg X.A X.stack s H C8.E0).nox) (l := l)
      (tb := fun W D τ H => τ[0]? = some (some (.ref f)) ∧ H c2 = some (CodeO c2 q) ∧ tl (WE W τ) H D.rt)
      rfl rfl nd LamX.takes0 (fun W pn xe tk _ => pss_one (ps_ret (act W pn xe p1 p2 tk))) (hc s H)), ?_⟩
  exact ⟨h0 f, ec, h⟩
end
end DL
set_option maxHeartbeats 4000000
/-! DLOut: the plain run of f(lambda: e), where f tells the errors as lists. -/
namespace DL
open PySem PySem.Spec PyProof.Rows L2 LamX
/-- a clause of f: its class, the word that it tells, the error's field that it tells behind -/
structure Hd where
  cls : Str
  txt : Str
  fld : Option Str
def pickH (mt : Str → Str → Option Bool) (c : Str) : List Hd → Option Hd
  | [] => none
  | h :: r => match mt c h.cls with
    | some true => some h
    | some false => pickH mt c r
    | none => none
def toldH (h : Hd) (e : Exc) : Option P := match h.fld with
  | none => some (.lst [.str h.txt])
  | some f => if e.cls = h.cls then (match e.fs.lookup f with
    | some (.p x) => some (.lst [.str h.txt, x])
    | _ => none) else none
def okOr (S : Store) : Option P → Res D
  | some p => .ok (.p p) S
  | none => .stuck
def outR (mt : Str → Str → Option Bool) (hs : List Hd) : Res D → Res D
  | .ok d S => .ok d S
  | .err e S => okOr S ((pickH mt e.cls hs).bind fun h => toldH h e)
  | .stuck => .stuck
def mOut (mt : Str → Str → Option Bool) (hs : List Hd) (me : ME D) : ME D := fun ρ S => outR mt hs (me ρ S)
/-- the clause as the layer reads it -/
def clOf (CH : Str → Addr) (sl : Nat) (h : Hd) : Cl where
  c := .ref (CH h.cls)
  i := h.fld.map fun _ => sl
  ts := fun a cls d D σ H => match h.fld with
    | none => ∀ l, H l = none → D.rt (.ref l) (upd H l (.lst [.str h.txt]))
    | some f => σ[sl]? = some (some (.ref a)) ∧ cls = .ref (CH h.cls) ∧ ∃ (dd : Addr) (fs : List (Str × V)) (v : V), d = some dd ∧ H dd = some (.xd fs) ∧ fs.lookup f = some v ∧ ∀ l, H l = none → D.rt (.ref l) (upd H l (.lst [.str h.txt, v]))
section
variable [HasT] {X : Cx}
theorem relDf_lookup {G : Gb} {F : Addr → Prop} {ι : List Addr} {H : Hp} {f : Str} {d : D} : ∀ {fs : List (Str × D)} {vs : List (Str × V)}, RelDf G F ι H fs vs → fs.lookup f = some d → ∃ v, vs.lookup f = some v ∧ RelD G F ι H d v
  | [], _, _, e => by cases e
  | (g, x) :: fs, _, ⟨v, ws, ev, a, b⟩, e => by
    subst ev
    rw [List.lookup_cons] at e
    rw [List.lookup_cons]
    cases hg : f == g with
    | true => rw [hg] at e; cases e; exact ⟨v, rfl, a⟩
    | false => rw [hg] at e; exact relDf_lookup b e
theorem Nxt.ext {G : Gb} {F : Addr → Prop} {ι : List Addr} {S : Store} {H H1 : Hp} (r : R G F ι S H) (e : ExtN H H1) (o : ∀ b u, H b = some u → ∃ u', H1 b = some u') (t : Tabs HasT.T H1) : Nxt G F ι H F ι S H1 := by
  have thing : ∀ {u : HO}, isThing u = true → ∀ ps, u ≠ .tbl ps := fun h ps z => by subst z; cases h
  have stay : ∀ {a : Addr} {u : HO}, H a = some u → isThing u = true → H1 a = some u := fun h q => e _ _ h (thing q)
  have kp : Keep F ι H H1 := fun a u h q => by
    refine e a u h fun ps z => ?_
    subst z
    rcases q with q | q | q
    · obtain ⟨u', h', q'⟩ := r.fz a q
      rw [h] at h'
      cases h'
      cases q'
    · cases q
    · cases q.2
  refine ⟨fun _ h => h, kp, List.prefix_refl _, fun x a b => absurd a b, fun x a b => absurd a b, o, r.len, r.nd, r.nf, fun a h => ?_, t, fun n a x h1 h2 => ?_⟩
  · obtain ⟨u, h', q⟩ := r.fz a h
    exact ⟨u, stay h' q, q⟩
  · have z := r.ob n a x h1 h2
    refine RelO.mono kp.w (fun _ h => h) (List.prefix_refl _) ?_ z
    cases x with
    | lst ds => obtain ⟨vs, h, _⟩ := z; rw [h, stay h rfl]
    | ins c fs => obtain ⟨C, dx, fvs, _, h, _⟩ := z; rw [h, stay h rfl]
    | dct fs => obtain ⟨fvs, h, _⟩ := z; rw [h, stay h rfl]
    | dit fs => obtain ⟨fvs, h, _⟩ := z; rw [h, stay h rfl]
/-- an error that some clause takes -/
theorem mix_pick {CH : Str → Addr} {sl : Nat} {mt : Str → Str → Option Bool} {e : Exc} {K : PySem.W.Frag} {D : Ends} {σ : L2.St} {H : Hp} {C : Value} {d : Option Addr} {h : Hd}
    (hmt : ∀ c2 b, mt e.cls c2 = some b → PySem.W.exmOne K C (.ref (CH c2)) = some b) : ∀ {hs : List Hd}, pickH mt e.cls hs = some h →
    (∀ a, H a = none → match h.fld with
      | none => ∀ l, H l = none → D.rt (.ref l) (upd H l (.lst [.str h.txt]))
      | some f => (σ.set sl (some (.ref a)))[sl]? = some (some (.ref a)) ∧ C = .ref (CH h.cls) ∧ ∃ (dd : Addr) (fs : List (Str × V)) (v : V), d = some dd ∧ H dd = some (.xd fs) ∧ fs.lookup f = some v ∧ ∀ l, H l = none → D.rt (.ref l) (upd H l (.lst [.str h.txt, v]))) →
    wMix K (fun _ _ _ _ => False) D (hs.map (clOf CH sl)) C d σ H
  | [], e, _ => by cases e
  | g :: hs, e, q => by
    unfold pickH at e
    cases em : mt _ g.cls with
    | none => rw [em] at e; cases e
    | some b =>
      rw [em] at e
      refine ⟨b, hmt _ _ em, fun eb => ?_, fun eb a ha => ?_⟩
      · subst eb
        exact mix_pick hmt e q
      · subst eb
        cases e
        have z := q a ha
        unfold clOf
        cases ef : h.fld with
        | none =>
          simp only [ef, Option.map] at z ⊢
          exact z
        | some f =>
          simp only [ef, Option.map] at z ⊢
          exact z
theorem de_out {W : WX} {e : Expr} {Ng : List Str} {hs : List Hd} {CH : Str → Addr} {sl : Nat} {mt : Str → Str → Option Bool} {me : ME D}
    (h : PE X e (tLamG HasT.T (TTmix X.K Ng (hs.map (clOf CH sl))) fun E => T ⟨X.K, X.mg⟩ (fun c d _ H => E c d H) me)) (hsl : sl < Ng.length) (hN : 1 ≤ Ng.length)
    (hmt : ∀ c1 c2 b, mt c1 c2 = some b → X.mg c1 = some (.ref (CH c1)) ∧ PySem.W.exmOne X.K (.ref (CH c1)) (.ref (CH c2)) = some b) : DE X W e (mOut mt hs me) := PE.imp h fun σ H Q q => by
  obtain ⟨ρ, S, ι, F, at0, t⟩ := q
  refine ⟨at0.r.tb, fun f H1 eN oN tN => ?_⟩
  have n0 := Nxt.ext at0.r eN oN tN
  refine ⟨ρ, S, ι, F, at0.next n0, ?_⟩
  have t1 := Then.later t n0
  unfold mOut at t1
  revert t1
  generalize me ρ S = r
  intro t1
  cases r with
  | stuck => exact t1.elim
  | ok d S' => exact t1
  | err e S' =>
    intro F' ι' H' c d n x
    simp only [outR] at t1
    cases ep : pickH mt e.cls hs with
    | none => simp only [ep, Option.bind, okOr] at t1; exact t1.elim
    | some g =>
      cases et : toldH g e with
      | none => simp only [ep, Option.bind, et, okOr] at t1; exact t1.elim
      | some p =>
        simp only [ep, Option.bind, et, okOr] at t1
        obtain ⟨C, em, ec, ef⟩ := x
        have hC : ∀ c2 b, mt e.cls c2 = some b → C = CH e.cls := fun c2 b z => by
          have y := (hmt _ _ _ z).1
          rw [show X.mg e.cls = some (.ref C) from em] at y
          cases y
          rfl
        subst ec
        refine mix_pick (fun c2 b z => by rw [hC c2 b z]; exact (hmt _ _ _ z).2) ep fun a ha => ?_
        unfold toldH at et
        cases fl : g.fld with
        | none =>
          rw [fl] at et
          cases et
          exact fun l hl => t1 _ _ _ (n.trans (Nxt.frz n.r hl)) _ (rel_frzL hl ⟨_, _, rfl, rfl, rfl⟩)
        | some f =>
          rw [fl] at et
          simp only at et
          split at et
          · rename_i hc
            split at et
            · rename_i x hx
              cases et
              have ne : ∃ dd fvs, d = some dd ∧ H' dd = some (.xd fvs) ∧ RelDf ⟨X.K, X.mg⟩ F' ι' H' e.fs fvs := by
                revert ef hx
                generalize e.fs = fs
                cases fs with
                | nil => intro _ hx; cases hx
                | cons y ys => exact fun ef _ => ef
              obtain ⟨dd, fvs, ed, hd, rf⟩ := ne
              obtain ⟨v, lv, rv⟩ := relDf_lookup rf hx
              have hCg : C = CH g.cls := by
                have z : ∃ c2 b, mt e.cls c2 = some b := by
                  cases hs with
                  | nil => cases ep
                  | cons g1 r =>
                    unfold pickH at ep
                    cases em2 : mt e.cls g1.cls with
                    | none => rw [em2] at ep; cases ep
                    | some b => exact ⟨_, _, em2⟩
                obtain ⟨c2, b, z⟩ := z
                rw [hC c2 b z, hc]
              refine ⟨?_, by rw [hCg], dd, fvs, v, ed, hd, lv, fun l hl => t1 _ _ _ (n.trans (Nxt.frz n.r hl)) _ (rel_frzL hl ⟨_, _, rfl, rfl, _, _, rfl, rv, rfl⟩)⟩
              rw [List.getElem?_set_self]
              unfold L2.start
              simp only [List.length_append, List.length_map, List.length_replicate, List.length_cons, List.length_nil]
              omega
            · cases et
          · cases et
end
end DL
set_option maxHeartbeats 4000000
/-! DLRaise: own errors raised. -/
namespace DL
open PySem PySem.Spec PyProof.Rows L2
def mRaise (cls : Str) : MS := fun _ S => .err ⟨cls, []⟩ S
section
variable [HasT] {X : Cx}
theorem ds_raise {W : WX} {x m : Str} {C : Addr} {bmB : List Value} {B newId initId : String} {j : Nat} {p p2 p3 p4 : Pos} (tk : Takes X W) (F : ExcBaseFacts B newId initId bmB) (q : PySem.W.excIn X.K C bmB newId = true) (gC : X.mg x = some (.ref C)) (kC : PySem.W.keepIn X.K (.ref C) = true)
    (r : Raises X (.ref C)) (hg : Gl X x := by rfl) (hc : X.calm = true := by rfl) (hdb : (x == ("__debug__" : Str)) = false := by decide) : DS X W (.Raise (some (.Call (.Name x p) [.Constant (.str m) j p2] [] p3)) none p4) (mRaise x) :=
  PS.imp (ps_raise hc tk (pmk_own F q gC kC r hg hdb)) fun E σ H t => by
    obtain ⟨ρ, S, ι, F, a, t⟩ := t
    exact t F ι H _ _ (Nxt.refl a.r) ⟨C, gC, rfl, rfl⟩ σ
end
end DL
set_option maxHeartbeats 4000000
/-! DLOwn: own errors over any built-in one, with an __init__ that says super().__init__(..); self.f = v. -/
namespace DL
open PySem PySem.Spec PyProof.Rows L2
section
open Builtin Builtin.ObjectAttr
variable {prog : Program} {w : World} {A : Around} {E : Value → Shared → Prop} {R : Result → Shared → Prop} {hp : Heap} {g : Array GenState} {d : Drawn} {t : Nat} {os : OsState}
/-- the first field stored in a new error -/
theorem own_osa {B setId on : String} {tail : List Value} (SB : StoreFacts B tail setId on) {K : PySem.W.Frag} {name : Str} {tk : Tok} {v : Value} {x C : Addr} {fv : Array Value} {cd : ClassData} (ht : tail.contains (.type "object") = true)
    (Y : K.In hp) (gx : hp.get? x = some { cls := .ref C, data := .fields fv }) (gc : PySem.W.clsIn K C = some cd) (em : cd.mro = .ref C :: tail) (dict : cd.hasDict = true) (no : PySem.W.findIn K (.ref C) name = some none)
    (q : ∀ h1 tk1 dx, (∀ b o, b ≠ x → hp.get? b = some o → h1.get? b = some o) → hp.objs.size ≤ dx → dx ≠ x → h1.get? x = some { cls := .ref C, dict := some dx, data := .fields fv } →
      h1.Ns1 dx (fun y => if y = name then some v else none) → R (.ok (.ret .none)) ⟨h1, g, d, tk1, os⟩) :
    codeAny (model prog w) A (.call (.builtin "object.__setattr__") ⟨[.ref x, .str name tk, v], []⟩) R ⟨hp, g, d, t, os⟩ := by
  have In : PySem.W.InstAt hp x { cls := .ref C, data := .fields fv } C none := ⟨gx, rfl, rfl, trivial⟩
  have SO := F.store_object
  have far : x ≠ hp.objs.size := Nat.ne_of_lt (Heap.lt_size gx)
  have isO : PySem.W.Looks (model prog w) hp (isInstance (.ref x) (.type "object")) true := In.type.andThen (PySem.W.looks_mroIn Y (by
    unfold PySem.W.mroIn
    rw [gc, Option.bind_some, em, if_neg (by simp), List.contains_cons, ht, Bool.or_true]))
  have line : PySem.W.Looks (model prog w) hp (mroOf (.ref C)) cd.mro := (PySem.W.looks_clsIn Y gc).andThen .now
  have none_ : PySem.W.Looks (model prog w) hp (storeTaker? none) none := .now
  have cls_ : PySem.W.Looks (model prog w) hp (classData C) cd := PySem.W.looks_clsIn Y gc
  refine codeAny_call_builtin SO.slot.plain SO.entry (@PySem.W.check_slot (model prog w) _ _ ⟨hp, g, d, t, os⟩ "object.__setattr__" "object" "__setattr__" (.ref x) [.str name tk, v] [] _ SO.kind SO.split isO (SO.args (.ref x) (.str name tk) v) ?_)
  rw [PySem.W.osa_eq, PySem.refuse_eq]
  refine wpAny_bind (wpAny_bind (In.type.at (wpAny_bind (line.at ?_))))
  rw [em, show PySem.refuseLoop (.ref x) "__setattr__" (.ref C :: tail) = pure () from by rw [PySem.refuseLoop_ref]; exact SB.passes (.ref x)]
  refine wpAny_pure (wpAny_bind (In.type.at (wpAny_bind ((PySem.W.looks_findIn Y no).at (wpAny_bind (none_.at ?_))))))
  show wpAny _ _ (storeInOwnDict (.ref x) (.ref C) (.str name tk) name v false) _ _ _
  obtain ⟨c1, c2, c3, c4, c5, c6, c7, c8, c9, c10, c11⟩ := cd
  dsimp only at dict
  subst dict
  unfold storeInOwnDict ownDictForStores
  repeat (first | with_reducible refine PySem.HandSPX.store_in_new ?_ ?_ | with_reducible refine wpAny_loadPart_at gx ?_ | with_reducible refine cls_.at ?_ | wp_step)
  · exact ⟨_, #[], _, (Heap.get?_update_ne _ _ _ _ far.symm).trans (Heap.get?_push_at rfl rfl), rfl, fun e he => absurd he (by simp), fun _ => rfl⟩
  · intro h1 tk1 hn hs
    have gx1 : (hp.push { cls := .type "dict", data := .dict #[] }).get? x = some { cls := .ref C, data := .fields fv } := Heap.get?_push_of_some _ gx
    exact q h1 tk1 hp.objs.size (fun b o n e => (hs.2 b (Nat.ne_of_lt (Heap.lt_size e))).trans ((Heap.get?_update_ne _ _ _ _ n).trans (Heap.get?_push_of_some _ e))) (Nat.le_refl _) far.symm ((hs.2 x far).trans (Heap.get?_update_self _ gx1 rfl)) hn
end
/-- what the written part says of an own error's class over a built-in one: its line is the class, then tail -/
structure OwnC (K : PySem.W.Frag) (C : Addr) (newId : String) (tail : List Value) : Prop where
  cls : ∃ nm q N bs sn sub ab col dd k0 k1 k2 k3 k5, K.lookup C = some (excClassObj nm q C N bs tail true sn sub ab col dd k0 k1 k2 k3 k5 newId)
  sa : PySem.W.findIn K (.ref C) "__setattr__" = some (some (.builtin "object.__setattr__"))
  exC : PySem.W.subIn K (.ref C) (.type "BaseException") = some true
  tyC : PySem.W.typeIn K (.ref C) = some (.type "type")
  kC : PySem.W.keepIn K (.ref C) = true
section
variable {X : Cx} {pins : List (Addr × Obj)} {σ : L2.St} {H : Hp} {s : Shared} {a C : Addr} {f : Str} {y : V} {u : Value} {Q : Unit → Shared → Prop} {E : Value → Shared → Prop} {A : Around} {newId B setId on : String} {tail : List Value}
/-- self.f = y, the first one -/
theorem own_first (SB : StoreFacts B tail setId on) (ht : tail.contains (.type "object") = true) (Y : OwnC X.K C newId tail) (I : Inv X pins σ H s) (e : H a = some (exo a C none)) (no : PySem.W.findIn X.K (.ref C) f = some none) (ry : RelV y u)
    (q : ∀ dx s1, H dx = none → dx ≠ a → Inv X pins σ (upd (upd H dx (exd dx [(f, y)])) a (exo a C (some dx))) s1 → Q () s1) : wpAny (model X.prog X.w) A (setAttr (.ref a) f u) Q E s := by
  obtain ⟨nm, qn, N, bs, sn, sub, ab, col, dd, k0, k1, k2, k3, k5, gC⟩ := Y.cls
  have gcl : PySem.W.clsIn X.K C = some { name := nm, bases := bs, mro := .ref C :: tail, ns := N, qualname := qn, hasDict := true, slotNames := sn, subclasses := sub, abstract := ab, collection := col, hasDel := false } := by
    unfold PySem.W.clsIn
    rw [gC] <;> rfl
  obtain ⟨t1, go⟩ := exo_at I.hok e
  obtain ⟨hp, g, d, t, os⟩ := s
  refine PySem.W.set_plain I.kIn (ox := { cls := .ref C, dict := none, data := .fields #[.ref t1, .none, .none, .none, .bool false, .none] }) (od := none) ⟨go, rfl, rfl, trivial⟩ Y.sa ?_
  refine own_osa SB ht I.kIn go gcl rfl rfl no fun h1 tk dx k far ne hx hn => ?_
  have nd : H dx = none := I.hok.fresh far
  have old_ne : ∀ {b : Addr} {o : Obj}, hp.get? b = some o → b ≠ dx := fun {b o} q => Nat.ne_of_lt (Nat.lt_of_lt_of_le (Heap.lt_size q) far)
  have not_a : ∀ {b : Addr}, H b = none → b ≠ a := fun {b} n z => by
    subst z
    rw [e] at n
    cases n
  have U : Un X.fs [] H (upd (upd H dx (exd dx [(f, y)])) a (exo a C (some dx))) hp h1 := by
    refine ⟨fun b o z n _ _ => k b o (not_a n) z, fun b o z n _ _ => ⟨o.slots, k b o (not_a n) z⟩, fun b o z n _ => ?_, fun b o z _ => ?_, fun b xs z => ?_, fun b o v z => ?_, fun b ps z => ⟨#[], ?_⟩⟩
    · rw [upd_ne (not_a n), upd_ne (old_ne z), n]
    · by_cases hb : b = a
      · subst hb; exact ⟨_, hx⟩
      · exact ⟨o, k b o hb z⟩
    · rw [upd_ne (at_ne e z exo_tup), upd_ne (ne_of_none z nd), z]
    · rw [upd_ne (at_ne e z exo_frz), upd_ne (ne_of_none z nd), z]
    · rw [upd_ne (at_ne e z exo_tbl), upd_ne (ne_of_none z nd), z]
      simp
  refine q dx _ nd ne (I.un (t' := tk) U fun b o z => ?_)
  by_cases hb : b = a
  · subst hb
    rw [upd_same] at z
    cases z
    exact exo_ok hx
  rw [upd_ne hb] at z
  by_cases hd : b = dx
  · subst hd
    rw [upd_same] at z
    cases z
    exact exd_ok hn (relO_put (fs := []) ry fun g => True.intro)
  rw [upd_ne hd] at z
  refine (I.hok b o z).stay (fun c v hc w => k c v ?_ w) (fun c hc => ?_) fun c xs hc => ?_
  · rcases hc with hc | hc
    · subst hc; exact hb
    · exact at_ne e hc exo_own
  · rw [upd_ne (at_ne e hc exo_own), upd_ne (ne_of_none hc nd), hc]
  · rw [upd_ne (at_ne e hc exo_tup), upd_ne (ne_of_none hc nd), hc]
/-- B.__init__(self, ..) keeps what is told of self -/
theorem own_init {bmB : List Value} (FB : ExcBaseFacts B newId setId tail) {us : List Value} {R : Value → Shared → Prop} (Y : OwnC X.K C newId tail) (I : Inv X pins σ H s) (e : H a = some (exo a C none)) (hl : us.length ≤ sizeLine)
    (hT : ∀ T : String, (Value.ref C :: tail).contains (.type T) = tail.contains (.type T)) (q : ∀ s1, Inv X pins σ H s1 → R .none s1) : wpAny (model X.prog X.w) A (call (.builtin setId) (.ref a :: us)) R E s := by
  obtain ⟨nm, qn, N, bs, sn, sub, ab, col, dd, k0, k1, k2, k3, k5, gC⟩ := Y.cls
  obtain ⟨t1, go⟩ := exo_at I.hok e
  obtain ⟨hp, g, d, t, os⟩ := s
  refine wpAny_call (PySem.HandSPX.init_base FB (fun _ => rfl) (I.kIn _ _ gC) go hl fun h1 t2 k hx => ?_)
  have J := I.write (t' := t) (x := a) (e := a) (o := exo a C none) (by rw [e]; exact True.intro) (.inl rfl) k ⟨_, hx⟩ (exo_ok hx)
  rw [show upd H a (exo a C none) = H from funext fun b => by
    by_cases hb : b = a
    · rw [hb, upd_same, e]
    · rw [upd_ne hb]] at J
  exact q _ J
end
end DL
set_option maxHeartbeats 4000000
/-! DLSuper: super() in an error's __init__, over the heap as it is. -/
namespace DL
open PySem PySem.Spec PyProof.Rows L2 PySem.W
/-- what the written part says of the def __init__ of the class at D: f its function, cda its code, cc its cell -/
structure SupC (K : PySem.W.Frag) (prog : Program) (mg : Str → Option Value) (D f cda cc : Addr) (fd : FuncData) (slf : Str) (scope : Scope) : Prop where
  fn : ∃ oc od osl, K.lookup f = some ⟨oc, od, .func fd, osl⟩
  par : ∃ ar, (fd.params.posonlyargs ++ fd.params.args).head? = some ar ∧ ar.arg = slf
  code : ∃ ccl cdd vs ccs file tf, K.lookup cda = some ⟨ccl, cdd, .fields vs, ccs⟩ ∧ vs[2]? = some (.str file tf) ∧ ((prog.main.file : Str) == file) = true
  cell : ∃ cl cld csl, K.lookup cc = some ⟨cl, cld, .cell (some (.ref D)), csl⟩
  cls : ∃ cd, PySem.W.clsIn K D = some cd
  sup : mg "super" = none
  ks : scope.names.lookup ("super" : Str) = some .globalImplicit
  kc : scope.names.lookup ("__class__" : Str) = some .free
  ka : scope.names.lookup slf = some .local
  kind : scope.kind = .function
  top : (prog.main.scope.names.lookup ("super" : Str)).isSome = false
section
variable {prog : Program} {w : World} {A : Around} {E : Value → Shared → Prop} {K : PySem.W.Frag} {mg : Str → Option Value} {base h : Heap} {g : Array GenState} {d : Drawn} {t : Nat} {os : OsState}
theorem own_super {body : List Stmt} {q : Str} {p0 p1 : Pos} {attr : Str} {whole : Sem Value} {D f cda cc L x C : Addr} {fd : FuncData} {slf : Str} {scope : Scope} {m : Str → Option Value} {ox : Obj} {odx : Option Obj} {Q : Value → Shared → Prop}
    (T : SupC K prog mg D f cda cc fd slf scope) (M : L2.Mod K mg base) (kb : ∀ b o, base.get? b = some o → h.get? b = some o) (ns : h.Ns L m) (hv : m slf = some (.ref x)) (I : PySem.W.InstAt h x ox C odx) (sub : PySem.W.mroIn K C (.ref D) = some true)
    (hat : (attr == ("__class__" : Str)) = false)
    (go : ∀ h1, h1.get? h.objs.size = some (ks_superObj D x C) → (∀ y o, h.get? y = some o → h1.get? y = some o) → Q (.ref h.objs.size) ⟨h1, g, d, t, os⟩) :
    _root_.PySem.wpAt (model prog w) A (.func body (ksEnv q scope L f (.ref cda) cc)) (attributeBase (.Call (.Name "super" p0) [] [] p1) attr (ksEnv q scope L f (.ref cda) cc) whole) Q E ⟨h, g, d, t, os⟩ := by
  have X : K.In h := M.kin.keeps kb
  obtain ⟨oc, od, osl, e1⟩ := T.fn
  obtain ⟨ar, e2, e3⟩ := T.par
  obtain ⟨ccl, cdd, vs, ccs, file, tf, e4, e5, e6⟩ := T.code
  obtain ⟨cl, cld, csl, e7⟩ := T.cell
  obtain ⟨cdD, e8⟩ := T.cls
  obtain ⟨oD, hD1, hD2⟩ : ∃ oD, h.get? D = some oD ∧ oD.data = .cls cdD := by
    unfold PySem.W.clsIn at e8
    split at e8
    · rename_i c d cd' sl ho
      cases e8
      exact ⟨_, X _ _ ho, rfl⟩
    · cases e8
  obtain ⟨mb, b1, b2⟩ := M.blt
  refine ks_wpAt_super_base (env := ksEnv q scope L f (.ref cda) cc) T.ks T.kc hat rfl (X _ _ e1) rfl e2 rfl (X _ _ e4) rfl e5 e6 T.top ?_
  refine ks_loadName_global T.kind T.ks (Calls.loadGlobal_builtin (env := ksEnv q scope L f (.ref cda) cc) (M.glob.keeps kb) T.sup (b1.keeps kb) ((b2 "super" (by decide)).trans (by first | rfl | kernel_rfl | decide +kernel)) ⟨rfl, ?_⟩)
  refine wpAny_loadName_free T.kind T.kc rfl ⟨_, X _ _ e7, rfl⟩ ?_
  refine wpAny_loadName_local T.kind (by rw [e3]; exact T.ka) ns (by rw [e3]; exact hv) ?_
  refine ks_wpAny_isType_cls hD1 hD2 ⟨rfl, ?_⟩
  refine ks_wpAny_call_super hD1 hD2 I.at_ I.cls (fun c e => ?_) (looks_mroIn X sub) (fun h1 e k => go h1 e k)
  have := I.no
  unfold notCls at this
  rw [e] at this
  exact Bool.noConfusion this
end
end DL
set_option maxHeartbeats 4000000
/-! DLSup2: super().__init__('..') in an own error's __init__. -/
namespace DL
open PySem PySem.Spec PyProof.Rows L2 PySem.W
section
variable {prog : Program} {w : World} {A : Around} {E : Value → Shared → Prop} {K : PySem.W.Frag} {mg : Str → Option Value} {base h : Heap} {g : Array GenState} {d : Drawn} {t : Nat} {os : OsState}
theorem own_supcall {body : List Stmt} {q : Str} {p0 p1 p2 p3 p4 : Pos} {txt : Str} {j : Nat} {f cda cc L x C t0 : Addr} {fd : FuncData} {slf : Str} {scope : Scope} {m : Str → Option Value} {B i newId : String} {tail : List Value} {Q : Value → Shared → Prop} {pl : Sem Bool}
    (he : eval (.Call (.Attribute (.Call (.Name "super" p0) [] [] p1) "__init__" p2) [.Constant (.str txt) j p3] [] p4) (ksEnv q scope L f (.ref cda) cc) = (do
      let ov ← attributeBase (.Call (.Name "super" p0) [] [] p1) "__init__" (ksEnv q scope L f (.ref cda) cc) (eval (.Call (.Name "super" p0) [] [] p1) (ksEnv q scope L f (.ref cda) cc))
      standAt p2.atName
      let (fv, first) ← holding [ov] (getMethod ov "__init__" pl)
      callWith p4 fv first (backTo p4 (starEach [.Constant (.str txt) j p3] (ksEnv q scope L f (.ref cda) cc))) []))
    (T : SupC K prog mg C f cda cc fd slf scope) (M : L2.Mod K mg base) (kb : ∀ b o, base.get? b = some o → h.get? b = some o) (ns : h.Ns L m) (hv : m slf = some (.ref x)) (gx : h.get? x = some (PySem.HandSPX.excO C t0))
    (Y : OwnC K C newId tail) (FB : ExcBaseFacts B newId i tail) (KF : KxsFacts B i) (al : alongIn K "__init__" tail = some (some (.builtin i))) (op : nsIn K cStatics "thirdparty.any" = some none) (isB : subIn K (.ref C) (.type B) = some true)
    (go : ∀ h2 t2 tk, (∀ b o, b ≠ x → h.get? b = some o → h2.get? b = some o) → h2.get? x = some (PySem.HandSPX.excO C t2) → Q .none ⟨h2, g, d, tk, os⟩) :
    _root_.PySem.wpAt (model prog w) A (.func body (ksEnv q scope L f (.ref cda) cc)) (eval (.Call (.Attribute (.Call (.Name "super" p0) [] [] p1) "__init__" p2) [.Constant (.str txt) j p3] [] p4) (ksEnv q scope L f (.ref cda) cc)) Q E ⟨h, g, d, t, os⟩ := by
  obtain ⟨nm, qn, N, bs, sn, sub, ab, col, dd, k0, k1, k2, k3, k5, gC⟩ := Y.cls
  have gcl : PySem.W.clsIn K C = some { name := nm, bases := bs, mro := .ref C :: tail, ns := N, qualname := qn, hasDict := true, slotNames := sn, subclasses := sub, abstract := ab, collection := col, hasDel := false } := by
    unfold PySem.W.clsIn
    rw [gC] <;> rfl
  have I : PySem.W.InstAt h x (PySem.HandSPX.excO C t0) C none := ⟨gx, rfl, rfl, trivial⟩
  have X : K.In h := M.kin.keeps kb
  refine ks_wpAt_MethodCall (own_super T M kb ns hv I (by unfold PySem.W.mroIn; rw [gcl, Option.bind_some, if_neg (by simp)]; simp) (by decide) fun h1 e1 ke1 => ?_) he
  have X1 : K.In h1 := X.keeps ke1
  have I1 : PySem.W.InstAt h1 x (PySem.HandSPX.excO C t0) C none := ⟨ke1 _ _ gx, rfl, rfl, trivial⟩
  refine kxs_getMethod KF e1 (looks_opaque X1 op) (l₀ := .ref C :: tail) (fun A Q E s k q => wpAny_bind ((looks_clsIn X1 gcl) A _ E s k (wpAny_pure q))) (by simp) X1 al (I1.type.andThen (looks_subIn X1 isB)) (ks_ne X1 I1 gcl) (by decide) ?_
  show wpAny _ _ (callWith p4 (.ref h1.objs.size) [] (backTo p4 (starEach [.Constant (.str txt) j p3] (ksEnv q scope L f (.ref cda) cc))) []) _ _ _
  rw [show starEach [.Constant (.str txt) j p3] (ksEnv q scope L f (.ref cda) cc) = (false, eval (.Constant (.str txt) j p3) (ksEnv q scope L f (.ref cda) cc)) :: starEach [] (ksEnv q scope L f (.ref cda) cc) from rfl]
  refine kxs_callWith (i := i) (x := x) rfl (Calls.evalArgs_plain ?_)
  show wpAny _ _ (spliced ((false, eval (.Constant (.str txt) j p3) (ksEnv q scope L f (.ref cda) cc)) :: backTo p4 (starEach [] (ksEnv q scope L f (.ref cda) cc)))) _ _ _
  refine Calls.spliced_cons (Calls.Constant_str (Calls.spliced_nil ⟨Heap.get?_push_at rfl rfl, ?_⟩))
  have gm : (h1.push (kxs_mw i x)).get? h1.objs.size = some (kxs_mw i x) := Heap.get?_push_at rfl rfl
  have up : ∀ b o, h.get? b = some o → (h1.push (kxs_mw i x)).get? b = some o := fun b o z => Heap.get?_push_of_some _ (ke1 b o z)
  refine wpAny_call (codeAny_of_tree ?_)
  show wpAny _ A.in1 (callAny (.ref h1.objs.size) ⟨[.str txt _], []⟩) _ _ _
  simp only [callAny]
  refine wpAny_bind (wpAny_load gm ?_)
  simp only [kxs_mw, show (Value.type "method-wrapper" == Value.type "method" || Value.type "method-wrapper" == Value.type "builtin_function_or_method" || Value.type "method-wrapper" == Value.type "method-wrapper") = true by decide, if_true]
  refine KFB.if_so (by decide) (wpAny_bind (check_bound_init FB.toExcCallFacts (up _ _ (X _ _ gC)) (up _ _ gx) rfl (wpAny_bind (wpAny_pure (wpAny_pure ⟨plainId_quiet FB.init.plain _, codeAny_builtin FB.initEntry ?_⟩)))))
  exact exc_init_tree (up _ _ gx) (by show 1 ≤ sizeLine; rw [sizeLine_eq]; omega) fun h2 k2 e2 _ => go h2 _ _ (fun b o n z => k2 b o n (up b o z)) e2
end
end DL
set_option maxHeartbeats 4000000
/-! DLSup3: an own error's __init__: super().__init__('..'); self.f = v. -/
namespace DL
open PySem PySem.Spec PyProof.Rows L2 PySem.W
section
variable {prog : Program} {w : World} {A : Around} {K : PySem.W.Frag} {mg : Str → Option Value} {base : Heap} {s : Shared}
theorem own_initrun {qual : Str} {p0 p1 p2 p3 p4 p5 q1 q2 q3 q4 : Pos} {txt : Str} {j : Nat} {f cda cc x C t0 : Addr} {params : Arguments} {scope : Scope} {dV kV doc pm ct oc u : Value} {an od : Option Addr} {osl : Array (Option Value)} {slf vn fld : Str} {B i newId setId on : String} {tail : List Value} {R : Result → Shared → Prop} {pl : Sem Bool}
    (room : A.depth < recursionLimit) (M : L2.Mod K mg base) (kb : ∀ b o, base.get? b = some o → s.heap.get? b = some o)
    (lk : K.lookup f = some ⟨oc, od, .func (ksFn "__init__" qual params [.Expr (.Call (.Attribute (.Call (.Name "super" p0) [] [] p1) "__init__" p2) [.Constant (.str txt) j p3] [] p4) p5, .Assign [.Attribute (.Name slf q1) fld q2] (.Name vn q3) q4] scope dV kV doc pm an (.ref cda) ct cc), osl⟩)
    (hcd : codeIn K (.ref cda) qual = true)
    (T : SupC K prog mg C f cda cc (ksFn "__init__" qual params [.Expr (.Call (.Attribute (.Call (.Name "super" p0) [] [] p1) "__init__" p2) [.Constant (.str txt) j p3] [] p4) p5, .Assign [.Attribute (.Name slf q1) fld q2] (.Name vn q3) q4] scope dV kV doc pm an (.ref cda) ct cc) slf scope)
    (he : ∀ L, eval (.Call (.Attribute (.Call (.Name "super" p0) [] [] p1) "__init__" p2) [.Constant (.str txt) j p3] [] p4) (ksEnv qual scope L f (.ref cda) cc) = (do
      let ov ← attributeBase (.Call (.Name "super" p0) [] [] p1) "__init__" (ksEnv qual scope L f (.ref cda) cc) (eval (.Call (.Name "super" p0) [] [] p1) (ksEnv qual scope L f (.ref cda) cc))
      standAt p2.atName
      let (fv, first) ← holding [ov] (getMethod ov "__init__" pl)
      callWith p4 fv first (backTo p4 (starEach [.Constant (.str txt) j p3] (ksEnv qual scope L f (.ref cda) cc))) []))
    (bnd : BindsTo s (ksFn "__init__" qual params [.Expr (.Call (.Attribute (.Call (.Name "super" p0) [] [] p1) "__init__" p2) [.Constant (.str txt) j p3] [] p4) p5, .Assign [.Attribute (.Name slf q1) fld q2] (.Name vn q3) q4] scope dV kV doc pm an (.ref cda) ct cc) ⟨[.ref x, u], []⟩ [(slf, .ref x), (vn, u)])
    (hi : ∀ L, interactive (ksEnv qual scope L f (.ref cda) cc) = false) (hw : ∀ L, swapsWith (.Call (.Attribute (.Call (.Name "super" p0) [] [] p1) "__init__" p2) [.Constant (.str txt) j p3] [] p4) none p5.line (ksEnv qual scope L f (.ref cda) cc) = pure false)
    (hdS : (slf == ("__debug__" : Str)) = false) (hdV : (vn == ("__debug__" : Str)) = false) (hw2 : ∀ L, swapsWith (.Name vn q3) (some (.Attribute (.Name slf q1) fld q2)) q4.line (ksEnv qual scope L f (.ref cda) cc) = pure false) (nb : base.get? x = none)
    (ne : (vn == slf) = false) (kv : scope.names.lookup vn = some .local) (ncell : ∀ y ∈ scope.names, y.2 ≠ .cell) (co : scope.isCoroutine = false) (gen : scope.isGenerator = false)
    (gx : s.heap.get? x = some (PySem.HandSPX.excO C t0)) (Y : OwnC K C newId tail) (FB : ExcBaseFacts B newId i tail) (SB : StoreFacts B tail setId on) (KF : KxsFacts B i) (ht : tail.contains (.type "object") = true)
    (al : alongIn K "__init__" tail = some (some (.builtin i))) (op : nsIn K cStatics "thirdparty.any" = some none) (isB : subIn K (.ref C) (.type B) = some true) (no : PySem.W.findIn K (.ref C) fld = some none)
    (go : ∀ h2 t2 tk dx, (∀ b o, b ≠ x → s.heap.get? b = some o → h2.get? b = some o) → s.heap.objs.size ≤ dx → dx ≠ x → h2.get? x = some { cls := .ref C, dict := some dx, data := .fields #[.ref t2, .none, .none, .none, .bool false, .none] } →
      h2.Ns1 dx (fun y => if y = fld then some u else none) → R (.ok (.ret .none)) ⟨h2, s.gens, s.drawn, tk, s.os⟩) :
    codeAny (model prog w) A (.call (.ref f) ⟨[.ref x, u], []⟩) R s := by
  have X : K.In s.heap := M.kin.keeps kb
  refine ks_codeAny_call_defAt (binds := [(slf, .ref x), (vn, u)]) room (X _ _ lk) rfl (M.nolimit.keeps kb) (codeRec_of X hcd) rfl bnd ncell (fun y hy => ?_) (fun h0 ns k0 => ?_) co gen T.kind
  · rcases List.mem_cons.mp hy with rfl | hy
    · exact T.ka
    · rcases List.mem_cons.mp hy with rfl | hy
      · exact kv
      · cases hy
  obtain ⟨hp, g, d, t, os⟩ := s
  have hsv : (slf == vn) = false := by
    rw [Bool.eq_false_iff] at ne ⊢
    exact fun z => ne (by rw [beq_iff_eq] at z ⊢; exact z.symm)
  have hvS : ([(slf, .ref x), (vn, u)] : List (Str × Value)).reverse.lookup slf = some (.ref x) := by
    show List.lookup slf [(vn, u), (slf, .ref x)] = _
    rw [List.lookup_cons, hsv, List.lookup_cons, beq_self_eq_true]
  have hvV : ([(slf, .ref x), (vn, u)] : List (Str × Value)).reverse.lookup vn = some u := by
    show List.lookup vn [(vn, u), (slf, .ref x)] = _
    rw [List.lookup_cons, beq_self_eq_true]
  have gx0 := k0 _ _ gx
  refine ks_wpAt_execs_cons (ks_wpAt_Expr_any (own_supcall (he _) T M (fun b o z => k0 b o (kb b o z)) ns hvS gx0 Y FB KF al op isB fun h2 t2 tk k2 g2 => ?_) (hi _) (hw _))
  have ns2 : h2.Ns hp.objs.size (fun y => ([(slf, .ref x), (vn, u)] : List (Str × Value)).reverse.lookup y) := ns.at fun o e => k2 _ o (fun z => by
    obtain ⟨o1, es, ep, e1, e2, _⟩ := ns
    rw [z, gx0] at e1
    cases e1
    cases e2) e
  have X2 : K.In h2 := M.kin.keeps fun b o z => k2 b o (fun q => by rw [q, nb] at z; cases z) (k0 b o (kb b o z))
  obtain ⟨nm, qn, N, bs, sn, sub, ab, col, dd, e0, e1, e2, e3, e5, gC⟩ := Y.cls
  have gcl : PySem.W.clsIn K C = some { name := nm, bases := bs, mro := .ref C :: tail, ns := N, qualname := qn, hasDict := true, slotNames := sn, subclasses := sub, abstract := ab, collection := col, hasDel := false } := by
    unfold PySem.W.clsIn
    rw [gC] <;> rfl
  show _root_.PySem.wpAt _ _ _ (execs [.Assign [.Attribute (.Name slf q1) fld q2] (.Name vn q3) q4] _) _ _ _
  refine ks_wpAt_execs_cons (ks_wpAt_Assign_Attr (wpAt_of_wpAny (ESX.ldL ns2 hvV (ESX.ldL ns2 hvS ?_ T.kind T.ka hdS) T.kind kv hdV)) (hw2 _))
  refine PySem.W.set_plain X2 (ox := PySem.HandSPX.excO C t2) (od := none) ⟨g2, rfl, rfl, trivial⟩ Y.sa ?_
  refine own_osa SB ht X2 g2 gcl rfl rfl no fun h3 tk3 dx k3 far nx hx hn => ?_
  refine wpAt_of_wpAny (wpAny_execs_nil ?_)
  refine go h3 t2 tk3 dx (fun b o n z => k3 b o n (k2 b o n (k0 b o z))) (Nat.le_trans ?_ far) nx hx hn
  exact Nat.le_of_lt ns2.lt
end
end DL
set_option maxHeartbeats 4000000
/-! DLMk: an own error with one field, made by C(e) and raised. -/
namespace DL
open PySem PySem.Spec PyProof.Rows L2
section
variable {P : Program} {w : World} {fs : List Addr} {H : Hp} {hp h1 : Heap} {a C dx t1 : Addr} {f : Str} {y : V} {u : Value}
/-- what is told of the heap behind the first store into a new error -/
theorem own_stored (ok : HOk P w H hp) (e : H a = some (exo a C none)) (k : ∀ b o, b ≠ a → hp.get? b = some o → h1.get? b = some o) (far : hp.objs.size ≤ dx) (ne : dx ≠ a)
    (hx : h1.get? a = some ({ cls := .ref C, dict := some dx, data := .fields #[.ref t1, .none, .none, .none, .bool false, .none] } : Obj)) (hn : h1.Ns1 dx fun z => if z = f then some u else none) (ry : RelV y u) :
    Un fs [] H (upd (upd H dx (exd dx [(f, y)])) a (exo a C (some dx))) hp h1 ∧ HOk P w (upd (upd H dx (exd dx [(f, y)])) a (exo a C (some dx))) h1 := by
  have nd : H dx = none := ok.fresh far
  have old_ne : ∀ {b : Addr} {o : Obj}, hp.get? b = some o → b ≠ dx := fun {b o} q => Nat.ne_of_lt (Nat.lt_of_lt_of_le (Heap.lt_size q) far)
  have not_a : ∀ {b : Addr}, H b = none → b ≠ a := fun {b} n z => by
    subst z
    rw [e] at n
    cases n
  refine ⟨⟨fun b o z n _ _ => k b o (not_a n) z, fun b o z n _ _ => ⟨o.slots, k b o (not_a n) z⟩, fun b o z n _ => ?_, fun b o z _ => ?_, fun b xs z => ?_, fun b o v z => ?_, fun b ps z => ⟨#[], ?_⟩⟩, fun b o z => ?_⟩
  · rw [upd_ne (not_a n), upd_ne (old_ne z), n]
  · by_cases hb : b = a
    · subst hb; exact ⟨_, hx⟩
    · exact ⟨o, k b o hb z⟩
  · rw [upd_ne (at_ne e z exo_tup), upd_ne (ne_of_none z nd), z]
  · rw [upd_ne (at_ne e z exo_frz), upd_ne (ne_of_none z nd), z]
  · rw [upd_ne (at_ne e z exo_tbl), upd_ne (ne_of_none z nd), z]
    simp
  · by_cases hb : b = a
    · subst hb
      rw [upd_same] at z
      cases z
      exact exo_ok hx
    rw [upd_ne hb] at z
    by_cases hd : b = dx
    · subst hd
      rw [upd_same] at z
      cases z
      exact exd_ok hn (relO_put (fs := []) ry fun g => True.intro)
    rw [upd_ne hd] at z
    refine (ok b o z).stay (fun c v hc w => k c v ?_ w) (fun c hc => ?_) fun c xs hc => ?_
    · rcases hc with hc | hc
      · subst hc; exact hb
      · exact at_ne e hc exo_own
    · rw [upd_ne (at_ne e hc exo_own), upd_ne (ne_of_none hc nd), hc]
    · rw [upd_ne (at_ne e hc exo_tup), upd_ne (ne_of_none hc nd), hc]
end
/-- what the written part says of the class x at C: its __init__ at f runs so from any new instance -/
structure IniC (prog : Program) (w : World) (K : PySem.W.Frag) (mg : Str → Option Value) (x : Str) (C f : Addr) (fld : Str) (B i newId : String) (tail : List Value) : Prop where
  own : OwnC K C newId tail
  gC : mg x = some (.ref C)
  iC : PySem.W.findIn K (.ref C) "__init__" = some (some (.ref f))
  tI : PySem.W.typeIn K (.ref f) = some (.type "function")
  base : ExcBaseFacts B newId i tail
  run : ∀ {A : Around} {base : Heap} {s : Shared} {a t0 : Addr} {u : Value} {R : Result → Shared → Prop}, A.depth < recursionLimit → L2.Mod K mg base → (∀ b o, base.get? b = some o → s.heap.get? b = some o) → base.get? a = none → s.heap.get? a = some (PySem.HandSPX.excO C t0) →
    (∀ h2 t2 tk dx, (∀ b o, b ≠ a → s.heap.get? b = some o → h2.get? b = some o) → s.heap.objs.size ≤ dx → dx ≠ a → h2.get? a = some { cls := .ref C, dict := some dx, data := .fields #[.ref t2, .none, .none, .none, .bool false, .none] } →
      h2.Ns1 dx (fun y => if y = fld then some u else none) → R (.ok (.ret .none)) ⟨h2, s.gens, s.drawn, tk, s.os⟩) →
    codeAny (model prog w) A (.call (.ref f) ⟨[.ref a, u], []⟩) R s
section
variable {X : Cx} {x : Str} {C f : Addr} {fld : Str} {B i newId : String} {tail : List Value} {e : Expr} {te : TE} {p pos : Pos} {k : Nat}
theorem pmk_ini (T : IniC X.prog X.w X.K X.mg x C f fld B i newId tail) (hr : Room (k + 1) X.A) (hg : Gl X x) (ha : PE X e te) (hdb : (x == ("__debug__" : Str)) = false := by decide) (he : starEach [e] X.env = (false, eval e X.env) :: starEach [] X.env := by rfl) :
    PMk X (.Call (.Name x p) [e] [] pos) (fun σ H Q => te σ H fun v H1 => ∀ d, H1 d = none → Q (.ref C) (some d) (upd H1 d (.xd [(fld, v)]))) := by
  intro pins s σ H Q I h
  obtain ⟨nm, qn, N, bs, sn, sub, ab, col, dd, k0, k1, k2, k3, k5, hC⟩ := T.own.cls
  refine wpAny_Call_Name_kw (ld_glob I hg T.gC ?_ hdb)
  refine PySem.W.callWith_K (h₀ := X.base) I.ok.mod.kin T.own.kC ?_ he (by rfl)
  rw [he]
  show wpAny _ _ (spliced ((false, eval e X.env) :: backTo pos (starEach [] X.env))) _ _ s
  refine Calls.spliced_cons (thn (ha.run pins s σ H _ I h) fun u s1 ⟨v, H1, I1, rv, q1⟩ => Calls.spliced_nil ⟨I1.kIn, ?_⟩)
  show wpAny _ _ (call (.ref C) [u]) _ _ _
  obtain ⟨hp, g, dr, tk, os⟩ := s1
  have hsz : hp.objs.size ≤ hp.objs.size + 1 := Nat.le_succ _
  have kk : ∀ b o, hp.get? b = some o → ((hp.push (PySem.W.kdv_tup [u])).push (PySem.HandSPX.excO C hp.objs.size)).get? b = some o := fun b o e => Heap.get?_push_of_some _ (Heap.get?_push_of_some _ e)
  have hget : ((hp.push (PySem.W.kdv_tup [u])).push (PySem.HandSPX.excO C hp.objs.size)).get? (hp.objs.size + 1) = some (PySem.HandSPX.excO C hp.objs.size) := by heap_get
  have I2 : Inv X pins σ (upd H1 (hp.objs.size + 1) (exo (hp.objs.size + 1) C none)) ⟨(hp.push (PySem.W.kdv_tup [u])).push (PySem.HandSPX.excO C hp.objs.size), g, dr, tk, os⟩ :=
    I1.laid (t' := tk) (a := hp.objs.size + 1) (o := exo (hp.objs.size + 1) C none) (h' := (hp.push (PySem.W.kdv_tup [u])).push (PySem.HandSPX.excO C hp.objs.size)) kk hsz (exo_ok hget)
  have hn : H1 (hp.objs.size + 1) = none := I1.hok.fresh hsz
  have nb : X.base.get? (hp.objs.size + 1) = none := by
    cases z : X.base.get? (hp.objs.size + 1) with
    | none => rfl
    | some o =>
      have lt : hp.objs.size + 1 < hp.objs.size := Heap.lt_size (I1.bk _ _ z)
      omega
  refine wpAny_call (PySem.HandSPX.call_own T.base (fun Y => rfl) (I1.kIn _ _ hC) (PySem.W.looks_findIn I1.kIn T.iC) (fun self => PySem.W.bind_fn I1.kIn self T.tI) (by show 1 ≤ sizeLine; rw [sizeLine_eq]; omega)
    (T.run (hr.make C [u] []).depth I1.ok.mod (fun b o z => kk b o (I1.bk b o z)) nb hget fun h2 t2 tk2 dx k2 far ne hx hns => ?_))
  have J := own_stored (fs := frs X.stack) I2.hok upd_same k2 far ne hx hns rv
  have nd2 := I2.hok.fresh far
  have nd : H1 dx = none := by
    rw [upd_ne ne] at nd2
    exact nd2
  refine ⟨rfl, mk_end (fs := [(fld, v)]) (raises_own T.own.exC T.own.tyC) I1 hsz kk J.1 J.2 rfl I1.bare upd_same ?_ nd ?_⟩
  · rw [upd_ne ne, upd_same]
  · have eq : upd (del (upd (upd (upd H1 (hp.objs.size + 1) (exo (hp.objs.size + 1) C none)) dx (exd dx [(fld, v)])) (hp.objs.size + 1) (exo (hp.objs.size + 1) C (some dx))) (hp.objs.size + 1)) dx (.xd [(fld, v)]) = upd H1 dx (.xd [(fld, v)]) := by
      funext b
      by_cases hb : b = dx
      · rw [hb, upd_same, upd_same]
      · rw [upd_ne hb, upd_ne hb]
        by_cases hb2 : b = hp.objs.size + 1
        · rw [hb2, del_same, hn]
        · rw [del_ne hb2, upd_ne hb2, upd_ne hb, upd_ne hb2]
    rw [eq]
    exact q1 dx nd
end
def mRaise1 (cls fld : Str) (me : ME D) : MS := fun ρ S => (me ρ S).bind fun d S' => .err ⟨cls, [(fld, d)]⟩ S'
section
variable [HasT] {X : Cx}
theorem ds_raise1 {W : WX} {x : Str} {C f : Addr} {fld : Str} {B i newId : String} {tail : List Value} {e : Expr} {me : ME D} {p p3 p4 : Pos} {k : Nat} (tk : Takes X W) (T : IniC X.prog X.w X.K X.mg x C f fld B i newId tail) (hr : Room (k + 1) X.A) (he : DE X W e me)
    (hg : Gl X x := by rfl) (hc : X.calm = true := by rfl) (hdb : (x == ("__debug__" : Str)) = false := by decide) (hs : starEach [e] X.env = (false, eval e X.env) :: starEach [] X.env := by rfl) :
    DS X W (.Raise (some (.Call (.Name x p) [e] [] p3)) none p4) (mRaise1 x fld me) :=
  PS.imp (ps_raise hc tk (pmk_ini T hr hg he hdb hs)) fun E σ H t => by
    obtain ⟨ρ, S, ι, F, a, t⟩ := t
    refine DL.T.firstS a t fun d S1 F1 ι1 H1 v n a1 r t1 => fun dx hdx => ?_
    have new : ∀ b o, H1 b = some o → upd H1 dx (.xd [(fld, v)]) b = some o := fun b o z => by rw [upd_ne (ne_of_none z hdx), z]
    have nx := Nxt.ext a1.r (H1 := upd H1 dx (.xd [(fld, v)])) (fun b o z _ => new b o z) (fun b o z => ⟨o, new b o z⟩) (a1.r.tb.ext fun b o z => new b o z)
    exact t1 F1 ι1 _ _ _ nx ⟨C, T.gC, rfl, dx, [(fld, v)], rfl, upd_same, v, [], rfl, nx.d r, rfl⟩ σ
end
end DL
set_option maxHeartbeats 4000000
/-! DLRepr: repr of a list of data. -/
namespace DL
open PySem PySem.Spec PyProof.Rows L2
mutual
def toPD : P → Option PyData
  | .non => some .none
  | .bl b => some (.bool b)
  | .int i => some (.int i)
  | .str s => some (.str s)
  | .tup xs => (toPDs xs).map .tuple
  | .lst xs => (toPDs xs).map .list
  | .dic kvs => if kvs.isEmpty then some (.dict []) else none
  | _ => none
def toPDs : List P → Option (List PyData)
  | [] => some []
  | x :: xs => match toPD x, toPDs xs with
    | some y, some ys => some (y :: ys)
    | _, _ => none
end
def fReprL : FL := fun ds S => match ds with
  | [.p (.lst (x :: xs))] => (match toPDs (x :: xs) with
    | some ps => if (PyData.list ps).showable && (decide (PyData.depthAll ps ≤ 50) && decide ((PyData.list ps).shown.length ≤ sizeLine)) then some (.p (.str (PyData.list ps).shown), S) else none
    | none => none)
  | _ => none
variable [HasT]
section
variable {X : Cx} {pins : List (Addr × Obj)} {σ : L2.St} {H : Hp} {s : Shared} {F : Addr → Prop}
/-- a value that reads as d, and shows so -/
def Sho (prog : Program) (w : World) (h : Heap) (d : PyData) (u : Value) : Prop :=
  (∃ as, Reads h u d as) ∧ (d.showable = true → d.shown.length ≤ sizeLine → ∃ bs, ReadAtMost h d.depth bs ∧ ReprK prog w bs h d.depth u d.shown)
def Shos (prog : Program) (w : World) (h : Heap) (ds : List PyData) (us : List Value) : Prop :=
  (∃ as, ReadsAll h us ds as) ∧ (PyData.showableAll ds = true → (∀ t ∈ PyData.shownAll ds, t.length ≤ sizeLine) → ∃ bs, ReadAtMost h (PyData.depthAll ds) bs ∧ ReprAllK prog w bs h (PyData.depthAll ds) us (PyData.shownAll ds))
theorem sho_is {prog : Program} {w : World} {h : Heap} {d : PyData} {u : Value} (r : Reads h u d []) (k : d.showable = true → d.shown.length ≤ sizeLine → ReprIs prog w u d.shown) : Sho prog w h d u :=
  ⟨⟨_, r⟩, fun a b => ⟨[], (fun _ z => nomatch z), .of_is (k a b) _ _ _⟩⟩
theorem sho_lst {prog : Program} {w : World} {h : Heap} {a : Addr} {o : Obj} {us : List Value} {n : Nat} {ds : List PyData} (e1 : h.get? a = some o) (e2 : o.cls = .type "list") (e3 : o.data = .seq us.toArray n) (S : Shos prog w h ds us) : Sho prog w h (.list ds) (.ref a) := by
  obtain ⟨⟨as, ra⟩, k⟩ := S
  have r : Reads h (.ref a) (.list ds) (a :: as) := .list e1 e2 e3 (by simpa using ra)
  refine ⟨⟨_, r⟩, fun b z => ?_⟩
  simp only [PyData.shown] at z
  obtain ⟨bs, hb, hk⟩ := k (by simpa [PyData.showable] using b) fun t ht => Nat.le_trans (listText_mem_le ht) z
  have off : a ∉ bs := not_mem_of_deeper r (by simp only [PyData.depth]; omega) hb
  refine ⟨a :: bs, ReadAtMost.cons r (by simp only [PyData.depth]; omega) hb, ?_⟩
  simp only [PyData.shown, PyData.depth]
  cases us with
  | nil =>
    cases ra
    simp only [PyData.shownAll, listText_nil]
    exact ReprK.listEmpty e1 e2 e3
  | cons u us => exact ReprK.list e1 e2 e3 off (by simpa using hk.length_eq) fun i y q => hk.item i y (by simpa using q)
theorem sho_tup {prog : Program} {w : World} {h : Heap} {a : Addr} {o : Obj} {us : List Value} {n : Nat} {ds : List PyData} (e1 : h.get? a = some o) (e2 : o.cls = .type "tuple") (e3 : o.data = .seq us.toArray n) (S : Shos prog w h ds us) : Sho prog w h (.tuple ds) (.ref a) := by
  obtain ⟨⟨as, ra⟩, k⟩ := S
  have r : Reads h (.ref a) (.tuple ds) as := .tuple e1 e2 e3 (by simpa using ra)
  refine ⟨⟨_, r⟩, fun b z => ?_⟩
  simp only [PyData.shown] at z
  obtain ⟨bs, hb, hk⟩ := k (by simpa [PyData.showable] using b) fun t ht => Nat.le_trans (tupleText_mem_le ht) z
  have off : a ∉ bs := not_mem_of_deeper r (by simp only [PyData.depth]; omega) hb
  refine ⟨a :: bs, ReadAtMost.cons r (by simp only [PyData.depth]; omega) hb, ?_⟩
  simp only [PyData.shown, PyData.depth]
  exact ReprK.tuple e1 e2 e3 off (by simpa using hk)
theorem sho_dic0 {prog : Program} {w : World} {h : Heap} {a : Addr} {o : Obj} {es : Array DictEntry} {n : Nat} (e1 : h.get? a = some o) (e2 : o.cls = .type "dict") (e3 : o.data = .dict es n) (z : es.toList = []) (ne : (a == sysModules) = false) : Sho prog w h (.dict []) (.ref a) := by
  have r : Reads h (.ref a) (.dict []) (a :: [] ++ []) := .dict e1 e2 e3 (by rw [z]; exact .nil) (by rw [z]; exact .nil)
  refine ⟨⟨_, r⟩, fun _ _ => ⟨[a], ReadAtMost.cons (n := 0) r (Nat.zero_le _) (fun _ q => nomatch q), ?_⟩⟩
  simp only [PyData.shown, PyData.shownKv, PyData.depth, PyData.depthKv]
  exact ReprK.dict (as := []) e1 e2 e3 ne (by simp) (by rw [z]; exact .nil)
mutual
theorem relP_sho (I : Inv X pins σ H s) : ∀ {x : P} {d : PyData} {v : V} {u : Value}, toPD x = some d → RelP (gb X) F H x v → RelV v u → Sho X.prog X.w s.heap d u
  | .non, _, _, _, e, r, rv => by
    simp only [RelP] at r
    simp only [toPD, Option.some.injEq] at e
    subst r e
    obtain rfl := rv
    exact sho_is .none fun _ _ => by simp only [PyData.shown]; exact ReprIs.none
  | .bl b, _, _, _, e, r, rv => by
    simp only [RelP] at r
    simp only [toPD, Option.some.injEq] at e
    subst r e
    obtain rfl := rv
    exact sho_is (.bool b) fun _ _ => by simp only [PyData.shown]; exact ReprIs.bool b
  | .int i, _, _, _, e, r, rv => by
    simp only [RelP] at r
    simp only [toPD, Option.some.injEq] at e
    subst r e
    obtain ⟨t, rfl⟩ := rv
    exact sho_is (.int i t) fun a _ => by simp only [PyData.shown]; exact ReprIs.int t (by simpa [PyData.showable] using a)
  | .str i, _, _, _, e, r, rv => by
    simp only [RelP] at r
    simp only [toPD, Option.some.injEq] at e
    subst r e
    obtain ⟨t, rfl⟩ := rv
    exact sho_is (.str i t) fun _ a => by simp only [PyData.shown]; exact ReprIs.str i t (by simpa only [PyData.shown] using a)
  | .tup xs, _, _, _, e, r, rv => by
    simp only [RelP] at r
    simp only [toPD, Option.map_eq_some_iff] at e
    obtain ⟨a, vs, rfl, q, rs⟩ := r
    obtain ⟨ds, ed, rfl⟩ := e
    obtain rfl := rv
    obtain ⟨its, ri, ⟨o, g1, g2, n, g3⟩, _⟩ := I.tuple (SqT.of q)
    exact sho_tup g1 g2 g3 (relPs_sho I ed rs ri)
  | .lst xs, _, _, _, e, r, rv => by
    simp only [RelP] at r
    simp only [toPD, Option.map_eq_some_iff] at e
    obtain ⟨a, vs, rfl, _, q, rs⟩ := r
    obtain ⟨ds, ed, rfl⟩ := e
    obtain rfl := rv
    obtain ⟨its, ri, ⟨o, n, g1, g2, _, g3⟩, _⟩ := I.list (xs := vs) (.inl (.inl q))
    exact sho_lst g1 g2 g3 (relPs_sho I ed rs ri)
  | .dic kvs, _, _, _, e, r, rv => by
    simp only [RelP] at r
    simp only [toPD] at e
    obtain ⟨a, fvs, rfl, _, q, rs⟩ := r
    cases kvs with
    | cons k kvs => simp at e
    | nil =>
      simp only [List.isEmpty_nil, if_true, Option.some.injEq] at e
      subst e
      simp only [RelPk] at rs
      subst rs
      obtain rfl := rv
      obtain ⟨_, ne, vs, kv, o, es, ep, g1, g2, g3, _, g5, _⟩ := dk_of I.hok q
      cases kv
      refine sho_dic0 g1 g2.1 g3 ?_ ne
      cases h : es.toList with
      | nil => rfl
      | cons y ys =>
        rw [h] at g5
        cases g5
  | .scr _, _, _, _, e, _, _ => by simp [toPD] at e
  | .ins _ _, _, _, _, e, _, _ => by simp [toPD] at e
  | .glo _, _, _, _, e, _, _ => by simp [toPD] at e
  | .ty _, _, _, _, e, _, _ => by simp [toPD] at e
theorem relPs_sho (I : Inv X pins σ H s) : ∀ {xs : List P} {ds : List PyData} {vs : List V} {us : List Value}, toPDs xs = some ds → RelPs (gb X) F H xs vs → Vals vs us → Shos X.prog X.w s.heap ds us
  | [], _, _, _, e, r, rv => by
    simp only [RelPs] at r
    simp only [toPDs, Option.some.injEq] at e
    subst r e
    cases rv
    exact ⟨⟨_, .nil⟩, fun _ _ => ⟨[], (fun _ z => nomatch z), by simp only [PyData.shownAll]; exact .nil⟩⟩
  | x :: xs, _, _, _, e, r, rv => by
    simp only [RelPs] at r
    obtain ⟨v, ws, rfl, r1, r2⟩ := r
    cases rv with
    | cons v1 v2 =>
      cases ex : toPD x with
      | none => simp [toPDs, ex] at e
      | some d => cases exs : toPDs xs with
        | none => simp [toPDs, ex, exs] at e
        | some ds =>
          simp only [toPDs, ex, exs, Option.some.injEq] at e
          subst e
          obtain ⟨⟨a1, q1⟩, k1⟩ := relP_sho I ex r1 v1
          obtain ⟨⟨a2, q2⟩, k2⟩ := relPs_sho I exs r2 v2
          refine ⟨⟨_, .cons q1 q2⟩, fun sh sz => ?_⟩
          have sh' : d.showable = true ∧ PyData.showableAll ds = true := by simpa [PyData.showableAll] using sh
          simp only [PyData.shownAll, List.mem_cons, forall_eq_or_imp] at sz
          obtain ⟨b1, m1, z1⟩ := k1 sh'.1 sz.1
          obtain ⟨b2, m2, z2⟩ := k2 sh'.2 sz.2
          refine ⟨b1 ++ b2, ?_, ?_⟩
          · simp only [PyData.depthAll]
            exact (m1.mono (Nat.le_max_left _ _)).append (m2.mono (Nat.le_max_right _ _))
          · simp only [PyData.depthAll, PyData.shownAll]
            exact .cons ((z1.more fun b q => List.mem_append_left _ q).level_le (Nat.le_max_left _ _)) (z2.more_le (fun b q => List.mem_append_right _ q) (Nat.le_max_right _ _))
end
theorem cd_reprL (gd : X.A.guards = some []) (hu : X.A.units + 65 < cLine) : CallD X (.builtin "repr") fReprL := by
  refine ⟨fun xs H Q => ∃ (F : Addr → Prop) (x : P) (ps : List P) (ds : List PyData) (v : V), xs = [v] ∧ RelP (gb X) F H (.lst (x :: ps)) v ∧ toPDs (x :: ps) = some ds ∧ (PyData.list ds).showable = true ∧ PyData.depthAll ds ≤ 50 ∧ (PyData.list ds).shown.length ≤ sizeLine ∧ Q (.str (PyData.list ds).shown) H, ?_, ?_⟩
  · intro pins s σ H xs us Q I r h
    obtain ⟨F, x, ps, ds, v, rfl, rp, ed, sh, dp, sz, q⟩ := h
    simp only [RelP] at rp
    obtain ⟨a, vs, rfl, _, qa, rs⟩ := rp
    cases r with
    | cons ra rn =>
      cases rn
      obtain rfl := ra
      obtain ⟨its, ri, ⟨o, n, g1, g2, _, g3⟩, _⟩ := I.list (xs := vs) (.inl (.inl qa))
      have S := relPs_sho I ed rs ri
      simp only [PyData.shown] at sz q
      obtain ⟨bs, hb, hk⟩ := S.2 (by simpa [PyData.showable] using sh) fun t ht => Nat.le_trans (listText_mem_le ht) sz
      obtain ⟨as, ra⟩ := S.1
      have off : a ∉ bs := not_mem_of_deeper (.list g1 g2 g3 (by simpa using ra) : Reads s.heap (.ref a) (.list ds) _) (by simp only [PyData.depth]; omega) hb
      cases its with
      | nil =>
        cases ri
        simp only [RelPs] at rs
        obtain ⟨_, _, z, _⟩ := rs
        cases z
      | cons u us =>
        refine call_repr_slot (by omega) ⟨o, g1, g2⟩ PySem.F.slot_list_repr.toG (call_list_reprK (h₀ := s.heap) g1 g2 g3 off (by simpa using hk.length_eq) (fun i y q => hk.item i y (by simpa using q)) (g := []) gd (fun b _ => Clear.nil b) (by show X.A.units + 1 + (_ + 1) < cLine; omega) (fun _ _ e => e) (fun h' t tk k => ⟨_, _, rfl, .str _, H, ?_, ⟨t, rfl⟩, q⟩) sz)
        exact I.kept (t' := tk) k
  · intro F ι S S' H ds d' vs Q rs r e q
    unfold fReprL at e
    split at e
    · rename_i x xs
      split at e
      · rename_i ps hp
        split at e
        · rename_i hc
          cases e
          simp only [Bool.and_eq_true, decide_eq_true_eq] at hc
          obtain ⟨v, rfl, r1⟩ := relDs1 r
          exact ⟨F, x, xs, ps, v, rfl, by simpa only [RelD] using r1, hp, hc.1, hc.2.1, hc.2.2, q F ι H _ (Nxt.refl rs) mkStr⟩
        · cases e
      · cases e
    · cases e
/-- repr of True, of False -/
def fReprB : FL := fun ds S => match ds with
  | [.p (.bl b)] => some (.p (.str (if b then "True" else "False")), S)
  | _ => none
theorem cd_reprB : CallD X (.builtin "repr") fReprB := by
  refine ⟨fun xs H Q => ∃ b, xs = [.bl b] ∧ Q (.str (if b then "True" else "False")) H, ?_, ?_⟩
  · intro pins s σ H xs us Q I r h
    obtain ⟨b, rfl, q⟩ := h
    cases r with
    | cons ra rn =>
      cases rn
      obtain rfl := ra
      exact PySem.P.repr_of_bool ⟨.str _, H, I.tok _, ⟨_, rfl⟩, q⟩
  · intro F ι S S' H ds d' vs Q rs r e q
    unfold fReprB at e
    split at e
    · rename_i b
      cases e
      obtain ⟨v, rfl, r1⟩ := relDs1 r
      cases relBl r1
      exact ⟨b, rfl, q F ι H _ (Nxt.refl rs) mkStr⟩
    · cases e
def fRepr : FL := fun x S => match fReprB x S with
  | some z => some z
  | none => fReprL x S
theorem cd_repr (gd : X.A.guards = some []) (hu : X.A.units + 65 < cLine) : CallD X (.builtin "repr") fRepr := cd_reprB.or (cd_reprL gd hu)
/-- == of two texts -/
def fEqS : F2 := fun x y S => match x, y with
  | .p (.str a), .p (.str b) => some (.p (.bl (decide (a = b))), S)
  | _, _ => none
def fNeS : F2 := fun x y S => match x, y with
  | .p (.str a), .p (.str b) => some (.p (.bl (!decide (a = b))), S)
  | _, _ => none
theorem str_inj {a b : Str} : decide (V.str a = V.str b) = decide (a = b) := by
  by_cases h : a = b
  · subst h; simp
  · rw [decide_eq_false h, decide_eq_false fun z => h (by cases z; rfl)]
theorem od_eqS : OpD X (compareOp .Eq) fEqS := ⟨_, op_eq, fun {F ι S S' H d1 d2 d' v1 v2 Q} rs r1 r2 e q => by
  unfold fEqS at e
  split at e
  · rename_i a b
    cases e
    cases relStr r1
    cases relStr r2
    exact ⟨rfl, by rw [str_inj]; exact q F ι H _ (Nxt.refl rs) mkBl⟩
  · cases e⟩
theorem od_neS : OpD X (compareOp .NotEq) fNeS := ⟨_, op_ne, fun {F ι S S' H d1 d2 d' v1 v2 Q} rs r1 r2 e q => by
  unfold fNeS at e
  split at e
  · rename_i a b
    cases e
    cases relStr r1
    cases relStr r2
    exact ⟨rfl, by rw [str_inj]; exact q F ι H _ (Nxt.refl rs) mkBl⟩
  · cases e⟩
end
end DL
set_option maxHeartbeats 4000000
/-! DLCls: the clauses of a def that tells errors as lists. -/
namespace DL
open PySem PySem.Spec PyProof.Rows L2
section
variable [HasT] {X : Cx} {CH : Str → Addr} {sl : Nat} {hs : List ExceptHandler} {l : List Hd} {p1 p2 q1 q2 q3 : Pos} {x txt : Str} {j1 : Nat}
theorem cl_plain (hg : Gl X x) (hm : X.mg x = some (.ref (CH x))) (hd : (x == ("__debug__" : Str)) = false) (r : ClsOk X hs (l.map (clOf CH sl)))
    (hs0 : ∀ a pn, starEach [.Constant (.str txt) j1 q1] (X.suite a pn).env = (false, eval (.Constant (.str txt) j1 q1) (X.suite a pn).env) :: starEach [] (X.suite a pn).env := by intros; rfl) :
    ClsOk X (.ExceptHandler (some (.Name x p1)) none [.Return (some (.List [.Constant (.str txt) j1 q1] q2)) q3] p2 :: hs) ((⟨x, txt, none⟩ :: l).map (clOf CH sl)) := by
  refine ClsOk.plain (c := .ref (CH x)) (ts := fun a cls d D σ H => ∀ l, H l = none → D.rt (.ref l) (upd H l (.lst [.str txt]))) ⟨hg, hd, .inl hm⟩ (fun a o cls d pn hz hf => ?_) r
  refine pss_one (PS.imp (ps_ret (pe_lst (pa_cons pe_str pa_nil (hs0 _ _)))) fun D σ H q => ?_)
  refine ⟨?_, fun p hp => q p hp⟩
  show 1 ≤ sizeLine
  rw [sizeLine_eq]
  omega
theorem cl_fld {y f : Str} {q4 q5 : Pos} (hg : Gl X x) (hm : X.mg x = some (.ref (CH x))) (hd : (x == ("__debug__" : Str)) = false) (T : XfC X.K (CH x)) (hno : PySem.W.findIn X.K (.ref (CH x)) f = some none) (hy : X.N[sl]? = some y) (lo : X.env.kindOf y = some .local)
    (hdy : (y == ("__debug__" : Str)) = false) (hcy : (y == ("__classdict__" : Str)) = false) (r : ClsOk X hs (l.map (clOf CH sl)))
    (hvs : ∀ a pn, Vis (X.suite a pn).env.scope y) (hb : attributeBase (.Name y q4) f X.env (eval (.Name y q4) X.env) = eval (.Name y q4) X.env := by rfl)
    (hs0 : ∀ a pn, starEach [.Constant (.str txt) j1 q1, .Attribute (.Name y q4) f q5] (X.suite a pn).env = (false, eval (.Constant (.str txt) j1 q1) (X.suite a pn).env) :: starEach [.Attribute (.Name y q4) f q5] (X.suite a pn).env := by intros; rfl)
    (hs1 : ∀ a pn, starEach [.Attribute (.Name y q4) f q5] (X.suite a pn).env = (false, eval (.Attribute (.Name y q4) f q5) (X.suite a pn).env) :: starEach [] (X.suite a pn).env := by intros; rfl) :
    ClsOk X (.ExceptHandler (some (.Name x p1)) (some y) [.Return (some (.List [.Constant (.str txt) j1 q1, .Attribute (.Name y q4) f q5] q2)) q3] p2 :: hs) ((⟨x, txt, some f⟩ :: l).map (clOf CH sl)) := by
  refine ClsOk.named (c := .ref (CH x)) (i := sl) (ts := fun a cls d D σ H => σ[sl]? = some (some (.ref a)) ∧ cls = .ref (CH x) ∧ ∃ (dd : Addr) (fs : List (Str × V)) (v : V), d = some dd ∧ H dd = some (.xd fs) ∧ fs.lookup f = some v ∧ ∀ l, H l = none → D.rt (.ref l) (upd H l (.lst [.str txt, v])))
    ⟨hg, hd, .inl hm⟩ hy lo (fun a o cls d pn hz hf => ?_) r
  refine pss_one (PS.imp (ps_ret (pe_lst (pa_cons pe_str (pa_cons (pe_xf T hno hz hf (pe_var (i := sl) hy (hvs _ _) hdy hcy) hb) pa_nil (hs1 _ _)) (hs0 _ _)))) fun D σ H q => ?_)
  obtain ⟨h1, h2, dd, fs, v, h3, h4, h5, h6⟩ := q
  refine ⟨_, h1, rfl, h2, dd, fs, v, h3, h4, h5, ?_, fun p hp => h6 p hp⟩
  show 2 ≤ sizeLine
  rw [sizeLine_eq]
  omega
end
end DL
set_option maxHeartbeats 4000000
/-! DLOutc: the call x(lambda: e) of the def that tells errors; defs that make lambdas. -/
namespace DL
open PySem PySem.Spec PyProof.Rows L2 LamX
/-- the def x that makes lambdas: its code object at c, the table at P, its lambdas' name q -/
def LamT [HasT] (K : PySem.W.Frag) (mg : Str → Option Value) (base : Heap) (x q : Str) : Prop :=
  ∃ f c P, mg x = some (.ref f) ∧ (∀ oc od fd osl, K.lookup f = some ⟨oc, od, .func fd, osl⟩ → fd.code = .ref c) ∧ TabB base mg c P ∧ (P, q) ∈ HasT.T ∧ ∀ p ∈ HasT.T, p.1 = P → p.2 = q
section
variable [HasT]
theorem fn_mkDL {P : Program} {w : World} {K : PySem.W.Frag} {mg : Str → Option Value} {base : Heap} {x qual lq : Str} {params : Arguments} {body : List Stmt} {scope : Scope} {f : Addr} {fd : FuncData} {N ps : List Str} {k n m : Nat} {fin : Fin} {ms : MS}
    (hg : mg x = some (.ref f)) (Fd : FunD K x qual params body scope [] [] f fd) (S : FnScope N ps scope) (hn : ps.length = n) (hm : N.length = m) (fo : FinOk fin)
    (hbind : ∀ (kV doc pm : Value) (an : Option Addr) (cdv ct : Value) (us : List Value), us.length = ps.length → bindArgs (PySem.W.fnOf x qual params body scope .none kV doc pm an cdv ct) ⟨us, []⟩ = pure (ps.zip us))
    (L : LamT K mg base x lq)
    (hb : ∀ (c Pt : Addr) (A : Around) (outer : List PySem.Env) (s : Shared) (H : Hp) (E : XK), TabB base mg c Pt → (Pt, lq) ∈ HasT.T → (∀ p ∈ HasT.T, p.1 = Pt → p.2 = lq) → Room k (A.deeper (envOfC qual scope s.heap.objs.size f (.ref c))) → (A.deeper (envOfC qual scope s.heap.objs.size f (.ref c))).guards = some [] →
      DSs (cxOf (L2.CX P w) P w K mg base N qual scope f (.ref c) A outer s H E) (WfE E) body ms) :
    FnD P w K mg base x (k + 1) n (mFn m fin ms) := by
  refine ⟨f, fd, ps, hg, Fd.kp, Fd.bindsN hbind, hn, ?_⟩
  obtain ⟨f2, c, Pt, hg2, hc, TB, inT, one⟩ := L
  rw [hg] at hg2
  cases hg2
  obtain ⟨oc, od, dV, kV, doc, pm, an, cdv, ct, osl, rfl, lk, hcd, _, _⟩ := Fd.ex
  obtain rfl : cdv = .ref c := hc _ _ _ _ lk
  refine fnG_of lk hcd S (fun vs H Q E h => by rw [hn]; exact h.1) fun A outer s H vs Q E hr hgd h => ⟨_, hb c Pt A outer s H E TB inT one hr hgd, ?_⟩
  obtain ⟨hl, ds, St, ι, F, rs, rd, t⟩ := h
  have t1 := finR_then rs fo t
  refine ⟨env0 m ds, St, ι, F, ⟨?_, rs⟩, ?_⟩
  · unfold env0 L2.start
    rw [hm, relDs_len rd]
    exact relE_start _ rd
  · refine Then.wimp (W := E) ?_ fun c d H z _ => z
    refine (Then.bind' t1).mono fun o S1 F1 ι1 H1 n1 t2 => ?_
    cases o with
    | nx ρ => exact fun σ _ _ => (Then.later t2 n1).now n1.r .non (by simp only [RelD, RelP])
    | rt d => exact fun v rv => (Then.later t2 n1).now n1.r v rv
    | bk ρ => exact t2.elim
    | ct ρ => exact t2.elim
variable {X : Cx}
/-- what the def x that tells errors is: by its text, in any frame -/
structure OutD (K : PySem.W.Frag) (mg : Str → Option Value) (x a : Str) (Ng : List Str) (hs : List Hd) (CH : Str → Addr) (sl : Nat) (g : Addr) (pg : Arguments) (hd : ExceptHandler) (hds : List ExceptHandler) (sg : Scope) (p1 p2 p3 p4 : Pos) : Prop where
  hm : mg x = some (.ref g)
  fd : ∃ fd, FunD K x x pg [.Try [.Return (some (.Call (.Name a p1) [] [] p2)) p3] (hd :: hds) [] [] p4] sg [] [] g fd
  sc : FnScope Ng [a] sg
  n0 : Ng[0]? = some a
  va : Vis sg a
  slt : sl < Ng.length
  bnd : ∀ (kV doc pm : Value) (an : Option Addr) (cdv ct : Value) (us : List Value), us.length = 1 → bindArgs (PySem.W.fnOf x x pg [.Try [.Return (some (.Call (.Name a p1) [] [] p2)) p3] (hd :: hds) [] [] p4] sg .none kV doc pm an cdv ct) ⟨us, []⟩ = pure ([a].zip us)
  cl : ∀ (Y : Cx), Y.K = K → Y.mg = mg → Y.N = Ng → Y.env.scope = sg → ClsOk Y (hd :: hds) (hs.map (clOf CH sl))
  da : (a == ("__debug__" : Str)) = false
  ca : (a == ("__classdict__" : Str)) = false
  dx : (x == ("__debug__" : Str)) = false
def OutE (K : PySem.W.Frag) (mg : Str → Option Value) (x a : Str) (Ng : List Str) (hs : List Hd) (CH : Str → Addr) (sl : Nat) (pg : Arguments) (sg : Scope) : Prop :=
  ∃ g hd hds p1 p2 p3 p4, OutD K mg x a Ng hs CH sl g pg hd hds sg p1 p2 p3 p4
theorem de_outc {W : WX} {x a : Str} {Ng : List Str} {hs : List Hd} {CH : Str → Addr} {sl : Nat} {mt : Str → Str → Option Bool} {c P : Addr} {pg : Arguments} {sg : Scope} {p lpos pos : Pos} {k : Nat}
    {params : Arguments} {body : Expr} {scope : Scope} {me : ME D} (O : OutE X.K X.mg x a Ng hs CH sl pg sg)
    (hmt : ∀ c1 c2 b, mt c1 c2 = some b → X.mg c1 = some (.ref (CH c1)) ∧ PySem.W.exmOne X.K (.ref (CH c1)) (.ref (CH c2)) = some b)
    (TB : TabB X.base X.mg c P) (hmT : (P, X.env.qual ++ "<lambda>") ∈ HasT.T) (hu : ∀ p ∈ HasT.T, p.1 = P → p.2 = X.env.qual ++ "<lambda>") (hr : Room (k + 2) X.A) (hgd : X.A.guards = some [])
    (hbody : ∀ (E : XK) (A : Around) (outer : List PySem.Env) (s : Shared) (H : Hp) (f c2 : Addr), Room k (A.deeper (lamEnv X scope s.heap.objs.size f c2)) → (A.deeper (lamEnv X scope s.heap.objs.size f c2)).guards = some [] → DE (lamCx X A outer s H E scope f c2) (WfE E) body me)
    (L : LamS X.env.scope scope) (hg : Gl X x := by rfl) (hcode : X.env.code = .ref c := by rfl) (hdef : defaultsOf params X.env = ([], []) := by rfl)
    (bnd : ∀ (q : Str) (cl : List (Str × Addr)) (pm cv ctv : Value), bindArgs (PySem.W.kla_fn "<lambda>" q params body scope cl pm cv ctv) ⟨[], []⟩ = pure [] := by intros; rfl) :
    DE X W (.Call (.Name x p) [.Lambda params body scope lpos] [] pos) (mOut mt hs me) := by
  obtain ⟨g, hd, hds, p1, p2, p3, p4, O⟩ := O
  obtain ⟨fd, Fd⟩ := O.fd
  have hb : L2.Binds X.K fd [a] [] := Fd.bindsN (fun kV doc pm an cdv ct us hl => O.bnd kV doc pm an cdv ct us hl)
  obtain ⟨oc, od, dV, kV, doc, pm, an, cdv, ct, osl, rfl, lk, hcd, _, _⟩ := Fd.ex
  have tries := mix_tries (X := X) (Ng := Ng) (x := x) (a := a) (q := X.env.qual ++ "<lambda>") (sg := sg) (g := g) (cdg := cdv) (hd := hd) (hs := hds) (l := hs.map (clOf CH sl)) (p1 := p1) (p2 := p2) (p3 := p3) (p4 := p4) O.sc.nd (fun f => by
    have h := O.n0
    unfold L2.start
    rfl) (fun s H => O.cl _ rfl rfl rfl rfl)
  refine de_out (Ng := Ng) (CH := CH) (sl := sl) ?_ O.slt (Nat.lt_of_le_of_lt (Nat.zero_le _) O.slt) hmt
  exact pe_lamG (t := fun E => T ⟨X.K, X.mg⟩ (fun c d _ H => E c d H) me) hg O.hm Fd.kp lk hcd hb O.sc O.n0 O.va tries TB hcode hmT hu hr hgd L hdef bnd hbody O.dx O.da O.ca
end
end DL
set_option maxHeartbeats 4000000
/-! DLHook: what the head tells, with own errors' __init__ and tables of code objects. -/
namespace DL
open PySem PySem.Spec PyProof.Rows L2 He
/-- the __init__ of the class x (or the getter of its property), by its text -/
structure IniD where
  x : Str
  qual : Str
  params : Arguments
  body : List Stmt
  scope : Scope
  pr : Option Str
abbrev IniV : Type := Option (Str × Str × Arguments × FuncBody × Scope × Addr × Value × Value × Addr)
def iniA (K : PySem.W.Frag) (x : Str) : Addr := ma K (ga K x) "__init__"
def gtA (K : PySem.W.Frag) (x f : Str) : Addr := match PySem.W.recIn K (ma K (ga K x) f) "property" with
  | some (.ref g :: _) => g
  | _ => 0
def IniD.at_ (K : PySem.W.Frag) (d : IniD) : Addr := match d.pr with
  | none => iniA K d.x
  | some f => gtA K d.x f
def iniW (K : PySem.W.Frag) (d : IniD) : IniV := match K.lookup (d.at_ K) with
  | some ⟨_, _, .func fd, _⟩ => some (fd.name, fd.qualname, fd.params, fd.body, fd.scope, fd.globals, fd.defaults, fd.kwdefaults, fd.builtins)
  | _ => none
def IniD.val (d : IniD) : IniV := some (d.pr.getD "__init__", d.qual, d.params, .stmts d.body, d.scope, mainGlobals, .none, .none, builtinsNs)
/-- where the head looks -/
def seenAt (g : Addr → Option Obj) (n : Nat) : List Addr := cStatics :: asD g n
abbrev AlI : Type := AlX × List IniV
section
variable (n : Nat) (fa : List Fa) (fn : List DefD) (ts : List Tab) (tf : List Defn) (ex : PySem.W.Frag → Bool) (ins : List IniD)
def obsK (K : PySem.W.Frag) (g : Addr → Option Obj) : AlI := ((obsT fa fn ts K, ex K && tabsB g tf K), ins.map fun d => iniW K d)
def obsI (g : Addr → Option Obj) : AlI := obsK fa fn ts tf ex ins (frT g (seenAt g n)) g
def valI (w : World) : AlI := (valX fn ts w, ins.map IniD.val)
end
theorem says_at {as : List Addr} {fa : List Fa} {fn : List DefD} {ts : List Tab} {tf : List Defn} {ex : PySem.W.Frag → Bool} {w : World} {h : Heap} (e1 : obsT fa fn ts (frT h.get? as) = valT fn ts w) (e2 : (ex (frT h.get? as) && tabsB h.get? tf (frT h.get? as)) = true) :
    SaysX fa fn ts tf ex w h (frT h.get? as) := by
  obtain ⟨a1, a2⟩ := ba e2
  have one : ∀ p ∈ tf, PySem.W.codeHdIn (frT h.get? as) (cT (frT h.get? as) p).1 (cT (frT h.get? as) p).2 = true ∧ ∃ o, h.get? (cT (frT h.get? as) p).2 = some o ∧ emptyTab o = true := fun p hp => by
    obtain ⟨b1, b2⟩ := ba (List.all_eq_true.mp a2 p hp)
    refine ⟨b1, ?_⟩
    cases z : h.get? (cT (frT h.get? as) p).2 with
    | none => rw [z] at b2; cases b2
    | some o => rw [z] at b2; exact ⟨o, rfl, b2⟩
  refine ⟨e1, a1, fun p hp => (one p hp).1, fun p hp => ?_, fun p hp => ?_⟩
  · obtain ⟨_, o, z, y⟩ := one p hp
    exact frT_none z y
  · obtain ⟨_, o, z, y⟩ := one p hp
    rw [z, emptyTab_eq y]
def hookI (n : Nat) (fa : List Fa) (fn : List DefD) (ts : List Tab) (tf : List Defn) (ex : PySem.W.Frag → Bool) (ins : List IniD) : PySem.W.Hook where
  α := AlI
  obs := fun s => obsI n fa fn ts tf ex ins s.heap.get?
  val := fun w => valI fn ts ins w
  says := fun w h => ∃ K : PySem.W.Frag, K.In h ∧ SaysX fa fn ts tf ex w h K ∧ (ins.map fun d => iniW K d) = ins.map IniD.val
  of := fun _ _ e => ⟨_, frT_in, says_at (congrArg (fun z : AlI => z.1.1) e) (congrArg (fun z : AlI => z.1.2) e), congrArg (fun z : AlI => z.2) e⟩
  keeps := fun _ _ _ ⟨K, hK, c, i⟩ k => ⟨K, PySem.W.Frag.In.keeps hK k, ⟨c.t, c.more, c.hd, c.out, fun p hp => k _ _ (c.empty p hp)⟩, i⟩
theorem obsI_eq {n : Nat} {fa : List Fa} {fn : List DefD} {ts : List Tab} {tf : List Defn} {ex : PySem.W.Frag → Bool} {ins : List IniD} {g : Addr → Option Obj} {s : Shared} (h : ∀ a, g a = s.heap.get? a) : obsI n fa fn ts tf ex ins g = (hookI n fa fn ts tf ex ins).obs s := by
  have e : g = s.heap.get? := funext h
  rw [e] <;> rfl
/-! ### an own error's class with its __init__ -/
def ownB (K : PySem.W.Frag) (C : Addr) (newId : String) (tail : List Value) : Bool := match K.lookup C with
  | some ⟨.type "type", _, .cls cd, sl⟩ => (match cd.mro, sl.toList with
    | .ref C' :: bm, [_, _, _, _, some (.builtin n), _] => decide (C' = C) && (decide (n = newId) && (!cd.hasDel && (decide (bm = tail) && cd.hasDict)))
    | _, _ => false)
  | _ => false
theorem ownB_ok {K : PySem.W.Frag} {C : Addr} {newId : String} {tail : List Value} (q : ownB K C newId tail = true) : ∃ nm q N bs sn sub ab col dd k0 k1 k2 k3 k5, K.lookup C = some (excClassObj nm q C N bs tail true sn sub ab col dd k0 k1 k2 k3 k5 newId) := by
  unfold ownB at q
  split at q
  · rename_i dd cd sl ho
    split at q
    · rename_i C' bm k0 k1 k2 k3 n k5 em es
      simp only [Bool.and_eq_true, decide_eq_true_eq, Bool.not_eq_true'] at q
      obtain ⟨rfl, rfl, nd, rfl, hd⟩ := q
      obtain ⟨nm, bs, mro, ns, qn, hd', sn, sub, ab, col, del⟩ := cd
      dsimp only at em nd hd
      subst em nd hd
      have z : sl = #[k0, k1, k2, k3, some (.builtin n), k5] := by
        obtain ⟨l⟩ := sl
        simp only at es
        rw [es]
      subst z
      exact ⟨nm, qn, ns, bs, sn, sub, ab, col, dd, k0, k1, k2, k3, k5, ho⟩
    · cases q
  · cases q
/-- the code object and the cell of such an __init__ -/
def supB (file : Str) (K : PySem.W.Frag) (x qual : Str) : Bool := match K.lookup (iniA K x) with
  | some ⟨_, _, .func fd, _⟩ => (match fd.code, fd.closure with
    | .ref cda, [(n, cc)] => decide (n = ("__class__" : Str)) && (PySem.W.codeIn K (.ref cda) qual && ((match K.lookup cda with
      | some ⟨_, _, .fields vs, _⟩ => (match (vs[2]? : Option Value) with
        | some (.str f _) => file == f
        | _ => false)
      | _ => false) && (match K.lookup cc with
      | some ⟨_, _, .cell (some (.ref D)), _⟩ => decide (D = ga K x)
      | _ => false)))
    | _, _ => false)
  | _ => false
theorem supB_ok {file : Str} {K : PySem.W.Frag} {x qual : Str} {params : Arguments} {body : List Stmt} {scope : Scope} (v : iniW K ⟨x, qual, params, body, scope, none⟩ = IniD.val ⟨x, qual, params, body, scope, none⟩) (b : supB file K x qual = true) :
    ∃ oc od osl doc pm an cda ct cc, K.lookup (iniA K x) = some ⟨oc, od, .func (PySem.W.ksFn "__init__" qual params body scope .none .none doc pm an (.ref cda) ct cc), osl⟩ ∧ PySem.W.codeIn K (.ref cda) qual = true ∧
      (∃ ccl cdd vs ccs f tf, K.lookup cda = some ⟨ccl, cdd, .fields vs, ccs⟩ ∧ vs[2]? = some (.str f tf) ∧ (file == f) = true) ∧ ∃ cl cld csl, K.lookup cc = some ⟨cl, cld, .cell (some (.ref (ga K x))), csl⟩ := by
  unfold supB at b
  have v : (match K.lookup (iniA K x) with
    | some ⟨_, _, .func fd, _⟩ => some (fd.name, fd.qualname, fd.params, fd.body, fd.scope, fd.globals, fd.defaults, fd.kwdefaults, fd.builtins)
    | _ => none : IniV) = (some (("__init__" : Str), qual, params, FuncBody.stmts body, scope, mainGlobals, Value.none, Value.none, builtinsNs) : IniV) := v
  cases q : K.lookup (iniA K x) with
  | none => rw [q] at b; cases b
  | some o =>
    obtain ⟨oc, od, dt, osl⟩ := o
    rw [q] at b v
    cases dt with
    | func fd =>
      obtain ⟨n1, n2, n3, n4, n5, n6, n7, n8, n9, n10, n11, n12, n13, n14, n15⟩ := fd
      dsimp only at v b
      simp only [Option.some.injEq, Prod.mk.injEq] at v
      obtain ⟨h1, h2, h3, h4, h5, h6, h7, h8, h9⟩ := v
      subst h1 h2 h3 h4 h5 h6 h7 h8 h9
      split at b
      · rename_i cda n cc
        simp only [Bool.and_eq_true, decide_eq_true_eq] at b
        obtain ⟨rfl, b2, b3, b4⟩ := b
        refine ⟨oc, od, osl, n10, n11, n12, cda, n14, cc, rfl, b2, ?_, ?_⟩
        · split at b3
          · rename_i c1 c2 vs c3 e1
            split at b3
            · rename_i f tf e2
              exact ⟨c1, c2, vs, c3, f, tf, e1, e2, b3⟩
            · cases b3
          · cases b3
        · split at b4
          · rename_i c1 c2 D c3 e1
            simp only [decide_eq_true_eq] at b4
            subst b4
            exact ⟨c1, c2, c3, e1⟩
          · cases b4
      · cases b
    | _ => cases b
/-- all that K must tell of the class x -/
def iniB (file : Str) (K : PySem.W.Frag) (x qual fld : Str) (B i newId : String) (tail : List Value) : Bool :=
  ownB K (ga K x) newId tail && (eqO (PySem.W.findIn K (.ref (ga K x)) "__setattr__") (some (some (.builtin "object.__setattr__"))) && (decide (PySem.W.subIn K (.ref (ga K x)) (.type "BaseException") = some true) && (decide (PySem.W.typeIn K (.ref (ga K x)) = some (.type "type")) &&
    (PySem.W.keepIn K (.ref (ga K x)) && (eqO (PySem.W.findIn K (.ref (ga K x)) "__init__") (some (some (.ref (iniA K x)))) && (decide (PySem.W.typeIn K (.ref (iniA K x)) = some (.type "function")) && (supB file K x qual &&
      (eqO (PySem.W.findIn K (.ref (ga K x)) fld) (some none) && (eqO (PySem.W.alongIn K "__init__" tail) (some (some (.builtin i))) && (eqO (PySem.W.nsIn K cStatics "thirdparty.any") (some none) && decide (PySem.W.subIn K (.ref (ga K x)) (.type B) = some true)))))))))))
theorem iniC_of {P : Program} {w : World} {K : PySem.W.Frag} {mg : Str → Option Value} {x qual fld slf vn txt : Str} {B i newId setId on : String} {tail : List Value} {params : Arguments} {scope : Scope} {p0 p1 p2 p3 p4 p5 q1 q2 q3 q4 : Pos} {j : Nat} {pl : Sem Bool}
    (b : iniB P.main.file K x qual fld B i newId tail = true) (gx : mg x = some (.ref (ga K x))) (gs : mg "super" = none)
    (v : iniW K ⟨x, qual, params, [.Expr (.Call (.Attribute (.Call (.Name "super" p0) [] [] p1) "__init__" p2) [.Constant (.str txt) j p3] [] p4) p5, .Assign [.Attribute (.Name slf q1) fld q2] (.Name vn q3) q4], scope, none⟩ = IniD.val ⟨x, qual, params, [.Expr (.Call (.Attribute (.Call (.Name "super" p0) [] [] p1) "__init__" p2) [.Constant (.str txt) j p3] [] p4) p5, .Assign [.Attribute (.Name slf q1) fld q2] (.Name vn q3) q4], scope, none⟩)
    (FB : ExcBaseFacts B newId i tail) (SB : StoreFacts B tail setId on) (KF : PySem.W.KxsFacts B i) (ht : tail.contains (.type "object") = true)
    (par : ∃ ar, (params.posonlyargs ++ params.args).head? = some ar ∧ ar.arg = slf)
    (ks : scope.names.lookup ("super" : Str) = some .globalImplicit) (kc : scope.names.lookup ("__class__" : Str) = some .free) (ka : scope.names.lookup slf = some .local) (kv : scope.names.lookup vn = some .local) (kind : scope.kind = .function) (top : (P.main.scope.names.lookup ("super" : Str)).isSome = false)
    (ncell : ∀ y ∈ scope.names, y.2 ≠ .cell) (co : scope.isCoroutine = false) (gen : scope.isGenerator = false) (ne : (vn == slf) = false) (hdS : (slf == ("__debug__" : Str)) = false) (hdV : (vn == ("__debug__" : Str)) = false)
    (he : ∀ f cda cc L, eval (.Call (.Attribute (.Call (.Name "super" p0) [] [] p1) "__init__" p2) [.Constant (.str txt) j p3] [] p4) (PySem.W.ksEnv qual scope L f (.ref cda) cc) = (do
      let ov ← attributeBase (.Call (.Name "super" p0) [] [] p1) "__init__" (PySem.W.ksEnv qual scope L f (.ref cda) cc) (eval (.Call (.Name "super" p0) [] [] p1) (PySem.W.ksEnv qual scope L f (.ref cda) cc))
      standAt p2.atName
      let (fv, first) ← holding [ov] (getMethod ov "__init__" pl)
      callWith p4 fv first (backTo p4 (starEach [.Constant (.str txt) j p3] (PySem.W.ksEnv qual scope L f (.ref cda) cc))) []))
    (hi : ∀ f cda cc L, interactive (PySem.W.ksEnv qual scope L f (.ref cda) cc) = false)
    (hw : ∀ f cda cc L, swapsWith (.Call (.Attribute (.Call (.Name "super" p0) [] [] p1) "__init__" p2) [.Constant (.str txt) j p3] [] p4) none p5.line (PySem.W.ksEnv qual scope L f (.ref cda) cc) = pure false)
    (hw2 : ∀ f cda cc L, swapsWith (.Name vn q3) (some (.Attribute (.Name slf q1) fld q2)) q4.line (PySem.W.ksEnv qual scope L f (.ref cda) cc) = pure false)
    (bnd : ∀ (doc pm ct a u : Value) (an : Option Addr) (cda cc : Addr) (s : Shared), BindsTo s (PySem.W.ksFn "__init__" qual params [.Expr (.Call (.Attribute (.Call (.Name "super" p0) [] [] p1) "__init__" p2) [.Constant (.str txt) j p3] [] p4) p5, .Assign [.Attribute (.Name slf q1) fld q2] (.Name vn q3) q4] scope .none .none doc pm an (.ref cda) ct cc) ⟨[a, u], []⟩ [(slf, a), (vn, u)]) :
    IniC P w K mg x (ga K x) (iniA K x) fld B i newId tail := by
  unfold iniB at b
  obtain ⟨b1, b⟩ := ba b
  obtain ⟨b2, b⟩ := ba b
  obtain ⟨b3, b⟩ := ba b
  obtain ⟨b4, b⟩ := ba b
  obtain ⟨b5, b⟩ := ba b
  obtain ⟨b6, b⟩ := ba b
  obtain ⟨b7, b⟩ := ba b
  obtain ⟨b8, b⟩ := ba b
  obtain ⟨b9, b⟩ := ba b
  obtain ⟨b10, b⟩ := ba b
  obtain ⟨b11, b12⟩ := ba b
  have own : OwnC K (ga K x) newId tail := ⟨ownB_ok b1, eqO_ok b2, of_decide_eq_true b3, of_decide_eq_true b4, b5⟩
  obtain ⟨oc, od, osl, doc, pm, an, cda, ct, cc, lk, hcd, code, cell⟩ := supB_ok v b8
  have cls : ∃ cd, PySem.W.clsIn K (ga K x) = some cd := by
    obtain ⟨nm, qn, N, bs, sn, sub, ab, col, dd, k0, k1, k2, k3, k5, gC⟩ := own.cls
    unfold PySem.W.clsIn
    rw [gC]
    exact ⟨_, rfl⟩
  have T : SupC K P mg (ga K x) (iniA K x) cda cc (PySem.W.ksFn "__init__" qual params [.Expr (.Call (.Attribute (.Call (.Name "super" p0) [] [] p1) "__init__" p2) [.Constant (.str txt) j p3] [] p4) p5, .Assign [.Attribute (.Name slf q1) fld q2] (.Name vn q3) q4] scope .none .none doc pm an (.ref cda) ct cc) slf scope :=
    ⟨⟨_, _, _, lk⟩, par, code, cell, cls, gs, ks, kc, ka, kind, top⟩
  refine ⟨own, gx, eqO_ok b6, of_decide_eq_true b7, FB, fun {A base s a t0 u R} room M kb nb ga' go => ?_⟩
  exact own_initrun room M kb lk hcd T (he _ _ _) (bnd _ _ _ _ _ _ _ _ _) (hi _ _ _) (hw _ _ _) hdS hdV (hw2 _ _ _) nb ne kv ncell co gen ga' own FB SB KF ht (eqO_ok b10) (eqO_ok b11) (of_decide_eq_true b12) (eqO_ok b9) go
/-! ### the getter of a property -/
def prB (K : PySem.W.Frag) (x f qual : Str) : Bool :=
  eqO (PySem.W.findIn K (.ref (ga K x)) f) (some (some (.ref (ma K (ga K x) f)))) && (eqO (PySem.W.specialIn K (.ref (ma K (ga K x) f)) "__get__") (some (some (.builtin "property.__get__"))) && (decide (PySem.W.takesIn K (.ref (ma K (ga K x) f)) = some true) &&
    ((match PySem.W.recIn K (ma K (ga K x) f) "property" with
      | some (.ref _ :: _) => true
      | _ => false) && (PySem.W.keepIn K (.ref (gtA K x f)) && (match K.lookup (gtA K x f) with
      | some ⟨_, _, .func fd, _⟩ => PySem.W.codeIn K fd.code qual && fd.closure.isEmpty
      | _ => false)))))
theorem prE_ok {K : PySem.W.Frag} {x f qual : Str} {params : Arguments} {body : List Stmt} {scope : Scope} (b : prB K x f qual = true) (v : iniW K ⟨x, qual, params, body, scope, some f⟩ = IniD.val ⟨x, qual, params, body, scope, some f⟩) :
    PropOf K (ga K x) f (ma K (ga K x) f) (gtA K x f) ∧ ∃ fd, FunD K f qual params body scope [] [] (gtA K x f) fd := by
  unfold prB at b
  obtain ⟨b1, b⟩ := ba b
  obtain ⟨b2, b⟩ := ba b
  obtain ⟨b3, b⟩ := ba b
  obtain ⟨b4, b⟩ := ba b
  obtain ⟨b5, b6⟩ := ba b
  refine ⟨⟨eqO_ok b1, eqO_ok b2, of_decide_eq_true b3, ?_⟩, ?_⟩
  · unfold gtA
    cases e : PySem.W.recIn K (ma K (ga K x) f) "property" with
    | none => rw [e] at b4; cases b4
    | some l =>
      rw [e] at b4
      cases l with
      | nil => cases b4
      | cons y ys =>
        cases y with
        | ref g => exact ⟨ys, rfl⟩
        | _ => cases b4
  · have v : (match K.lookup (gtA K x f) with
      | some ⟨_, _, .func fd, _⟩ => some (fd.name, fd.qualname, fd.params, fd.body, fd.scope, fd.globals, fd.defaults, fd.kwdefaults, fd.builtins)
      | _ => none : IniV) = (some (f, qual, params, FuncBody.stmts body, scope, mainGlobals, Value.none, Value.none, builtinsNs) : IniV) := v
    cases q : K.lookup (gtA K x f) with
    | none => rw [q] at v; cases v
    | some o =>
      obtain ⟨oc, od, dt, osl⟩ := o
      rw [q] at b6 v
      cases dt with
      | func fd =>
        obtain ⟨n1, n2, n3, n4, n5, n6, n7, n8, n9, n10, n11, n12, n13, n14, n15⟩ := fd
        simp only [Option.some.injEq, Prod.mk.injEq] at v
        obtain ⟨h1, h2, h3, h4, h5, h6, h7, h8, h9⟩ := v
        subst h1 h2 h3 h4 h5 h6 h7 h8 h9
        simp only [Bool.and_eq_true] at b6
        obtain ⟨c1, c2⟩ := b6
        have c3 : n7 = [] := List.isEmpty_iff.mp c2
        subst c3
        exact ⟨_, ⟨oc, od, .none, .none, n10, n11, n12, n13, n14, osl, rfl, q, c1, .inl ⟨rfl, rfl⟩, .inl rfl⟩, b5⟩
      | _ => cases v
end DL
set_option maxHeartbeats 4000000
/-! DLGen2: what the printed walks of errors lean on. -/
namespace DL
open PySem PySem.Spec PyProof.Rows L2 He LamX
def clsInit (s : Stmt) : Stmt := match s with
  | .ClassDef _ _ _ (d :: _) _ _ _ _ _ _ _ => d
  | _ => .Pass ⟨0, 0, 0, 0⟩
def clsMem (s : Stmt) (j : Nat) : Stmt := match s with
  | .ClassDef _ _ _ ds _ _ _ _ _ _ _ => ds.getD j (.Pass ⟨0, 0, 0, 0⟩)
  | _ => .Pass ⟨0, 0, 0, 0⟩
def lamQ (x : Str) : Str := x ++ ".<locals>." ++ "<lambda>"
def chA (mg : Str → Option Value) (x : Str) : Addr := match mg x with
  | some (.ref a) => a
  | _ => 0
theorem chA_of {mg : Str → Option Value} {x : Str} {a : Addr} (h : mg x = some (.ref a)) : chA mg x = a := by
  unfold chA
  rw [h]
/-- which class takes which: a table -/
def mtOf (l : List (Str × Str × Bool)) (c1 c2 : Str) : Option Bool := (l.find? fun t => decide (t.1 = c1) && decide (t.2.1 = c2)).map (·.2.2)
theorem mtOf_ok {G : Str → Str → Bool → Prop} {l : List (Str × Str × Bool)} (h : ∀ t ∈ l, G t.1 t.2.1 t.2.2) : ∀ c1 c2 b, mtOf l c1 c2 = some b → G c1 c2 b := fun c1 c2 b e => by
  unfold mtOf at e
  cases z : l.find? fun t => decide (t.1 = c1) && decide (t.2.1 = c2) with
  | none => rw [z] at e; cases e
  | some t =>
    rw [z] at e
    cases e
    have y := List.find?_some z
    simp only [Bool.and_eq_true, decide_eq_true_eq] at y
    rw [← y.1, ← y.2]
    exact h t (List.mem_of_find?_eq_some z)
/-- an own error's class without fields, over ValueError -/
def ExcE (K : PySem.W.Frag) (mg : Str → Option Value) (x : Str) : Prop :=
  ∃ C, mg x = some (.ref C) ∧ PySem.W.excIn K C veBase "ValueError.__new__" = true ∧ PySem.W.keepIn K (.ref C) = true ∧ PySem.W.subIn K (.ref C) (.type "BaseException") = some true ∧ PySem.W.typeIn K (.ref C) = some (.type "type")
/-- .. with one field -/
def IniE (P : Program) (w : World) (K : PySem.W.Frag) (mg : Str → Option Value) (x fld : Str) : Prop := ∃ C f B i newId tail, IniC P w K mg x C f fld B i newId tail
section
variable [HasT] {X : Cx}
theorem ds_raiseE {W : WX} {x m : Str} {j : Nat} {p p2 p3 p4 : Pos} (h : ExcE X.K X.mg x) (tk : Takes X W) (hg : Gl X x := by rfl) (hc : X.calm = true := by rfl) (hdb : (x == ("__debug__" : Str)) = false := by decide) :
    DS X W (.Raise (some (.Call (.Name x p) [.Constant (.str m) j p2] [] p3)) none p4) (mRaise x) := by
  obtain ⟨C, gC, q, kC, sC, tC⟩ := h
  exact ds_raise tk PySem.F.excBase_ValueError q gC kC (raises_own sC tC) hg hc hdb
theorem ds_raise1E {W : WX} {x fld : Str} {e : Expr} {me : ME D} {p p3 p4 : Pos} {k : Nat} (h : IniE X.prog X.w X.K X.mg x fld) (tk : Takes X W) (hr : Room (k + 1) X.A) (he : DE X W e me)
    (hg : Gl X x := by rfl) (hc : X.calm = true := by rfl) (hdb : (x == ("__debug__" : Str)) = false := by decide) (hs : starEach [e] X.env = (false, eval e X.env) :: starEach [] X.env := by rfl) :
    DS X W (.Raise (some (.Call (.Name x p) [e] [] p3)) none p4) (mRaise1 x fld me) := by
  obtain ⟨C, f, B, i, newId, tail, T⟩ := h
  exact ds_raise1 tk T hr he hg hc hdb hs
theorem gl_of {Y : Cx} {sg : Scope} {x : Str} (hS : Y.env.scope = sg) (h : sg.names.lookup x = some .globalImplicit) : Gl Y x := by
  show Y.env.scope.names.lookup x = _
  rw [hS]
  exact h
theorem lo_of {Y : Cx} {sg : Scope} {x : Str} (hS : Y.env.scope = sg) (h : sg.names.lookup x = some .local) : Y.env.scope.names.lookup x = some .local := by
  rw [hS]
  exact h
theorem lamT_of {K : PySem.W.Frag} {mg : Str → Option Value} {base : Heap} {x q : Str} {args : Arguments} {body : List Stmt} {scope : Scope} {fd : FuncData} (gx : mg x = some (.ref (ga K x))) (Fd : FunD K x x args body scope [] [] (fAd K (x, none)) fd) (TB : TabB base mg (cT K (x, none)).1 (cT K (x, none)).2)
    (inT : ((cT K (x, none)).2, q) ∈ HasT.T) (nd : (HasT.T.map (·.1)).Nodup) : LamT K mg base x q := by
  refine ⟨ga K x, _, _, gx, fun oc od fd' osl lk => ?_, TB, inT, fun p hp e => ?_⟩
  · obtain ⟨oc', od', dV, kV, doc, pm, an, cdv, ct, osl', rfl, lk', hcd, _, _⟩ := Fd.ex
    have lk2 : K.lookup (fAd K (x, none)) = some ⟨oc, od, .func fd', osl⟩ := lk
    rw [lk2] at lk'
    cases lk'
    obtain ⟨c, e⟩ := codeIn_ref hcd
    have z := codeOf_eq lk2 (c := c) e
    show cdv = .ref (codeOf K (x, none))
    rw [z, e]
  · have key : ∀ {l : List (Addr × Str)} {a : Addr} {q1 q2 : Str}, (l.map (·.1)).Nodup → (a, q1) ∈ l → (a, q2) ∈ l → q1 = q2 := by
      intro l
      induction l with
      | nil => intro a q1 q2 _ h _; cases h
      | cons y l ih =>
        intro a q1 q2 n h1 h2
        rw [List.map_cons, List.nodup_cons] at n
        rcases List.mem_cons.mp h1 with h1 | h1
        · rcases List.mem_cons.mp h2 with h2 | h2
          · rw [← h1] at h2
            cases h2
            rfl
          · exact absurd (List.mem_map.mpr ⟨_, h2, by rw [← h1]⟩) n.1
        · rcases List.mem_cons.mp h2 with h2 | h2
          · exact absurd (List.mem_map.mpr ⟨_, h1, by rw [← h2]⟩) n.1
          · exact ih n.2 h1 h2
    obtain ⟨a, q'⟩ := p
    dsimp only at e
    subst e
    exact key nd hp inT
end
end DL
set_option maxHeartbeats 4000000
/-! DLZip: list(zip(a, b)) of two lists. -/
namespace DL
open PySem PySem.Spec PyProof.Rows L2
/-- the list being made apart from the zip's parts -/
structure ZAp (S z TI TO i1 i2 l1 l2 : Addr) : Prop where
  d : ZipApart z TI TO i1 i2 l1 l2
  sz : S ≠ z
  sTI : S ≠ TI
  s1 : S ≠ i1
  s2 : S ≠ i2
  sl1 : S ≠ l1
  sl2 : S ≠ l2
/-- k pairs have been given out -/
def ZS (h : Heap) (S z TI TO i1 i2 l1 l2 : Addr) (xs ys : Array Value) (k : Nat) : Prop :=
  h.IsListIter i1 l1 k ∧ h.IsListIter i2 l2 k ∧ IsPair h TI (.ref i1) (.ref i2) ∧ h.IsList l1 xs ∧ h.IsList l2 ys ∧
    ((k = 0 ∧ IsZip h z TI TO .none ∧ ∃ a b, IsPair h TO a b) ∨ ∃ T f oT, IsZipHeld h z TI TO T f ∧ h.get? T = some oT ∧ T ≠ S ∧ T ≠ z ∧ T ≠ i1 ∧ T ≠ i2)
section
variable {prog : Program} {w : World} {A : Around} {E : Value → Shared → Prop} {s : Shared} {S z TI TO i1 i2 l1 l2 : Addr} {xs ys : Array Value} {k : Nat}
theorem ZS.keep {h h' : Heap} (Z : ZAp S z TI TO i1 i2 l1 l2) (st : ZS h S z TI TO i1 i2 l1 l2 xs ys k) (k0 : k ≠ 0 ∨ S ≠ TO) (u : ∀ b o, b ≠ S → h.get? b = some o → h'.get? b = some o) : ZS h' S z TI TO i1 i2 l1 l2 xs ys k := by
  obtain ⟨a1, a2, a3, a4, a5, a6⟩ := st
  refine ⟨a1.at fun o e => u _ o Z.s1.symm e, a2.at fun o e => u _ o Z.s2.symm e, u _ _ Z.sTI.symm a3, a4.at fun o e => u _ o Z.sl1.symm e, a5.at fun o e => u _ o Z.sl2.symm e, ?_⟩
  rcases a6 with ⟨e, b1, a, b, b2⟩ | ⟨T, f, oT, b1, b2, b3, b4, b5, b6⟩
  · have : S ≠ TO := k0.elim (fun q => absurd e q) id
    exact .inl ⟨e, u _ _ Z.sz.symm b1, a, b, u _ _ this.symm b2⟩
  · exact .inr ⟨T, f, oT, u _ _ Z.sz.symm b1, u _ _ b3 b2, b3, b4, b5, b6⟩
theorem zs_item {x y : Value} {Q : Option Value → Shared → Prop} (Z : ZAp S z TI TO i1 i2 l1 l2) (st : ZS s.heap S z TI TO i1 i2 l1 l2 xs ys k) (hS : S < s.heap.objs.size) (hx : xs[k]? = some x) (hy : ys[k]? = some y)
    (go : ∀ h', ZS h' S z TI TO i1 i2 l1 l2 xs ys (k + 1) → IsPair h' s.heap.objs.size x y → h'.objs.size = s.heap.objs.size + 1 → (∀ c o, c ≠ z → c ≠ TO → c ≠ i1 → c ≠ i2 → s.heap.get? c = some o → h'.get? c = some o) → Q (some (.ref s.heap.objs.size)) { s with heap := h' }) :
    wpAny (model prog w) A (pyNext (.ref z)) Q E s := by
  obtain ⟨a1, a2, a3, a4, a5, a6⟩ := st
  have D := Z.d
  have n1 : s.heap.objs.size ≠ i1 := Nat.ne_of_gt (by obtain ⟨o, e, _⟩ := a1; exact Heap.lt_size e)
  have n2 : s.heap.objs.size ≠ i2 := Nat.ne_of_gt (by obtain ⟨o, e, _⟩ := a2; exact Heap.lt_size e)
  have fin : ∀ h' f, IsZipHeld h' z TI TO s.heap.objs.size f ∨ (∃ T oT, IsZipHeld h' z TI TO T f ∧ s.heap.get? T = some oT ∧ T ≠ S ∧ T ≠ z ∧ T ≠ i1 ∧ T ≠ i2) → z < s.heap.objs.size → h'.IsListIter i1 l1 (k + 1) → h'.IsListIter i2 l2 (k + 1) → IsPair h' s.heap.objs.size x y → h'.objs.size = s.heap.objs.size + 1 →
      (∀ T oT, T ≠ z → T ≠ i1 → T ≠ i2 → s.heap.get? T = some oT → ∃ o, h'.get? T = some o) →
      (∀ c o, c ≠ z → c ≠ TO → c ≠ i1 → c ≠ i2 → s.heap.get? c = some o → h'.get? c = some o) → Q (some (.ref s.heap.objs.size)) { s with heap := h' } := fun h' f hz hzl b1 b2 b3 b4 b5 b6 => by
    refine go h' ⟨b1, b2, b6 _ _ D.TIz D.TITO D.TIi1 D.TIi2 a3, a4.at fun o e => b6 _ o D.l1z D.l1TO D.l1i1 D.l1i2 e, a5.at fun o e => b6 _ o D.l2z D.l2TO D.l2i1 D.l2i2 e, .inr ?_⟩ b3 b4 b6
    rcases hz with hz | ⟨T, oT, hz, q1, q2, q3, q4, q5⟩
    · exact ⟨_, f, _, hz, b3, Nat.ne_of_gt hS, Nat.ne_of_gt hzl, n1, n2⟩
    · obtain ⟨o, e⟩ := b5 T oT q3 q4 q5 q1
      exact ⟨T, f, o, hz, e, q2, q3, q4, q5⟩
  rcases a6 with ⟨rfl, b1, a, b, b2⟩ | ⟨T, f, oT, b1, b2, b3, b4, b5, b6⟩
  · refine wpAny_pyNext_zip_item D b1 a3 b2 a1 a2 a4 a5 hx hy fun h' c1 c2 c3 c4 c5 c6 c7 => fin h' false (.inl c1) (Heap.lt_size b1) c3 c4 c5 c6 (fun T oT t1 t2 t3 e => ?_) c7
    by_cases q : T = TO
    · subst q
      exact ⟨_, c2⟩
    · exact ⟨oT, c7 T oT t1 q t2 t3 e⟩
  · exact wpAny_pyNext_zip_item_held D b1 b2 a3 a1 a2 a4 a5 hx hy fun h' c1 c3 c4 c5 c6 c7 => fin h' true (.inr ⟨T, oT, c1, b2, b3, b4, b5, b6⟩) (Heap.lt_size b1) c3 c4 c5 c6 (fun T oT t1 t2 t3 e => ⟨oT, c7 T oT t1 t2 t3 e⟩) fun c o t1 _ t2 t3 e => c7 c o t1 t2 t3 e
theorem zs_end {Q : Option Value → Shared → Prop} (hh : A.handled = none) (Z : ZAp S z TI TO i1 i2 l1 l2) (st : ZS s.heap S z TI TO i1 i2 l1 l2 xs ys k) (he : xs[k]? = none ∨ ys[k]? = none)
    (go : ∀ h', (∀ c o, c ≠ z → c ≠ TO → c ≠ i1 → c ≠ i2 → s.heap.get? c = some o → h'.get? c = some o) → Q none { s with heap := h' }) : wpAny (model prog w) A (pyNext (.ref z)) Q E s := by
  obtain ⟨a1, a2, a3, a4, a5, a6⟩ := st
  rcases a6 with ⟨rfl, b1, a, b, b2⟩ | ⟨T, f, oT, b1, b2, b3, b4, b5, b6⟩
  · exact wpAny_pyNext_zip_end hh Z.d b1 a3 b2 a1 a2 a4 a5 he fun h' c => go h' c
  · exact wpAny_pyNext_zip_end_held hh Z.d b1 b2 a3 a1 a2 a4 a5 he fun h' c => go h' fun c' o t1 _ t2 t3 e => c c' o t1 t2 t3 e
/-- the pairs that were given out -/
structure ZG (xs ys : Array Value) (lo : Addr) (h : Heap) (as : List Addr) : Prop where
  up : as.Pairwise (· < ·)
  lo : ∀ a ∈ as, lo < a
  at_ : ∀ (j : Nat) (a : Addr), as[j]? = some a → ∃ x y, xs[j]? = some x ∧ ys[j]? = some y ∧ IsPair h a x y
theorem ZG.lt {lo : Addr} {h : Heap} {as : List Addr} (g : ZG xs ys lo h as) {a : Addr} (ha : a ∈ as) : a < h.objs.size := by
  obtain ⟨j, e⟩ := List.mem_iff_getElem?.mp ha
  obtain ⟨_, _, _, _, p⟩ := g.at_ j a e
  exact Heap.lt_size p
theorem zs_loop {R : Result → Shared → Prop} {lo : Addr} (hh : A.handled = none) (Z : ZAp S z TI TO i1 i2 l1 l2) (sTO : S ≠ TO) (lS : S ≤ lo) (lz : z ≤ lo) (lT : TO ≤ lo) (l1' : i1 ≤ lo) (l2' : i2 ≤ lo) (hn : xs.size ≤ sizeLine) (hn2 : xs.size = ys.size) (res : Value) {h₁ : Heap}
    (go : ∀ h' tk acc c as, (∀ b o, b ≠ S → b ≠ z → b ≠ TO → b ≠ i1 → b ≠ i2 → h₁.get? b = some o → h'.get? b = some o) → h'.get? S = some { cls := .type "list", dict := none, data := .seq acc c, slots := #[] } → as.length = xs.size → ZG xs ys lo h' as → acc.toList = as.map Value.ref → R (.ok (.ret res)) { s with heap := h', toks := tk }) :
    ∀ (n k : Nat) (h : Heap) (tk c : Nat) (acc : Array Value) (as : List Addr), n + k = xs.size → ZS h S z TI TO i1 i2 l1 l2 xs ys k → (∀ b o, b ≠ S → b ≠ z → b ≠ TO → b ≠ i1 → b ≠ i2 → h₁.get? b = some o → h.get? b = some o) →
      h.get? S = some { cls := .type "list", dict := none, data := .seq acc c, slots := #[] } → acc.toList = as.map Value.ref → as.length = k → ZG xs ys lo h as → lo < h.objs.size →
      codeAny (model prog w) A (.builtin "list.extend.loop" ⟨[.ref S, .ref z, res], []⟩) R { s with heap := h, toks := tk }
  | 0, k, h, tk, c, acc, as, e, st, kp, gS, ha, hl, G, hlo => codeAny_builtin PySem.F.entry_extend_loop (by
    rw [Around.under_plainId PySem.F.plain_extend_loop _]; show wpAny _ A.in1 (pyNext (.ref z) >>= _) _ _ _
    refine wpAny_bind (zs_end (s := { s with heap := h, toks := tk }) (A := A.in1) hh Z st (.inl (by rw [Array.getElem?_eq_none]; omega)) fun h' q => wpAny_pure ?_)
    refine go h' tk acc c as (fun b o b1 b2 b3 b4 b5 e => q b o b2 b3 b4 b5 (kp b o b1 b2 b3 b4 b5 e)) (q S _ Z.sz sTO Z.s1 Z.s2 gS) (by omega) ⟨G.up, G.lo, fun j a hj => ?_⟩ ha
    obtain ⟨x, y, e1, e2, e3⟩ := G.at_ j a hj
    have l := G.lo a (List.mem_of_getElem? hj)
    have ne : ∀ {b : Addr}, b ≤ lo → a ≠ b := fun {b} q => Nat.ne_of_gt (Nat.lt_of_le_of_lt q l)
    exact ⟨x, y, e1, e2, q a _ (ne lz) (ne lT) (ne l1') (ne l2') e3⟩)
  | n + 1, k, h, tk, c, acc, as, e, st, kp, gS, ha, hl, G, hlo => codeAny_builtin PySem.F.entry_extend_loop (by
    rw [Around.under_plainId PySem.F.plain_extend_loop _]; show wpAny _ A.in1 (pyNext (.ref z) >>= _) _ _ _
    have hk : k < xs.size := by omega
    have hk2 : k < ys.size := by omega
    have hsz : acc.size = k := by rw [← Array.length_toList, ha, List.length_map, hl]
    have hSl : S < h.objs.size := Heap.lt_size gS
    refine wpAny_bind (zs_item (s := { s with heap := h, toks := tk }) Z st hSl (Array.getElem?_eq_getElem hk) (Array.getElem?_eq_getElem hk2) fun h' st' pr sz' kp' => ?_)
    have gS' : h'.get? S = _ := kp' S _ Z.sz sTO Z.s1 Z.s2 gS
    have up : ∀ b o, b ≠ S → h'.get? b = some o → (h'.update S (Obj.mapSeq (·.push (Value.ref h.objs.size)))).get? b = some o := fun b o hb e => (Heap.get?_update_other _ _ (Ne.symm hb)).trans e
    show wpAny _ A.in1 (updateSeq S (·.push (Value.ref h.objs.size)) >>= _) _ _ _
    have pr' : IsPair (h'.update S (Obj.mapSeq (·.push (Value.ref h.objs.size)))) h.objs.size xs[k] ys[k] := up _ _ (Nat.ne_of_gt hSl) pr
    refine wpAny_bind (wpAny_updateSeq gS' rfl (wpAny_pure ⟨plainId_quiet PySem.F.plain_extend_loop _, zs_loop hh Z sTO lS lz lT l1' l2' hn hn2 res go n (k + 1) _ tk _ (acc.push (Value.ref h.objs.size)) (as ++ [h.objs.size]) (by omega) (st'.keep Z (.inl (by omega)) up)
      (fun b o b1 b2 b3 b4 b5 e => up b o b1 (kp' b o b2 b3 b4 b5 (kp b o b1 b2 b3 b4 b5 e))) (Heap.get?_update_self _ gS' rfl) (by rw [Array.toList_push, ha, List.map_append]; rfl) (by rw [List.length_append, hl]; rfl) ⟨?_, fun a q => ?_, fun j b hj => ?_⟩ (Nat.lt_trans hlo (Heap.lt_size pr'))⟩) (by rw [hsz]; omega) (by show (acc.push (Value.ref h.objs.size)).size ≤ sizeLine + 1; rw [Array.size_push, hsz]; omega))
    · refine List.pairwise_append.mpr ⟨G.up, List.pairwise_singleton _ _, fun a q b hb => ?_⟩
      rw [List.mem_singleton.mp hb]
      exact G.lt q
    · rcases List.mem_append.mp q with q | q
      · exact G.lo a q
      · rw [List.mem_singleton.mp q]
        exact hlo
    · by_cases q : j < as.length
      · rw [List.getElem?_append_left q] at hj
        obtain ⟨x, y, e1, e2, e3⟩ := G.at_ j b hj
        have l := G.lo b (List.mem_of_getElem? hj)
        have ne : ∀ {b' : Addr}, b' ≤ lo → b ≠ b' := fun {b'} q => Nat.ne_of_gt (Nat.lt_of_le_of_lt q l)
        exact ⟨x, y, e1, e2, up b _ (ne lS) (kp' b _ (ne lz) (ne lT) (ne l1') (ne l2') e3)⟩
      · by_cases q2 : j = as.length
        · subst q2
          rw [List.getElem?_append_right (Nat.le_refl _), Nat.sub_self] at hj
          cases hj
          subst hl
          exact ⟨_, _, Array.getElem?_eq_getElem hk, Array.getElem?_eq_getElem hk2, pr'⟩
        · rw [List.getElem?_eq_none (by rw [List.length_append, List.length_singleton]; omega)] at hj
          cases hj)
theorem zip_no_len : typeLookup (.type "zip") "__len__" = pure none := am_miss_of_fast (by decide +kernel)
theorem zip_no_hint : typeLookup (.type "zip") "__length_hint__" = pure none := am_miss_of_fast (by decide +kernel)
theorem hint_zip (hT : s.TypeIs (.ref z) "zip") {Q : Bool → Shared → Prop} (h : Q true s) : wpAny (model prog w) A (Builtin.List.listLengthHint (.ref z)) Q E s := by
  unfold Builtin.List.listLengthHint
  refine wpAny_bind (wpAny_specialOf hT zip_no_len ?_)
  wp_walk
  refine wpAny_of_eq zip_no_hint ?_
  exact wpAny_pure h
theorem lz_extend {R : Result → Shared → Prop} (hh : A.handled = none) (Z : ZAp S z TI TO i1 i2 l1 l2) (sTO : S ≠ TO) (st : ZS s.heap S z TI TO i1 i2 l1 l2 xs ys 0) (hz : s.heap.get? z = some { cls := .type "zip", dict := none, data := .fields #[.none, .bool false, .bool false, .ref TI, .ref TO], slots := #[] })
    (lT : TO < s.heap.objs.size) (hn : xs.size ≤ sizeLine) (hn2 : xs.size = ys.size) (res : Value) (c₀ : Nat) (gS : s.heap.get? S = some { cls := .type "list", data := .seq #[] c₀ })
    (go : ∀ h' tk acc c as, (∀ b o, b ≠ S → b ≠ z → b ≠ TO → b ≠ i1 → b ≠ i2 → s.heap.get? b = some o → h'.get? b = some o) → h'.get? S = some { cls := .type "list", dict := none, data := .seq acc c, slots := #[] } → as.length = xs.size → ZG xs ys (s.heap.objs.size - 1) h' as → acc.toList = as.map Value.ref → R (.ok (.ret res)) { s with heap := h', toks := tk }) :
    wpAny (model prog w) A.in1 (Builtin.List.listExtendWith (.ref S) (.ref z) res)
      (fun fin s' => match fin with | .done f => R (.ok f) s' | .again c' => c'.quiet = true ∧ codeAny (model prog w) A c' R s') (fun e s' => R (.error e) s') s := by
  have lS : S < s.heap.objs.size := Heap.lt_size gS
  have lz : z < s.heap.objs.size := Heap.lt_size hz
  have li1 : i1 < s.heap.objs.size := by obtain ⟨o, e, _⟩ := st.1; exact Heap.lt_size e
  have li2 : i2 < s.heap.objs.size := by obtain ⟨o, e, _⟩ := st.2.1; exact Heap.lt_size e
  have key : ∀ (h : Heap) (c₁ tk : Nat), (∀ b o, b ≠ S → s.heap.get? b = some o → h.get? b = some o) → h.get? S = some { cls := .type "list", data := .seq #[] c₁ } → h.objs.size = s.heap.objs.size → codeAny (model prog w) A (.builtin "list.extend.loop" ⟨[.ref S, .ref z, res], []⟩) R { s with heap := h, toks := tk } :=
    fun h c₁ tk kp g1 hsz => zs_loop (lo := s.heap.objs.size - 1) (h₁ := s.heap) (s := s) hh Z sTO (Nat.le_sub_one_of_lt lS) (Nat.le_sub_one_of_lt lz) (Nat.le_sub_one_of_lt lT) (Nat.le_sub_one_of_lt li1) (Nat.le_sub_one_of_lt li2) hn hn2 res go xs.size 0 h tk c₁ #[] [] (by omega) (st.keep Z (.inr sTO) kp) (fun b o b1 _ _ _ _ e => kp b o b1 e) g1 rfl rfl
      ⟨List.Pairwise.nil, (fun _ q => nomatch q), fun j a hj => by simp at hj⟩ (by rw [hsz]; exact Nat.sub_lt (Nat.lt_of_le_of_lt (Nat.zero_le _) lS) Nat.one_pos)
  unfold Builtin.List.listExtendWith
  refine wpAny_bind (wpAny_typeOf (T := "zip") ⟨_, hz, rfl⟩ ?_)
  have e1 : Builtin.List.listSameRef (.ref S) (.ref z) = false := by simp [Builtin.List.listSameRef, Z.sz]
  have e2 : (Value.type "zip" == Value.type "list") = false := by decide
  have e3 : (Value.type "zip" == Value.type "tuple") = false := by decide
  simp only [e1, e2, e3, Bool.or_false, Bool.false_eq_true, if_false]
  refine wpAny_bind (wpAny_pyIter_zip hz (wpAny_bind (wpAny_holding (hint_zip ⟨_, hz, rfl⟩ ?_))))
  refine wpAny_ite_split (fun _ => ?_) (fun q => absurd q (by simp))
  refine wpAny_bind (wpAny_rule (wpAny_bind ?_))
  show wpAny _ _ (updateSeq S (·.push .none) >>= fun _ => updateSeq S (·.pop)) _ _ _
  refine wpAny_bind (wpAny_updateSeq gS rfl ?_)
  have g2 := Heap.get?_update_self (Obj.mapSeq (·.push Value.none)) gS rfl
  refine wpAny_updateSeq (hz := by seq_fits) g2 rfl ?_
  have g3 := Heap.get?_update_self (Obj.mapSeq (·.pop)) g2 rfl
  refine wpAny_pure ⟨plainId_quiet PySem.F.plain_extend_loop _, key _ _ _ (fun b o hb e => ?_) g3 ?_⟩
  · exact (Heap.get?_update_other _ _ (Ne.symm hb)).trans ((Heap.get?_update_other _ _ (Ne.symm hb)).trans e)
  · rw [Heap.size_update, Heap.size_update]
theorem lz_call {Q : Value → Shared → Prop} (hh : A.handled = none) (D : ZipApart z TI TO i1 i2 l1 l2) (st : ∀ S, s.heap.objs.size ≤ S → ZS s.heap S z TI TO i1 i2 l1 l2 xs ys 0) (hz : s.heap.get? z = some { cls := .type "zip", dict := none, data := .fields #[.none, .bool false, .bool false, .ref TI, .ref TO], slots := #[] })
    (lT : TO < s.heap.objs.size) (lTI : TI < s.heap.objs.size) (ll1 : l1 < s.heap.objs.size) (ll2 : l2 < s.heap.objs.size) (hn : xs.size ≤ sizeLine) (hn2 : xs.size = ys.size)
    (go : ∀ h' tk acc c as, (∀ b o, b ≠ z → b ≠ TO → b ≠ i1 → b ≠ i2 → s.heap.get? b = some o → h'.get? b = some o) → h'.get? s.heap.objs.size = some { cls := .type "list", dict := none, data := .seq acc c, slots := #[] } → as.length = xs.size → ZG xs ys s.heap.objs.size h' as → acc.toList = as.map Value.ref → Q (.ref s.heap.objs.size) { s with heap := h', toks := tk }) :
    wpAny (model prog w) A (call (.type "list") [.ref z]) Q E s := by
  have st0 := st s.heap.objs.size (Nat.le_refl _)
  have lz : z < s.heap.objs.size := Heap.lt_size hz
  have li1 : i1 < s.heap.objs.size := by obtain ⟨o, e, _⟩ := st0.1; exact Heap.lt_size e
  have li2 : i2 < s.heap.objs.size := by obtain ⟨o, e, _⟩ := st0.2.1; exact Heap.lt_size e
  have Z : ZAp s.heap.objs.size z TI TO i1 i2 l1 l2 := ⟨D, Nat.ne_of_gt lz, Nat.ne_of_gt lTI, Nat.ne_of_gt li1, Nat.ne_of_gt li2, Nat.ne_of_gt ll1, Nat.ne_of_gt ll2⟩
  refine callType_codes (Q₁ := fun obj s₁ => obj = .ref s.heap.objs.size ∧ s₁ = { s with heap := s.heap.push { cls := .type "list", data := .seq #[] } }) PySem.F.called_list (PySem.F.typeCall_list_1 _) PySem.F.entry_list_init (code_list_new _ ⟨rfl, rfl⟩) fun obj s₁ h₁ => ?_
  obtain ⟨rfl, rfl⟩ := h₁
  have gS : (s.heap.push { cls := .type "list", data := .seq #[] }).get? s.heap.objs.size = some { cls := .type "list", data := .seq #[] } := Heap.get?_push_size _ rfl
  refine ⟨⟨_, gS, rfl⟩, PySem.F.args_list_init_2 _ _, ?_⟩
  show wpAny _ A.in1.in1 (do let old ← Builtin.List.listItems (.ref s.heap.objs.size); Builtin.List.listUpdate (.ref s.heap.objs.size) (fun _ => #[]); letGo old.toList.reverse; Builtin.List.listExtendWith (.ref s.heap.objs.size) (.ref z) .none) _ _ _
  unfold Builtin.List.listItems
  refine wpAny_bind (wpAny_bind (wpAny_seqItems gS rfl (wpAny_pure ?_)))
  show wpAny _ _ (updateSeq s.heap.objs.size (fun _ => #[]) >>= fun _ => letGo (#[] : Array Value).toList.reverse >>= fun _ => Builtin.List.listExtendWith (.ref s.heap.objs.size) (.ref z) .none) _ _ _
  refine wpAny_bind (wpAny_updateSeq gS rfl ?_)
  have g2 := Heap.get?_update_self (Obj.mapSeq (fun _ => (#[] : Array Value))) gS rfl
  have up : ∀ b o, b ≠ s.heap.objs.size → s.heap.get? b = some o → ((s.heap.push { cls := .type "list", data := .seq #[] }).update s.heap.objs.size (Obj.mapSeq (fun _ => (#[] : Array Value)))).get? b = some o := fun b o n e => (Heap.get?_update_other _ _ (Ne.symm n)).trans (Heap.get?_push_of_some _ e)
  have hsz : ((s.heap.push { cls := .type "list", data := .seq #[] }).update s.heap.objs.size (Obj.mapSeq (fun _ => (#[] : Array Value)))).objs.size = s.heap.objs.size + 1 := by rw [Heap.size_update, Heap.size_push]
  refine wpAny_bind (wpAny_letGo (lz_extend (A := A.in1) hh Z (Nat.ne_of_gt lT) (st0.keep Z (.inr (Nat.ne_of_gt lT)) up) (up _ _ (Nat.ne_of_lt lz) hz) (Nat.lt_of_lt_of_eq (Nat.lt_succ_of_lt lT) hsz.symm) hn hn2 .none _ g2 fun h' tk acc c as kp gS' hl G ha => ?_))
  refine ⟨rfl, go h' tk acc c as (fun b o b1 b2 b3 b4 e => kp b o (Nat.ne_of_lt (Heap.lt_size e)) b1 b2 b3 b4 (up b o (Nat.ne_of_lt (Heap.lt_size e)) e)) gS' hl ?_ ha⟩
  have : ((s.heap.push { cls := .type "list", data := .seq #[] }).update s.heap.objs.size (Obj.mapSeq (fun _ => (#[] : Array Value)))).objs.size - 1 = s.heap.objs.size := by rw [hsz]; omega
  exact ⟨G.up, fun a q => Nat.lt_of_le_of_lt (Nat.le_of_eq this.symm) (G.lo a q), G.at_⟩
end
end DL
set_option maxHeartbeats 4000000
/-! DLZip2: list(zip(a, b)), list(range(a, b)) as plain runs. -/
namespace DL
open PySem PySem.Spec PyProof.Rows L2
/-- pairs tracked at their addresses -/
def putZ : Hp → List Addr → List (V × V) → Hp
  | H, a :: as, q :: qs => putZ (upd H a (.tup [q.1, q.2])) as qs
  | H, _, _ => H
theorem putZ_off {b : Addr} : ∀ (as : List Addr) (qs : List (V × V)) (H : Hp), b ∉ as → putZ H as qs b = H b
  | [], _, _, _ => rfl
  | _ :: _, [], _, _ => rfl
  | a :: as, q :: qs, H, h => by
    show putZ (upd H a (.tup [q.1, q.2])) as qs b = H b
    rw [putZ_off as qs _ fun z => h (List.mem_cons_of_mem _ z), upd_ne fun z => h (by rw [z]; exact List.mem_cons_self)]
theorem putZ_at : ∀ (as : List Addr) (qs : List (V × V)) (H : Hp) (j : Nat) (a : Addr) (q : V × V), as.Nodup → as[j]? = some a → qs[j]? = some q → putZ H as qs a = some (.tup [q.1, q.2])
  | [], _, _, _, _, _, _, h, _ => by simp at h
  | _ :: _, [], _, _, _, _, _, _, h => by simp at h
  | a :: as, q :: qs, H, 0, b, p, n, h1, h2 => by
    cases h1
    cases h2
    show putZ (upd H a (.tup [q.1, q.2])) as qs a = _
    rw [putZ_off as qs _ (List.nodup_cons.mp n).1, upd_same]
  | a :: as, q :: qs, H, j + 1, b, p, n, h1, h2 => putZ_at as qs _ j b p (List.nodup_cons.mp n).2 (by simpa using h1) (by simpa using h2)
def rLZ (K : PySem.W.Frag) : List V → Hp → VK → Prop := fun vs H Q => ∃ (a b : Addr) (xs ys : List V), vs = [.ref a, .ref b] ∧ SqL K H a xs ∧ SqL K H b ys ∧ xs.length = ys.length ∧
  ∀ (ts : List Addr) (p : Addr), ts.length = xs.length → ts.Nodup → (∀ t ∈ ts, H t = none) → p ∉ ts → H p = none → Q (.ref p) (upd (putZ H ts (xs.zip ys)) p (.lst (ts.map V.ref)))
theorem vals_at : ∀ {vs : List V} {us : List Value}, Vals vs us → ∀ {j : Nat} {u : Value}, us[j]? = some u → ∃ v, vs[j]? = some v ∧ RelV v u
  | _, _, .nil, j, u, h => by simp at h
  | _, _, .cons r t, 0, u, h => by cases h; exact ⟨_, rfl, r⟩
  | _, _, .cons r t, j + 1, u, h => vals_at t (by simpa using h)
theorem vals_addrs : ∀ as : List Addr, Vals (as.map V.ref) (as.map Value.ref)
  | [] => .nil
  | _ :: as => .cons rfl (vals_addrs as)
section
variable {X : Cx} {a b : Expr} {ta : TA} {p p2 pos pos2 : Pos}
/-- what is told behind it -/
theorem lz_laid {pins : List (Addr × Obj)} {σ : L2.St} {H : Hp} {s : Shared} {h' : Heap} {tk : Nat} {xs ys : List V} {us ws : List Value} {acc : Array Value} {c S : Nat} {as : List Addr} (I : L2.Inv X pins σ H s) (rx : Vals xs us) (ry : Vals ys ws) (hl : xs.length = ys.length) (hz : xs.length ≤ sizeLine)
    (hS : s.heap.objs.size ≤ S) (k : ∀ b o, s.heap.get? b = some o → h'.get? b = some o) (gS : h'.get? S = some { cls := .type "list", dict := none, data := .seq acc c, slots := #[] }) (la : as.length = xs.length) (G : ZG us.toArray ws.toArray S h' as) (ha : acc.toList = as.map Value.ref) :
    as.Nodup ∧ (∀ t ∈ as, H t = none) ∧ S ∉ as ∧ H S = none ∧ L2.Inv X pins σ (upd (putZ H as (xs.zip ys)) S (.lst (as.map V.ref))) { s with heap := h', toks := tk } := by
  have nd : as.Nodup := List.Pairwise.imp (fun {a b} (h : a < b) => Nat.ne_of_lt h) G.up
  have big : ∀ t ∈ as, s.heap.objs.size ≤ t := fun t ht => Nat.le_trans hS (Nat.le_of_lt (G.lo t ht))
  have new : ∀ t ∈ as, H t = none := fun t ht => I.hok.fresh (big t ht)
  have newS : H S = none := I.hok.fresh hS
  have nS : S ∉ as := fun z => Nat.lt_irrefl _ (G.lo _ z)
  have off : ∀ b, b ∉ as → b ≠ S → upd (putZ H as (xs.zip ys)) S (.lst (as.map V.ref)) b = H b := fun b h1 h2 => by rw [upd_ne h2, putZ_off as _ _ h1]
  have low : ∀ b o, s.heap.get? b = some o → b ∉ as ∧ b ≠ S := fun b o e => ⟨fun z => absurd (Heap.lt_size e) (Nat.not_lt.mpr (big b z)), fun z => absurd (Heap.lt_size e) (Nat.not_lt.mpr (by rw [z]; exact hS))⟩
  have kp : ∀ b u, H b = some u → (upd (putZ H as (xs.zip ys)) S (.lst (as.map V.ref))) b = some u := fun b u e => by
    rw [off b (fun z => by rw [new b z] at e; cases e) fun z => by rw [z, newS] at e; cases e]
    exact e
  refine ⟨nd, new, nS, newS, I.call' (ch := []) rfl ⟨fun b o q _ _ _ => k b o q, fun b o q _ _ _ => ⟨o.slots, k b o q⟩, fun b o q n _ => ?_, fun b o q _ => ⟨o, k b o q⟩, fun b xs q => kp b _ q, fun b o u q => kp b _ q, fun b ps q => ⟨#[], by rw [kp b _ q]; simp⟩⟩ (fun b u q => ?_) I.bare fun b z => by simp at z⟩
  · obtain ⟨z1, z2⟩ := low b o q
    rw [off b z1 z2]
    exact n
  · by_cases h2 : b = S
    · subst h2
      rw [upd_same] at q
      cases q
      refine ⟨by rw [List.length_map, la]; exact hz, acc.toList, c, by rw [ha]; exact vals_addrs as, ?_⟩
      rw [Array.toArray_toList]
      exact gS
    · by_cases h1 : b ∈ as
      · obtain ⟨j, e⟩ := List.mem_iff_getElem?.mp h1
        obtain ⟨x, y, e1, e2, pr⟩ := G.at_ j b e
        obtain ⟨v, f1, g1⟩ := vals_at rx (j := j) (u := x) (by simpa using e1)
        obtain ⟨v2, f2, g2⟩ := vals_at ry (j := j) (u := y) (by simpa using e2)
        have ez : (xs.zip ys)[j]? = some (v, v2) := by rw [List.getElem?_zip_eq_some]; exact ⟨f1, f2⟩
        rw [upd_ne h2, putZ_at as _ H j b (v, v2) nd e ez] at q
        cases q
        exact ⟨by show 2 ≤ sizeLine; decide, [x, y], .cons g1 (.cons g2 .nil), ⟨_, pr, rfl, _, rfl⟩⟩
      · rw [off b h1 h2] at q
        exact (I.hok b u q).stay (fun d v _ y => k d v y) (fun d y => kp d _ y) fun d xs y => kp d _ y
/-- list(zip(a, b)) -/
theorem pe_listZip (hc : X.calm = true) (hg : Gl X "list") (hm : X.mg "list" = none) (hg2 : Gl X "zip") (hm2 : X.mg "zip" = none) (ha : PA X [a, b] ta)
    (hs : starEach [.Call (.Name "zip" p2) [a, b] [] pos2] X.env = (false, eval (.Call (.Name "zip" p2) [a, b] [] pos2) X.env) :: starEach [] X.env := by rfl)
    (hs2 : starEach [a, b] X.env = (false, eval a X.env) :: starEach [b] X.env := by rfl) (hpl : (backTo pos2 (starEach [b] X.env)).any (·.1) = false := by rfl) :
    PE X (.Call (.Name "list" p) [.Call (.Name "zip" p2) [a, b] [] pos2] [] pos) (tCB (rLZ X.K) ta) := by
  refine ⟨fun pins s σ H Q I h => ?_⟩
  refine wpAny_Call_Name_kw (ld_blt I hg hm boot_list ?_)
  refine PyProof.Rows.callWith_type1 ?_ hs rfl
  rw [hs]; show wpAny _ _ (spliced ((false, eval (.Call (.Name "zip" p2) [a, b] [] pos2) X.env) :: backTo pos (starEach [] X.env))) _ _ s
  refine Calls.spliced_cons (wpAny_Call_Name_kw (ld_blt I hg2 hm2 PyProof.Rows.boot_zip (PyProof.Rows.callWith_type1 (thn (ha.run pos2 pins s σ H _ I h) fun us s1 ⟨vs, H1, I1, r1, q1⟩ => ?_) hs2 hpl)))
  obtain ⟨x, y, xs, ys, rfl, sx, sy, hl, q⟩ := q1
  obtain ⟨u1, u2, rfl, e1, e2⟩ : ∃ u1 u2, us = [u1, u2] ∧ RelV (.ref x) u1 ∧ RelV (.ref y) u2 := by
    cases r1 with
    | cons r rr => cases rr with
      | cons r' rr => cases rr; exact ⟨_, _, rfl, r, r'⟩
  obtain rfl := e1
  obtain rfl := e2
  obtain ⟨us, rx, px, hz⟩ := I1.list sx
  obtain ⟨ws, ry, py, _⟩ := I1.list sy
  have lx : x < s1.heap.objs.size := px.lt
  have ly : y < s1.heap.objs.size := py.lt
  have hux := rx.length
  have huy := ry.length
  refine call_zip_2 px.isList py.isList fun h5 z1 z2 z3 z4 z5 hsz k5 => Calls.spliced_nil ?_
  have D := PySem.W.ktu_apart s1.heap.objs.size x y lx ly
  refine lz_call (s := { s1 with heap := h5 }) (xs := us.toArray) (ys := ws.toArray) (I.ok.hd hc) D (fun S hS => ⟨z4, z5, z2, px.isList.at fun o e => k5 _ o e, py.isList.at fun o e => k5 _ o e, .inl ⟨rfl, z1, _, _, z3⟩⟩) z1 (Heap.lt_size z3) (Heap.lt_size z2) (Nat.lt_of_lt_of_le lx (by rw [hsz]; exact Nat.le_add_right _ _)) (Nat.lt_of_lt_of_le ly (by rw [hsz]; exact Nat.le_add_right _ _))
    (by rw [List.size_toArray]; omega) (by rw [List.size_toArray, List.size_toArray]; omega) fun h' tk acc c as kp gS la G ea => ?_
  have hS : s1.heap.objs.size ≤ h5.objs.size := by rw [hsz]; exact Nat.le_add_right _ _
  have old : ∀ b o, s1.heap.get? b = some o → h'.get? b = some o := fun b o e => by
    have l : b < s1.heap.objs.size := Heap.lt_size e
    have ne : ∀ n : Nat, b ≠ s1.heap.objs.size + n := fun n => Nat.ne_of_lt (Nat.lt_of_lt_of_le l (Nat.le_add_right _ _))
    exact kp b o (ne 4) (ne 3) (ne 0) (ne 1) (k5 b o e)
  obtain ⟨n1, n2, n3, n4, J⟩ := lz_laid (tk := tk) (S := h5.objs.size) I1 rx ry hl hz hS old gS (by rw [la, List.size_toArray]; omega) G ea
  exact ⟨.ref h5.objs.size, _, J, rfl, q as _ (by rw [la, List.size_toArray]; omega) n1 n2 n3 n4⟩
end
def fListZip : FL := fun ds S => match ds with
  | [x, y] => (match x.lst? S, y.lst? S with
    | some xs, some ys => if xs.length = ys.length ∧ xs.length ≤ 100000 then (match pures (zipD xs ys) with
      | some ps => some (.p (.lst ps), S)
      | none => none) else none
    | _, _ => none)
  | _ => none
section
variable [HasT] {X : Cx} {W : WX}
theorem putZ_nxt {G : Gb} {F : Addr → Prop} {ι : List Addr} {S : Store} : ∀ {ts : List Addr} {xs ys : List V} {dx dy : List D} {H : Hp}, R G F ι S H → RelDs G F ι H dx xs → RelDs G F ι H dy ys → ts.length = xs.length → xs.length = ys.length → ts.Nodup → (∀ t ∈ ts, H t = none) →
    Nxt G F ι H F ι S (putZ H ts (xs.zip ys)) ∧ RelDs G F ι (putZ H ts (xs.zip ys)) (zipD dx dy) (ts.map V.ref)
  | [], xs, ys, dx, dy, H, r, rx, ry, l1, l2, _, _ => by
    have e1 : xs = [] := List.eq_nil_of_length_eq_zero l1.symm
    subst e1
    have : dx = [] := by
      cases dx with
      | nil => rfl
      | cons d dx => simp only [RelDs] at rx; obtain ⟨_, _, z, _⟩ := rx; cases z
    subst this
    exact ⟨Nxt.refl r, by simp [zipD, RelDs]⟩
  | t :: ts, [], _, _, _, _, _, _, _, l1, _, _, _ => by cases l1
  | t :: ts, x :: xs, [], _, _, _, _, _, _, _, l2, _, _ => by cases l2
  | t :: ts, x :: xs, y :: ys, dx, dy, H, r, rx, ry, l1, l2, nd, fr => by
    cases dx with
    | nil => simp only [RelDs] at rx; cases rx
    | cons d1 dx => cases dy with
      | nil => simp only [RelDs] at ry; cases ry
      | cons d2 dy =>
        simp only [RelDs] at rx ry
        obtain ⟨_, _, z, r1, r2⟩ := rx
        cases z
        obtain ⟨_, _, z, q1, q2⟩ := ry
        cases z
        have ht := fr t List.mem_cons_self
        have n0 : Nxt G F ι H F ι S (upd H t (.tup [x, y])) := Nxt.fresh r ht
        have ndc := List.nodup_cons.mp nd
        obtain ⟨n1, z1⟩ := putZ_nxt (ts := ts) (H := upd H t (.tup [x, y])) n0.r (n0.ds r2) (n0.ds q2) (Nat.succ.inj l1) (Nat.succ.inj l2) ndc.2 fun t' h => by
          rw [upd_ne fun z => ndc.1 (by rw [← z]; exact h)]
          exact fr t' (List.mem_cons_of_mem _ h)
        refine ⟨n0.trans n1, ?_⟩
        show RelDs G F ι (putZ (upd H t (.tup [x, y])) ts (xs.zip ys)) (mkTup [d1, d2] :: zipD dx dy) (V.ref t :: ts.map V.ref)
        exact relDs_cons.mpr ⟨n1.d (rel_newT ht (relDs_cons.mpr ⟨r1, relDs_cons.mpr ⟨q1, relDs_nil'⟩⟩)), z1⟩
theorem de_listZip {a b : Expr} {mr : ME (List D)} {p p2 pos pos2 : Pos} (hm : X.mg "list" = none) (hm2 : X.mg "zip" = none) (ha : DA X W [a, b] mr) (hc : X.calm = true := by rfl) (hg : Gl X "list" := by rfl) (hg2 : Gl X "zip" := by rfl)
    (hs : starEach [.Call (.Name "zip" p2) [a, b] [] pos2] X.env = (false, eval (.Call (.Name "zip" p2) [a, b] [] pos2) X.env) :: starEach [] X.env := by rfl)
    (hs2 : starEach [a, b] X.env = (false, eval a X.env) :: starEach [b] X.env := by rfl) (hpl : (backTo pos2 (starEach [b] X.env)).any (·.1) = false := by rfl) :
    DE X W (.Call (.Name "list" p) [.Call (.Name "zip" p2) [a, b] [] pos2] [] pos) (mCallB fListZip mr) :=
  PE.imp (pe_listZip hc hg hm hg2 hm2 ha hs hs2 hpl) (callB_imp fun {F ι S S' H ds d' vs Q} rs r e q => by
    unfold fListZip at e
    split at e
    · rename_i x y
      obtain ⟨v, w, rfl, r1, r2⟩ := relDs2 r
      split at e
      · rename_i xs ys ex ey
        obtain ⟨a', us, rfl, q1, rd1⟩ := lst?_rel rs ex r1
        obtain ⟨b', ws, rfl, q2, rd2⟩ := lst?_rel rs ey r2
        split at e
        · rename_i hl
          split at e
          · rename_i ps ep
            cases e
            have l1 := relDs_len rd1
            have l2 := relDs_len rd2
            refine ⟨a', b', us, ws, rfl, q1, q2, by omega, fun ts p lt nd fr np hp => ?_⟩
            obtain ⟨n1, z1⟩ := putZ_nxt (ts := ts) rs rd1 rd2 (by omega) (by omega) nd fr
            have hp1 : putZ H ts (us.zip ws) p = none := by rw [putZ_off _ _ _ np]; exact hp
            exact q _ _ _ _ (n1.trans (Nxt.frz n1.r hp1)) (rel_frzL hp1 (pures_rel ep z1))
          · cases e
        · cases e
      · cases e
    · cases e)
/-- list(range(a, b)) -/
def fListRg : F2 := fun x y S => match x, y with
  | .p (.int i), .p (.int j) => if decide (-1000000 ≤ i) && (decide (i ≤ 1000000) && (decide (-1000000 ≤ j) && decide (j ≤ 1000000))) then some (.p (.lst ((List.range (j - i).toNat).map fun k => P.int (i + (k : Nat)))), S) else none
  | _, _ => none
theorem relPs_rg {G : Gb} {F : Addr → Prop} {H : Hp} (i : Int) : ∀ l : List Nat, RelPs G F H (l.map fun k => P.int (i + (k : Nat))) (l.map fun k => V.int (i + (k : Nat)))
  | [] => by simp [RelPs]
  | k :: l => by
    simp only [List.map_cons, RelPs]
    exact ⟨_, _, rfl, by simp only [RelP], relPs_rg i l⟩
theorem de_listRg {a b : Expr} {ma mb : ME D} {p p2 pos pos2 : Pos} (hm : X.mg "list" = none) (hm2 : X.mg "range" = none) (ha : DE X W a ma) (hb : DE X W b mb) (hc : X.calm = true := by rfl) (hg : Gl X "list" := by rfl) (hg2 : Gl X "range" := by rfl)
    (na : starEach [a, b] X.env = (false, eval a X.env) :: starEach [b] X.env := by rfl) (nb : starEach [b] X.env = (false, eval b X.env) :: starEach [] X.env := by rfl) (hp : (backTo pos2 (starEach [b] X.env)).any (·.1) = false := by rfl)
    (ns : starEach [.Call (.Name "range" p2) [a, b] [] pos2] X.env = (false, eval (.Call (.Name "range" p2) [a, b] [] pos2) X.env) :: starEach [] X.env := by rfl) :
    DE X W (.Call (.Name "list" p) [.Call (.Name "range" p2) [a, b] [] pos2] [] pos) (mOp2 fListRg ma mb) :=
  PE.imp (pe_listRg hc hg hm (prg_2 hg2 hm2 ha hb na nb hp) ns) fun σ H Q q => by
    obtain ⟨ρ, S, ι, F, at', t⟩ := q
    refine T.first at' t fun d1 S1 F1 ι1 H1 v1 n1 a1 r1 t1 => ?_
    refine T.first a1 t1 fun d2 S2 F2 ι2 H2 v2 n2 a2 r2 t2 => ?_
    obtain ⟨d', S', e, q⟩ := lift_then t2
    unfold fListRg at e
    split at e
    · rename_i i j
      split at e
      · rename_i h
        cases e
        simp only [Bool.and_eq_true, decide_eq_true_eq] at h
        have r1' := n2.d r1
        cases relInt r1'
        cases relInt r2
        refine ⟨i, j, rfl, rfl, ⟨by omega, by omega, by omega, by omega, by omega⟩, fun p hp => ?_⟩
        exact q _ _ _ (Nxt.frz a2.r hp) _ (rel_frzL hp (relPs_rg i _))
      · cases e
    · cases e
end
end DL
set_option maxHeartbeats 4000000
/-! DLKw: defs with one keyword-only parameter with an int as its default; repr of tuples and of lists of the store. -/
namespace DL
open PySem PySem.Spec PyProof.Rows L2
variable [HasT]
/-- a def of n positional parameters and the keyword-only one kw, whose default is d0 -/
def FnK (P : Program) (w : World) (K : PySem.W.Frag) (mg : Str → Option Value) (base : Heap) (x kw : Str) (d0 : Int) (k n : Nat) (mf : List D → M D) : Prop :=
  ∃ f fd ps w0, mg x = some (.ref f) ∧ PySem.W.keepIn K (.ref f) = true ∧ Vals [V.int d0] w0 ∧ Binds K fd ps w0 ∧ KBn K fd ps n [kw] (fun us ws => us ++ ws) (fun vs zs => vs ++ zs) ∧ ps.length = n + 1 ∧ FnOkG P w K mg base k f fd ps (spD ⟨K, mg⟩ (n + 1) mf)
theorem fn_mkK {P : Program} {w : World} {K : PySem.W.Frag} {mg : Str → Option Value} {base : Heap} {x qual kw : Str} {d0 : Int} {params : Arguments} {body : List Stmt} {scope : Scope} {f : Addr} {fd : FuncData} {N ps : List Str} {k n m : Nat} {fin : Fin} {ms : MS}
    (hg : mg x = some (.ref f)) (Fd : FunD K x qual params body scope [] [(kw, .int d0)] f fd) (S : FnScope N ps scope) (hn : ps.length = n + 1) (hm : N.length = m) (fo : FinOk fin)
    (hb0 : ∀ (D : Addr) (doc pm : Value) (an : Option Addr) (cdv ct : Value) (us : List Value) (z : Value), us.length = n → KwChain D [(kw, z)] (bindArgs (PySem.W.fnOf x qual params body scope .none (.ref D) doc pm an cdv ct) ⟨us, []⟩) (ps.zip (us ++ [z])))
    (hb1 : ∀ (D : Addr) (doc pm : Value) (an : Option Addr) (cdv ct : Value) (us : List Value) (z : Value), us.length = n → bindArgs (PySem.W.fnOf x qual params body scope .none (.ref D) doc pm an cdv ct) ⟨us, [(kw, z)]⟩ = pure (ps.zip (us ++ [z])))
    (hb : ∀ (cdv : Value) (A : Around) (outer : List PySem.Env) (s : Shared) (H : Hp) (E : XK), Room k (A.deeper (envOfC qual scope s.heap.objs.size f cdv)) → (A.deeper (envOfC qual scope s.heap.objs.size f cdv)).guards = some [] → DSs (cxOf (L2.CX P w) P w K mg base N qual scope f cdv A outer s H E) (WfE E) body ms) :
    FnK P w K mg base x kw d0 (k + 1) n (mFn m fin ms) := by
  obtain ⟨w0, v0, b0⟩ := Fd.binds0 (ps := ps) n (by simp) (by rw [hn]; rfl) fun D doc pm an cdv ct us ks l1 l2 => by
    match ks, l2 with
    | [z], _ => exact hb0 D doc pm an cdv ct us z l1
  obtain ⟨_, kb⟩ := Fd.kbinds0 (ps := ps) n [kw] [] (fun us _ ws => us ++ ws) (by simp) (fun q hq => absurd hq List.not_mem_nil) (fun r1 _ r3 => r1.append r3) fun D doc pm an cdv ct us mv ws l1 l2 l3 => by
    match ws, l3 with
    | [z], _ => exact hb1 D doc pm an cdv ct us z l1
  exact ⟨f, fd, ps, w0, hg, Fd.kp, v0, b0, kb, hn, fn_body Fd S hn hm fo hb⟩
section
variable {X : Cx} {k n : Nat} {f : Addr} {fd : FuncData} {ps ks : List Str} {sp : Sp} {E : L2.St → XK} {x : Str} {p pos kpos : Pos} {e e2 : Expr} {es : List Expr} {t tk : TA}
def tCallGD (sp : Sp) (dvs : List V) (E : L2.St → XK) (t : TA) : TE := fun σ H Q => t σ H fun vs H1 => sp (vs ++ dvs) H1 Q (E σ)
theorem pe_callGD {ds : List Value} {dvs : List V} (F : FnOkG X.prog X.w X.K X.mg X.base k f fd ps sp) (hr : Room k X.A) (hgd : X.A.guards = some []) (hg : Gl X x) (hm : X.mg x = some (.ref f)) (hk : PySem.W.keepIn X.K (.ref f) = true) (hb : Binds X.K fd ps ds) (hd : Vals dvs ds) (hx : ∀ σ, PassesAt (L2.CX X.prog X.w) X σ (E σ))
    (ha : PA X (e :: es) t) (hdb : (x == ("__debug__" : Str)) = false := by decide) (he : starEach (e :: es) X.env = (false, eval e X.env) :: starEach es X.env := by rfl) (hpl : (backTo pos (starEach es X.env)).any (·.1) = false := by rfl) :
    PE X (.Call (.Name x p) (e :: es) [] pos) (tCallGD sp dvs E t) := by
  refine ⟨fun pins s σ H Q I h => ?_⟩
  refine wpAny_Call_Name_kw (ld_glob I hg hm ?_ hdb)
  refine PySem.W.callWith_K (h₀ := X.base) I.ok.mod.kin hk (thn (ha.run pos pins s σ H _ I h) fun us s1 ⟨vs, H1, I1, r, q⟩ => ⟨I1.kIn, ?_⟩) he hpl
  have r2 : Vals (vs ++ dvs) (us ++ ds) := r.append hd
  have hl : (us ++ ds).length = ps.length := by rw [← r2.length]; exact F.len _ _ _ _ q
  refine wpAny_call (codeAny_mono (F.run X.A X.stack s1 H1 ⟨us, []⟩ (us ++ ds) (vs ++ dvs) Q (E σ) hr hgd I1.env0 (hb s1 us I1.kIn hl) r2 q) fun r s' hq => ?_)
  cases r with
  | error e => exact hx σ pins H1 s1 e s' I1 hq
  | ok fl =>
    cases fl with
    | ret u => exact I1.after hq
    | next => exact False.elim hq
    | brk => exact False.elim hq
    | cont => exact False.elim hq
def tCallGN (n m : Nat) (sp : Sp) (E : L2.St → XK) (t tk : TA) : TE := fun σ H Q => t σ H fun vs H1 => tk σ H1 fun zs H2 => vs.length = n ∧ zs.length = m ∧ sp (vs ++ zs) H2 Q (E σ)
theorem pe_callGN {kws : List Keyword} (F : FnOkG X.prog X.w X.K X.mg X.base k f fd ps sp) (hr : Room k X.A) (hgd : X.A.guards = some []) (hg : Gl X x) (hm : X.mg x = some (.ref f)) (hk : PySem.W.keepIn X.K (.ref f) = true)
    (hb : KBn X.K fd ps n ks (fun us ws => us ++ ws) (fun vs zs => vs ++ zs)) (hx : ∀ σ, PassesAt (L2.CX X.prog X.w) X σ (E σ))
    (ha : PA X (e :: es) t) (hkw : PK X kws tk) (hall : (backToKw pos (keywordEach kws X.env)).all (·.1.isSome) = true := by rfl) (hks : (backToKw pos (keywordEach kws X.env)).filterMap (·.1) = ks := by rfl)
    (hdb : (x == ("__debug__" : Str)) = false := by decide) (he : starEach (e :: es) X.env = (false, eval e X.env) :: starEach es X.env := by rfl)
    (hpl : ((backTo pos (starEach (e :: es) X.env)).any (·.1) || (backToKw pos (keywordEach kws X.env)).any (·.1.isNone)) = false := by rfl) :
    PE X (.Call (.Name x p) (e :: es) kws pos) (tCallGN n ks.length sp E t tk) := by
  refine ⟨fun pins s σ H Q I h => ?_⟩
  refine wpAny_Call_Name_kw (ld_glob I hg hm ?_ hdb)
  refine PySem.W.callWith_KW (h₀ := X.base) I.ok.mod.kin hk hall (thn (ha.run pos pins s σ H _ I h) fun us s1 ⟨vs, H1, I1, r, q⟩ => ?_) hpl he
  refine thn (hkw.run pos pins s1 σ H1 _ I1 q) fun ws s2 ⟨zs, H2, I2, rz, l1, l2, q2⟩ => ⟨I2.kIn, ?_⟩
  rw [hks]
  have r2 := hb.rel r rz
  refine wpAny_call (codeAny_mono (F.run X.A X.stack s2 H2 ⟨us, ks.zip ws⟩ (us ++ ws) (vs ++ zs) Q (E σ) hr hgd I2.env0 (hb.to s2 us ws I2.kIn (r.length.symm.trans l1) (rz.length.symm.trans l2)) r2 q2) fun r s' hq => ?_)
  cases r with
  | error e => exact hx σ pins H2 s2 e s' I2 hq
  | ok fl =>
    cases fl with
    | ret u => exact I2.after hq
    | next => exact False.elim hq
    | brk => exact False.elim hq
    | cont => exact False.elim hq
/-- x(e, ..) by the default | x(e, .., kw = e2) -/
def mCallD (mf : List D → M D) (d0 : Int) (m : ME (List D)) : ME D := fun ρ S => (m ρ S).bind fun ds => mf (ds ++ [.p (.int d0)])
def mCallK (mf : List D → M D) (m : ME (List D)) (me : ME D) : ME D := fun ρ S => (m ρ S).bind fun ds => fun S => (me ρ S).bind fun d => mf (ds ++ [d])
variable {W : WX} {mr : ME (List D)} {me : ME D}
theorem relInt_mk {G : Gb} {F : Addr → Prop} {ι : List Addr} {H : Hp} (i : Int) : RelDs G F ι H [.p (.int i)] [.int i] := relDs_cons.mpr ⟨mkInt, relDs_nil'⟩
theorem de_callD {x kw : Str} {d0 : Int} {k n : Nat} {mf : List D → M D} (F : FnK X.prog X.w X.K X.mg X.base x kw d0 k n mf) (hr : Room k X.A) (hgd : X.A.guards = some []) (tk : Takes X W) (ha : DA X W (e :: es) mr) [ar : Args mr n] (hg : Gl X x := by rfl)
    (hdb : (x == ("__debug__" : Str)) = false := by decide) (he : starEach (e :: es) X.env = (false, eval e X.env) :: starEach es X.env := by rfl) (hpl : (backTo pos (starEach es X.env)).any (·.1) = false := by rfl) :
    DE X W (.Call (.Name x p) (e :: es) [] pos) (mCallD mf d0 mr) := by
  obtain ⟨f, fd, ps, w0, hm, hk, hv, hb, _, hn, Fo⟩ := F
  refine PE.imp (pe_callGD Fo hr hgd hg hm hk hb hv (fun σ => passAt tk σ) ha hdb he hpl) fun σ H Q q => ?_
  obtain ⟨ρ, S, ι, F, a, t⟩ := q
  refine ⟨ρ, S, ι, F, a, ?_⟩
  have t1 := Then.bind t
  revert t1
  generalize em : mr ρ S = r
  intro t1
  cases r with
  | ok ds S' =>
    intro F' ι' H' nx vs rv
    exact ⟨by rw [List.length_append, ← relDs_len rv, ar.len ρ S ds S' em]; rfl, ds ++ [.p (.int d0)], S', ι', F', nx.r, relDs_append rv (relInt_mk d0), t1 F' ι' H' nx⟩
  | err x S' => exact t1
  | stuck => exact t1.elim
theorem de_callK {x kw : Str} {d0 : Int} {k n : Nat} {mf : List D → M D} (F : FnK X.prog X.w X.K X.mg X.base x kw d0 k n mf) (hr : Room k X.A) (hgd : X.A.guards = some []) (tk : Takes X W) (ha : DA X W (e :: es) mr) (hw : DE X W e2 me) [ar : Args mr n] (hg : Gl X x := by rfl)
    (hall : (backToKw pos (keywordEach [⟨some kw, e2, kpos⟩] X.env)).all (·.1.isSome) = true := by rfl) (hks : (backToKw pos (keywordEach [⟨some kw, e2, kpos⟩] X.env)).filterMap (·.1) = [kw] := by rfl)
    (hdb : (x == ("__debug__" : Str)) = false := by decide) (he : starEach (e :: es) X.env = (false, eval e X.env) :: starEach es X.env := by rfl)
    (hpl : ((backTo pos (starEach (e :: es) X.env)).any (·.1) || (backToKw pos (keywordEach [⟨some kw, e2, kpos⟩] X.env)).any (·.1.isNone)) = false := by rfl) :
    DE X W (.Call (.Name x p) (e :: es) [⟨some kw, e2, kpos⟩] pos) (mCallK mf mr me) := by
  obtain ⟨f, fd, ps, w0, hm, hk, _, _, kb, hn, Fo⟩ := F
  refine PE.imp (pe_callGN Fo hr hgd hg hm hk kb (fun σ => passAt tk σ) ha (pk_cons hw pk_nil) hall hks hdb he hpl) fun σ H Q q => ?_
  obtain ⟨ρ, S, ι, F, a, t⟩ := q
  refine ⟨ρ, S, ι, F, a, ?_⟩
  have t1 := Then.bind t
  revert t1
  generalize em : mr ρ S = r
  intro t1
  cases r with
  | ok ds S' =>
    intro F' ι' H' nx vs rv
    have t2 := t1 F' ι' H' nx
    refine T.first (a.next nx) t2 fun d S2 F2 ι2 H2 v n2 a2 r2 t3 => ?_
    exact ⟨by rw [← relDs_len rv, ar.len ρ S ds S' em], rfl, by rw [List.length_append, ← relDs_len rv, ar.len ρ S ds S' em]; rfl, ds ++ [d], S2, ι2, F2, a2.r, relDs_append (n2.ds rv) (relDs_cons.mpr ⟨r2, relDs_nil'⟩), t3⟩
  | err x S' => exact t1
  | stuck => exact t1.elim
end
/-! ### repr -/
section
variable {X : Cx}
/-- repr of a tuple of data -/
def fReprT : FL := fun ds S => match ds with
  | [.p (.tup xs)] => (match toPDs xs with
    | some ps => if (PyData.tuple ps).showable && (decide (PyData.depthAll ps ≤ 50) && decide ((PyData.tuple ps).shown.length ≤ sizeLine)) then some (.p (.str (PyData.tuple ps).shown), S) else none
    | none => none)
  | _ => none
theorem cd_reprT (gd : X.A.guards = some []) (hu : X.A.units + 65 < cLine) : CallD X (.builtin "repr") fReprT := by
  refine ⟨fun xs H Q => ∃ (F : Addr → Prop) (ps : List P) (ds : List PyData) (v : V), xs = [v] ∧ RelP (gb X) F H (.tup ps) v ∧ toPDs ps = some ds ∧ (PyData.tuple ds).showable = true ∧ PyData.depthAll ds ≤ 50 ∧ (PyData.tuple ds).shown.length ≤ sizeLine ∧ Q (.str (PyData.tuple ds).shown) H, ?_, ?_⟩
  · intro pins s σ H xs us Q I r h
    obtain ⟨F, ps, ds, v, rfl, rp, ed, sh, dp, sz, q⟩ := h
    simp only [RelP] at rp
    obtain ⟨a, vs, rfl, qa, rs⟩ := rp
    cases r with
    | cons ra rn =>
      cases rn
      obtain rfl := ra
      obtain ⟨its, ri, ⟨o, g1, g2, n, g3⟩, _⟩ := I.tuple (SqT.of qa)
      have S := relPs_sho I ed rs ri
      simp only [PyData.shown] at sz q
      obtain ⟨bs, hb, hk⟩ := S.2 (by simpa [PyData.showable] using sh) fun t ht => Nat.le_trans (tupleText_mem_le ht) sz
      obtain ⟨as, ra⟩ := S.1
      have off : a ∉ bs := not_mem_of_deeper (.tuple g1 g2 g3 (by simpa using ra) : Reads s.heap (.ref a) (.tuple ds) _) (by simp only [PyData.depth]; omega) hb
      refine call_repr_slot (by omega) ⟨o, g1, g2⟩ PySem.F.slot_tuple_repr (call_tuple_reprK (h₀ := s.heap) g1 g2 g3 off (by simpa using hk) (g := []) gd (fun b _ => Clear.nil b) (by show X.A.units + 1 + (_ + 1) < cLine; omega) (fun _ _ e => e) (fun h' t tk k => ⟨_, _, rfl, .str _, H, ?_, ⟨t, rfl⟩, q⟩) sz)
      exact I.kept (t' := tk) k
  · intro F ι S S' H ds d' vs Q rs r e q
    unfold fReprT at e
    split at e
    · rename_i xs
      split at e
      · rename_i ps hp
        split at e
        · rename_i hc
          cases e
          simp only [Bool.and_eq_true, decide_eq_true_eq] at hc
          obtain ⟨v, rfl, r1⟩ := relDs1 r
          exact ⟨F, xs, ps, v, rfl, by simpa only [RelD] using r1, hp, hc.1, hc.2.1, hc.2.2, q F ι H _ (Nxt.refl rs) mkStr⟩
        · cases e
      · cases e
    · cases e
/-- repr of a list of the store, of data -/
def fReprR : FL := fun ds S => match ds with
  | [.r n] => (match D.own? (.r n) S with
    | some (y :: ys) => (match pures (y :: ys) with
      | some xs => (match toPDs xs with
        | some ps => if (PyData.list ps).showable && (decide (PyData.depthAll ps ≤ 50) && decide ((PyData.list ps).shown.length ≤ sizeLine)) then some (.p (.str (PyData.list ps).shown), S) else none
        | none => none)
      | none => none)
    | _ => none)
  | _ => none
theorem cd_reprR (gd : X.A.guards = some []) (hu : X.A.units + 65 < cLine) : CallD X (.builtin "repr") fReprR := by
  refine ⟨fun xs H Q => ∃ (F : Addr → Prop) (ps : List P) (ds : List PyData) (a : Addr) (v : V) (vs : List V), xs = [.ref a] ∧ H a = some (.lst (v :: vs)) ∧ RelPs (gb X) F H ps (v :: vs) ∧ toPDs ps = some ds ∧ (PyData.list ds).showable = true ∧ PyData.depthAll ds ≤ 50 ∧ (PyData.list ds).shown.length ≤ sizeLine ∧ Q (.str (PyData.list ds).shown) H, ?_, ?_⟩
  · intro pins s σ H xs us Q I r h
    obtain ⟨F, ps, ds, a, v, vs, rfl, qa, rs, ed, sh, dp, sz, q⟩ := h
    cases r with
    | cons ra rn =>
      cases rn
      obtain rfl := ra
      obtain ⟨its, ri, ⟨o, n, g1, g2, _, g3⟩, _⟩ := I.list (xs := v :: vs) (.inl (.inl qa))
      have S := relPs_sho I ed rs ri
      simp only [PyData.shown] at sz q
      obtain ⟨bs, hb, hk⟩ := S.2 (by simpa [PyData.showable] using sh) fun t ht => Nat.le_trans (listText_mem_le ht) sz
      obtain ⟨as, ra⟩ := S.1
      have off : a ∉ bs := not_mem_of_deeper (.list g1 g2 g3 (by simpa using ra) : Reads s.heap (.ref a) (.list ds) _) (by simp only [PyData.depth]; omega) hb
      cases ri with
      | cons r1 r2 =>
        refine call_repr_slot (by omega) ⟨o, g1, g2⟩ PySem.F.slot_list_repr.toG (call_list_reprK (h₀ := s.heap) g1 g2 g3 off (by simpa using hk.length_eq) (fun i y q => hk.item i y (by simpa using q)) (g := []) gd (fun b _ => Clear.nil b) (by show X.A.units + 1 + (_ + 1) < cLine; omega) (fun _ _ e => e) (fun h' t tk k => ⟨_, _, rfl, .str _, H, ?_, ⟨t, rfl⟩, q⟩) sz)
        exact I.kept (t' := tk) k
  · intro F ι S S' H ds d' vs Q rs r e q
    unfold fReprR at e
    split at e
    · rename_i n
      split at e
      · rename_i y ys eo
        split at e
        · rename_i xs ex
          split at e
          · rename_i ps hp
            split at e
            · rename_i hc
              cases e
              simp only [Bool.and_eq_true, decide_eq_true_eq] at hc
              obtain ⟨v, rfl, r1⟩ := relDs1 r
              obtain ⟨a, us, rfl, ha, rd⟩ := own?_rel rs eo r1
              obtain ⟨u, us, rfl, _, _⟩ := (by simpa only [RelDs] using rd : ∃ v ws, us = v :: ws ∧ _ ∧ _)
              exact ⟨F, xs, ps, a, u, us, rfl, ha, pures_rel ex rd, hp, hc.1, hc.2.1, hc.2.2, q F ι H _ (Nxt.refl rs) mkStr⟩
            · cases e
          · cases e
        · cases e
      · cases e
    · cases e
def fReprX : FL := fun x S => match fRepr x S with
  | some z => some z
  | none => (match fReprT x S with
    | some z => some z
    | none => fReprR x S)
theorem cd_reprX (gd : X.A.guards = some []) (hu : X.A.units + 65 < cLine) : CallD X (.builtin "repr") fReprX := (cd_repr gd hu).or ((cd_reprT gd hu).or (cd_reprR gd hu))
/-! ### min, max of three -/
def fMin3 : FL := fun ds S => match ds with
  | [.p (.int i), .p (.int j), .p (.int k)] => some (.p (.int (min (min i j) k)), S)
  | _ => none
def fMax3 : FL := fun ds S => match ds with
  | [.p (.int i), .p (.int j), .p (.int k)] => some (.p (.int (max (max i j) k)), S)
  | _ => none
theorem nuMin2_int (i j : Int) : nuMin2 (.int i) (.int j) = some (.int (min i j)) := by
  show some (if decide (j < i) = true then V.int j else V.int i) = _
  by_cases h : j < i
  · rw [if_pos (decide_eq_true h), Int.min_eq_right (by omega)]
  · rw [if_neg (by simpa using h), Int.min_eq_left (by omega)]
theorem nuMax2_int (i j : Int) : nuMax2 (.int i) (.int j) = some (.int (max i j)) := by
  show some (if decide (i < j) = true then V.int j else V.int i) = _
  by_cases h : i < j
  · rw [if_pos (decide_eq_true h), Int.max_eq_right (by omega)]
  · rw [if_neg (by simpa using h), Int.max_eq_left (by omega)]
theorem nuMin3_int (i j k : Int) : nuMin3 (.int i) (.int j) (.int k) = some (.int (min (min i j) k)) := by
  unfold nuMin3
  rw [nuMin2_int]
  exact nuMin2_int _ _
theorem nuMax3_int (i j k : Int) : nuMax3 (.int i) (.int j) (.int k) = some (.int (max (max i j) k)) := by
  unfold nuMax3
  rw [nuMax2_int]
  exact nuMax2_int _ _
theorem cd_min3 (hc : X.calm = true) : CallD X (.builtin "min") fMin3 := ⟨_, call_min3Nu hc, fun {F ι S S' H ds d' vs Q} rs r e q => by
  unfold fMin3 at e
  split at e
  · cases e
    obtain ⟨a, b, c, rfl, r1, r2, r3⟩ := relDs3 r
    cases relInt r1
    cases relInt r2
    cases relInt r3
    exact ⟨_, _, _, _, rfl, nuMin3_int _ _ _, q F ι H _ (Nxt.refl rs) mkInt⟩
  · cases e⟩
theorem cd_max3 (hc : X.calm = true) : CallD X (.builtin "max") fMax3 := ⟨_, call_max3Nu hc, fun {F ι S S' H ds d' vs Q} rs r e q => by
  unfold fMax3 at e
  split at e
  · cases e
    obtain ⟨a, b, c, rfl, r1, r2, r3⟩ := relDs3 r
    cases relInt r1
    cases relInt r2
    cases relInt r3
    exact ⟨_, _, _, _, rfl, nuMax3_int _ _ _, q F ι H _ (Nxt.refl rs) mkInt⟩
  · cases e⟩
end
end DL
set_option maxHeartbeats 4000000
/-! DLObj: instances of own classes: made, their fields read and stored, their methods called (also def m(self, *rest)), their properties read; *e in a display. -/
namespace DL
open PySem PySem.Spec PyProof.Rows L2
variable [HasT]
/-! ### *e among arguments -/
def mStar (me : ME D) (mr : ME (List D)) : ME (List D) := fun ρ S => (me ρ S).bind fun d => fun S => match d.seq? S with
  | some xs => (mr ρ S).bind fun ys => fun S => .ok (xs ++ ys) S
  | none => .stuck
section
variable {X : Cx} {W : WX} {e : Expr} {es : List Expr} {p : Pos} {me : ME D} {mr : ME (List D)}
theorem da_star (he : DE X W e me) (hr : DA X W es mr) (hs : starEach (.Starred e p :: es) X.env = (true, eval e X.env) :: starEach es X.env := by rfl) : DA X W (.Starred e p :: es) (mStar me mr) := PA.imp (StX.pa_star he hr hs) fun σ H Q q => by
  obtain ⟨ρ, S, ι, F, at', t⟩ := q
  refine T.first at' t fun d1 S1 F1 ι1 H1 v1 n1 a1 r1 t1 => ?_
  cases ex : d1.seq? S1 with
  | none => rw [ex] at t1; exact t1.elim
  | some xs =>
    rw [ex] at t1
    obtain ⟨a, vs, rfl, q1, rd⟩ := seq?_rel a1.r ex r1
    refine ⟨a, vs, rfl, q1.symm, ?_⟩
    refine TL.first a1 t1 fun ds S2 F2 ι2 H2 ws n2 a2 r2 t2 => ?_
    exact t2.now a2.r _ (relDs_append (n2.ds rd) r2)
end
/-! ### the fields of an instance -/
def putD (f : Str) (d : D) : List (Str × D) → List (Str × D)
  | [] => [(f, d)]
  | (g, x) :: r => if g = f then (g, d) :: r else (g, x) :: putD f d r
section
variable {G : Gb} {F : Addr → Prop} {ι : List Addr} {H : Hp} {S : Store}
theorem putD_rel {f : Str} {d : D} {v : V} (rv : RelD G F ι H d v) : ∀ {fs : List (Str × D)} {fvs : List (Str × V)}, RelDf G F ι H fs fvs → RelDf G F ι H (putD f d fs) (putF f v fvs)
  | [], fvs, h => by
    obtain rfl : fvs = [] := h
    exact ⟨v, [], rfl, rv, rfl⟩
  | (g, x) :: fs, fvs, h => by
    obtain ⟨w, ws, rfl, a, b⟩ := h
    unfold putD putF
    by_cases q : g = f
    · rw [if_pos q, if_pos q]
      exact ⟨v, ws, rfl, rv, b⟩
    · rw [if_neg q, if_neg q]
      exact ⟨w, _, rfl, a, putD_rel rv b⟩
theorem relDf_len : ∀ {fs : List (Str × D)} {fvs : List (Str × V)}, RelDf G F ι H fs fvs → fvs.length = fs.length
  | [], fvs, h => by
    obtain rfl : fvs = [] := h
    rfl
  | (g, x) :: fs, fvs, h => by
    obtain ⟨w, ws, rfl, a, b⟩ := h
    rw [List.length_cons, List.length_cons, relDf_len b]
theorem relDf_some {f : Str} {d : D} : ∀ {fs : List (Str × D)} {fvs : List (Str × V)}, RelDf G F ι H fs fvs → fs.lookup f = some d → ∃ v, fvs.lookup f = some v ∧ RelD G F ι H d v
  | [], fvs, h, e => by cases e
  | (g, x) :: fs, fvs, h, e => by
    obtain ⟨w, ws, rfl, a, b⟩ := h
    simp only [List.lookup] at e ⊢
    split at e
    · cases e
      exact ⟨w, rfl, a⟩
    · exact relDf_some b e
theorem relDf_none {f : Str} : ∀ {fs : List (Str × D)} {fvs : List (Str × V)}, RelDf G F ι H fs fvs → fs.lookup f = none → fvs.lookup f = none
  | [], fvs, h, e => by
    obtain rfl : fvs = [] := h
    rfl
  | (g, x) :: fs, fvs, h, e => by
    obtain ⟨w, ws, rfl, a, b⟩ := h
    simp only [List.lookup] at e ⊢
    split at e
    · cases e
    · exact relDf_none b e
theorem relPf_D : ∀ {fs : List (Str × P)} {fvs : List (Str × V)}, RelPf G F H fs fvs → RelDf G F ι H (fs.map fun q => (q.1, D.p q.2)) fvs
  | [], fvs, h => by
    simp only [RelPf] at h
    exact h
  | (g, x) :: fs, fvs, h => by
    simp only [RelPf] at h
    obtain ⟨w, ws, rfl, a, b⟩ := h
    exact ⟨w, ws, rfl, by simpa only [RelD] using a, relPf_D b⟩
/-- the fields of an instance of the class c -/
def D.ins? (c : Str) (d : D) (S : Store) : Option (List (Str × D)) := match d with
  | .p (.ins c' fs) => if c' = c then some (fs.map fun q => (q.1, D.p q.2)) else none
  | .r n => match S.objs[n]? with
    | some (.ins c' fs) => if c' = c then some fs else none
    | _ => none
  | _ => none
theorem ins?_rel {c : Str} {d : D} {fs : List (Str × D)} {v : V} (rs : R G F ι S H) (h : d.ins? c S = some fs) (r : RelD G F ι H d v) : ∃ a C dx fvs, v = .ref a ∧ G.mg c = some (.ref C) ∧ H a = some (.ins C dx fvs) ∧ RelDf G F ι H fs fvs := by
  cases d with
  | p x =>
    cases x with
    | ins c' gs =>
      simp only [D.ins?] at h
      split at h
      · rename_i e
        cases h
        subst e
        simp only [RelD, RelP] at r
        obtain ⟨a, C, dx, fvs, e, _, m, q, rf⟩ := r
        exact ⟨a, C, dx, fvs, e, m, q, relPf_D rf⟩
      · cases h
    | _ => cases h
  | r n =>
    simp only [D.ins?] at h
    split at h
    · rename_i c' gs e
      split at h
      · rename_i ec
        cases h
        subst ec
        simp only [RelD] at r
        obtain ⟨a, rfl, ea⟩ := r
        obtain ⟨a', ea', q⟩ := rs.obj e
        rw [ea] at ea'
        cases ea'
        obtain ⟨C, dx, fvs, m, q, rf⟩ := q
        exact ⟨a, C, dx, fvs, rfl, m, q, rf⟩
      · cases h
    · cases h
  | t xs => cases h
end
/-- what is known of the class c and its attribute f -/
def ClsE (K : PySem.W.Frag) (mg : Str → Option Value) (c : Str) : Prop := ∀ C, mg c = some (.ref C) → Cls K C
def NoatE (K : PySem.W.Frag) (mg : Str → Option Value) (c f : Str) : Prop := ∀ C, mg c = some (.ref C) → NoAttr K C f
/-- x.f -/
def fFld (c f : Str) : D → Store → Option (D × Store) := fun x S => match x.ins? c S with
  | some fs => (match fs.lookup f with
    | some d => some (d, S)
    | none => none)
  | none => none
def putI (n : Nat) (c : Str) (fs : List (Str × D)) (S : Store) : Option Store := if h : (O.ins c fs).lo S.objs.length = true then some (S.put n (.ins c fs) h) else none
/-- x.f = y -/
def fSetF (c f : Str) : D → D → Store → Option Store := fun x y S => match x with
  | .r n => (match S.objs[n]? with
    | some (.ins c' fs) => if c' = c ∧ fs.length < 1000 then putI n c (putD f y fs) S else none
    | _ => none)
  | _ => none
def mSetF (c f : Str) (me mo : ME D) : MS := fun ρ S => (me ρ S).bind fun y => fun S => (mo ρ S).bind fun x => liftS (fSetF c f x y) ρ
section
variable {X : Cx} {W : WX} {o e : Expr} {c f : Str} {pos pos' : Pos} {mo me : ME D}
theorem de_fld (hc : ClsE X.K X.mg c) (hn : NoatE X.K X.mg c f) (ho : DE X W o mo) (hb : attributeBase o f X.env (eval o X.env) = eval o X.env := by rfl) : DE X W (.Attribute o f pos) (mOp1 (fFld c f) mo) := PE.imp (pe_fld ho hb) fun σ H Q q => by
  obtain ⟨ρ, S, ι, F, at', t⟩ := q
  refine T.first at' t fun d1 S1 F1 ι1 H1 v1 n1 a1 r1 t1 => ?_
  obtain ⟨d', S', e', q⟩ := lift_then t1
  unfold fFld at e'
  split at e'
  · rename_i fs ef
    split at e'
    · rename_i d el
      cases e'
      obtain ⟨a, C, dx, fvs, rfl, hm, ha, rf⟩ := ins?_rel a1.r ef r1
      obtain ⟨v, hv, rv⟩ := relDf_some rf el
      exact ⟨a, C, dx, fvs, v, rfl, ha, hc C hm, hn C hm, hv, q F1 ι1 H1 (Nxt.refl a1.r) v rv⟩
    · cases e'
  · cases e'
theorem ds_setF (hc : ClsE X.K X.mg c) (hn : NoatE X.K X.mg c f) (he : DE X W e me) (ho : DE X W o mo) (hs : swapsWith e (some (.Attribute o f pos')) pos.line X.env = pure false := by rfl) : DS X W (.Assign [.Attribute o f pos'] e pos) (mSetF c f me mo) := PS.imp (ps_fld ho he hs) fun E σ H q => by
  obtain ⟨ρ, S, ι, F, a, t⟩ := q
  refine T.firstS a t fun d S1 F1 ι1 H1 v n a1 r t1 => ?_
  refine T.firstS a1 t1 fun d2 S2 F2 ι2 H2 v2 n2 a2 r2 t2 => ?_
  obtain ⟨S', e', q⟩ := liftS_then t2
  unfold fSetF at e'
  split at e'
  · rename_i k
    split at e'
    · rename_i c' fs eo
      split at e'
      · rename_i hh
        obtain ⟨rfl, hl⟩ := hh
        unfold putI at e'
        split at e'
        · rename_i hw
          cases e'
          simp only [RelD] at r2
          obtain ⟨b, rfl, eb⟩ := r2
          obtain ⟨b', eb', qo⟩ := a2.r.obj eo
          rw [eb] at eb'
          cases eb'
          obtain ⟨C, dx, fvs, hm, hb, rf⟩ := qo
          have rd := putD_rel (f := f) (n2.d r) rf
          have kp : Keep F2 ι2 H2 (upd H2 b (.ins C dx (putF f v fvs))) := keep_put (a2.r.nf b (List.mem_of_getElem? eb)) (List.mem_of_getElem? eb) hb rfl
          have nx : Nxt (gb X) F2 ι2 H2 F2 ι2 (S2.put k (.ins c' (putD f d fs)) hw) (upd H2 b (.ins C dx (putF f v fvs))) :=
            Nxt.putO a2.r eb hb rfl hw ⟨C, dx, putF f v fvs, hm, upd_same, rd.mono' kp.w (fun _ h => h) (List.prefix_refl _)⟩
          exact ⟨b, C, dx, fvs, rfl, hb, hc C hm, hn C hm, by rw [relDf_len rf]; exact hl, q _ _ _ nx σ rfl (a2.e.mono nx)⟩
        · cases e'
      · cases e'
    · cases e'
  · cases e'
end
/-! ### methods -/
section
variable {X : Cx} {C f : Addr} {m : Str} {sp : Sp} {E : L2.St → XK} {o e : Expr} {es : List Expr} {ta : TE} {t : TA} {apos pos : Pos}
/-- the callee's runs, from where this body stands -/
def Runs (X : Cx) (f : Addr) (sp : Sp) (E : L2.St → XK) : Prop := ∀ (pins : List (Addr × Obj)) (s : Shared) (σ : L2.St) (H : Hp) (Q : VK) (us : List Value) (vs : List V), Inv X pins σ H s → Vals vs us → sp vs H Q (E σ) → wpAny (model X.prog X.w) X.A (call (.ref f) us) (EP X pins σ Q) X.xe s
theorem runs_G {k : Nat} {fd : FuncData} {ps : List Str} (F : FnOkG X.prog X.w X.K X.mg X.base k f fd ps sp) (hr : Room k X.A) (hgd : X.A.guards = some []) (hb : Binds X.K fd ps []) (hx : ∀ σ, PassesAt (L2.CX X.prog X.w) X σ (E σ)) : Runs X f sp E :=
  fun _ _ σ _ _ _ _ I r h => run_fnG F hr hgd hb (hx σ) I r h
def tMethX (C : Addr) (m : Str) (sp : Sp) (E : L2.St → XK) (ta : TE) (t : TA) : TE := fun σ H Q => ta σ H fun x H1 => ∃ a dx fs, x = .ref a ∧ H1 a = some (.ins C dx fs) ∧ fs.lookup m = none ∧ t σ H1 fun vs H2 => sp (x :: vs) H2 Q (E σ)
theorem pe_methX {pl : Sem Bool} (he : PE X o ta) (c : Cls X.K C) (hm : Meth X.K C m f) (run : Runs X f sp E) (ha : PA X (e :: es) t)
    (hst : starEach (e :: es) X.env = (false, eval e X.env) :: starEach es X.env := by rfl) (hpl : (backTo pos (starEach es X.env)).any (·.1) = false := by rfl)
    (ht : eval (.Call (.Attribute o m apos) (e :: es) [] pos) X.env = (do
      let ov ← eval o X.env
      standAt apos.atName
      let (f, first) ← holding [ov] (getMethod ov m pl)
      callWith pos f first (backTo pos (starEach (e :: es) X.env)) (backToKw pos (keywordEach [] X.env))) := by rfl) :
    PE X (.Call (.Attribute o m apos) (e :: es) [] pos) (tMethX C m sp E ta t) := by
  refine ⟨fun pins s σ H Q I h => ?_⟩
  refine PySem.W.methodCall_KW (pl := pl) (thn (he.run pins s σ H _ I h) fun u s1 ⟨x, H1, I1, rx, a, dx, fs, ex, ea, l, q⟩ => ?_) ht
  subst ex
  obtain rfl : u = Value.ref a := rx
  refine getmeth_ok I1 ea c hm l ?_
  refine PySem.W.callWith_K (first := [.ref a]) (h₀ := X.base) I.ok.mod.kin hm.kp (thn (ha.run pos pins s1 σ H1 _ I1 q) fun us s2 ⟨vs, H2, I2, r, q2⟩ => ⟨I2.kIn, ?_⟩) hst hpl
  exact run pins s2 σ H2 Q (.ref a :: us) (.ref a :: vs) I2 (.cons rfl r) q2
theorem pe_methX0 {pl : Sem Bool} (he : PE X o ta) (c : Cls X.K C) (hm : Meth X.K C m f) (run : Runs X f sp E)
    (ht : eval (.Call (.Attribute o m apos) [] [] pos) X.env = (do
      let ov ← eval o X.env
      standAt apos.atName
      let (f, first) ← holding [ov] (getMethod ov m pl)
      callWith pos f first (backTo pos (starEach [] X.env)) (backToKw pos (keywordEach [] X.env))) := by rfl) :
    PE X (.Call (.Attribute o m apos) [] [] pos) (tMethX C m sp E ta tNil) := by
  refine ⟨fun pins s σ H Q I h => ?_⟩
  refine PySem.W.methodCall_KW (pl := pl) (thn (he.run pins s σ H _ I h) fun u s1 ⟨x, H1, I1, rx, a, dx, fs, ex, ea, l, q⟩ => ?_) ht
  subst ex
  obtain rfl : u = Value.ref a := rx
  refine getmeth_ok I1 ea c hm l ?_
  exact PySem.W.callWith_K0 (first := [.ref a]) I1.kIn hm.kp (run pins s1 σ H1 Q [.ref a] [.ref a] I1 (.cons rfl .nil) q)
end
/-- a method m of the class c: n parameters with self -/
def FnM (P : Program) (w : World) (K : PySem.W.Frag) (mg : Str → Option Value) (base : Heap) (c m : Str) (k n : Nat) (mf : List D → M D) : Prop :=
  ∃ C f fd ps, mg c = some (.ref C) ∧ Cls K C ∧ Meth K C m f ∧ Binds K fd ps [] ∧ ps.length = n ∧ FnOkG P w K mg base k f fd ps (spD ⟨K, mg⟩ n mf)
theorem fn_mkM {P : Program} {w : World} {K : PySem.W.Frag} {mg : Str → Option Value} {base : Heap} {c x qual : Str} {params : Arguments} {body : List Stmt} {scope : Scope} {C f : Addr} {fd : FuncData} {N ps : List Str} {k n m : Nat} {fin : Fin} {ms : MS}
    (hC : mg c = some (.ref C)) (cl : Cls K C) (hm' : Meth K C x f) (Fd : FunD K x qual params body scope [] [] f fd) (S : FnScope N ps scope) (hn : ps.length = n) (hm : N.length = m) (fo : FinOk fin)
    (hbind : ∀ (kV doc pm : Value) (an : Option Addr) (cdv ct : Value) (us : List Value), us.length = ps.length → bindArgs (PySem.W.fnOf x qual params body scope .none kV doc pm an cdv ct) ⟨us, []⟩ = pure (ps.zip us))
    (hb : ∀ (cdv : Value) (A : Around) (outer : List PySem.Env) (s : Shared) (H : Hp) (E : XK), Room k (A.deeper (envOfC qual scope s.heap.objs.size f cdv)) → (A.deeper (envOfC qual scope s.heap.objs.size f cdv)).guards = some [] → DSs (cxOf (L2.CX P w) P w K mg base N qual scope f cdv A outer s H E) (WfE E) body ms) :
    FnM P w K mg base c x (k + 1) n (mFn m fin ms) := ⟨C, f, fd, ps, hC, cl, hm', Fd.bindsN hbind, hn, fn_body Fd S hn hm fo hb⟩
/-- o.m(..) -/
def mMethO (c m : Str) (mf : List D → M D) (mo : ME D) (mr : ME (List D)) : ME D := fun ρ S => (mo ρ S).bind fun x => fun S => match x.ins? c S with
  | some fs => if fs.lookup m = none then (mr ρ S).bind fun ds => mf (x :: ds) else .stuck
  | none => .stuck
section
variable {X : Cx} {W : WX} {o e : Expr} {es : List Expr} {c m : Str} {k n : Nat} {mf : List D → M D} {mo : ME D} {mr : ME (List D)} {apos pos : Pos}
theorem de_methO {pl : Sem Bool} (F : FnM X.prog X.w X.K X.mg X.base c m k (n + 1) mf) (hr : Room k X.A) (hgd : X.A.guards = some []) (tk : Takes X W) (ho : DE X W o mo) (ha : DA X W (e :: es) mr) [ar : Args mr n]
    (hst : starEach (e :: es) X.env = (false, eval e X.env) :: starEach es X.env := by rfl) (hpl : (backTo pos (starEach es X.env)).any (·.1) = false := by rfl)
    (ht : eval (.Call (.Attribute o m apos) (e :: es) [] pos) X.env = (do
      let ov ← eval o X.env
      standAt apos.atName
      let (f, first) ← holding [ov] (getMethod ov m pl)
      callWith pos f first (backTo pos (starEach (e :: es) X.env)) (backToKw pos (keywordEach [] X.env))) := by rfl) :
    DE X W (.Call (.Attribute o m apos) (e :: es) [] pos) (mMethO c m mf mo mr) := by
  obtain ⟨C, f, fd, ps, hC, cl, hm, hb, hn, Fo⟩ := F
  refine PE.imp (pe_methX (pl := pl) ho cl hm (runs_G Fo hr hgd hb (fun σ => passAt tk σ)) ha hst hpl ht) fun σ H Q q => ?_
  obtain ⟨ρ, S, ι, F, a, t⟩ := q
  refine T.first a t fun d1 S1 F1 ι1 H1 v1 n1 a1 r1 t1 => ?_
  split at t1
  · rename_i fs ef
    split at t1
    · rename_i el
      obtain ⟨a', C', dx, fvs, rfl, hm', ha', rf⟩ := ins?_rel a1.r ef r1
      have hm'' : X.mg c = some (.ref C') := hm'
      rw [hC] at hm''
      cases hm''
      refine ⟨a', dx, fvs, rfl, ha', relDf_none rf el, ρ, S1, ι1, F1, a1, ?_⟩
      have t2 := Then.bind t1
      revert t2
      generalize em : mr ρ S1 = rr
      intro t2
      cases rr with
      | ok ds S' =>
        intro F' ι' H' nx vs rv
        exact ⟨by rw [List.length_cons, ← relDs_len rv, ar.len ρ S1 ds S' em], d1 :: ds, S', ι', F', nx.r, relDs_cons.mpr ⟨nx.d r1, rv⟩, t2 F' ι' H' nx⟩
      | err x S' => exact t2
      | stuck => exact t2.elim
    · exact t1.elim
  · exact t1.elim
theorem de_methO0 {pl : Sem Bool} (F : FnM X.prog X.w X.K X.mg X.base c m k 1 mf) (hr : Room k X.A) (hgd : X.A.guards = some []) (tk : Takes X W) (ho : DE X W o mo)
    (ht : eval (.Call (.Attribute o m apos) [] [] pos) X.env = (do
      let ov ← eval o X.env
      standAt apos.atName
      let (f, first) ← holding [ov] (getMethod ov m pl)
      callWith pos f first (backTo pos (starEach [] X.env)) (backToKw pos (keywordEach [] X.env))) := by rfl) :
    DE X W (.Call (.Attribute o m apos) [] [] pos) (mMethO c m mf mo mNil) := by
  obtain ⟨C, f, fd, ps, hC, cl, hm, hb, hn, Fo⟩ := F
  refine PE.imp (pe_methX0 (pl := pl) ho cl hm (runs_G Fo hr hgd hb (fun σ => passAt tk σ)) ht) fun σ H Q q => ?_
  obtain ⟨ρ, S, ι, F, a, t⟩ := q
  refine T.first a t fun d1 S1 F1 ι1 H1 v1 n1 a1 r1 t1 => ?_
  split at t1
  · rename_i fs ef
    split at t1
    · rename_i el
      obtain ⟨a', C', dx, fvs, rfl, hm', ha', rf⟩ := ins?_rel a1.r ef r1
      have hm'' : X.mg c = some (.ref C') := hm'
      rw [hC] at hm''
      cases hm''
      exact ⟨a', dx, fvs, rfl, ha', relDf_none rf el, rfl, [d1], S1, ι1, F1, a1.r, relDs_cons.mpr ⟨r1, relDs_nil'⟩, t1⟩
    · exact t1.elim
  · exact t1.elim
end
/-! ### making -/
/-- the class c, made by its __init__ of n parameters with self -/
def FnI (P : Program) (w : World) (K : PySem.W.Frag) (mg : Str → Option Value) (base : Heap) (c : Str) (k n : Nat) (mf : List D → M D) : Prop :=
  ∃ C f fd ps, mg c = some (.ref C) ∧ Mk K C f ∧ Binds K fd ps [] ∧ ps.length = n ∧ FnOkG P w K mg base k f fd ps (spD ⟨K, mg⟩ n mf)
theorem fn_mkI {P : Program} {w : World} {K : PySem.W.Frag} {mg : Str → Option Value} {base : Heap} {c x qual : Str} {params : Arguments} {body : List Stmt} {scope : Scope} {C f : Addr} {fd : FuncData} {N ps : List Str} {k n m : Nat} {fin : Fin} {ms : MS}
    (hC : mg c = some (.ref C)) (mk : Mk K C f) (Fd : FunD K x qual params body scope [] [] f fd) (S : FnScope N ps scope) (hn : ps.length = n) (hm : N.length = m) (fo : FinOk fin)
    (hbind : ∀ (kV doc pm : Value) (an : Option Addr) (cdv ct : Value) (us : List Value), us.length = ps.length → bindArgs (PySem.W.fnOf x qual params body scope .none kV doc pm an cdv ct) ⟨us, []⟩ = pure (ps.zip us))
    (hb : ∀ (cdv : Value) (A : Around) (outer : List PySem.Env) (s : Shared) (H : Hp) (E : XK), Room k (A.deeper (envOfC qual scope s.heap.objs.size f cdv)) → (A.deeper (envOfC qual scope s.heap.objs.size f cdv)).guards = some [] → DSs (cxOf (L2.CX P w) P w K mg base N qual scope f cdv A outer s H E) (WfE E) body ms) :
    FnI P w K mg base c (k + 1) n (mFn m fin ms) := ⟨C, f, fd, ps, hC, mk, Fd.bindsN hbind, hn, fn_body Fd S hn hm fo hb⟩
/-- C(..): a new thing of the store, then __init__ -/
def mNewI (c : Str) (mf : List D → M D) (ds : List D) : M D := fun S => (mf (.r S.objs.length :: ds) (S.new (.ins c []) rfl)).bind fun d S' => match d with
  | .p .non => .ok (.r S.objs.length) S'
  | _ => .stuck
def mMake (c : Str) (mf : List D → M D) (mr : ME (List D)) : ME D := fun ρ S => (mr ρ S).bind (mNewI c mf)
theorem make_guards {A : Around} {C : Addr} {us : List Value} {kw : List (Str × Value)} : (A.under (.builtin "type.__call__" ⟨.ref C :: us, kw⟩)).guards = A.guards := by
  cases h : A.guards <;> simp [Around.under, Code.guards, Code.isGuard, guardIds, pushGuards, h]
section
variable {X : Cx} {W : WX} {e : Expr} {es : List Expr} {c : Str} {k n : Nat} {mf : List D → M D} {mr : ME (List D)} {p pos : Pos}
def tMakeG (C : Addr) (sp : Sp) (E : L2.St → XK) (t : TA) : TE := fun σ H Q => t σ H fun vs H1 => ∀ x dx, H1 x = none → H1 dx = none → dx ≠ x →
  sp (V.ref x :: vs) (upd (upd H1 dx (.own x)) x (.ins C dx [])) (fun v H2 => v = .non ∧ Q (.ref x) H2) (E σ)
theorem pe_makeG {C f : Addr} {fd : FuncData} {ps : List Str} {sp : Sp} {E : L2.St → XK} {t : TA} (mk : Mk X.K C f) (F : FnOkG X.prog X.w X.K X.mg X.base k f fd ps sp) (hr : Room (k + 1) X.A) (hgd : X.A.guards = some []) (hg : Gl X c) (hm : X.mg c = some (.ref C)) (hb : Binds X.K fd ps []) (hx : ∀ σ, PassesAt (L2.CX X.prog X.w) X σ (E σ))
    (ha : PA X (e :: es) t) (hdb : (c == ("__debug__" : Str)) = false := by decide) (he : starEach (e :: es) X.env = (false, eval e X.env) :: starEach es X.env := by rfl) (hpl : (backTo pos (starEach es X.env)).any (·.1) = false := by rfl) :
    PE X (.Call (.Name c p) (e :: es) [] pos) (tMakeG C sp E t) := by
  refine ⟨fun pins s0 σ H0 Q I0 h0 => ?_⟩
  refine wpAny_Call_Name_kw (ld_glob I0 hg hm ?_ hdb)
  refine PySem.W.callWith_K (h₀ := X.base) I0.ok.mod.kin mk.kp (thn (ha.run pos pins s0 σ H0 _ I0 h0) fun us s ⟨vs, H, I, r, h⟩ => ⟨I.kIn, ?_⟩) he hpl
  have hq := h (s.heap.objs.size + 1) s.heap.objs.size (I.hok.fresh (Nat.le_succ _)) (I.hok.fresh (Nat.le_refl _)) (Nat.ne_of_lt (Nat.lt_succ_self _))
  have I2 := Inv.made (C := C) I
  have r2 : Vals (V.ref (s.heap.objs.size + 1) :: vs) (Value.ref (s.heap.objs.size + 1) :: us) := .cons rfl r
  have hl : (Value.ref (s.heap.objs.size + 1) :: us ++ []).length = ps.length := by
    rw [List.append_nil, ← r2.length]
    exact F.len _ _ _ _ hq
  have b := hb _ (Value.ref (s.heap.objs.size + 1) :: us) I2.kIn hl
  rw [List.append_nil] at b
  refine wpAny_call (make_map (f := f) I.kIn mk.makes mk.init (beq_iff_eq.mp mk.fn) (codeAny_mono (F.run _ X.stack _ _ ⟨Value.ref (s.heap.objs.size + 1) :: us, []⟩ (Value.ref (s.heap.objs.size + 1) :: us) _ _ (E σ) (hr.make C us [])
    (make_guards.trans hgd) (I2.env0.make C us []) b r2 hq) fun r s' hq' => ?_))
  cases r with
  | error e => exact hx σ pins _ _ e s' I2 hq'
  | ok fl =>
    cases fl with
    | ret u =>
      obtain ⟨v, H', I3, rv, ev, q3⟩ := I2.after hq'
      subst ev
      exact ⟨rv, ⟨V.ref (s.heap.objs.size + 1), H', I3, rfl, q3⟩⟩
    | next => exact False.elim hq'
    | brk => exact False.elim hq'
    | cont => exact False.elim hq'
theorem de_make (F : FnI X.prog X.w X.K X.mg X.base c k (n + 1) mf) (hr : Room (k + 1) X.A) (hgd : X.A.guards = some []) (tk : Takes X W) (ha : DA X W (e :: es) mr) [ar : Args mr n] (hg : Gl X c := by rfl)
    (hdb : (c == ("__debug__" : Str)) = false := by decide) (he : starEach (e :: es) X.env = (false, eval e X.env) :: starEach es X.env := by rfl) (hpl : (backTo pos (starEach es X.env)).any (·.1) = false := by rfl) :
    DE X W (.Call (.Name c p) (e :: es) [] pos) (mMake c mf mr) := by
  obtain ⟨C, f, fd, ps, hC, mk, hb, hn, Fo⟩ := F
  refine PE.imp (pe_makeG mk Fo hr hgd hg hC hb (fun σ => passAt tk σ) ha hdb he hpl) fun σ H Q q => ?_
  obtain ⟨ρ, S, ι, F, a, t⟩ := q
  refine ⟨ρ, S, ι, F, a, ?_⟩
  have t1 := Then.bind t
  revert t1
  generalize em : mr ρ S = r
  intro t1
  cases r with
  | ok ds S' =>
    intro F' ι' H' nx vs rv x dx hx hdx ne
    have t2 := t1 F' ι' H' nx
    have n1 : Nxt (gb X) F' ι' H' F' ι' S' (upd H' dx (.own x)) := Nxt.fresh nx.r hdx
    have hx' : upd H' dx (.own x) x = none := by rw [upd_ne (Ne.symm ne)]; exact hx
    have n2 : Nxt (gb X) F' ι' (upd H' dx (.own x)) F' (ι' ++ [x]) (S'.new (.ins c []) rfl) (upd (upd H' dx (.own x)) x (.ins C dx [])) := Nxt.newO n1.r hx' rfl ⟨C, dx, [], hC, upd_same, rfl⟩
    have n3 := n1.trans n2
    have rx : RelD (gb X) F' (ι' ++ [x]) (upd (upd H' dx (.own x)) x (.ins C dx [])) (.r S'.objs.length) (.ref x) := by
      simp only [RelD]
      refine ⟨x, rfl, ?_⟩
      rw [← nx.r.len]
      simp
    refine ⟨by rw [List.length_cons, ← relDs_len rv, ar.len ρ S ds S' em], .r S'.objs.length :: ds, _, _, _, n3.r, relDs_cons.mpr ⟨rx, n3.ds rv⟩, ?_⟩
    have t3 := Then.bind t2
    have t4 := Then.later t3 n3
    refine t4.mono fun d S4 F4 ι4 H4 n4 t5 v r5 => ?_
    cases d with
    | p y =>
      cases y with
      | non =>
        simp only [RelD, RelP] at r5
        refine ⟨r5, ?_⟩
        exact t5.now n4.r _ (n4.d rx)
      | _ => exact t5.elim
    | r j => exact t5.elim
    | t xs => exact t5.elim
  | err x S' => exact t1
  | stuck => exact t1.elim
end
/-! ### def m(self, *rest) -/
def FnRG (P : Program) (w : World) (K : PySem.W.Frag) (mg : Str → Option Value) (base : Heap) (k : Nat) (f : Addr) (sp : Sp) : Prop :=
  ∀ (A : Around) (outer : List PySem.Env) (s : Shared) (H : Hp) (us : List Value) (vs : List V) (Q : VK) (E : XK), Room k A → A.guards = some [] → Env0 P w K mg base A outer s H → Vals vs us → sp vs H Q E →
    codeAny (model P w) A (.call (.ref f) ⟨us, []⟩) (CR (L2.CX P w) outer P w H s Q E) s
def spS (G : Gb) (mf : List D → M D) : Sp := fun vs H Q E => ∃ v0 rest, vs = v0 :: rest ∧ rest.length ≤ sizeLine ∧ ∃ d0 rs S ι F, R G F ι S H ∧ RelD G F ι H d0 v0 ∧ RelDs G F ι H rs rest ∧ Then G E F ι H (mf [d0, mkTup rs] S) fun d _ F' ι' H' => ∀ v, RelD G F' ι' H' d v → Q v H'
def FnMS (P : Program) (w : World) (K : PySem.W.Frag) (mg : Str → Option Value) (base : Heap) (c m : Str) (k : Nat) (mf : List D → M D) : Prop :=
  ∃ C f, mg c = some (.ref C) ∧ Cls K C ∧ Meth K C m f ∧ FnRG P w K mg base k f (spS ⟨K, mg⟩ mf)
theorem fn_mkMS {P : Program} {w : World} {K : PySem.W.Frag} {mg : Str → Option Value} {base : Heap} {c x qual p1 pv : Str} {params : Arguments} {body : List Stmt} {scope : Scope} {C f : Addr} {fd : FuncData} {N : List Str} {k m : Nat} {fin : Fin} {ms : MS}
    (hC : mg c = some (.ref C)) (cl : Cls K C) (hm' : Meth K C x f) (Fd : FunD K x qual params body scope [] [] f fd) (S : FnScope N [p1, pv] scope) (hm : N.length = m) (fo : FinOk fin)
    (hbind : ∀ (kV doc pm : Value) (an : Option Addr) (cdv ct : Value) (us rest : List Value), us.length = [p1].length → bindArgs (PySem.W.fnOf x qual params body scope .none kV doc pm an cdv ct) ⟨us ++ rest, []⟩ = (newTuple rest >>= fun t => pure ([p1].zip us ++ [(pv, t)])))
    (hb : ∀ (cdv : Value) (A : Around) (outer : List PySem.Env) (s : Shared) (H : Hp) (E : XK), Room k (A.deeper (envOfC qual scope s.heap.objs.size f cdv)) → (A.deeper (envOfC qual scope s.heap.objs.size f cdv)).guards = some [] → DSs (cxOf (L2.CX P w) P w K mg base N qual scope f cdv A outer s H E) (WfE E) body ms) :
    FnMS P w K mg base c x (k + 1) (mFn m fin ms) := by
  obtain ⟨oc, od, dV, kV, doc, pm, an, cdv, ct, osl, rfl, lk, hcd, hD, _⟩ := Fd.ex
  obtain rfl : dV = .none := by
    rcases hD with ⟨_, e⟩ | ⟨e, _⟩
    · exact e
    · exact absurd rfl e
  refine ⟨C, f, hC, cl, hm', fun A outer s H us vs Q E hr hgd e0 r hsp => ?_⟩
  obtain ⟨v0, rest, rfl, hz, d0, rs, S0, ι, F, rr, r0, rrest, t⟩ := hsp
  cases r with
  | @cons _ u0 _ us' ru rus =>
  have hn : H s.heap.objs.size = none := e0.hok.fresh (Nat.le_refl _)
  have hl2 : us'.length ≤ sizeLine := by rw [← rus.length]; exact hz
  refine StX.run_bnd (CX := L2.CX P w) (ps := [p1, pv]) lk hcd S hr e0 (G := fun xs H2 => ∃ p, H p = none ∧ xs = [v0, V.ref p] ∧ H2 = upd H p (.tup rest)) (fun A' Ex Q' h => ?_) fun s2 H2 xs ⟨p, hp, ex, eH⟩ hr' => ?_
  · have e := hbind kV doc pm an cdv ct [u0] us' rfl
    rw [show u0 :: us' = [u0] ++ us' from rfl, e]
    refine wpAny_bind (wpAny_newTuple (wpAny_pure ?_) hl2)
    have new : ObjOk P w (upd H s.heap.objs.size (.tup rest)) (s.heap.push ({ cls := .type "tuple", data := .seq us'.toArray } : Obj)) s.heap.objs.size (.tup rest) := ⟨hz, us', rus, ⟨_, Heap.get?_push_size _ rfl, rfl, _, rfl⟩⟩
    have un := StX.un_laid (fs := frs outer) (s := s) (o := ({ cls := .type "tuple", data := .seq us'.toArray } : Obj)) (u := .tup rest) hn
    exact h _ _ [v0, V.ref s.heap.objs.size] [u0, Value.ref s.heap.objs.size] (StX.env0_laid e0 new) un rfl (fun e s' => StX.cxUp outer s H _ _ E e s' un (fun b o q => Heap.get?_push_of_some _ q) rfl) (.cons ru (.cons rfl .nil)) rfl ⟨_, hn, rfl, rfl⟩
  · subst ex eH
    refine ⟨_, hb cdv A outer s2 _ E hr' hgd, ?_⟩
    have n1 : Nxt ⟨K, mg⟩ F ι H F ι S0 (upd H p (.tup rest)) := Nxt.fresh rr hp
    have t0 := Then.later t n1
    have t1 := finR_then n1.r fo t0
    have rd : RelDs ⟨K, mg⟩ F ι (upd H p (.tup rest)) [d0, mkTup rs] [v0, V.ref p] := relDs_cons.mpr ⟨n1.d r0, relDs_cons.mpr ⟨rel_newT hp rrest, relDs_nil'⟩⟩
    refine ⟨env0 m [d0, mkTup rs], S0, ι, F, ⟨?_, n1.r⟩, ?_⟩
    · unfold env0 L2.start
      rw [hm, relDs_len rd]
      exact relE_start _ rd
    · refine Then.wimp (W := E) ?_ fun c d H z _ => z
      refine (Then.bind' t1).mono fun o S1 F1 ι1 H1 n1 t2 => ?_
      cases o with
      | nx ρ => exact fun σ _ _ => (Then.later t2 n1).now n1.r .non (by simp only [RelD, RelP])
      | rt d => exact fun v rv => (Then.later t2 n1).now n1.r v rv
      | bk ρ => exact t2.elim
      | ct ρ => exact t2.elim
/-- o.m(..), m a def with *rest -/
def mMethS (c m : Str) (mf : List D → M D) (mo : ME D) (mr : ME (List D)) : ME D := fun ρ S => (mo ρ S).bind fun x => fun S => match x.ins? c S with
  | some fs => if fs.lookup m = none then (mr ρ S).bind fun ds => if ds.length ≤ 1000 then mf [x, mkTup ds] else fun _ => .stuck else .stuck
  | none => .stuck
section
variable {X : Cx} {W : WX} {o e : Expr} {es : List Expr} {c m : Str} {k : Nat} {mf : List D → M D} {mo : ME D} {mr : ME (List D)} {apos pos : Pos}
theorem runs_R {f : Addr} {sp : Sp} {E : L2.St → XK} (F : FnRG X.prog X.w X.K X.mg X.base k f sp) (hr : Room k X.A) (hgd : X.A.guards = some []) (hx : ∀ σ, PassesAt (L2.CX X.prog X.w) X σ (E σ)) : Runs X f sp E := by
  intro pins s σ H Q us vs I r h
  refine wpAny_call (codeAny_mono (F X.A X.stack s H us vs Q (E σ) hr hgd I.env0 r h) fun r s' hq => ?_)
  cases r with
  | error e => exact hx σ pins H s e s' I hq
  | ok fl =>
    cases fl with
    | ret u => exact I.after hq
    | next => exact False.elim hq
    | brk => exact False.elim hq
    | cont => exact False.elim hq
theorem de_methS {pl : Sem Bool} (F : FnMS X.prog X.w X.K X.mg X.base c m k mf) (hr : Room k X.A) (hgd : X.A.guards = some []) (tk : Takes X W) (ho : DE X W o mo) (ha : DA X W (e :: es) mr)
    (hst : starEach (e :: es) X.env = (false, eval e X.env) :: starEach es X.env := by rfl) (hpl : (backTo pos (starEach es X.env)).any (·.1) = false := by rfl)
    (ht : eval (.Call (.Attribute o m apos) (e :: es) [] pos) X.env = (do
      let ov ← eval o X.env
      standAt apos.atName
      let (f, first) ← holding [ov] (getMethod ov m pl)
      callWith pos f first (backTo pos (starEach (e :: es) X.env)) (backToKw pos (keywordEach [] X.env))) := by rfl) :
    DE X W (.Call (.Attribute o m apos) (e :: es) [] pos) (mMethS c m mf mo mr) := by
  obtain ⟨C, f, hC, cl, hm, Fo⟩ := F
  refine PE.imp (pe_methX (pl := pl) ho cl hm (runs_R Fo hr hgd (fun σ => passAt tk σ)) ha hst hpl ht) fun σ H Q q => ?_
  obtain ⟨ρ, S, ι, F, a, t⟩ := q
  refine T.first a t fun d1 S1 F1 ι1 H1 v1 n1 a1 r1 t1 => ?_
  split at t1
  · rename_i fs ef
    split at t1
    · rename_i el
      obtain ⟨a', C', dx, fvs, rfl, hm', ha', rf⟩ := ins?_rel a1.r ef r1
      have hm'' : X.mg c = some (.ref C') := hm'
      rw [hC] at hm''
      cases hm''
      refine ⟨a', dx, fvs, rfl, ha', relDf_none rf el, ?_⟩
      refine TL.first a1 t1 fun ds S2 F2 ι2 H2 vs n2 a2 r2 t2 => ?_
      split at t2
      · rename_i hl
        exact ⟨_, vs, rfl, by rw [← relDs_len r2, sizeLine_eq]; omega, d1, ds, S2, ι2, F2, a2.r, n2.d r1, r2, t2⟩
      · exact t2.elim
    · exact t1.elim
  · exact t1.elim
theorem de_methS0 {pl : Sem Bool} (F : FnMS X.prog X.w X.K X.mg X.base c m k mf) (hr : Room k X.A) (hgd : X.A.guards = some []) (tk : Takes X W) (ho : DE X W o mo)
    (ht : eval (.Call (.Attribute o m apos) [] [] pos) X.env = (do
      let ov ← eval o X.env
      standAt apos.atName
      let (f, first) ← holding [ov] (getMethod ov m pl)
      callWith pos f first (backTo pos (starEach [] X.env)) (backToKw pos (keywordEach [] X.env))) := by rfl) :
    DE X W (.Call (.Attribute o m apos) [] [] pos) (mMethS c m mf mo mNil) := by
  obtain ⟨C, f, hC, cl, hm, Fo⟩ := F
  refine PE.imp (pe_methX0 (pl := pl) ho cl hm (runs_R Fo hr hgd (fun σ => passAt tk σ)) ht) fun σ H Q q => ?_
  obtain ⟨ρ, S, ι, F, a, t⟩ := q
  refine T.first a t fun d1 S1 F1 ι1 H1 v1 n1 a1 r1 t1 => ?_
  split at t1
  · rename_i fs ef
    split at t1
    · rename_i el
      obtain ⟨a', C', dx, fvs, rfl, hm', ha', rf⟩ := ins?_rel a1.r ef r1
      have hm'' : X.mg c = some (.ref C') := hm'
      rw [hC] at hm''
      cases hm''
      refine ⟨a', dx, fvs, rfl, ha', relDf_none rf el, ?_⟩
      exact ⟨_, [], rfl, by rw [sizeLine_eq]; exact Nat.zero_le _, d1, [], S1, ι1, F1, a1.r, r1, relDs_nil', t1⟩
    · exact t1.elim
  · exact t1.elim
end
/-! ### properties -/
def FnP (P : Program) (w : World) (K : PySem.W.Frag) (mg : Str → Option Value) (base : Heap) (c f : Str) (k : Nat) (mf : List D → M D) : Prop :=
  ∃ C p g fd ps, mg c = some (.ref C) ∧ Cls K C ∧ PropOf K C f p g ∧ Binds K fd ps [] ∧ ps.length = 1 ∧ FnOkG P w K mg base k g fd ps (spD ⟨K, mg⟩ 1 mf)
theorem fn_mkP {P : Program} {w : World} {K : PySem.W.Frag} {mg : Str → Option Value} {base : Heap} {c x qual : Str} {params : Arguments} {body : List Stmt} {scope : Scope} {C p f : Addr} {fd : FuncData} {N ps : List Str} {k m : Nat} {fin : Fin} {ms : MS}
    (hC : mg c = some (.ref C)) (cl : Cls K C) (hp : PropOf K C x p f) (Fd : FunD K x qual params body scope [] [] f fd) (S : FnScope N ps scope) (hn : ps.length = 1) (hm : N.length = m) (fo : FinOk fin)
    (hbind : ∀ (kV doc pm : Value) (an : Option Addr) (cdv ct : Value) (us : List Value), us.length = ps.length → bindArgs (PySem.W.fnOf x qual params body scope .none kV doc pm an cdv ct) ⟨us, []⟩ = pure (ps.zip us))
    (hb : ∀ (cdv : Value) (A : Around) (outer : List PySem.Env) (s : Shared) (H : Hp) (E : XK), Room k (A.deeper (envOfC qual scope s.heap.objs.size f cdv)) → (A.deeper (envOfC qual scope s.heap.objs.size f cdv)).guards = some [] → DSs (cxOf (L2.CX P w) P w K mg base N qual scope f cdv A outer s H E) (WfE E) body ms) :
    FnP P w K mg base c x (k + 1) (mFn m fin ms) := ⟨C, p, f, fd, ps, hC, cl, hp, Fd.bindsN hbind, hn, fn_body Fd S hn hm fo hb⟩
def mProp (c : Str) (mf : List D → M D) (mo : ME D) : ME D := fun ρ S => (mo ρ S).bind fun x => fun S => match x.ins? c S with
  | some _ => noErr (mf [x] S)
  | none => .stuck
section
variable {X : Cx} {W : WX} {o : Expr} {c f : Str} {k : Nat} {mf : List D → M D} {mo : ME D} {pos : Pos}
theorem noErr_any {G : Gb} {W W' : Value → Option Addr → Hp → Prop} {F : Addr → Prop} {ι : List Addr} {H : Hp} {α : Type} {r : Res α} {Q : α → Store → (Addr → Prop) → List Addr → Hp → Prop} (h : Then G W F ι H (noErr r) Q) : Then G W' F ι H r Q := by
  cases r with
  | ok a S => exact h
  | err e S => exact h.elim
  | stuck => exact h.elim
def tPropX (C : Addr) (sp : Sp) (ta : TE) : TE := fun σ H Q => ta σ H fun x H1 => ∃ a dx fs, x = .ref a ∧ H1 a = some (.ins C dx fs) ∧ sp [.ref a] H1 Q (fun _ _ _ => False)
theorem pe_propG {C p g : Addr} {fd : FuncData} {ps : List Str} {sp : Sp} {ta : TE} (he : PE X o ta) (c : Cls X.K C) (hp : PropOf X.K C f p g) (F : FnOkG X.prog X.w X.K X.mg X.base k g fd ps sp) (hr : Room (k + 1) X.A) (hgd : X.A.guards = some []) (hb : Binds X.K fd ps [])
    (hab : attributeBase o f X.env (eval o X.env) = eval o X.env := by rfl) : PE X (.Attribute o f pos) (tPropX C sp ta) := by
  refine ⟨fun pins s0 σ H0 Q I0 h0 => ?_⟩
  refine attr_of hab (thn (he.run pins s0 σ H0 _ I0 h0) fun u s ⟨x, H, I, rx, a, dx, fs, ex, ea, h⟩ => ?_)
  subst ex
  obtain rfl : u = Value.ref a := rx
  obtain ⟨mA, O, _, _, _, _⟩ := ins_get I.hok ea
  obtain ⟨od, J, _⟩ := O.look
  obtain ⟨rest, hrec⟩ := hp.rec_
  have I1 := I.tok (s.toks + 1)
  have hl : ([Value.ref a] ++ []).length = ps.length := by
    rw [← F.len _ _ _ _ h]
    rfl
  have hc : (PySem.W.clsIn X.K C).isSome = true := by
    obtain ⟨cd, hc, _⟩ := PySem.W.any_some c.hd
    rw [hc]
    rfl
  have b := hb { s with toks := s.toks + 1 } [.ref a] I1.kIn hl
  rw [List.append_nil] at b
  refine PySem.W.get_bind I.kIn J (PySem.W.plainGet_of (c.get f)).1 (PySem.W.findObj_data hc hp.at_ hp.get hp.tak) (PySem.W.plainGet_of (c.get f)).2 (wpAny_call (PySem.W.prop_get (s := { s with toks := s.toks + 1 }) I.kIn hrec ?_))
  refine codeAny_mono (F.run X.A.in1 X.stack { s with toks := s.toks + 1 } H ⟨[.ref a], []⟩ [.ref a] [.ref a] Q (fun _ _ _ => False) hr.in1 hgd I1.env0.in1 b (.cons rfl .nil) h) fun r s' hq => ?_
  cases r with
  | error er =>
    obtain ⟨_, _, _, _, _, _, _, _, _, _, _, _, he⟩ := hq
    exact he.elim
  | ok fl =>
    cases fl with
    | ret u =>
      obtain ⟨v, H', I3, rv, q3⟩ := I1.after hq
      show wpAny _ _ (handedOut u) _ _ _
      rw [PySem.W.handedOut_of (handed_of rv)]
      exact wpAny_pure ⟨v, H', I3, rv, q3⟩
    | next => exact False.elim hq
    | brk => exact False.elim hq
    | cont => exact False.elim hq
theorem de_prop (F : FnP X.prog X.w X.K X.mg X.base c f k mf) (hr : Room (k + 1) X.A) (hgd : X.A.guards = some []) (ho : DE X W o mo) (hab : attributeBase o f X.env (eval o X.env) = eval o X.env := by rfl) :
    DE X W (.Attribute o f pos) (mProp c mf mo) := by
  obtain ⟨C, p, g, fd, ps, hC, cl, hp, hb, hn, Fo⟩ := F
  refine PE.imp (pe_propG ho cl hp Fo hr hgd hb hab) fun σ H Q q => ?_
  obtain ⟨ρ, S, ι, F, a, t⟩ := q
  refine T.first a t fun d1 S1 F1 ι1 H1 v1 n1 a1 r1 t1 => ?_
  split at t1
  · rename_i fs ef
    obtain ⟨a', C', dx, fvs, rfl, hm', ha', rf⟩ := ins?_rel a1.r ef r1
    have hm'' : X.mg c = some (.ref C') := hm'
    rw [hC] at hm''
    cases hm''
    exact ⟨a', dx, fvs, rfl, ha', rfl, [d1], S1, ι1, F1, a1.r, relDs_cons.mpr ⟨r1, relDs_nil'⟩, noErr_any t1⟩
  · exact t1.elim
end
end DL
set_option maxHeartbeats 4000000
/-! DLCl: a def whose arguments and answer are data, told by a run of its own on the empty store: what stands in the store plays no part. -/
namespace DL
open PySem PySem.Spec PyProof.Rows L2
variable [HasT]
def allP : List D → Bool
  | [] => true
  | .p _ :: ds => allP ds
  | _ => false
def mCl (mf : List D → M D) : List D → M D := fun ds S => if allP ds = true then (match mf ds ⟨[], rfl⟩ with
  | .ok (.p x) _ => .ok (.p x) S
  | .err e _ => if pureFs e.fs = true then .err e S else .stuck
  | _ => .stuck) else .stuck
theorem relDs_allP {G : Gb} {F : Addr → Prop} {ι ι' : List Addr} {H : Hp} : ∀ {ds : List D} {vs : List V}, allP ds = true → RelDs G F ι H ds vs → RelDs G F ι' H ds vs
  | [], _, _, h => by simpa only [RelDs] using h
  | .p x :: ds, _, e, h => by
    simp only [RelDs] at h ⊢
    obtain ⟨v, ws, ev, a, b⟩ := h
    exact ⟨v, ws, ev, by simpa only [RelD] using a, relDs_allP e b⟩
  | .r _ :: _, _, e, _ => by cases e
  | .t _ :: _, _, e, _ => by cases e
theorem nxt_back {G : Gb} {F F' : Addr → Prop} {ι ι' : List Addr} {S S' : Store} {H H' : Hp} (rs : R G F ι S H) (n : Nxt G F [] H F' ι' S' H') : Nxt G F ι H F' ι S H' := by
  have kp : Keep F ι H H' := fun a o e h => n.keep a o e (h.imp id (Or.imp id fun z => ⟨fun y => (nomatch y), z.2⟩))
  have at_ : ∀ a ∈ ι, ∃ o, H a = some o ∧ H' a = some o := fun a ha => by
    obtain ⟨o, e, t⟩ := rs.thing ha
    refine ⟨o, e, n.keep a o e (.inr (.inr ⟨fun y => (nomatch y), ?_⟩))⟩
    cases o <;> first | rfl | cases t
  refine ⟨n.sub, kp, List.prefix_refl _, fun x a b => absurd a b, n.nF, n.old, rs.len, rs.nd, fun a ha f => ?_, n.r.fz, n.r.tb, fun k a o h1 h2 => ?_⟩
  · obtain ⟨o, e, _⟩ := at_ a ha
    by_cases q : F a
    · exact rs.nf a ha q
    · rw [n.nF a f q] at e
      cases e
  · obtain ⟨o2, e, e'⟩ := at_ a (List.mem_of_getElem? h1)
    exact RelO.mono kp.w n.sub (List.prefix_refl _) (by rw [e, e']) (rs.ob k a o h1 h2)
theorem spD_cl {G : Gb} {n : Nat} {mf : List D → M D} {vs : List V} {H : Hp} {Q : VK} {E : XK} (h : spD G n (mCl mf) vs H Q E) : spD G n mf vs H Q E := by
  obtain ⟨hl, ds, S, ι, F, rs, rd, t⟩ := h
  unfold mCl at t
  split at t
  · rename_i ha
    refine ⟨hl, ds, ⟨[], rfl⟩, [], F, ⟨rfl, List.nodup_nil, fun a z => (nomatch z), rs.fz, rs.tb, fun k a o e => (nomatch e)⟩, relDs_allP ha rd, ?_⟩
    revert t
    generalize mf ds ⟨[], rfl⟩ = r
    intro t
    cases r with
    | ok d S' =>
      cases d with
      | p x =>
        intro F' ι' H' n v rv
        exact t F' ι H' (nxt_back rs n) v (by simpa only [RelD] using rv)
      | r _ => exact t.elim
      | t _ => exact t.elim
    | err e S' =>
      simp only at t
      split at t
      · rename_i hp
        intro F' ι' H' c d n x
        refine t F' ι H' c d (nxt_back rs n) ?_
        obtain ⟨C, m, ec, ef⟩ := x
        refine ⟨C, m, ec, ?_⟩
        revert ef hp
        generalize e.fs = fs
        cases fs with
        | nil => exact fun _ ef => ef
        | cons y ys =>
          intro hp ef
          obtain ⟨dd, fvs, ed, hd, rf⟩ := ef
          exact ⟨dd, fvs, ed, hd, pureFs_rel (fun _ h => h) hp rf⟩
      · exact t.elim
    | stuck => exact t.elim
  · exact t.elim
theorem FnD.cl {P : Program} {w : World} {K : PySem.W.Frag} {mg : Str → Option Value} {base : Heap} {x : Str} {k n : Nat} {mf : List D → M D} (h : FnD P w K mg base x k n mf) : FnD P w K mg base x k n (mCl mf) := by
  obtain ⟨f, fd, ps, a, b, c, d, e⟩ := h
  exact ⟨f, fd, ps, a, b, c, d, fun vs H Q E h => e.len vs H Q E (spD_cl h), fun A outer s H args us vs Q E r g e0 bt rv h => e.run A outer s H args us vs Q E r g e0 bt rv (spD_cl h)⟩
/-- the run of such a def, by its own run -/
theorem cl_ok {mf : List D → M D} {ds : List D} {x : P} {S S' : Store} (ha : allP ds = true) (h : mf ds ⟨[], rfl⟩ = .ok (.p x) S') : mCl mf ds S = .ok (.p x) S := by
  unfold mCl
  rw [if_pos ha, h]
theorem cl_err {mf : List D → M D} {ds : List D} {e : Exc} {S S' : Store} (ha : allP ds = true) (hp : pureFs e.fs = true) (h : mf ds ⟨[], rfl⟩ = .err e S') : mCl mf ds S = .err e S := by
  unfold mCl
  rw [if_pos ha, h]
  simp only [hp, if_true]
end DL
set_option maxHeartbeats 4000000
/-! DLSet: sorted(set(xs)) of a list of ints; x in o of an own class with __contains__. -/
namespace DL
open PySem PySem.Spec PyProof.Rows L2
section
variable {P : Program} {w : World} {A : Around} {E : Value → Shared → Prop} {s : Shared}
/-- a new set, empty -/
abbrev set0 (w : World) : Obj := { cls := .type "set", dict := none, data := .set #[] 0 (.fresh 0 0 (!w.params.followText "set-order")) }
set_option maxHeartbeats 8000000 in
/-- set(l) of a list of ints: what sorted asks of it -/
theorem set_lstI {l : Addr} {items : Array Value} (ns : List Int) {Q : Value → Shared → Prop} (hh : A.handled = none) (hl : s.heap.IsList l items) (hit : IntsAre items.toList ns) (hb : ns.length + 1 < scanBound)
    (h : ∀ (h' : Heap) (tk c : Nat), SetR w h' s.heap.objs.size (fun j => decide (j ∈ ns)) c → c ≤ ns.length → (∀ b o, s.heap.get? b = some o → h'.get? b = some o) → Q (.ref s.heap.objs.size) { s with heap := h', toks := tk }) :
    wpAny (model P w) A (call (.type "set") [.ref l]) Q E s := by
  have hn : items.size = ns.length := by
    have q := IntsAre.length hit
    rwa [Array.length_toList] at q
  obtain ⟨c, tl, hmro⟩ := F.called_set.mro
  have hmade := F.called_set.made
  have hsub := F.called_set.sub
  have h1 := F.called_set.notType
  have h2 := F.called_set.canCreate
  have hct := F.typeCall_set_1 (.ref l)
  have hsz : (s.heap.push (set0 w)).objs.size = s.heap.objs.size + 1 := Heap.size_push ..
  have hS : (s.heap.push (set0 w)).get? s.heap.objs.size = some (set0 w) := Heap.get?_push_size _ rfl
  refine wpAny_call (codeAny_of_tree ?_)
  show wpAny _ _ (callAny (.type "set") _) _ _ _
  refine wpAny_pure ⟨Code.quiet_builtin _ (by decide +kernel), codeAny_builtin F.entry_type_call ?_⟩
  rw [Around.under_plain (weight_type_call_type "set" [.ref l] []) rfl]
  repeat (any_goals (first | assumption | wp_step))
  refine codeAny_mono (code_set_led1 (.ref l) (E := E) (Q₁ := fun obj s₁ => obj = .ref s.heap.objs.size ∧ s₁ = { s with heap := s.heap.push (set0 w) }) ⟨rfl, rfl⟩) fun r s₁ hr => ?_
  cases r with
  | error e => exact hr
  | ok fl =>
    cases fl with
    | ret obj =>
      obtain ⟨rfl, rfl⟩ := hr
      have hT : Shared.TypeIs { s with heap := s.heap.push (set0 w) } (.ref s.heap.objs.size) "set" := ⟨_, hS, rfl⟩
      have hli := F.called_set.init.lookup
      have hbi := F.called_set.init.bind (.ref s.heap.objs.size)
      repeat (any_goals (first | assumption | wp_step))
      refine codeAny_mono (codeAny_call_builtin (R := wants (fun r s₂ => r = .none ∧ ∃ h' tk c, s₂ = { s with heap := h', toks := tk } ∧ SetR w h' s.heap.objs.size (fun j => decide (j ∈ ns)) c ∧ c ≤ ns.length ∧
          (∀ b o, s.heap.get? b = some o → h'.get? b = some o)) E) F.called_set.init.plain F.entry_set_init (check_set_init_1 hT ?_)) fun r₂ s₂ hr₂ => ?_
      · obtain ⟨ol, hol, hcl, nl, hdl⟩ := hl
        obtain ⟨ocls, odict, odata, oslots⟩ := ol
        simp only at hcl hdl
        subst hcl; subst hdl
        have hol' : (s.heap.push (set0 w)).get? l = some { cls := .type "list", dict := odict, data := .seq items nl, slots := oslots } := Heap.get?_push_of_some _ hol
        have hl1 : (s.heap.push (set0 w)).IsList l items := ⟨_, hol', rfl, nl, rfl⟩
        have hsls := F.sub_list_set
        have hslf := F.sub_list_frozenset
        have hne : (Value.type "list" == Value.type "dict") = false := by decide
        have hlS : l < s.heap.objs.size := Heap.lt_size hol
        unfold Builtin.«set.__init__» noKeywords Builtin.Frozenset.updateFrom
        generalize hPI : pyIter = PI
        wp_walk
        subst hPI
        refine wpAny_pyIter_list hl1 ?_
        refine wpAny_bind (wpAny_runValue ?_)
        have hh3 : A.in1.in1.in1.handled = none := by simp [hh]
        have hneI : l ≠ (s.heap.push (set0 w)).objs.size := by
          rw [hsz]
          exact Nat.ne_of_lt (Nat.lt_succ_of_lt hlS)
        have hSf : s.heap.objs.size ∉ [(s.heap.push (set0 w)).objs.size, l] := by
          simp only [List.mem_cons, List.not_mem_nil, or_false, not_or]
          rw [hsz]
          exact ⟨Nat.ne_of_lt (Nat.lt_succ_self _), Nat.ne_of_gt hlS⟩
        have hval : ∀ (i : Nat) (v : Value), items[i]? = some v → ∃ k t, ns[i]? = some k ∧ v = .int k t := fun i v hv => by
          have hi : i < ns.length := by rw [← hn]; exact (Array.getElem?_eq_some_iff.mp hv).1
          obtain ⟨t, e⟩ := PyProof.Rows.IntsAre.int_at hit i v (by rw [Array.getElem?_toList]; exact hv)
          exact ⟨ns[i], t, List.getElem?_eq_getElem hi, by rw [e, List.getD_eq_getElem?_getD, List.getElem?_eq_getElem hi] <;> rfl⟩
        refine set_update_ints ((Walks.list hh3 _ l hneI items).toS) s.heap.objs.size hSf ns hn hb hval (items.size - 0) 0 _ (by omega) (Nat.zero_le _) ⟨⟨_, Heap.get?_push_size _ rfl, rfl, rfl⟩, (hl1.push _)⟩
          ⟨0, Nat.le_refl 0, setR_new_at (Heap.get?_push_of_some _ hS)⟩ fun s' c' hm hc' hS' => ?_
        obtain ⟨h', g2, d', tk', os'⟩ := s'
        have eg : g2 = s.gens := hm.gens
        have ed : d' = s.drawn := hm.drawn
        have eo : os' = s.os := hm.os
        subst eg; subst ed; subst eo
        show wpAny _ _ _ _ _ _
        refine wpAny_pure ?_
        show wpAny _ _ (ret Value.none) _ _ _
        rw [hn] at hc'
        refine wpAny_pure ⟨rfl, h', tk', c', rfl, hS', hc', fun b o e => ?_⟩
        have hb0 : b < s.heap.objs.size := Heap.lt_size e
        exact hm.heap b o (by simp only [List.mem_cons, List.not_mem_nil, or_false, not_or]; exact ⟨Nat.ne_of_lt hb0, by rw [hsz]; exact Nat.ne_of_lt (Nat.lt_succ_of_lt hb0)⟩) (Heap.get?_push_of_some _ (Heap.get?_push_of_some _ e))
      · cases r₂ with
        | error e => exact hr₂
        | ok fl₂ =>
          cases fl₂ with
          | ret r =>
            obtain ⟨rfl, h', tk, c', rfl, hS', hc', hk'⟩ := hr₂
            repeat (any_goals (first | assumption | wp_step))
            exact h _ _ _ hS' hc' hk'
          | _ => exact hr₂.elim
    | _ => exact hr.elim
end

/-! ### sorted(set(xs)) -/
/-- k among ascending ones, once -/
def insU (k : Int) : List Int → List Int
  | [] => [k]
  | x :: r => if k < x then k :: x :: r else if k = x then x :: r else x :: insU k r
/-- the members, each once, ascending -/
def upOnce : List Int → List Int
  | [] => []
  | x :: r => insU x (upOnce r)
theorem insU_mem {k j : Int} : ∀ l : List Int, j ∈ insU k l ↔ j = k ∨ j ∈ l
  | [] => by simp [insU]
  | x :: r => by
    unfold insU
    by_cases h1 : k < x
    · rw [if_pos h1, List.mem_cons]
    · rw [if_neg h1]
      by_cases h2 : k = x
      · rw [if_pos h2, h2, List.mem_cons]
        exact ⟨.inr, fun h => h.elim (fun e => .inl e) id⟩
      · rw [if_neg h2, List.mem_cons, insU_mem r, List.mem_cons]
        constructor
        · rintro (h | h | h)
          · exact .inr (.inl h)
          · exact .inl h
          · exact .inr (.inr h)
        · rintro (h | h | h)
          · exact .inr (.inl h)
          · exact .inl h
          · exact .inr (.inr h)
theorem insU_pw {k : Int} : ∀ {l : List Int}, l.Pairwise (· < ·) → (insU k l).Pairwise (· < ·)
  | [], _ => List.pairwise_singleton _ _
  | x :: r, h => by
    have hx := List.pairwise_cons.mp h
    unfold insU
    by_cases h1 : k < x
    · rw [if_pos h1]
      refine List.pairwise_cons.mpr ⟨fun y hy => ?_, h⟩
      rcases List.mem_cons.mp hy with e | e
      · rw [e]; exact h1
      · exact Int.lt_trans h1 (hx.1 y e)
    · rw [if_neg h1]
      by_cases h2 : k = x
      · rw [if_pos h2]; exact h
      · rw [if_neg h2]
        refine List.pairwise_cons.mpr ⟨fun y hy => ?_, insU_pw hx.2⟩
        rcases (insU_mem r).mp hy with e | e
        · rw [e]; omega
        · exact hx.1 y e
theorem upOnce_mem {j : Int} : ∀ l : List Int, j ∈ upOnce l ↔ j ∈ l
  | [] => by simp [upOnce]
  | x :: r => by
    show j ∈ insU x (upOnce r) ↔ _
    rw [insU_mem, upOnce_mem r, List.mem_cons]
theorem upOnce_pw : ∀ l : List Int, (upOnce l).Pairwise (· < ·)
  | [] => List.Pairwise.nil
  | x :: r => insU_pw (upOnce_pw r)
theorem up_same : ∀ {a b : List Int}, a.Pairwise (· < ·) → b.Pairwise (· < ·) → (∀ j, j ∈ a ↔ j ∈ b) → a = b
  | [], [], _, _, _ => rfl
  | [], y :: b, _, _, h => by have := (h y).mpr List.mem_cons_self; cases this
  | x :: a, [], _, _, h => by have := (h x).mp List.mem_cons_self; cases this
  | x :: a, y :: b, ha, hb, h => by
    have ha' := List.pairwise_cons.mp ha
    have hb' := List.pairwise_cons.mp hb
    have e : x = y := by
      have h1 := (h x).mp List.mem_cons_self
      have h2 := (h y).mpr List.mem_cons_self
      rcases List.mem_cons.mp h1 with e | e
      · exact e
      · rcases List.mem_cons.mp h2 with e2 | e2
        · exact e2.symm
        · have z1 := hb'.1 x e
          have z2 := ha'.1 y e2
          omega
    subst e
    have : a = b := up_same ha'.2 hb'.2 fun j => by
      constructor
      · intro z
        rcases List.mem_cons.mp ((h j).mp (List.mem_cons_of_mem _ z)) with e | e
        · have := ha'.1 j z; omega
        · exact e
      · intro z
        rcases List.mem_cons.mp ((h j).mpr (List.mem_cons_of_mem _ z)) with e | e
        · have := hb'.1 j z; omega
        · exact e
    rw [this]
def tSrtSet (w : World) (K : PySem.W.Frag) (ta : TE) : TE := fun σ H Q => ta σ H fun x H1 => ∃ (l : Addr) (ns : List Int), x = .ref l ∧ SqL K H1 l (ns.map V.int) ∧ ns.length < 64 ∧
  ∀ (b p : Addr) (o : HO), H1 b = none → upd H1 b o p = none → Q (.ref p) (upd (upd H1 b o) p (.lst ((upOnce ns).map V.int)))
theorem pe_srtSet {X : Cx} {a : Expr} {ta : TE} {p p2 q pos : Pos} (hg : Gl X "sorted") (hm : X.mg "sorted" = none) (hg2 : Gl X "set") (hm2 : X.mg "set" = none) (ha : PE X a ta) (hc : X.calm = true := by rfl)
    (na : starEach [a] X.env = (false, eval a X.env) :: starEach [] X.env := by rfl) : PE X (.Call (.Name "sorted" p) [.Call (.Name "set" p2) [a] [] q] [] pos) (tSrtSet X.w X.K ta) := by
  refine ⟨fun pins s σ H Q I h => ?_⟩
  refine Call_ (ld_blt I hg hm boot_sorted ?_)
  refine PyProof.Rows.callWith_builtin1 (PyProof.Rows.args_cons ?_ rfl) rfl rfl
  refine Call_ (ld_blt I hg2 hm2 boot_set ?_)
  refine PyProof.Rows.callWith_type1 (PyProof.Rows.args_cons (thn (ha.run pins s σ H _ I h) fun v s1 ⟨x, H1, I1, r1, q1⟩ => PyProof.Rows.args_nil ?_) na) na rfl
  obtain ⟨l, ns, rfl, hq, hl, q1⟩ := q1
  cases r1
  obtain ⟨its, r, pl, hz⟩ := I1.list hq
  refine set_lstI ns (I1.ok.hd hc) pl.isList (by simpa using ints_of_vals r) (by unfold scanBound; omega) fun h' tk c hS hc' hk => ?_
  refine PyProof.Rows.args_nil ?_
  have hb : H1 s1.heap.objs.size = none := I1.hok.fresh (Nat.le_refl _)
  have I2 : L2.Inv X pins σ (upd H1 s1.heap.objs.size (SetO X.w s1.heap.objs.size (fun j => decide (j ∈ ns)) c)) { s1 with heap := h', toks := tk } := I1.laid (t' := tk) (fun b u e => hk b _ e) (Nat.le_refl _) (setO_new hS)
  refine cr_sortedSet hc pins _ σ _ [.ref s1.heap.objs.size] _ Q I2 (.cons rfl .nil) ⟨_, _, c, rfl, upd_same, by omega, fun ms p hs hm hl' hp => ?_⟩
  have e : ms = upOnce ns := up_same hs (upOnce_pw ns) fun j => by rw [hm, upOnce_mem, decide_eq_true_eq]
  rw [e]
  exact q1 _ _ _ hb hp
variable [HasT]
def fSrtSet (fin : FL) : F1 := fun x S => match x.lst? S with
    | some xs => (match intsD xs with
      | some ns => if ns.length < 64 then fin (dInts (upOnce ns)) S else none
      | none => none)
    | none => none
section
variable {X : Cx} {W : WX}
theorem de_srtSet {a : Expr} {ma : ME D} {fin : FL} {p p2 q pos : Pos} (n : NewL X fin) (hm : X.mg "sorted" = none) (hm2 : X.mg "set" = none) (ha : DE X W a ma) (hc : X.calm = true := by rfl) (hg : Gl X "sorted" := by rfl) (hg2 : Gl X "set" := by rfl)
    (na : starEach [a] X.env = (false, eval a X.env) :: starEach [] X.env := by rfl) : DE X W (.Call (.Name "sorted" p) [.Call (.Name "set" p2) [a] [] q] [] pos) (mOp1 (fSrtSet fin) ma) :=
  PE.imp (pe_srtSet hg hm hg2 hm2 ha hc na) fun σ H Q q => by
    obtain ⟨ρ, S, ι, F, at', t⟩ := q
    refine T.first at' t fun d1 S1 F1 ι1 H1 v1 n1 a1 r1 t1 => ?_
    obtain ⟨d', S', e, q⟩ := lift_then t1
    unfold fSrtSet at e
    split at e
    · rename_i xs ex
      split at e
      · rename_i ns ei
        split at e
        · rename_i hl
          have en := ints_eq ei
          subst en
          obtain ⟨a', us, rfl, q1, rd⟩ := lst?_rel a1.r ex r1
          have eu := relInts rd
          subst eu
          refine ⟨a', ns, rfl, q1, hl, fun b p o hb hp => ?_⟩
          have n2 : Nxt (gb X) F1 ι1 H1 F1 ι1 S1 (upd H1 b o) := Nxt.fresh a1.r hb
          exact (n n2.r (mkInts (upOnce ns)) e fun F' ι' H' v nx rv => q F' ι' H' (n2.trans nx) v rv).2 p hp
        · cases e
      · cases e
    · cases e
end
/-! ### x in o -/
def fInO (c : Str) (mf : List D → M D) : F2 := fun x o S => match o.ins? c S with
  | some _ => (match mf [o, x] S with
    | .ok (.p (.bl b)) S' => some (.p (.bl b), S')
    | _ => none)
  | none => none
def rInO (K : PySem.W.Frag) (C : Addr) (sp : Sp) : R2 := fun x o H Q => ∃ a dx fs, o = .ref a ∧ H a = some (.ins C dx fs) ∧ sp [.ref a, x] H (fun v H' => ∃ b, v = .bl b ∧ Q (.bl b) H') (fun _ _ _ => False)
theorem od_inO {X : Cx} {c : Str} {k : Nat} {mf : List D → M D} (F : FnM X.prog X.w X.K X.mg X.base c "__contains__" k 2 mf) (hr : Room k X.A) (hgd : X.A.guards = some []) : OpD X (compareOp .In) (fInO c mf) := by
  obtain ⟨C, f, fd, ps, hC, cl, hm, hb, hn, Fo⟩ := F
  refine ⟨rInO X.K C (spD (gb X) 2 mf), fun pins s σ H x y v u Q I rx ry h => ?_, fun {F ι S S' H d1 d2 d' v1 v2 Q} rs r1 r2 e q => ?_⟩
  · obtain ⟨a, dx, fs, rfl, ea, h⟩ := h
    obtain rfl : u = Value.ref a := ry
    obtain ⟨mA, O, _, _, _, _⟩ := ins_get I.hok ea
    obtain ⟨od, J, _⟩ := O.look
    refine wpAny_bind ?_
    unfold contains
    refine wpAny_holding (wpAny_bind (wpAny_bind (J.type.here ((PySem.W.looks_findIn I.kIn hm.at_).here ?_))))
    rw [if_neg (by simp)]
    refine wpAny_bind (PySem.W.unlessNone_K I.kIn J hm.at_ hm.fn ?_)
    refine thn (runs_G Fo hr hgd hb (E := fun _ _ _ _ => False) (fun _ _ _ _ _ _ _ z => ?_) pins s σ H (fun v H' => ∃ b, v = .bl b ∧ Q (.bl b) H') [.ref a, v] [.ref a, x] I (.cons rfl (.cons rx .nil)) h) fun r s' ⟨w, H', I', rw', b, eb, q⟩ => ?_
    · obtain ⟨_, _, _, _, _, _, _, _, _, _, _, _, he⟩ := z
      exact he.elim
    · subst eb
      obtain rfl : r = Value.bool b := rw'
      exact wpAny_truthy_bool (wpAny_pure ⟨.bl b, H', I', rfl, q⟩)
  · unfold fInO at e
    split at e
    · rename_i fs ef
      split at e
      · rename_i b S1 em
        cases e
        obtain ⟨a', C', dx, fvs, rfl, hm', ha', rf⟩ := ins?_rel rs ef r2
        have hm'' : X.mg c = some (.ref C') := hm'
        rw [hC] at hm''
        cases hm''
        refine ⟨a', dx, fvs, rfl, ha', rfl, [d2, d1], S, ι, F, rs, relDs_cons.mpr ⟨r2, relDs_cons.mpr ⟨r1, relDs_nil'⟩⟩, ?_⟩
        rw [em]
        exact fun F' ι' H' nx v rv => by
          simp only [RelD, RelP] at rv
          subst rv
          exact ⟨b, rfl, q _ _ _ _ nx (by simp only [RelD, RelP])⟩
      · cases e
    · cases e
end DL
set_option maxHeartbeats 4000000
/-! DLTwo: comprehensions with two fors. The list that grows stands in the store. -/
namespace DL
open PySem PySem.Spec PyProof.Rows L2
/-- the second for's turns: kept items come behind the list k -/
def compA (k : Nat) (w : List (Nat × List D)) (g : MG) (t : ME Bool) (e : ME D) (ρ : Env) : List D → M Unit
  | [] => fun S => if watchOk w S = true then .ok () S else .stuck
  | x :: xs => fun S => if watchOk w S = true then (match g x ρ S with
    | none => .stuck
    | some ρ' => (noErr (t ρ' S)).bind fun b => if b = true then fun S => (noErr (e ρ' S)).bind fun y => fun S => (lift (fAppend (.r k) [y]) S).bind fun _ => compA k w g t e ρ xs
      else compA k w g t e ρ xs) else .stuck
def innC (k : Nat) (mi : ME Src) (vs : List Nat) (g : MG) (t : ME Bool) (e : ME D) : Env → M Unit := fun ρ S => (noErr (mi ρ S)).bind fun src => compA k src.watch g t e (unsetE ρ vs) src.xs
def comp2I (w : List (Nat × List D)) (g : MG) (t : ME Bool) (inn : Env → M Unit) (ρ : Env) : List D → M Unit
  | [] => fun S => if watchOk w S = true then .ok () S else .stuck
  | x :: xs => fun S => if watchOk w S = true then (match g x ρ S with
    | none => .stuck
    | some ρ' => (noErr (t ρ' S)).bind fun b => if b = true then fun S => (inn ρ' S).bind fun _ => comp2I w g t inn ρ xs
      else comp2I w g t inn ρ xs) else .stuck
def mComp2 (fin : Fin) (mi : ME Src) (vs : List Nat) (g : MG) (t : ME Bool) (mi1 : ME Src) (vs1 : List Nat) (g1 : MG) (t1 : ME Bool) (e : ME D) : ME D := fun ρ S => (mi ρ S).bind fun src S1 =>
  (comp2I src.watch g t (innC S1.objs.length mi1 vs1 g1 t1 e) (unsetE ρ vs) src.xs (S1.new (.lst []) rfl)).bind fun _ S2 => .ok (fin S1.objs.length (.r S1.objs.length) S2).1 (fin S1.objs.length (.r S1.objs.length) S2).2
theorem r_bindA {α β γ : Type} {r : Res α} {k : α → M β} {l : β → M γ} : (r.bind k).bind l = r.bind fun a S => (k a S).bind l := by
  cases r <;> rfl
section
variable [HasT]
variable {vs vs1 : List Nat} {g g1 : MG} {me : ME D} {mt mt1 : ME Bool}
theorem comp2_imp {G : Gb} {W : WX} {mi mi1 : ME Src} {tg tg1 : TG} {tt tt1 : TT} {te : TE} {fin : Fin} (hfin : FinOk fin) (hg : ∀ v σ H Q, TGt G vs g v σ H Q → tg v σ H Q) (ht : ∀ σ H Q, TB G W0 mt σ H Q → tt σ H Q)
    (hg1 : ∀ v σ H Q, TGt G vs1 g1 v σ H Q → tg1 v σ H Q) (ht1 : ∀ σ H Q, TB G W0 mt1 σ H Q → tt1 σ H Q) (he : ∀ σ H Q, T G W0 me σ H Q → te σ H Q) {σ : L2.St} {H : Hp} {Q : VK}
    (q : T G W (mComp2 fin mi vs g mt mi1 vs1 g1 mt1 me) σ H Q) : tLc2 (TIt G W mi) tg tt (TIt G W0 mi1) tg1 tt1 te vs vs1 σ H Q := by
  obtain ⟨ρ, S, ι, F, a, t⟩ := q
  refine ⟨ρ, S, ι, F, a, t.bind.mono fun src S1 F1 ι1 H1 n1 t1 J ok L hL => ?_⟩
  have a1 := a.next n1
  have nL : Nxt G F1 ι1 H1 F1 (ι1 ++ [L]) (S1.new (.lst []) rfl) (upd H1 L (.lst [])) := Nxt.newL n1.r hL relDs_nil' rfl
  have hk : (ι1 ++ [L])[S1.objs.length]? = some L := by rw [← n1.r.len]; simp
  generalize eKK : (fun (_ : Unit) (S2 : Store) => Res.ok (fin S1.objs.length (.r S1.objs.length) S2).1 (fin S1.objs.length (.r S1.objs.length) S2).2) = KK at t1
  generalize eIN : innC S1.objs.length mi1 vs1 g1 mt1 me = IN at t1
  generalize eR : (fun (d : D) (_ : Store) (F' : Addr → Prop) (ι' : List Addr) (H' : Hp) => ∀ v, RelD G F' ι' H' d v → Q v H') = RR at t1
  let Nx : List D → Hp → Prop := fun xs H3 => ∃ S3 F3 ι3, Nxt G F1 (ι1 ++ [L]) (upd H1 L (.lst [])) F3 ι3 S3 H3 ∧ Then G (fun c d H' => W c d σ H') F1 ι1 H1 ((comp2I src.watch g mt IN (unsetE ρ vs) xs S3).bind KK) RR
  refine ⟨fun i m H2 => ∃ xs, xs = src.xs.drop i ∧ m = xs.length ∧ Nx xs H2, ⟨_, src.xs, rfl, rfl, _, F1, ι1 ++ [L], Nxt.refl nL.r, t1⟩, ?_⟩
  rintro i m H2 ⟨xs, ex, em, S2, F2, ι2, n2, t2⟩
  cases xs with
  | nil =>
    unfold comp2I at t2
    split at t2
    · rename_i w
      have hl : src.xs.length ≤ i := by
        have := congrArg List.length ex
        simp at this
        omega
      refine .inl ⟨((ok F2 ι2 H2 S2 (nL.trans n2) w) i).1 hl, ?_⟩
      have rk : RelD G F2 ι2 H2 (.r S1.objs.length) (.ref L) := by
        simp only [RelD]
        exact ⟨L, rfl, pre_get n2.pre hk⟩
      obtain ⟨F3, ι3, n3, r3⟩ := hfin n1.r (nL.trans n2) rk
      subst eKK
      subst eR
      exact t2 F3 ι3 H2 n3 _ r3
    · exact t2.elim
  | cons x xs =>
    unfold comp2I at t2
    split at t2
    · rename_i w
      have hx : src.xs[i]? = some x := by
        have : (src.xs.drop i)[0]? = some x := by rw [← ex]; rfl
        simpa using this
      have hd : xs = src.xs.drop (i + 1) := by
        have h2 : src.xs.drop (i + 1) = (src.xs.drop i).drop 1 := by rw [List.drop_drop]
        rw [h2, ← ex]
        rfl
      obtain ⟨go, yl⟩ := ((ok F2 ι2 H2 S2 (nL.trans n2) w) i).2 x hx
      refine .inr ⟨go, Nx xs, fun H3 h3 => ⟨xs.length, by rw [em]; simp, xs, hd, rfl, h3⟩, fun v H3 hy => ?_⟩
      obtain ⟨nx, rx⟩ := yl v H3 hy
      have n23 := n2.trans nx
      have aw : At G F2 ι2 H3 (wipe σ vs) (unsetE ρ vs) S2 := ⟨relE_wipe (a1.e.mono (nL.trans n23)) vs, nx.r⟩
      refine hg _ _ _ _ ?_
      split at t2
      · exact t2.elim
      · rename_i ρ' eg
        refine ⟨x, unsetE ρ vs, S2, ι2, F2, rx, aw, ρ', eg, fun σ' hr hl hw => ⟨hw.trans (wipe_sub σ vs vs fun _ h => h), ?_⟩⟩
        rw [r_bindA] at t2
        refine ht _ _ _ ⟨ρ', S2, ι2, F2, ⟨hr, nx.r⟩, (Then.later (noErr_then t2) (nL.trans n23)).mono fun b S4 F4 ι4 H4 n4 t4 => ?_⟩
        cases b with
        | false =>
          rw [if_neg (by decide)] at t4
          show if (false : Bool) = true then _ else _
          rw [if_neg (by decide)]
          exact ⟨S4, F4, ι4, n23.trans n4, t4⟩
        | true =>
          rw [if_pos rfl] at t4
          show if (true : Bool) = true then _ else _
          rw [if_pos rfl]
          have eI : IN ρ' S4 = (noErr (mi1 ρ' S4)).bind fun src => compA S1.objs.length src.watch g1 mt1 me (unsetE ρ' vs1) src.xs := by
            rw [← eIN]
            rfl
          rw [eI, r_bindA, r_bindA] at t4
          have n24 := n23.trans n4
          refine ⟨ρ', S4, ι4, F4, ⟨hr.mono n4, n4.r⟩, (Then.later (noErr_then t4) (nL.trans n24)).mono fun src1 S5 F5 ι5 H5 n5 t5 J1 ok1 => ?_⟩
          have n25 := n24.trans n5
          generalize eK2 : (fun (_ : Unit) (S : Store) => (comp2I src.watch g mt IN (unsetE ρ vs) xs S).bind KK) = K2 at t5
          let Nx1 : List D → Hp → Prop := fun ys H6 => ∃ S6 F6 ι6, Nxt G F5 ι5 H5 F6 ι6 S6 H6 ∧ Then G (fun c d H' => W c d σ H') F1 ι1 H1 ((compA S1.objs.length src1.watch g1 mt1 me (unsetE ρ' vs1) ys S6).bind K2) RR
          refine ⟨fun j m H6 => ∃ ys, ys = src1.xs.drop j ∧ m = ys.length ∧ Nx1 ys H6, ⟨_, src1.xs, rfl, rfl, S5, F5, ι5, Nxt.refl n5.r, t5⟩, ?_⟩
          rintro j m H6 ⟨ys, ey, em, S6, F6, ι6, n6, t6⟩
          cases ys with
          | nil =>
            unfold compA at t6
            split at t6
            · rename_i w1
              have hl : src1.xs.length ≤ j := by
                have := congrArg List.length ey
                simp at this
                omega
              refine .inl ⟨((ok1 F6 ι6 H6 S6 n6 w1) j).1 hl, S6, F6, ι6, n25.trans n6, ?_⟩
              subst eK2
              exact t6
            · exact t6.elim
          | cons y ys =>
            unfold compA at t6
            split at t6
            · rename_i w1
              have hx1 : src1.xs[j]? = some y := by
                have : (src1.xs.drop j)[0]? = some y := by rw [← ey]; rfl
                simpa using this
              have hd1 : ys = src1.xs.drop (j + 1) := by
                have h2 : src1.xs.drop (j + 1) = (src1.xs.drop j).drop 1 := by rw [List.drop_drop]
                rw [h2, ← ey]
                rfl
              obtain ⟨go1, yl1⟩ := ((ok1 F6 ι6 H6 S6 n6 w1) j).2 y hx1
              refine .inr ⟨go1, Nx1 ys, fun H3 h3 => ⟨ys.length, by rw [em]; simp, ys, hd1, rfl, h3⟩, fun v1 H7 hy1 => ?_⟩
              obtain ⟨nx1, rx1⟩ := yl1 v1 H7 hy1
              have n67 := n6.trans nx1
              have aw1 : At G F6 ι6 H7 (wipe σ' vs1) (unsetE ρ' vs1) S6 := ⟨relE_wipe ((hr.mono n4).mono (n5.trans n67)) vs1, nx1.r⟩
              refine hg1 _ _ _ _ ?_
              split at t6
              · exact t6.elim
              · rename_i ρ1 eg1
                refine ⟨y, unsetE ρ' vs1, S6, ι6, F6, rx1, aw1, ρ1, eg1, fun σ1 hr1 hl1 hw1 => ⟨hw1.trans (wipe_sub σ' vs1 vs1 fun _ h => h), ?_⟩⟩
                rw [r_bindA] at t6
                refine ht1 _ _ _ ⟨ρ1, S6, ι6, F6, ⟨hr1, nx1.r⟩, (Then.later (noErr_then t6) (nL.trans (n25.trans n67))).mono fun b S8 F8 ι8 H8 n8 t8 => ?_⟩
                have n78 := n67.trans n8
                cases b with
                | false =>
                  rw [if_neg (by decide)] at t8
                  show if (false : Bool) = true then _ else _
                  rw [if_neg (by decide)]
                  exact ⟨S8, F8, ι8, n78, t8⟩
                | true =>
                  rw [if_pos rfl] at t8
                  show if (true : Bool) = true then _ else _
                  rw [if_pos rfl]
                  rw [r_bindA] at t8
                  refine he _ _ _ ⟨ρ1, S8, ι8, F8, ⟨hr1.mono n8, n8.r⟩, (Then.later (noErr_then t8) (nL.trans (n25.trans n78))).mono fun z S9 F9 ι9 H9 n9 t9 v9 r9 => ?_⟩
                  have n99 := nL.trans ((n25.trans n78).trans n9)
                  have hk9 : ι9[S1.objs.length]? = some L := pre_get ((n25.trans n78).trans n9).pre hk
                  rw [r_bindA] at t9
                  cases ea : fAppend (.r S1.objs.length) [z] S9 with
                  | none =>
                    have : lift (fAppend (.r S1.objs.length) [z]) S9 = .stuck := by
                      unfold lift
                      rw [ea]
                    rw [this] at t9
                    exact t9.elim
                  | some o =>
                    obtain ⟨d10, S10⟩ := o
                    have el : lift (fAppend (.r S1.objs.length) [z]) S9 = .ok d10 S10 := by
                      unfold lift
                      rw [ea]
                    rw [el] at t9
                    unfold fAppend at ea
                    split at ea
                    · rename_i n0 ds0 y0 emut eys
                      cases eys
                      split at ea
                      · rename_i hlen
                        split at ea
                        · rename_i S11 e2
                          cases ea
                          obtain ⟨p, us, ep, hi, hu, rd⟩ := mut?_rel (v := .ref L) n9.r emut (by simp only [RelD]; exact ⟨L, rfl, hk9⟩)
                          cases ep
                          have np := putL_nxt n9.r hi hu (relDs_append rd (relDs_cons.mpr ⟨r9, relDs_nil'⟩)) e2
                          exact ⟨us, hu, by rw [← relDs_len rd]; exact Nat.lt_of_lt_of_le hlen (szOk (Nat.le_refl _)), _, F9, ι9, (n78.trans n9).trans np, t9⟩
                        · cases ea
                      · cases ea
                    · cases ea
            · exact t6.elim
    · exact t2.elim
end
end DL
namespace DL
open PySem PySem.Spec PyProof.Rows L2
section
variable [HasT]
variable {X : Cx} {W : WX} {tg iter elt tg1 iter1 : Expr} {ifs ifs1 : List Expr} {pos : Pos} {mt mt1 : ME Bool} {me : ME D} {mi mi1 : ME Src} {g g1 : MG} {scope : Scope} {own : List (Str × Nat)} {vs1 : List Nat} {fin : Fin}
theorem de_lc2 (hfin : FinOk fin) (hc : X.calm = true) (hN : X.N.Nodup) (ok : BlkOk X.N X.env.scope scope own) (hv : ∀ i ∈ vs1, i ∈ own.map (·.2)) (hi : DI X W tg iter mi)
    (hg : ∀ (s : Shared) (H : Hp) (C : Addr) (cl : List (Str × Addr)) (fp : List Addr), DG (X.blk s H scope (compEnvC scope cl C X.env) fp) (own.map (·.2)) tg g)
    (ht : ∀ (s : Shared) (H : Hp) (C : Addr) (cl : List (Str × Addr)) (fp : List Addr), DTs (X.blk s H scope (compEnvC scope cl C X.env) fp) W0 ifs mt)
    (hi1 : ∀ (s : Shared) (H : Hp) (C : Addr) (cl : List (Str × Addr)) (fp : List Addr), DI (X.blk s H scope (compEnvC scope cl C X.env) fp) W0 tg1 iter1 mi1)
    (hg1 : ∀ (s : Shared) (H : Hp) (C : Addr) (cl : List (Str × Addr)) (fp : List Addr), DG (X.blk s H scope (compEnvC scope cl C X.env) fp) vs1 tg1 g1)
    (ht1 : ∀ (s : Shared) (H : Hp) (C : Addr) (cl : List (Str × Addr)) (fp : List Addr), DTs (X.blk s H scope (compEnvC scope cl C X.env) fp) W0 ifs1 mt1)
    (he : ∀ (s : Shared) (H : Hp) (C : Addr) (cl : List (Str × Addr)) (fp : List Addr), DE (X.blk s H scope (compEnvC scope cl C X.env) fp) W0 elt me) (hs : ∀ x, foldedSetIterable iter X.env x = pure x := by intro _; rfl) (hs1 : ∀ env x, foldedSetIterable iter1 env x = pure x := by intro _ _; rfl) :
    DE X W (.ListComp elt [⟨tg, iter, ifs, 0⟩, ⟨tg1, iter1, ifs1, 0⟩] scope pos) (mComp2 fin mi (own.map (·.2)) g mt mi1 vs1 g1 mt1 me) :=
  PE.imp (pe_lc2 hc hN hi ok hv hg ht hi1 hg1 ht1 he hs hs1) fun σ H Q q => comp2_imp hfin (fun _ _ _ _ h => h) (fun _ _ _ h => h) (fun _ _ _ _ h => h) (fun _ _ _ h => h) (fun _ _ _ h => h) q
theorem ds_setLc2 (i : Nat) {y : Str} {py spos : Pos} (hfin : FinOk fin) (hc : X.calm = true) (hN : X.N.Nodup) (ok : BlkOk X.N X.env.scope scope own) (hv : ∀ i ∈ vs1, i ∈ own.map (·.2)) (hi : DI X W tg iter mi)
    (hg : ∀ (s : Shared) (H : Hp) (C : Addr) (cl : List (Str × Addr)) (fp : List Addr), DG (X.blk s H scope (compEnvC scope cl C X.env) fp) (own.map (·.2)) tg g)
    (ht : ∀ (s : Shared) (H : Hp) (C : Addr) (cl : List (Str × Addr)) (fp : List Addr), DTs (X.blk s H scope (compEnvC scope cl C X.env) fp) W0 ifs mt)
    (hi1 : ∀ (s : Shared) (H : Hp) (C : Addr) (cl : List (Str × Addr)) (fp : List Addr), DI (X.blk s H scope (compEnvC scope cl C X.env) fp) W0 tg1 iter1 mi1)
    (hg1 : ∀ (s : Shared) (H : Hp) (C : Addr) (cl : List (Str × Addr)) (fp : List Addr), DG (X.blk s H scope (compEnvC scope cl C X.env) fp) vs1 tg1 g1)
    (ht1 : ∀ (s : Shared) (H : Hp) (C : Addr) (cl : List (Str × Addr)) (fp : List Addr), DTs (X.blk s H scope (compEnvC scope cl C X.env) fp) W0 ifs1 mt1)
    (he : ∀ (s : Shared) (H : Hp) (C : Addr) (cl : List (Str × Addr)) (fp : List Addr), DE (X.blk s H scope (compEnvC scope cl C X.env) fp) W0 elt me)
    (hsw : swapsWith (.ListComp elt [⟨tg, iter, ifs, 0⟩, ⟨tg1, iter1, ifs1, 0⟩] scope pos) (some (.Name y py)) spos.line X.env = pure true) (hy : X.N[i]? = some y := by rfl) (hyl : X.env.scope.names.lookup y = some .local := by rfl) (hs : ∀ x, foldedSetIterable iter X.env x = pure x := by intro _; rfl) (hs1 : ∀ env x, foldedSetIterable iter1 env x = pure x := by intro _ _; rfl) :
    DS X W (.Assign [.Name y py] (.ListComp elt [⟨tg, iter, ifs, 0⟩, ⟨tg1, iter1, ifs1, 0⟩] scope pos) spos) (mAsg (gNm i) (mComp2 fin mi (own.map (·.2)) g mt mi1 vs1 g1 mt1 me)) :=
  PS.imp (ps_setLc2 hc hN hy hyl hsw hi ok hv hg ht hi1 hg1 ht1 he hs hs1) fun E σ H q => asg_imp (fun σ H Q q => comp2_imp hfin (fun _ _ _ _ h => h) (fun _ _ _ h => h) (fun _ _ _ _ h => h) (fun _ _ _ h => h) (fun _ _ _ h => h) q) q
end
end DL
set_option maxHeartbeats 2000000
/-! DLTup: sorted of tuples of ints, of any lengths from one on, any number of them. -/
namespace DL
open PySem PySem.Spec PyProof.Rows L2

/-! ### the order of tuples -/
def lexLt : List Int → List Int → Bool
  | _, [] => false
  | [], _ :: _ => true
  | x :: xs, y :: ys => if x = y then lexLt xs ys else decide (x < y)
theorem lexLt_asym : ∀ a b : List Int, lexLt a b = true → lexLt b a = false
  | [], [], h => by cases h
  | _ :: _, [], h => by cases h
  | [], _ :: _, _ => rfl
  | x :: xs, y :: ys, h => by
    unfold lexLt at h ⊢
    by_cases e : x = y
    · rw [if_pos e] at h
      rw [if_pos e.symm]
      exact lexLt_asym xs ys h
    · rw [if_neg e, decide_eq_true_eq] at h
      rw [if_neg fun q => e q.symm, decide_eq_false_iff_not]
      omega
theorem lexLt_tr : ∀ a b c : List Int, lexLt b a = false → lexLt c b = false → lexLt c a = false
  | [], b, c, _, _ => by cases c <;> rfl
  | x :: xs, [], c, h, _ => by cases h
  | x :: xs, y :: ys, [], _, h => by cases h
  | x :: xs, y :: ys, z :: zs, h1, h2 => by
    unfold lexLt at h1 h2 ⊢
    by_cases e : y = x
    · rw [if_pos e] at h1
      by_cases f : z = y
      · rw [if_pos f] at h2
        rw [if_pos (f.trans e)]
        exact lexLt_tr xs ys zs h1 h2
      · rw [if_neg f, decide_eq_false_iff_not] at h2
        rw [if_neg (by omega), decide_eq_false_iff_not]
        omega
    · rw [if_neg e, decide_eq_false_iff_not] at h1
      by_cases f : z = y
      · rw [if_neg (by omega), decide_eq_false_iff_not]
        omega
      · rw [if_neg f, decide_eq_false_iff_not] at h2
        rw [if_neg (by omega), decide_eq_false_iff_not]
        omega
theorem lexLt_eq : ∀ a b : List Int, lexLt a b = false → lexLt b a = false → a = b
  | [], [], _, _ => rfl
  | _ :: _, [], _, h => by cases h
  | [], _ :: _, h, _ => by cases h
  | x :: xs, y :: ys, h1, h2 => by
    unfold lexLt at h1 h2
    by_cases e : x = y
    · rw [if_pos e] at h1
      rw [if_pos e.symm] at h2
      rw [e, lexLt_eq xs ys h1 h2]
    · rw [if_neg e, decide_eq_false_iff_not] at h1
      rw [if_neg fun q => e q.symm, decide_eq_false_iff_not] at h2
      omega
theorem lexLt_irrefl (a : List Int) : lexLt a a = false := by
  cases h : lexLt a a with
  | false => rfl
  | true => exact (lexLt_asym a a h).symm.trans h |>.symm ▸ rfl
/-- the ascending list of some tuples -/
def insLx (x : List Int) : List (List Int) → List (List Int)
  | [] => [x]
  | y :: r => if lexLt y x = true then y :: insLx x r else x :: y :: r
def sortT : List (List Int) → List (List Int)
  | [] => []
  | x :: r => insLx x (sortT r)
theorem insLx_perm (x : List Int) : ∀ r : List (List Int), (insLx x r).Perm (x :: r)
  | [] => List.Perm.refl _
  | y :: r => by
    unfold insLx
    by_cases h : lexLt y x = true
    · rw [if_pos h]
      exact ((insLx_perm x r).cons y).trans (List.Perm.swap x y r)
    · rw [if_neg h]
theorem insLx_up (x : List Int) : ∀ {r : List (List Int)}, r.Pairwise (fun x y => lexLt y x = false) → (insLx x r).Pairwise (fun x y => lexLt y x = false)
  | [], _ => List.pairwise_singleton _ _
  | y :: r, h => by
    obtain ⟨h1, h2⟩ := List.pairwise_cons.mp h
    unfold insLx
    by_cases c : lexLt y x = true
    · rw [if_pos c]
      refine List.pairwise_cons.mpr ⟨fun z hz => ?_, insLx_up x h2⟩
      rcases List.mem_cons.mp ((insLx_perm x r).mem_iff.mp hz) with e | e
      · rw [e]; exact lexLt_asym _ _ c
      · exact h1 z e
    · rw [if_neg c]
      have c' : lexLt y x = false := by simpa using c
      refine List.pairwise_cons.mpr ⟨fun z hz => ?_, h⟩
      rcases List.mem_cons.mp hz with e | e
      · rw [e]; exact c'
      · have := h1 z e
        cases q : lexLt z x with
        | false => rfl
        | true =>
          exfalso
          have := lexLt_tr x y z c' this
          rw [q] at this
          cases this
theorem sortT_perm : ∀ L : List (List Int), (sortT L).Perm L
  | [] => List.Perm.refl _
  | x :: r => (insLx_perm x (sortT r)).trans ((sortT_perm r).cons x)
theorem sortT_up : ∀ L : List (List Int), (sortT L).Pairwise fun x y => lexLt y x = false
  | [] => List.Pairwise.nil
  | x :: r => insLx_up x (sortT_up r)
theorem sortT_uniq {a L : List (List Int)} (h : a.Perm L) (u : a.Pairwise fun x y => lexLt y x = false) : a = sortT L :=
  List.Perm.eq_of_pairwise (fun x y _ _ h1 h2 => lexLt_eq x y h2 h1) u (sortT_up L) (h.trans (sortT_perm L).symm)

/-! ### over the model's sort -/
section
variable {prog : Program} {w : World} {A : Around} {E : Value → Shared → Prop} {s : Shared}
theorem swo_lexL (k : Value → List Int) : SrtO.Swo fun v u => lexLt (k v) (k u) := ⟨fun x y => lexLt_asym (k x) (k y), fun x y z h1 h2 => lexLt_tr (k x) (k y) (k z) h1 h2⟩
theorem kat_lex {fin : Bool} {Q : Bool → Shared → Prop} : ∀ {xs ys : List Value} {ns ms : List Int} {i : Nat}, IntsAre xs ns → IntsAre ys ms → fin = decide (ns.length < ms.length) → Q (lexLt ns ms) s → PySem.W.KatLex prog w A true fin Q (xs.zip ys) i s
  | _, _, _, _, _, .nil, .nil, e, q => by
    refine PySem.W.kat_nil ?_
    rw [e]
    exact q
  | _, _, _, _, _, .nil, .cons y u r, e, q => by
    refine PySem.W.kat_nil ?_
    rw [e]
    exact q
  | _, _, _, _, _, .cons x t r, .nil, e, q => by
    refine PySem.W.kat_nil ?_
    rw [e]
    exact q
  | _, _, _, _, i, .cons (ns := ns) x t r, .cons (ns := ms) y u r', e, q => by
    refine PySem.W.kat_cons (SeqAt.EqAt.int_int x t y u prog w _ _ ?_)
    refine PySem.W.kat_go (fun e1 => ?_) (fun e1 => ?_)
    · have ex : x = y := by simpa using e1
      refine PySem.W.kat_yes (kat_lex r r' ?_ ?_)
      · rw [e]
        simp
      · unfold lexLt at q
        rw [if_pos ex] at q
        exact q
    · have ex : ¬ x = y := by simpa using e1
      unfold lexLt at q
      rw [if_neg ex] at q
      cases i with
      | zero => exact PySem.W.kat_no (oneLt_int q)
      | succ i => exact PySem.W.kat_no (PySem.W.kat_one _ _ (PyProof.Rows.lt_int q))
theorem tups_cmp {vs : List Value} {k : Value → List Int} (hp : ∀ v ∈ vs, TS.TupInts s.heap v (k v)) : SrtO.Cmp prog w A s (tuples' true) (fun p => p.1 ∈ vs) (SrtO.lt2 fun v u => lexLt (k v) (k u)) := by
  intro p q hm hm'
  have h1 := hp _ hm
  have h2 := hp _ hm'
  show wpAny (model prog w) A (keyLt' (tuples' true) p.1 q.1) (fun r s' => s' = s ∧ r = lexLt (k p.1) (k q.1)) (fun _ _ => False) s
  generalize k p.1 = ns at h1 ⊢
  generalize k q.1 = ms at h2 ⊢
  obtain ⟨a, xs, e, ⟨o, ho, hc, n, hd⟩, i⟩ := h1
  obtain ⟨a', ys, e', ⟨o', ho', hc', n', hd'⟩, i'⟩ := h2
  rw [e, e']
  refine PySem.W.kat_lt ho hd ho' hd' ?_
  refine kat_lex i i' ?_ ⟨rfl, rfl⟩
  rw [← i.length, ← i'.length]
  simp
theorem firsts_tups {h : Heap} {k : Value → List Int} : ∀ vs : List Value, (∀ v ∈ vs, TS.TupInts h v (k v) ∧ k v ≠ []) → ∃ fs, PySem.W.KatTups h vs fs ∧ fs.length = vs.length ∧ ∀ f, f ∈ fs → ∃ n t, f = Value.int n t
  | [], _ => ⟨[], PySem.W.KatTups.nil, rfl, fun f hf => by simp at hf⟩
  | v :: vs, x => by
    obtain ⟨fs, kt, hl, hi⟩ := firsts_tups vs fun u hu => x u (List.mem_cons_of_mem _ hu)
    obtain ⟨⟨a, xs, rfl, ⟨o, ho, hc, n, hdt⟩, i⟩, hn⟩ := x v (List.mem_cons_self ..)
    generalize k (.ref a) = ns at i hn
    cases q : xs.toList with
    | nil =>
      rw [q] at i
      cases i
      exact absurd rfl hn
    | cons y ys =>
      rw [q] at i
      cases i with
      | cons z t r =>
        have h0 : xs[0]? = some (Value.int z t) := by
          rw [← Array.getElem?_toList, q]
          rfl
        refine ⟨.int z t :: fs, PySem.W.KatTups.cons ho hc hdt h0 kt, by rw [List.length_cons, List.length_cons, hl], fun f hm => ?_⟩
        rcases List.mem_cons.mp hm with rfl | hm
        · exact ⟨z, t, rfl⟩
        · exact hi f hm
theorem tups_sortable {a : Addr} {vs : List Value} {k : Value → List Int} (h0 : 0 < vs.length) (hp : ∀ v ∈ vs, TS.TupInts s.heap v (k v) ∧ k v ≠ []) (ha : ∀ o, s.heap.get? a = some o → o.cls ≠ .type "tuple") : SrtO.SortableO prog w A s a vs fun v u => lexLt (k v) (k u) := by
  intro h' keep
  have hp' : ∀ v ∈ vs, TS.TupInts h' v (k v) ∧ k v ≠ [] := fun v hm => ⟨(hp v hm).1.keeps fun b o e c => keep b o (fun z => by subst z; exact ha o e c) e, (hp v hm).2⟩
  obtain ⟨fs, h1, h2, h3⟩ := firsts_tups vs hp'
  refine ⟨tuples' true, fun Q E hq => ?_, tups_cmp fun v hm => (hp' v hm).1⟩
  refine PySem.W.kat_kind (T := .type "int") h1 (by omega) (fun f hm => ?_) (by rfl) ?_
  · obtain ⟨x, t, rfl⟩ := h3 f hm
    exact PySem.W.Looks.now
  · have e : (Value.type "int" != Value.type "tuple") = true := by first | decide +kernel | rfl | decide
    rw [e]
    exact hq
/-- sorted(l), l a list of tuples of ints -/
theorem sorted_tupsO {l : Addr} {vs : List Value} {k : Value → List Int} {Q : Value → Shared → Prop} (hl : s.heap.IsList l vs.toArray) (hz : vs.length ≤ sizeLine) (hp : ∀ v ∈ vs, TS.TupInts s.heap v (k v) ∧ k v ≠ [])
    (h : ∀ out : List Value, SrtO.Srtd (fun v u => lexLt (k v) (k u)) out → SrtO.Stb (fun v u => lexLt (k v) (k u)) out vs → Q (.ref (s.heap.objs.size + 1)) { s with heap := sortedAll s.heap vs out.toArray }) :
    wpAny (model prog w) A (call (.builtin "sorted") [.ref l]) Q E s := by
  refine SrtO.sorted_ord (swo_lexL k) hl hz (fun h2 h₁ a ha kk => ?_) fun out hs hb => h out hs hb
  refine tups_sortable (s := { s with heap := h₁ }) (by omega) (fun v hm => ⟨(hp v hm).1.keeps fun b o e _ => (kk b o e).2, (hp v hm).2⟩) fun o e => ?_
  have e' : some o = some (seqObj "list" vs.toArray 0) := e.symm.trans ha
  cases e'
  intro c
  exact absurd (Value.type.inj c) (by decide)
end
section
variable {X : Cx}
/-- sorted(xs), xs a list of tuples of ints -/
def rSrtT (K : PySem.W.Frag) : List V → Hp → VK → Prop := fun vs H Q => ∃ (a : Addr) (xs : List V) (k : V → List Int), vs = [V.ref a] ∧ SqL K H a xs ∧ (∀ x ∈ xs, TupI K H x (k x) ∧ k x ≠ []) ∧
  ∀ (ys : List V) (p : Addr), ys.Perm xs → ys.map k = sortT (xs.map k) → H p = none → Q (.ref p) (upd H p (.lst ys))
theorem cr_srtT : CallR X (.builtin "sorted") (rSrtT X.K) := by
  intro pins s σ H vs us Q I r h
  obtain ⟨a, xs, k, rfl, hs, hx, q⟩ := h
  obtain ⟨its, rv, hl, hz⟩ := I.list hs
  rw [Vals.ref1 r]
  obtain ⟨e1, e2⟩ := bkV_refs rv fun x m => by
    obtain ⟨⟨t, e, _⟩, _⟩ := hx x m
    exact ⟨t, e⟩
  refine sorted_tupsO (k := fun v => k (bkV v)) hl.isList (by rw [← rv.length]; exact hz) (fun v hv => ?_) fun out h1 h2 => ?_
  · obtain ⟨t, rfl⟩ := e2 v hv
    have hm : V.ref t ∈ xs := by
      rw [e1]
      exact List.mem_map.mpr ⟨_, hv, rfl⟩
    obtain ⟨⟨t', e, ht⟩, hn⟩ := hx _ hm
    cases e
    exact ⟨tupI_raw I ht, hn⟩
  · obtain ⟨ep, he'⟩ := PyProof.Rows.sortedAll_at s.heap its out.toArray
    have h3 : ∀ u ∈ out, ∃ a, u = Value.ref a := fun u hu => e2 u (h2.perm.mem_iff.mp hu)
    have hp : (out.map bkV).Perm xs := by
      rw [e1]
      exact h2.perm.map bkV
    have hlen : (out.map bkV).length ≤ sizeLine := by
      rw [hp.length_eq]
      exact hz
    refine ⟨.ref _, upd H (s.heap.objs.size + 1) (.lst (out.map bkV)), I.laid (t' := s.toks) (fun _ _ => PyProof.Rows.sortedAll_old) (Nat.le_succ _) ⟨hlen, out, ep, bkV_vals h3, he'⟩, rfl, q _ _ hp ?_ (I.hok.fresh (Nat.le_succ _))⟩
    refine sortT_uniq (hp.map k) ?_
    rw [List.map_map, List.pairwise_map]
    exact h1
end
end DL
set_option maxHeartbeats 2000000
/-! DLTup2: sorted of lists of tuples of ints, over the store. -/
namespace DL
open PySem PySem.Spec PyProof.Rows L2
variable [HasT]

def tupsD : List D → Option (List (List Int))
  | [] => some []
  | .p (.tup ps) :: r => match intsD (ps.map D.p), tupsD r with
    | some (n :: ns), some L => some ((n :: ns) :: L)
    | _, _ => none
  | _ => none
/-- a tuple of ints -/
def tupI (ns : List Int) : D := .p (.tup (ns.map P.int))
theorem tupI_ints (ns : List Int) : (ns.map P.int).map D.p = dInts ns := by
  rw [List.map_map]
  rfl
theorem tups_eq : ∀ {ds : List D} {L : List (List Int)}, tupsD ds = some L → ds = L.map tupI ∧ ∀ l ∈ L, l ≠ []
  | [], L, h => by
    cases h
    exact ⟨rfl, fun l hl => absurd hl List.not_mem_nil⟩
  | d :: ds, L, h => by
    unfold tupsD at h
    split at h
    · rename_i e
      cases e
    · rename_i ps r e
      cases e
      split at h
      · rename_i n ns L' e1 e2
        cases h
        obtain ⟨a, b⟩ := tups_eq e2
        have c := ints_eq e1
        have c' : ps = (n :: ns).map P.int := by
          have := congrArg (List.map fun d : D => match d with
            | .p x => x
            | _ => P.non) c
          simp only [List.map_map, dInts] at this
          rw [show ((fun d : D => match d with
            | .p x => x
            | _ => P.non) ∘ D.p) = id from rfl, List.map_id] at this
          rw [this]
          rfl
        refine ⟨?_, fun l hl => ?_⟩
        · rw [List.map_cons, ← a, c']
          rfl
        · rcases List.mem_cons.mp hl with rfl | hl
          · exact List.cons_ne_nil _ _
          · exact b l hl
      · cases h
    · cases h
theorem tupsD_of : ∀ {L : List (List Int)}, (∀ l ∈ L, l ≠ []) → tupsD (L.map tupI) = some L
  | [], _ => rfl
  | [] :: L, h => absurd rfl (h [] List.mem_cons_self)
  | (n :: ns) :: L, h => by
    have ih := tupsD_of fun l hl => h l (List.mem_cons_of_mem _ hl)
    show tupsD (.p (.tup ((n :: ns).map P.int)) :: L.map tupI) = _
    unfold tupsD
    rw [tupI_ints, ints_dInts, ih]
/-- the ints of a tuple of the heap -/
def keyV (H : Hp) : V → List Int
  | .ref t => match H t with
    | some (.tup vs) => vs.filterMap fun v => match v with
      | .int i => some i
      | _ => none
    | _ => []
  | _ => []
theorem keyV_of {H : Hp} {t : Addr} {ns : List Int} (h : H t = some (.tup (ns.map V.int))) : keyV H (.ref t) = ns := by
  show (match H t with
    | some (.tup vs) => vs.filterMap fun v => match v with
      | .int i => some i
      | _ => none
    | _ => []) = ns
  rw [h]
  show (ns.map V.int).filterMap _ = ns
  rw [List.filterMap_map]
  exact List.filterMap_some
theorem relTups {G : Gb} {F : Addr → Prop} {ι : List Addr} {H : Hp} : ∀ {L : List (List Int)} {vs : List V}, RelDs G F ι H (L.map tupI) vs → (∀ v ∈ vs, ∃ t, v = V.ref t ∧ H t = some (.tup ((keyV H v).map V.int))) ∧ vs.map (keyV H) = L
  | [], vs0, h => by
    have e : vs0 = [] := by simpa only [RelDs, List.map] using h
    subst e
    exact ⟨fun v hv => absurd hv List.not_mem_nil, rfl⟩
  | l :: L, _, h => by
    have h' : RelDs G F ι H (tupI l :: L.map tupI) _ := h
    simp only [RelDs] at h'
    obtain ⟨v, ws, rfl, a, b⟩ := h'
    obtain ⟨ih1, ih2⟩ := relTups b
    obtain ⟨t, us, rfl, e, r⟩ := tup?_relH (d := tupI l) rfl a
    rw [tupI_ints] at r
    have eu := relInts r
    subst eu
    refine ⟨fun v hv => ?_, by rw [List.map_cons, ih2, keyV_of e]⟩
    rcases List.mem_cons.mp hv with rfl | hv
    · exact ⟨t, rfl, by rw [keyV_of e]; exact e⟩
    · exact ih1 v hv
theorem mkTups {G : Gb} {F : Addr → Prop} {ι : List Addr} {H : Hp} : ∀ {vs : List V}, (∀ v ∈ vs, ∃ t, v = V.ref t ∧ H t = some (.tup ((keyV H v).map V.int))) → RelDs G F ι H ((vs.map (keyV H)).map tupI) vs
  | [], _ => relDs_nil'
  | v :: vs, h => by
    obtain ⟨t, rfl, e⟩ := h v List.mem_cons_self
    refine relDs_cons.mpr ⟨?_, mkTups fun v hv => h v (List.mem_cons_of_mem _ hv)⟩
    have := mkTup_rel (G := G) (F := F) (ι := ι) e (mkInts _)
    rwa [← tupI_ints, mkTup_map] at this
section
variable {X : Cx}
def fSrtT (fin : FL) : FL := fun ds S => match ds with
  | [x] => (match x.lst? S with
    | some xs => (match tupsD xs with
      | some L => fin ((sortT L).map tupI) S
      | none => none)
    | none => none)
  | _ => none
theorem cd_srtT {fin : FL} (n : NewL X fin) : CallD X (.builtin "sorted") (fSrtT fin) := ⟨_, cr_srtT, fun {F ι S S' H ds d' vs Q} rs r e q => by
  unfold fSrtT at e
  split at e
  · obtain ⟨v, rfl, r1⟩ := relDs1 r
    split at e
    · rename_i xs ex
      split at e
      · rename_i L en
        obtain ⟨p, us, rfl, q1, rd⟩ := lst?_rel rs ex r1
        obtain ⟨el, hne⟩ := tups_eq en
        rw [el] at rd
        obtain ⟨a, b⟩ := relTups rd
        refine ⟨p, us, keyV H, rfl, q1, fun x hx => ?_, fun ys p' pm ek hp => ?_⟩
        · obtain ⟨t, rfl, et⟩ := a x hx
          exact ⟨⟨t, rfl, SqT.of et⟩, hne _ (by rw [← b]; exact List.mem_map.mpr ⟨_, hx, rfl⟩)⟩
        · have rd2 : RelDs (gb X) F ι H ((sortT L).map tupI) ys := by
            rw [← b, ← ek]
            exact mkTups fun v hv => a v (pm.mem_iff.mp hv)
          exact (n rs rd2 e q).2 p' hp
      · cases e
    · cases e
  · cases e⟩
/-- sorted, of ints or of tuples of ints -/
def fSort (fin : FL) : FL := fun x S => match fSrt false fin x S with
  | some z => some z
  | none => fSrtT fin x S
theorem cd_sort {fin : FL} (n : NewL X fin) : CallD X (.builtin "sorted") (fSort fin) := (cd_srt n).or (cd_srtT n)
end
end DL
set_option maxHeartbeats 4000000
/-! DLDct: dicts of the store, or such as stay: what they hold, whether a key is in one, a key stored; dict(pairs). -/
namespace DL
open PySem PySem.Spec PyProof.Rows L2

/-! ### over the layer -/
section
variable {X : Cx}
def rDGet : R2 := fun x y H Q => ∃ a v, x = .ref a ∧ DGet H a y (some v) ∧ Q v H
theorem ix_dict (hu : X.A.units + 65 < cLine) : IxR X rDGet := by
  intro value slice pins s σ H x y v u Q I rx ry h hs
  obtain ⟨a, w, rfl, g, q⟩ := h
  obtain rfl : v = Value.ref a := rx
  have hT : s.TypeIs (.ref a) "dict" := dict_typeIs I g
  unfold subscriptTail
  refine wpAny_bind ?_
  rw [getitemInPython_of_ne hT.not_modules]
  refine wpAny_bind (wpAny_specialOf hT PySem.F.slot_dict_getitem.lookup ?_)
  have h2 : wpAny (model X.prog X.w) X.A (getItem (.ref a) u) (EP X pins σ Q) X.xe s := d_getItem (by omega) I g ry fun w' s3 I3 rw' => ⟨w, H, I3, rw', q⟩
  have fin : wpAny (model X.prog X.w) X.A (subscripted slice false (.ref a) u) (fun r s₃ => wpAny (model X.prog X.w) X.A (letTemporaryGo value (.ref a) r >>= fun _ => pure r) (EP X pins σ Q) X.xe s₃) X.xe s := by
    rw [hs]
    exact wpAny_operating (wpAny_mono h2 (fun r s₃ h₃ => wpAny_bind (wpAny_letTemporaryGo (wpAny_pure h₃))) fun _ _ x => x)
  first
    | exact wpAny_pure (wpAny_bind fin)
    | exact wpAny_bind (wpAny_pure (wpAny_bind fin))
    | exact wpAny_bind fin
def rDIn (neg : Bool) : R2 := fun y x H Q => ∃ a o, x = .ref a ∧ DGet H a y o ∧ Q (.bl (o.isSome != neg)) H
theorem op_din (hu : X.A.units + 65 < cLine) : OpR X (compareOp .In) (rDIn false) := by
  intro pins s σ H y x u v Q I ry rx h
  obtain ⟨a, o, rfl, g, q⟩ := h
  obtain rfl : v = Value.ref a := rx
  refine d_in (by omega) I g ry fun s3 I3 => ⟨.bl o.isSome, H, I3, rfl, ?_⟩
  have e : (o.isSome != false) = o.isSome := by cases o.isSome <;> rfl
  rw [e] at q
  exact q
theorem op_dnotin (hu : X.A.units + 65 < cLine) : OpR X (compareOp .NotIn) (rDIn true) := by
  intro pins s σ H y x u v Q I ry rx h
  obtain ⟨a, o, rfl, g, q⟩ := h
  obtain rfl : v = Value.ref a := rx
  refine d_notIn (by omega) I g ry fun s3 I3 => ⟨.bl (!o.isSome), H, I3, rfl, ?_⟩
  have e : (o.isSome != true) = !o.isSome := by cases o.isSome <;> rfl
  rw [e] at q
  exact q
def rDSet : TSet := fun x y v H Q => ∃ a H', x = .ref a ∧ DPut H a y v H' ∧ Q H'
theorem set_dict (hu : X.A.units + 65 < cLine) : PSet X rDSet := by
  intro pins s σ H o i v ov iv u Q I ro ri rv h
  obtain ⟨a, H', rfl, g, q⟩ := h
  obtain rfl : ov = Value.ref a := ro
  exact d_setItem (by omega) I g ri rv fun s4 I4 => ⟨H', I4, q⟩
end

/-! ### over the store -/
variable [HasT]
def dLook {κ : Type} [DecidableEq κ] (fs : List (κ × D)) (k : κ) : Option D := (fs.find? fun kv => decide (kv.1 = k)).map (·.2)
def dPut {κ : Type} [DecidableEq κ] (fs : List (κ × D)) (k : κ) (v : D) : List (κ × D) :=
  if (fs.any fun kv => decide (kv.1 = k)) = true then fs.map (fun kv => if kv.1 = k then (kv.1, v) else kv) else fs ++ [(k, v)]
section
variable {κ : Type} [DecidableEq κ] {G : Gb} {F : Addr → Prop} {ι : List Addr} {H : Hp}
def RelOp (G : Gb) (F : Addr → Prop) (ι : List Addr) (H : Hp) : Option D → Option V → Prop
  | none, ov => ov = none
  | some d, ov => ∃ w, ov = some w ∧ RelD G F ι H d w
theorem look_rel {k : κ} : ∀ {fs : List (κ × D)} {vs : List (κ × V)}, RelDk G F ι H fs vs → RelOp G F ι H (dLook fs k) (valV vs k)
  | [], _, h => by
    cases h
    rfl
  | (f, x) :: fs, _, h => by
    obtain ⟨v, ws, rfl, a, b⟩ := h
    have ih := look_rel (k := k) b
    by_cases e : f = k
    · have e1 : dLook ((f, x) :: fs) k = some x := by simp [dLook, List.find?_cons, e]
      rw [e1]
      exact ⟨v, by simp [valV, List.find?_cons, e], a⟩
    · have e1 : dLook ((f, x) :: fs) k = dLook fs k := by simp [dLook, List.find?_cons, e]
      have e2 : valV ((f, v) :: ws) k = valV ws k := by simp [valV, List.find?_cons, e]
      rw [e1, e2]
      exact ih
theorem relDk_any {k : κ} : ∀ {fs : List (κ × D)} {vs : List (κ × V)}, RelDk G F ι H fs vs → (fs.any fun kv => decide (kv.1 = k)) = (vs.any fun kv => decide (kv.1 = k))
  | [], _, h => by
    cases h
    rfl
  | (f, x) :: fs, _, h => by
    obtain ⟨v, ws, rfl, a, b⟩ := h
    rw [List.any_cons, List.any_cons, relDk_any b]
theorem relDk_map {k : κ} {d : D} {u : V} (r : RelD G F ι H d u) : ∀ {fs : List (κ × D)} {vs : List (κ × V)}, RelDk G F ι H fs vs → RelDk G F ι H (fs.map fun kv => if kv.1 = k then (kv.1, d) else kv) (vs.map fun kv => if kv.1 = k then (kv.1, u) else kv)
  | [], _, h => by
    cases h
    rfl
  | (f, x) :: fs, _, h => by
    obtain ⟨v, ws, rfl, a, b⟩ := h
    rw [List.map_cons, List.map_cons]
    by_cases e : f = k
    · rw [if_pos e, if_pos e]
      exact ⟨u, _, rfl, r, relDk_map r b⟩
    · rw [if_neg e, if_neg e]
      exact ⟨v, _, rfl, a, relDk_map r b⟩
theorem relDk_app {k : κ} {d : D} {u : V} (r : RelD G F ι H d u) : ∀ {fs : List (κ × D)} {vs : List (κ × V)}, RelDk G F ι H fs vs → RelDk G F ι H (fs ++ [(k, d)]) (vs ++ [(k, u)])
  | [], _, h => by
    cases h
    exact ⟨u, [], rfl, r, rfl⟩
  | (f, x) :: fs, _, h => by
    obtain ⟨v, ws, rfl, a, b⟩ := h
    exact ⟨v, _, rfl, a, relDk_app r b⟩
theorem put_rel {k : κ} {d : D} {u : V} {fs : List (κ × D)} {vs : List (κ × V)} (h : RelDk G F ι H fs vs) (r : RelD G F ι H d u) : RelDk G F ι H (dPut fs k d) (putK vs k u) := by
  unfold dPut putK
  rw [relDk_any h]
  split
  · exact relDk_map r h
  · exact relDk_app r h
theorem relDk_len {fs : List (κ × D)} : ∀ {vs : List (κ × V)}, RelDk G F ι H fs vs → fs.length = vs.length := by
  induction fs with
  | nil =>
    intro vs h
    cases h
    rfl
  | cons p fs ih =>
    intro vs h
    obtain ⟨v, ws, rfl, a, b⟩ := h
    rw [List.length_cons, List.length_cons, ih b]
theorem relDk_mono {F' : Addr → Prop} {ι' : List Addr} {H' : Hp} (k : KeepW F H H') (s : ∀ a, F a → F' a) (p : ι <+: ι') : ∀ {fs : List (κ × D)} {vs : List (κ × V)}, RelDk G F ι H fs vs → RelDk G F' ι' H' fs vs
  | [], _, h => h
  | (f, x) :: fs, _, h => by
    obtain ⟨v, ws, e, a, b⟩ := h
    exact ⟨v, ws, e, RelD.mono k s p a, relDk_mono k s p b⟩
end
/-! what a dict holds -/
def D.dct? (d : D) (S : Store) : Option (List (Key × D)) := match d with
  | .p (.dic fs) => some (fs.map fun kv => (kv.1, .p kv.2))
  | .r n => match S.objs[n]? with
    | some (.dct fs) => some fs
    | _ => none
  | _ => none
def D.dit? (d : D) (S : Store) : Option (List (List Key × D)) := match d with
  | .p (.dit fs) => some (fs.map fun kv => (kv.1, .p kv.2))
  | .r n => match S.objs[n]? with
    | some (.dit fs) => some fs
    | _ => none
  | _ => none
section
variable {G : Gb} {F : Addr → Prop} {ι : List Addr} {S : Store} {H : Hp}
theorem relPk_D : ∀ {fs : List (Key × P)} {vs : List (Key × V)}, RelPk G F H fs vs → RelDk G F ι H (fs.map fun kv => (kv.1, D.p kv.2)) vs
  | [], _, h => by
    simp only [RelPk] at h
    exact h
  | (f, x) :: fs, _, h => by
    simp only [RelPk] at h
    obtain ⟨v, ws, rfl, a, b⟩ := h
    exact ⟨v, ws, rfl, by simpa only [RelD] using a, relPk_D b⟩
theorem relPt_D : ∀ {fs : List (List Key × P)} {vs : List (List Key × V)}, RelPt G F H fs vs → RelDk G F ι H (fs.map fun kv => (kv.1, D.p kv.2)) vs
  | [], _, h => by
    simp only [RelPt] at h
    exact h
  | (f, x) :: fs, _, h => by
    simp only [RelPt] at h
    obtain ⟨v, ws, rfl, a, b⟩ := h
    exact ⟨v, ws, rfl, by simpa only [RelD] using a, relPt_D b⟩
theorem dct?_rel {d : D} {fs : List (Key × D)} {v : V} (rs : R G F ι S H) (h : d.dct? S = some fs) (r : RelD G F ι H d v) : ∃ a vs, v = .ref a ∧ H a = some (.dK vs) ∧ RelDk G F ι H fs vs := by
  cases d with
  | p x =>
    cases x with
    | dic xs =>
      simp only [D.dct?, Option.some.injEq] at h
      subst h
      simp only [RelD, RelP] at r
      obtain ⟨a, vs, e, _, q, r⟩ := r
      exact ⟨a, vs, e, q, relPk_D r⟩
    | _ => cases h
  | r n =>
    simp only [D.dct?] at h
    split at h
    · rename_i xs e
      cases h
      simp only [RelD] at r
      obtain ⟨a, rfl, q⟩ := r
      obtain ⟨b, qb, ro⟩ := rs.obj e
      rw [q] at qb
      cases qb
      obtain ⟨vs, hv, rv⟩ := ro
      exact ⟨a, vs, rfl, hv, rv⟩
    · cases h
  | t xs => cases h
theorem dit?_rel {d : D} {fs : List (List Key × D)} {v : V} (rs : R G F ι S H) (h : d.dit? S = some fs) (r : RelD G F ι H d v) : ∃ a vs, v = .ref a ∧ H a = some (.dT vs) ∧ RelDk G F ι H fs vs := by
  cases d with
  | p x =>
    cases x with
    | dit xs =>
      simp only [D.dit?, Option.some.injEq] at h
      subst h
      simp only [RelD, RelP] at r
      obtain ⟨a, vs, e, _, q, r⟩ := r
      exact ⟨a, vs, e, q, relPt_D r⟩
    | _ => cases h
  | r n =>
    simp only [D.dit?] at h
    split at h
    · rename_i xs e
      cases h
      simp only [RelD] at r
      obtain ⟨a, rfl, q⟩ := r
      obtain ⟨b, qb, ro⟩ := rs.obj e
      rw [q] at qb
      cases qb
      obtain ⟨vs, hv, rv⟩ := ro
      exact ⟨a, vs, rfl, hv, rv⟩
    · cases h
  | t xs => cases h
/-! keys -/
def keyP : P → Option Key
  | .int i => some (.inl i)
  | .str s => some (.inr s)
  | _ => none
def keysP : List P → Option (List Key)
  | [] => some []
  | x :: r => match keyP x, keysP r with
    | some k, some ks => some (k :: ks)
    | _, _ => none
def keyD : D → Option Key
  | .p x => keyP x
  | _ => none
def keyT : D → Option (List Key)
  | .p (.tup xs) => keysP xs
  | _ => none
theorem keyP_rel {x : P} {k : Key} {v : V} (h : keyP x = some k) (r : RelP G F H x v) : v = kV k := by
  cases x <;> first | cases h | skip
  · simp only [RelP] at r
    exact r
  · simp only [RelP] at r
    exact r
theorem keysP_rel : ∀ {xs : List P} {ks : List Key} {vs : List V}, keysP xs = some ks → RelPs G F H xs vs → vs = ks.map kV
  | [], ks, vs, h, r => by
    cases h
    simp only [RelPs] at r
    exact r
  | x :: xs, ks, vs, h, r => by
    unfold keysP at h
    split at h
    · rename_i k ks' e1 e2
      cases h
      simp only [RelPs] at r
      obtain ⟨v, ws, rfl, a, b⟩ := r
      rw [keyP_rel e1 a, keysP_rel e2 b]
      rfl
    · cases h
theorem keyD_rel {d : D} {k : Key} {v : V} (h : keyD d = some k) (r : RelD G F ι H d v) : v = kV k := by
  cases d with
  | p x => exact keyP_rel h (by simpa only [RelD] using r)
  | _ => cases h
theorem keyT_rel {d : D} {ks : List Key} {v : V} (h : keyT d = some ks) (r : RelD G F ι H d v) : ∃ b, v = .ref b ∧ H b = some (.tup (ks.map kV)) := by
  cases d with
  | p x =>
    cases x with
    | tup xs =>
      simp only [RelD, RelP] at r
      obtain ⟨a, vs, e, q, r⟩ := r
      rw [keysP_rel h r] at q
      exact ⟨a, e, q⟩
    | _ => cases h
  | _ => cases h
/-! d[k], k in d -/
def fDLook (x y : D) (S : Store) : Option (Option D) := match x.dct? S, keyD y with
  | some fs, some k => some (dLook fs k)
  | _, _ => match x.dit? S, keyT y with
    | some fs, some k => some (dLook fs k)
    | _, _ => none
theorem dlook_rel {x y : D} {o : Option D} {v u : V} (rs : R G F ι S H) (h : fDLook x y S = some o) (r1 : RelD G F ι H x v) (r2 : RelD G F ι H y u) : ∃ a ov, v = .ref a ∧ DGet H a u ov ∧ RelOp G F ι H o ov := by
  unfold fDLook at h
  split at h
  · rename_i fs k e1 e2
    cases h
    obtain ⟨a, vs, rfl, q, rd⟩ := dct?_rel rs e1 r1
    rw [keyD_rel e2 r2]
    exact ⟨a, valV vs k, rfl, DGet.k q, look_rel (k := k) rd⟩
  · split at h
    · rename_i fs k e1 e2
      cases h
      obtain ⟨a, vs, rfl, q, rd⟩ := dit?_rel rs e1 r1
      obtain ⟨b, rfl, eb⟩ := keyT_rel e2 r2
      exact ⟨a, valV vs k, rfl, DGet.t q eb, look_rel (k := k) rd⟩
    · cases h
end
section
variable {X : Cx}
def fDGet : F2 := fun x y S => match fDLook x y S with
  | some (some d) => some (d, S)
  | _ => none
theorem ixd_dict (hu : X.A.units + 65 < cLine) : IxD X fDGet := ⟨_, ix_dict hu, fun {F ι S S' H d1 d2 d' v1 v2 Q} rs r1 r2 e q => by
  unfold fDGet at e
  split at e
  · rename_i d ed
    cases e
    obtain ⟨a, ov, rfl, g, w, rfl, rw'⟩ := dlook_rel rs ed r1 r2
    exact ⟨a, w, rfl, g, q _ _ _ _ (Nxt.refl rs) rw'⟩
  · cases e⟩
theorem IxD.or {f f' : F2} (h : IxD X f) (h' : IxD X f') : IxD X (fun x y S => match f x y S with
    | some z => some z
    | none => f' x y S) := by
  obtain ⟨r, o, k⟩ := h
  obtain ⟨r', o', k'⟩ := h'
  refine ⟨fun x y H Q => r x y H Q ∨ r' x y H Q, fun value slice pins s σ H x y v u Q I rx ry h hs => h.elim (fun h => o value slice pins s σ H x y v u Q I rx ry h hs) fun h => o' value slice pins s σ H x y v u Q I rx ry h hs, fun {F ι S S' H d1 d2 d' v1 v2 Q} rs r1 r2 e q => ?_⟩
  dsimp only at e
  split at e
  · rename_i z ez
    cases e
    exact .inl (k rs r1 r2 ez q)
  · exact .inr (k' rs r1 r2 e q)
/-- x[i], x a list, a tuple, a text or a dict -/
def fIxA : F2 := fun x y S => match fIx x y S with
  | some z => some z
  | none => fDGet x y S
theorem ixdA (hu : X.A.units + 65 < cLine) : IxD X fIxA := ixd.or (ixd_dict hu)
def fDIn (neg : Bool) : F2 := fun y x S => match fDLook x y S with
  | some o => some (.p (.bl (o.isSome != neg)), S)
  | none => none
theorem din_rel {neg : Bool} {F : Addr → Prop} {ι : List Addr} {S S' : Store} {H : Hp} {d1 d2 d' : D} {v1 v2 : V} {Q : VK} (rs : R (gb X) F ι S H) (r1 : RelD (gb X) F ι H d1 v1) (r2 : RelD (gb X) F ι H d2 v2) (e : fDIn neg d1 d2 S = some (d', S'))
    (q : ∀ F' ι' H' v, Nxt (gb X) F ι H F' ι' S' H' → RelD (gb X) F' ι' H' d' v → Q v H') : rDIn neg v1 v2 H Q := by
  unfold fDIn at e
  split at e
  · rename_i o ed
    cases e
    obtain ⟨a, ov, rfl, g, h⟩ := dlook_rel rs ed r2 r1
    refine ⟨a, ov, rfl, g, q _ _ _ _ (Nxt.refl rs) ?_⟩
    have : o.isSome = ov.isSome := by
      cases o with
      | none =>
        cases h
        rfl
      | some d =>
        obtain ⟨w, rfl, _⟩ := h
        rfl
    rw [this]
    exact mkBl
  · cases e
theorem od_din (hu : X.A.units + 65 < cLine) : OpD X (compareOp .In) (fDIn false) := ⟨_, op_din hu, fun rs r1 r2 e q => din_rel rs r1 r2 e q⟩
theorem od_dnotin (hu : X.A.units + 65 < cLine) : OpD X (compareOp .NotIn) (fDIn true) := ⟨_, op_dnotin hu, fun rs r1 r2 e q => din_rel rs r1 r2 e q⟩
/-- x in y, y a list, a tuple or a dict -/
def fInA (neg : Bool) : F2 := fun x y S => match fIn neg x y S with
  | some z => some z
  | none => fDIn neg x y S
theorem od_inA (hu : X.A.units + 65 < cLine) : OpD X (compareOp .In) (fInA false) := (od_in hu).or (od_din hu)
theorem od_notinA (hu : X.A.units + 65 < cLine) : OpD X (compareOp .NotIn) (fInA true) := (od_notin hu).or (od_dnotin hu)
/-! d[k] = v -/
def putO (n : Nat) (o : O) (S : Store) : Option Store := if h : o.lo S.objs.length = true then some (S.put n o h) else none
def fDPut : D → D → D → Store → Option Store := fun x k y S => match x with
  | .r n => match S.objs[n]? with
    | some (.dct fs) => match keyD k with
      | some kk => if fs.length < 100000 then putO n (.dct (dPut fs kk y)) S else none
      | none => none
    | some (.dit fs) => match keyT k with
      | some kk => if fs.length < 100000 then putO n (.dit (dPut fs kk y)) S else none
      | none => none
    | _ => none
  | _ => none
theorem putO_eq {n : Nat} {o : O} {S S' : Store} (h : putO n o S = some S') : ∃ hw, S' = S.put n o hw := by
  unfold putO at h
  split at h
  · rename_i hw
    cases h
    exact ⟨hw, rfl⟩
  · cases h
theorem dput_rel {G : Gb} {F : Addr → Prop} {ι : List Addr} {S S' : Store} {H : Hp} {x k y : D} {v u w : V} (rs : R G F ι S H) (rx : RelD G F ι H x v) (rk : RelD G F ι H k u) (ry : RelD G F ι H y w) (e : fDPut x k y S = some S') :
    ∃ a H', v = .ref a ∧ DPut H a u w H' ∧ Nxt G F ι H F ι S' H' := by
  unfold fDPut at e
  split at e
  · rename_i n
    simp only [RelD] at rx
    obtain ⟨a, rfl, hi⟩ := rx
    split at e
    · rename_i fs eo
      split at e
      · rename_i kk ek
        split at e
        · rename_i hl
          obtain ⟨hw, rfl⟩ := putO_eq e
          obtain ⟨b, qb, ro⟩ := rs.obj eo
          rw [hi] at qb
          cases qb
          obtain ⟨vs, hv, rv⟩ := ro
          rw [keyD_rel ek rk]
          refine ⟨a, _, rfl, DPut.k hv (by rw [← relDk_len rv]; exact Nat.lt_of_lt_of_le hl (szOk (Nat.le_refl _))), ?_⟩
          refine Nxt.putO rs hi hv rfl hw ⟨_, upd_same, ?_⟩
          exact relDk_mono (keep_put (rs.nf a (List.mem_of_getElem? hi)) (List.mem_of_getElem? hi) hv rfl).w (fun _ h => h) (List.prefix_refl _) (put_rel rv ry)
        · cases e
      · cases e
    · rename_i fs eo
      split at e
      · rename_i kk ek
        split at e
        · rename_i hl
          obtain ⟨hw, rfl⟩ := putO_eq e
          obtain ⟨b, qb, ro⟩ := rs.obj eo
          rw [hi] at qb
          cases qb
          obtain ⟨vs, hv, rv⟩ := ro
          obtain ⟨c, rfl, ec⟩ := keyT_rel ek rk
          refine ⟨a, _, rfl, DPut.t hv ec (by rw [← relDk_len rv]; exact Nat.lt_of_lt_of_le hl (szOk (Nat.le_refl _))), ?_⟩
          refine Nxt.putO rs hi hv rfl hw ⟨_, upd_same, ?_⟩
          exact relDk_mono (keep_put (rs.nf a (List.mem_of_getElem? hi)) (List.mem_of_getElem? hi) hv rfl).w (fun _ h => h) (List.prefix_refl _) (put_rel rv ry)
        · cases e
      · cases e
    · cases e
  · cases e
end
section
variable {X : Cx} {W : WX} {e o i : Expr} {me mo mi : ME D} {p pos : Pos}
def mDPut (me mo mi : ME D) : MS := fun ρ S => (me ρ S).bind fun y => fun S => (mo ρ S).bind fun x => fun S => (mi ρ S).bind fun i => liftS (fDPut x i y) ρ
theorem ds_dput (hu : X.A.units + 65 < cLine) (he : DE X W e me) (ho : DE X W o mo) (hi : DE X W i mi)
    (ha : ∀ v, assign (.Subscript o i p) X.env v = (do
      let ov ← holding [v] (eval o X.env)
      let iv ← holding [v, ov] (eval i X.env)
      standAt p
      holding [v, ov, iv] (setItem ov iv v)
      release [v, ov, iv] []) := by intro _; rfl)
    (hs : swapsWithSole [.Subscript o i p] e pos.line X.env = pure false := by rfl) (hw : swappedStores [.Subscript o i p] e X.env = pure none := by rfl) (h1 : (assignEach [.Subscript o i p] X.env).map (·.2) = [assign (.Subscript o i p) X.env] := by rfl) :
    DS X W (.Assign [.Subscript o i p] e pos) (mDPut me mo mi) := PS.imp (ps_asg he (pg_sub ho hi (set_dict hu) ha) hs hw h1) fun E σ H q => by
  obtain ⟨ρ, S, ι, F, a, t⟩ := q
  refine T.firstS a t fun d S1 F1 ι1 H1 v n a1 r t1 => ?_
  refine T.firstS a1 t1 fun d2 S2 F2 ι2 H2 v2 n2 a2 r2 t2 => ?_
  refine T.firstS a2 t2 fun d3 S3 F3 ι3 H3 v3 n3 a3 r3 t3 => ?_
  obtain ⟨S', e', q⟩ := liftS_then t3
  obtain ⟨b, H', rfl, g, nx⟩ := dput_rel a3.r (n3.d r2) r3 (n3.d (n2.d r)) e'
  exact ⟨b, H', rfl, g, q _ _ _ nx σ rfl (a3.e.mono nx)⟩
/-- {}, in the store: for keys that are ints or texts, for tuples -/
def mDicK : ME D := fun _ S => .ok (.r S.objs.length) (S.new (.dct []) rfl)
def mDicT : ME D := fun _ S => .ok (.r S.objs.length) (S.new (.dit []) rfl)
theorem rel_newR {G : Gb} {F : Addr → Prop} {ι : List Addr} {S : Store} {H : Hp} {q : Addr} (r : R G F ι S H) : RelD G F (ι ++ [q]) H (.r S.objs.length) (.ref q) := by
  simp only [RelD]
  exact ⟨q, rfl, by rw [← r.len]; simp⟩
theorem de_dicK : DE X W (.Dict [] [] pos) mDicK := PE.imp pe_dnewK fun σ H Q q => by
  obtain ⟨ρ, S, ι, F, a, t⟩ := q
  intro p hp
  have nx : Nxt (gb X) F ι H F (ι ++ [p]) (S.new (.dct []) rfl) (upd H p (.dK [])) := Nxt.newO a.r hp rfl ⟨[], upd_same, rfl⟩
  refine t _ _ _ nx _ ?_
  simp only [RelD]
  exact ⟨p, rfl, by rw [← a.r.len]; simp⟩
theorem de_dicT : DE X W (.Dict [] [] pos) mDicT := PE.imp pe_dnewT fun σ H Q q => by
  obtain ⟨ρ, S, ι, F, a, t⟩ := q
  intro p hp
  have nx : Nxt (gb X) F ι H F (ι ++ [p]) (S.new (.dit []) rfl) (upd H p (.dT [])) := Nxt.newO a.r hp rfl ⟨[], upd_same, rfl⟩
  refine t _ _ _ nx _ ?_
  simp only [RelD]
  exact ⟨p, rfl, by rw [← a.r.len]; simp⟩
end
end DL
set_option maxHeartbeats 4000000
/-! DLDct2: dict(pairs), the keys tuples. -/
namespace DL
open PySem PySem.Spec PyProof.Rows L2

abbrev PairQ := Addr × List Key × Addr × V
def mergeT (kvs : List (List Key × V)) (L : List PairQ) : List (List Key × V) := L.foldl (fun acc q => putK acc q.2.1 q.2.2.2) kvs
section
variable {X : Cx}
/-- dict(l): tuples of a tuple and a value -/
def rDictT (K : PySem.W.Frag) : List V → Hp → VK → Prop := fun xs H Q => ∃ (a : Addr) (L : List PairQ), xs = [V.ref a] ∧ SqL K H a (L.map fun q => V.ref q.1) ∧
  (∀ q ∈ L, H q.1 = some (.tup [.ref q.2.2.1, q.2.2.2]) ∧ H q.2.2.1 = some (.tup (q.2.1.map kV))) ∧ ∀ p, H p = none → Q (.ref p) (upd H p (.dT (mergeT [] L)))
theorem pairs_raw {pins : List (Addr × Obj)} {σ : L2.St} {H : Hp} {s : Shared} (I : Inv X pins σ H s) : ∀ {L : List PairQ}, (∀ q ∈ L, H q.1 = some (.tup [.ref q.2.2.1, q.2.2.2]) ∧ H q.2.2.1 = some (.tup (q.2.1.map kV))) →
    ∃ rs : List (List Key × Addr × Value), Paired (fun (q : PairQ) (r : List Key × Addr × Value) => q.2.1 = r.1 ∧ q.2.2.1 = r.2.1 ∧ RelV q.2.2.2 r.2.2 ∧ s.heap.IsTuple q.1 #[.ref r.2.1, r.2.2] ∧ H r.2.1 = some (.tup (r.1.map kV))) L rs
  | [], _ => ⟨[], .nil⟩
  | q :: L, h => by
    obtain ⟨rs, ih⟩ := pairs_raw I fun q hq => h q (List.mem_cons_of_mem _ hq)
    obtain ⟨h1, h2⟩ := h q List.mem_cons_self
    obtain ⟨_, its, rv, ht⟩ := (show ObjOk X.prog X.w H s.heap q.1 (.tup [.ref q.2.2.1, q.2.2.2]) from I.hok _ _ h1)
    cases rv with
    | cons r1 rv =>
      cases rv with
      | cons r2 rv =>
        cases rv
        cases r1
        exact ⟨(q.2.1, q.2.2.1, _) :: rs, .cons ⟨rfl, rfl, r2, ht, h2⟩ ih⟩
theorem paired_at {α β : Type} {F : α → β → Prop} {l : List α} {m : List β} (h : Paired F l m) : ∀ {i : Nat} {b : β}, m[i]? = some b → ∃ a, l[i]? = some a ∧ F a b := by
  induction h with
  | nil => intro i b e; cases e
  | @cons x y l m hxy t ih =>
    intro i b e
    cases i with
    | zero =>
      cases e
      exact ⟨x, rfl, hxy⟩
    | succ i => exact ih e
theorem mergeT_len : ∀ (L : List PairQ) (kvs : List (List Key × V)), (mergeT kvs L).length ≤ kvs.length + L.length
  | [], kvs => Nat.le_refl _
  | q :: L, kvs => by
    have h1 := mergeT_len L (putK kvs q.2.1 q.2.2.2)
    have h2 := length_putK kvs q.2.1 q.2.2.2
    show (mergeT (putK kvs q.2.1 q.2.2.2) L).length ≤ _
    rw [List.length_cons]
    omega
theorem KT_merge {H : Hp} {F : PairQ → List Key × Addr × Value → Prop} (hF : ∀ q r, F q r → q.2.1 = r.1 ∧ RelV q.2.2.2 r.2.2 ∧ H r.2.1 = some (.tup (r.1.map kV))) {L : List PairQ} {rs : List (List Key × Addr × Value)} (h : Paired F L rs) :
    ∀ {kvs : List (List Key × V)} {xs : List (List Key × Addr × Value)}, KT H kvs xs → KT H (mergeT kvs L) (storedAllH xs rs) := by
  induction h with
  | nil => intro kvs xs k; exact k
  | @cons q r L rs hqr t ih =>
    intro kvs xs k
    obtain ⟨e1, e2, e3⟩ := hF q r hqr
    show KT H (mergeT (putK kvs q.2.1 q.2.2.2) L) (storedAllH (storedH xs r.1 r.2.1 r.2.2) rs)
    rw [e1]
    exact ih (k.put r.1 e3 e2)
theorem call_dictT (hc : X.calm = true) (hu : X.A.units + 65 < cLine) : CallR X (.type "dict") (rDictT X.K) := by
  intro pins s σ H xs us Q I r h
  obtain ⟨a, L, rfl, hs, hp, q⟩ := h
  obtain ⟨u, rfl, rx⟩ := vals1 r
  cases rx
  obtain ⟨its, rv, pl, hz⟩ := I.list hs
  obtain ⟨rs, pr⟩ := pairs_raw I hp
  have hl : L.length = rs.length := Paired.length pr
  rw [List.length_map] at hz
  have rv' : Vals ((L.map (·.1)).map V.ref) its := by rwa [List.map_map]
  have ei := refs_at rv'
  have hits : ∀ (j : Nat) (q : PairQ), L[j]? = some q → its.toArray[j]? = some (Value.ref q.1) := fun j q hq => by
    rw [ei, List.getElem?_toArray, List.getElem?_map, List.getElem?_map, hq]
    rfl
  refine PySem.call_dict_pairsH (knd := tupleKind (mixKind X.prog X.w)) (PairArg.list a its.toArray (fun j => ((L.map (·.1))[j]?).getD 0) (rs.map fun r => (Value.ref r.2.1, r.2.2))) (I.ok.hd hc) ?_ ⟨pl, ?_, ?_⟩ ⟨?_, ?_⟩ (ps := rs) ?_ ?_ ?_
  · exact tupleKind_room_in1 (by
      have e : X.A.in1.units = X.A.units + 1 := rfl
      omega)
  · rw [List.length_map, ← hl, ei]
    simp
  · intro j k v e
    rw [List.getElem?_map] at e
    obtain ⟨r, er, e⟩ := Option.map_eq_some_iff.mp e
    cases e
    obtain ⟨q, eq, f1, f2, f3, f4, f5⟩ := paired_at pr er
    refine ⟨?_, ?_⟩
    · rw [hits j q eq]
      simp [eq]
    · simp only [List.getElem?_map, eq, Option.map_some, Option.getD_some]
      exact .inl f4
  · simp
  · intro i key v e
    have e' : (rs.map fun r => (Value.ref r.2.1, r.2.2))[i]? = some (key, v) := e
    rw [List.getElem?_map] at e'
    obtain ⟨r, er, e'⟩ := Option.map_eq_some_iff.mp e'
    cases e'
    exact ⟨r.1, r.2.1, er, rfl⟩
  · intro h' hk x hx
    obtain ⟨j, hj, e⟩ := List.mem_iff_getElem.mp hx
    obtain ⟨q, eq, f1, f2, f3, f4, f5⟩ := paired_at pr (show rs[j]? = some x by rw [List.getElem?_eq_getElem hj, e])
    obtain ⟨o, its2, n, h1, h2, h3, h4⟩ := key_of (P := X.prog) (w := X.w) I.hok f5
    refine ⟨o, its2, n, hk _ _ ?_ List.not_mem_nil h1, h2, h3, h4⟩
    exact Nat.ne_of_lt (Heap.lt_size h1)
  · rw [List.length_map, ← hl]
    exact hz
  · intro h' tk hd' k
    have hm : (s.heap.objs.size == sysModules) = false := beq_eq_false_iff_ne.mpr (Nat.ne_of_gt I.big)
    have hlen : (mergeT [] L).length ≤ sizeLine := by
      have := mergeT_len L []
      rw [List.length_nil, Nat.zero_add] at this
      exact Nat.le_trans this hz
    have hn : H s.heap.objs.size = none := I.hok.fresh (Nat.le_refl _)
    obtain ⟨o, es, ep, g1, g2, g3, g4, _, g5⟩ := hd'
    refine ⟨.ref s.heap.objs.size, upd H s.heap.objs.size (.dT (mergeT [] L)), I.laid (t' := tk) (fun b o e => k b o List.not_mem_nil e) (Nat.le_refl _) (show ObjOk X.prog X.w _ _ _ (.dT (mergeT [] L)) from ⟨hlen, hm, storedAllH [] rs, ?_, o, es, ep, g1, g2, g3, g4, g5⟩), rfl, q _ hn⟩
    refine KT_merge (fun q r f => ⟨f.1, f.2.2.1, ?_⟩) pr .nil
    rw [upd_ne (ne_of_none f.2.2.2.2 hn)]
    exact f.2.2.2.2
end
variable [HasT]
/-- a list of pairs, the first of each a tuple -/
def pairsT : List D → Option (List (List Key × D))
  | [] => some []
  | x :: r => match x.tup? with
    | some [k, v] => (match keyT k, pairsT r with
      | some ks, some L => some ((ks, v) :: L)
      | _, _ => none)
    | _ => none
def dMerge (fs L : List (List Key × D)) : List (List Key × D) := L.foldl (fun acc q => dPut acc q.1 q.2) fs
section
variable {G : Gb} {F : Addr → Prop} {ι : List Addr} {H : Hp}
theorem pairsT_rel : ∀ {ds : List D} {L : List (List Key × D)} {vs : List V}, pairsT ds = some L → RelDs G F ι H ds vs → ∃ M : List PairQ, vs = M.map (fun q => V.ref q.1) ∧
    (∀ q ∈ M, H q.1 = some (.tup [.ref q.2.2.1, q.2.2.2]) ∧ H q.2.2.1 = some (.tup (q.2.1.map kV))) ∧ RelDk G F ι H L (M.map fun q => (q.2.1, q.2.2.2))
  | [], L, vs, h, r => by
    cases h
    have e : vs = [] := by simpa only [RelDs] using r
    exact ⟨[], e, fun q hq => absurd hq List.not_mem_nil, rfl⟩
  | x :: ds, L, vs, h, r => by
    unfold pairsT at h
    split at h
    · rename_i k v ex
      split at h
      · rename_i ks L' ek eL
        cases h
        simp only [RelDs] at r
        obtain ⟨w, ws, rfl, r1, r2⟩ := r
        obtain ⟨M, rfl, hM, rM⟩ := pairsT_rel eL r2
        obtain ⟨a, us, rfl, ha, ru⟩ := tup?_relH ex r1
        simp only [RelDs] at ru
        obtain ⟨w1, us', rfl, k1, w2, us'', rfl, k2, rfl⟩ := ru
        obtain ⟨b, rfl, hb⟩ := keyT_rel ek k1
        refine ⟨(a, ks, b, w2) :: M, rfl, fun q hq => ?_, w2, _, rfl, k2, rM⟩
        rcases List.mem_cons.mp hq with rfl | hq
        · exact ⟨ha, hb⟩
        · exact hM q hq
      · cases h
    · cases h
theorem dMerge_rel : ∀ {L : List (List Key × D)} {M : List PairQ} {fs : List (List Key × D)} {kvs : List (List Key × V)}, RelDk G F ι H L (M.map fun q => (q.2.1, q.2.2.2)) → RelDk G F ι H fs kvs → RelDk G F ι H (dMerge fs L) (mergeT kvs M)
  | [], M, fs, kvs, h, r => by
    cases M with
    | nil => exact r
    | cons q M => cases h
  | (k, d) :: L, M, fs, kvs, h, r => by
    cases M with
    | nil =>
      obtain ⟨v, ws, e, _⟩ := h
      cases e
    | cons q M =>
      obtain ⟨v, ws, e, a, b⟩ := h
      obtain ⟨e1, e2⟩ := List.cons_eq_cons.mp e
      cases e1
      subst e2
      show RelDk G F ι H (dMerge (dPut fs q.2.1 d) L) (mergeT (putK kvs q.2.1 q.2.2.2) M)
      exact dMerge_rel b (put_rel r a)
end
section
variable {X : Cx}
def newO (o : O) (S : Store) : Option (D × Store) := if h : o.lo S.objs.length = true then some (.r S.objs.length, S.new o h) else none
def fDictT : FL := fun ds S => match ds with
  | [x] => (match x.lst? S with
    | some xs => (match pairsT xs with
      | some L => newO (.dit (dMerge [] L)) S
      | none => none)
    | none => none)
  | _ => none
theorem cd_dictT (hc : X.calm = true) (hu : X.A.units + 65 < cLine) : CallD X (.type "dict") fDictT := ⟨_, call_dictT hc hu, fun {F ι S S' H ds d' vs Q} rs r e q => by
  unfold fDictT at e
  split at e
  · obtain ⟨v, rfl, r1⟩ := relDs1 r
    split at e
    · rename_i xs ex
      split at e
      · rename_i L eL
        obtain ⟨p, us, rfl, q1, rd⟩ := lst?_rel rs ex r1
        obtain ⟨M, rfl, hM, rM⟩ := pairsT_rel eL rd
        unfold newO at e
        split at e
        · rename_i hw
          cases e
          refine ⟨p, M, rfl, q1, hM, fun p' hp => ?_⟩
          have nx : Nxt (gb X) F ι H F (ι ++ [p']) (S.new (.dit (dMerge [] L)) hw) (upd H p' (.dT (mergeT [] M))) :=
            Nxt.newO rs hp hw ⟨_, upd_same, relDk_mono (keepW_new hp) (fun _ h => h) (List.prefix_append _ _) (dMerge_rel rM rfl)⟩
          refine q _ _ _ _ nx ?_
          simp only [RelD]
          exact ⟨p', rfl, by rw [← rs.len]; simp⟩
        · cases e
      · cases e
    · cases e
  · cases e⟩
end
end DL
set_option maxHeartbeats 4000000
/-! DLMore2: list(range(n)); list(range(a, b)), tuple(range(..)) in the store. -/
namespace DL
open PySem PySem.Spec PyProof.Rows L2
variable [HasT]
section
variable {X : Cx} {W : WX} {pos : Pos}
def rgP (i j : Int) : List P := (List.range (j - i).toNat).map fun k => P.int (i + (k : Nat))
def rgSmall (i j : Int) : Bool := decide (-1000000 ≤ i) && (decide (i ≤ 1000000) && (decide (-1000000 ≤ j) && decide (j ≤ 1000000)))
theorem rgSmall_ok {i j : Int} (h : rgSmall i j = true) : RgOk i j := by
  simp only [rgSmall, Bool.and_eq_true, decide_eq_true_eq] at h
  exact ⟨by omega, by omega, by omega, by omega, by omega⟩
def fLR (fin : FL) (i j : Int) (S : Store) : Option (D × Store) := if rgSmall i j = true then fin ((rgP i j).map D.p) S else none
theorem relDs_rg {G : Gb} {F : Addr → Prop} {ι : List Addr} {H : Hp} (i j : Int) : RelDs G F ι H ((rgP i j).map D.p) (rgV i j) := relDs_map (relPs_rg i _)
def fListRg1 (fin : FL) : F1 := fun x S => match x with
  | .p (.int j) => fLR fin 0 j S
  | _ => none
def fListRgA (fin : FL) : F2 := fun x y S => match x, y with
  | .p (.int i), .p (.int j) => fLR fin i j S
  | _, _ => none
theorem de_listRg1 {a : Expr} {ma : ME D} {p p2 pos pos2 : Pos} {fin : FL} (n : NewL X fin) (hm : X.mg "list" = none) (hm2 : X.mg "range" = none) (ha : DE X W a ma) (hc : X.calm = true := by rfl) (hg : Gl X "list" := by rfl) (hg2 : Gl X "range" := by rfl)
    (na : starEach [a] X.env = (false, eval a X.env) :: starEach [] X.env := by rfl)
    (ns : starEach [.Call (.Name "range" p2) [a] [] pos2] X.env = (false, eval (.Call (.Name "range" p2) [a] [] pos2) X.env) :: starEach [] X.env := by rfl) :
    DE X W (.Call (.Name "list" p) [.Call (.Name "range" p2) [a] [] pos2] [] pos) (mOp1 (fListRg1 fin) ma) :=
  PE.imp (pe_listRg hc hg hm (prg_1 hg2 hm2 ha na) ns) fun σ H Q q => by
    obtain ⟨ρ, S, ι, F, at', t⟩ := q
    refine T.first at' t fun d1 S1 F1 ι1 H1 v1 n1 a1 r1 t1 => ?_
    obtain ⟨d', S', e, q⟩ := lift_then t1
    unfold fListRg1 at e
    split at e
    · rename_i j
      unfold fLR at e
      split at e
      · rename_i h
        cases relInt r1
        refine ⟨j, rfl, rgSmall_ok h, ?_⟩
        exact (n a1.r (relDs_rg 0 j) e fun F' ι' H' v nx r => q _ _ _ nx _ r).2
      · cases e
    · cases e
theorem de_listRgA {a b : Expr} {ma mb : ME D} {p p2 pos pos2 : Pos} {fin : FL} (n : NewL X fin) (hm : X.mg "list" = none) (hm2 : X.mg "range" = none) (ha : DE X W a ma) (hb : DE X W b mb) (hc : X.calm = true := by rfl) (hg : Gl X "list" := by rfl) (hg2 : Gl X "range" := by rfl)
    (na : starEach [a, b] X.env = (false, eval a X.env) :: starEach [b] X.env := by rfl) (nb : starEach [b] X.env = (false, eval b X.env) :: starEach [] X.env := by rfl) (hp : (backTo pos2 (starEach [b] X.env)).any (·.1) = false := by rfl)
    (ns : starEach [.Call (.Name "range" p2) [a, b] [] pos2] X.env = (false, eval (.Call (.Name "range" p2) [a, b] [] pos2) X.env) :: starEach [] X.env := by rfl) :
    DE X W (.Call (.Name "list" p) [.Call (.Name "range" p2) [a, b] [] pos2] [] pos) (mOp2 (fListRgA fin) ma mb) :=
  PE.imp (pe_listRg hc hg hm (prg_2 hg2 hm2 ha hb na nb hp) ns) fun σ H Q q => by
    obtain ⟨ρ, S, ι, F, at', t⟩ := q
    refine T.first at' t fun d1 S1 F1 ι1 H1 v1 n1 a1 r1 t1 => ?_
    refine T.first a1 t1 fun d2 S2 F2 ι2 H2 v2 n2 a2 r2 t2 => ?_
    obtain ⟨d', S', e, q⟩ := lift_then t2
    unfold fListRgA at e
    split at e
    · rename_i i j
      unfold fLR at e
      split at e
      · rename_i h
        have r1' := n2.d r1
        cases relInt r1'
        cases relInt r2
        refine ⟨i, j, rfl, rfl, rgSmall_ok h, ?_⟩
        exact (n a2.r (relDs_rg i j) e fun F' ι' H' v nx r => q _ _ _ nx _ r).2
      · cases e
    · cases e
def fTupL : FL := fun ds S => some (mkTup ds, S)
theorem newT {F : Addr → Prop} {ι : List Addr} {S S' : Store} {H : Hp} {ds : List D} {d' : D} {vs : List V} {Q : VK} (rs : R (gb X) F ι S H) (r : RelDs (gb X) F ι H ds vs) (e : fTupL ds S = some (d', S'))
    (q : ∀ F' ι' H' v, Nxt (gb X) F ι H F' ι' S' H' → RelD (gb X) F' ι' H' d' v → Q v H') : ∀ p, H p = none → Q (.ref p) (upd H p (.tup vs)) := fun p hp => by
  cases e
  exact q _ _ _ _ (Nxt.fresh rs hp) (rel_newT hp r)
theorem de_tupRg1 {a : Expr} {ma : ME D} {p p2 pos pos2 : Pos} (hm : X.mg "tuple" = none) (hm2 : X.mg "range" = none) (ha : DE X W a ma) (hc : X.calm = true := by rfl) (hg : Gl X "tuple" := by rfl) (hg2 : Gl X "range" := by rfl)
    (na : starEach [a] X.env = (false, eval a X.env) :: starEach [] X.env := by rfl)
    (ns : starEach [.Call (.Name "range" p2) [a] [] pos2] X.env = (false, eval (.Call (.Name "range" p2) [a] [] pos2) X.env) :: starEach [] X.env := by rfl) :
    DE X W (.Call (.Name "tuple" p) [.Call (.Name "range" p2) [a] [] pos2] [] pos) (mOp1 (fListRg1 fTupL) ma) :=
  PE.imp (pe_tupRg hc hg hm (prg_1 hg2 hm2 ha na) ns) fun σ H Q q => by
    obtain ⟨ρ, S, ι, F, at', t⟩ := q
    refine T.first at' t fun d1 S1 F1 ι1 H1 v1 n1 a1 r1 t1 => ?_
    obtain ⟨d', S', e, q⟩ := lift_then t1
    unfold fListRg1 at e
    split at e
    · rename_i j
      unfold fLR at e
      split at e
      · rename_i h
        cases relInt r1
        exact ⟨j, rfl, rgSmall_ok h, newT a1.r (relDs_rg 0 j) e fun F' ι' H' v nx r => q _ _ _ nx _ r⟩
      · cases e
    · cases e
theorem de_tupRgA {a b : Expr} {ma mb : ME D} {p p2 pos pos2 : Pos} (hm : X.mg "tuple" = none) (hm2 : X.mg "range" = none) (ha : DE X W a ma) (hb : DE X W b mb) (hc : X.calm = true := by rfl) (hg : Gl X "tuple" := by rfl) (hg2 : Gl X "range" := by rfl)
    (na : starEach [a, b] X.env = (false, eval a X.env) :: starEach [b] X.env := by rfl) (nb : starEach [b] X.env = (false, eval b X.env) :: starEach [] X.env := by rfl) (hp : (backTo pos2 (starEach [b] X.env)).any (·.1) = false := by rfl)
    (ns : starEach [.Call (.Name "range" p2) [a, b] [] pos2] X.env = (false, eval (.Call (.Name "range" p2) [a, b] [] pos2) X.env) :: starEach [] X.env := by rfl) :
    DE X W (.Call (.Name "tuple" p) [.Call (.Name "range" p2) [a, b] [] pos2] [] pos) (mOp2 (fListRgA fTupL) ma mb) :=
  PE.imp (pe_tupRg hc hg hm (prg_2 hg2 hm2 ha hb na nb hp) ns) fun σ H Q q => by
    obtain ⟨ρ, S, ι, F, at', t⟩ := q
    refine T.first at' t fun d1 S1 F1 ι1 H1 v1 n1 a1 r1 t1 => ?_
    refine T.first a1 t1 fun d2 S2 F2 ι2 H2 v2 n2 a2 r2 t2 => ?_
    obtain ⟨d', S', e, q⟩ := lift_then t2
    unfold fListRgA at e
    split at e
    · rename_i i j
      unfold fLR at e
      split at e
      · rename_i h
        have r1' := n2.d r1
        cases relInt r1'
        cases relInt r2
        exact ⟨i, j, rfl, rfl, rgSmall_ok h, newT a2.r (relDs_rg i j) e fun F' ι' H' v nx r => q _ _ _ nx _ r⟩
      · cases e
    · cases e
end
end DL
set_option maxHeartbeats 4000000
/-! DLAug: o[i] op= e; targets that store; range(a, b, -1); divmod. -/
namespace DL
open PySem PySem.Spec PyProof.Rows L2
section
variable {X : Cx}
def rGetL (K : PySem.W.Frag) : R2 := fun x y H Q => ∃ p xs i v, x = .ref p ∧ y = .int i ∧ SqL K H p xs ∧ atI xs i = some v ∧ Q v H
theorem get_list : PGet X (rGetL X.K) := by
  intro pins s σ H x y v u Q I rx ry h
  obtain ⟨p, xs, i, z, rfl, rfl, hq, he, q⟩ := h
  cases rx
  obtain ⟨t, rfl⟩ := ry
  obtain ⟨its, r, pl, hz⟩ := I.list hq
  obtain ⟨j, h1, h2, h3, h4, h5⟩ := atI_get he
  obtain ⟨w, ew, rw'⟩ := r.get h2
  have hl := r.length
  have hn := line63
  have fin : EP X pins σ Q w s := ⟨z, H, I, rw', q⟩
  by_cases h0 : 0 ≤ i
  · have hj : i.toNat = j := by
      rw [seqIndex_of h0 h5] at h1
      exact Option.some.inj h1
    exact wpAny_getItem_list pl.isList h0 (by omega) (by rw [hj]; simpa using ew) fin
  · have hj : (i + (its.toArray.size : Int)).toNat = j := by
      rw [seqIndex_neg (by omega) h4] at h1
      rw [List.size_toArray, ← hl]
      exact Option.some.inj h1
    exact wpAny_getItem_list_neg pl.isList (by omega) (by rw [List.size_toArray] <;> omega) (by omega) (by rw [hj]; simpa using ew) fin
theorem get_dict (hu : X.A.units + 65 < cLine) : PGet X rDGet := by
  intro pins s σ H x y v u Q I rx ry h
  obtain ⟨a, w, rfl, g, q⟩ := h
  obtain rfl : v = Value.ref a := rx
  exact d_getItem (by omega) I g ry fun w' s3 I3 rw' => ⟨w, H, I3, rw', q⟩
end
variable [HasT]
section
variable {X : Cx} {W : WX}
def GtD (X : Cx) (f : F2) : Prop :=
  ∃ r : R2, PGet X r ∧ ∀ {F : Addr → Prop} {ι : List Addr} {S S' : Store} {H : Hp} {d1 d2 d' : D} {v1 v2 : V} {Q : VK}, R (gb X) F ι S H → RelD (gb X) F ι H d1 v1 → RelD (gb X) F ι H d2 v2 → f d1 d2 S = some (d', S') →
    (∀ F' ι' H' v, Nxt (gb X) F ι H F' ι' S' H' → RelD (gb X) F' ι' H' d' v → Q v H') → r v1 v2 H Q
def StD (X : Cx) (w : D → D → D → Store → Option Store) : Prop :=
  ∃ t : TSet, PSet X t ∧ ∀ {F : Addr → Prop} {ι : List Addr} {S S' : Store} {H : Hp} {x k y : D} {v1 v2 v3 : V} {Q : Hp → Prop}, R (gb X) F ι S H → RelD (gb X) F ι H x v1 → RelD (gb X) F ι H k v2 → RelD (gb X) F ι H y v3 → w x k y S = some S' →
    (∀ H', Nxt (gb X) F ι H F ι S' H' → Q H') → t v1 v2 v3 H Q
def fIxL : F2 := fun x y S => match y with
  | .p (.int i) => (match x.lst? S with
    | some xs => (match atI xs i with
      | some d => some (d, S)
      | none => none)
    | none => none)
  | _ => none
theorem gt_list : GtD X fIxL := ⟨_, get_list, fun {F ι S S' H d1 d2 d' v1 v2 Q} rs r1 r2 e q => by
  unfold fIxL at e
  split at e
  · rename_i i
    cases relInt r2
    split at e
    · rename_i xs ex
      split at e
      · rename_i d ed
        cases e
        obtain ⟨p, vs, rfl, q1, rd⟩ := lst?_rel rs ex r1
        obtain ⟨v, hv, rv⟩ := atI_rel rd ed
        exact ⟨p, vs, i, v, rfl, rfl, q1, hv, q F ι H v (Nxt.refl rs) rv⟩
      · cases e
    · cases e
  · cases e⟩
theorem gt_dict (hu : X.A.units + 65 < cLine) : GtD X fDGet := ⟨_, get_dict hu, fun {F ι S S' H d1 d2 d' v1 v2 Q} rs r1 r2 e q => by
  unfold fDGet at e
  split at e
  · rename_i d ed
    cases e
    obtain ⟨a, ov, rfl, g, w, rfl, rw'⟩ := dlook_rel rs ed r1 r2
    exact ⟨a, w, rfl, g, q _ _ _ _ (Nxt.refl rs) rw'⟩
  · cases e⟩
theorem st_list : StD X fPut := ⟨_, set_list, fun {F ι S S' H x k y v1 v2 v3 Q} rs r1 r2 r3 e q => by
  unfold fPut at e
  split at e
  · rename_i n xs k em
    split at e
    · rename_i j ej
      obtain ⟨a4, vs, rfl, q4, h4, rd⟩ := mut?_rel rs em r1
      cases relInt r2
      exact ⟨a4, vs, k, j, rfl, rfl, h4, by rw [← relDs_len rd]; exact ej, q _ (putL_nxt rs q4 h4 (relDs_set r3 j rd) e)⟩
    · cases e
  · cases e⟩
theorem st_dict (hu : X.A.units + 65 < cLine) : StD X fDPut := ⟨_, set_dict hu, fun {F ι S S' H x k y v1 v2 v3 Q} rs r1 r2 r3 e q => by
  obtain ⟨a, H', rfl, g, nx⟩ := dput_rel rs r1 r2 r3 e
  exact ⟨a, H', rfl, g, q _ nx⟩⟩
theorem StD.or {w w' : D → D → D → Store → Option Store} (h : StD X w) (h' : StD X w') : StD X (fun x k y S => match w x k y S with
    | some z => some z
    | none => w' x k y S) := by
  obtain ⟨t, ht, k⟩ := h
  obtain ⟨t', ht', k'⟩ := h'
  refine ⟨fun x i v H Q => t x i v H Q ∨ t' x i v H Q, fun pins s σ H o i v ov iv u Q I ro ri rv h => h.elim (fun h => ht pins s σ H o i v ov iv u Q I ro ri rv h) fun h => ht' pins s σ H o i v ov iv u Q I ro ri rv h, fun rs r1 r2 r3 e q => ?_⟩
  dsimp only at e
  split at e
  · rename_i z ez
    cases e
    exact .inl (k rs r1 r2 r3 ez q)
  · exact .inr (k' rs r1 r2 r3 e q)
theorem GtD.or {f f' : F2} (h : GtD X f) (h' : GtD X f') : GtD X (fun x y S => match f x y S with
    | some z => some z
    | none => f' x y S) := by
  obtain ⟨t, ht, k⟩ := h
  obtain ⟨t', ht', k'⟩ := h'
  refine ⟨fun x i H Q => t x i H Q ∨ t' x i H Q, fun pins s σ H o i ov iv Q I ro ri h => h.elim (fun h => ht pins s σ H o i ov iv Q I ro ri h) fun h => ht' pins s σ H o i ov iv Q I ro ri h, fun rs r1 r2 e q => ?_⟩
  dsimp only at e
  split at e
  · rename_i z ez
    cases e
    exact .inl (k rs r1 r2 ez q)
  · exact .inr (k' rs r1 r2 e q)
def fGetA : F2 := fun x y S => match fIxL x y S with
  | some z => some z
  | none => fDGet x y S
def fPutA : D → D → D → Store → Option Store := fun x k y S => match fPut x k y S with
  | some z => some z
  | none => fDPut x k y S
theorem gt_any (hu : X.A.units + 65 < cLine) : GtD X fGetA := gt_list.or (gt_dict hu)
theorem st_any (hu : X.A.units + 65 < cLine) : StD X fPutA := st_list.or (st_dict hu)
/-! o[i] op= e -/
def mAugS (g f : F2) (w : D → D → D → Store → Option Store) (mo mi me : ME D) : MS := fun ρ S => (mo ρ S).bind fun x => fun S => (mi ρ S).bind fun i => fun S => (lift (g x i) S).bind fun old => fun S => (me ρ S).bind fun y => fun S =>
  (lift (f old y) S).bind fun z => liftS (w x i z) ρ
theorem ds_augS {o i e : Expr} {mo mi me : ME D} {op : Operator} {tpos pos : Pos} {g f : F2} {w : D → D → D → Store → Option Store} (hg : GtD X g) (hp : IpD X op f) (hw : StD X w) (ho : DE X W o mo) (hi : DE X W i mi) (he : DE X W e me)
    (ha : ∀ ov iv new, augStore i ov iv new = (do holding [new, ov, iv] (setItem ov iv new); release [new, ov, iv] []; pure .next) := by intros; rfl) :
    DS X W (.AugAssign (.Subscript o i tpos) op e pos) (mAugS g f w mo mi me) := by
  obtain ⟨r1, g1, g2⟩ := hg
  obtain ⟨r2, p1, p2⟩ := hp
  obtain ⟨r3, s1, s2⟩ := hw
  refine PS.imp (ps_augS ho hi g1 he p1 s1 ha) fun E σ H q => ?_
  obtain ⟨ρ, S, ι, F, a, t⟩ := q
  refine T.firstS a t fun d1 S1 F1 ι1 H1 v1 n1 a1 r1' t1 => ?_
  refine T.firstS a1 t1 fun d2 S2 F2 ι2 H2 v2 n2 a2 r2' t2 => ?_
  obtain ⟨x3, S3, e3, q3⟩ := lift_then t2.bind
  refine g2 a2.r (n2.d r1') r2' e3 fun F3 ι3 H3 v3 n3 r3' => ?_
  have a3 := a2.next n3
  refine T.firstS a3 (q3 F3 ι3 H3 n3) fun d4 S4 F4 ι4 H4 v4 n4 a4 r4' t4 => ?_
  obtain ⟨x5, S5, e5, q5⟩ := lift_then t4.bind
  refine p2 a4.r (n4.d r3') r4' e5 fun F5 ι5 H5 v5 n5 r5' => ?_
  have a5 := a4.next n5
  obtain ⟨S6, e6, q6⟩ := liftS_then (q5 F5 ι5 H5 n5)
  have n25 := (n3.trans n4).trans n5
  refine s2 a5.r (n25.d (n2.d r1')) (n25.d r2') r5' e6 fun H6 n6 => ?_
  exact q6 F5 ι5 H6 n6 σ rfl (a5.e.mono n6)
/-! targets that store -/
abbrev MT := D → Env → M Env
def TGS (G : Gb) (mt : MT) : TG := fun v σ H Q => ∃ d ρ S ι F, RelD G F ι H d v ∧ At G F ι H σ ρ S ∧ Then G (fun _ _ _ => False) F ι H (mt d ρ S) fun ρ' _ F' ι' H' => ∀ σ', RelE G F' ι' H' ρ' σ' → σ'.length = σ.length → Q σ' H'
def TGSs (G : Gb) (mt : List D → Env → M Env) : TGs := fun vs σ H Q => ∃ ds ρ S ι F, RelDs G F ι H ds vs ∧ At G F ι H σ ρ S ∧ Then G (fun _ _ _ => False) F ι H (mt ds ρ S) fun ρ' _ F' ι' H' => ∀ σ', RelE G F' ι' H' ρ' σ' → σ'.length = σ.length → Q σ' H'
abbrev DGS (X : Cx) (tg : Expr) (mt : MT) : Prop := PG X tg (TGS (gb X) mt)
abbrev DGSs (X : Cx) (tg : List Expr) (mt : List D → Env → M Env) : Prop := PGs X tg (TGSs (gb X) mt)
def tNm (i : Nat) : MT := fun d ρ S => .ok (ρ.set i (some d)) S
def tSub (w : D → D → D → Store → Option Store) (mo mi : ME D) : MT := fun y ρ S => (noErr (mo ρ S)).bind fun x => fun S => (noErr (mi ρ S)).bind fun i => fun S => match w x i y S with
  | some S' => .ok ρ S'
  | none => .stuck
def tsNil : List D → Env → M Env := fun ds ρ S => match ds with
  | [] => .ok ρ S
  | _ => .stuck
def tsCons (m : MT) (ms : List D → Env → M Env) : List D → Env → M Env := fun ds ρ S => match ds with
  | d :: ds => (m d ρ S).bind fun ρ' => ms ds ρ'
  | _ => .stuck
def tTp (n : Nat) (ms : List D → Env → M Env) : MT := fun d ρ S => match d.tup? with
  | some ds => if ds.length = n then ms ds ρ S else .stuck
  | none => .stuck
theorem dgS_name (i : Nat) {x : Str} {pos : Pos} (hN : X.N.Nodup) (hi : X.N[i]? = some x := by rfl) (hx : Loc X.env.scope x := by first | exact Or.inl rfl | exact Or.inr rfl) (hf : X.fn x = true ∨ X.env.scope.names.lookup x = some .local := by first | exact .inl rfl | exact .inr rfl | assumption) :
    DGS X (.Name x pos) (tNm i) := PG.imp (pg_name hN hi hx hf) fun v σ H Q q => by
  obtain ⟨d, ρ, S, ι, F, r, a, t⟩ := q
  exact t.now a.r _ (a.e.set r i) (by simp)
theorem dgS_sub {o i : Expr} {p : Pos} {mo mi : ME D} {w : D → D → D → Store → Option Store} (hw : StD X w) (ho : DE X W o mo) (hi : DE X W i mi)
    (ha : ∀ v, assign (.Subscript o i p) X.env v = (do
      let ov ← holding [v] (eval o X.env)
      let iv ← holding [v, ov] (eval i X.env)
      standAt p
      holding [v, ov, iv] (setItem ov iv v)
      release [v, ov, iv] []) := by intro _; rfl) : DGS X (.Subscript o i p) (tSub w mo mi) := by
  obtain ⟨r, s1, s2⟩ := hw
  refine PG.imp (pg_sub ho hi s1 ha) fun v σ H Q q => ?_
  obtain ⟨d, ρ, S, ι, F, r0, a, t⟩ := q
  refine ⟨ρ, S, ι, F, a, (noErr_then t).mono fun d1 S1 F1 ι1 H1 n1 t1 v1 r1 => ?_⟩
  have t1 := t1.later n1
  have a1 := a.next n1
  refine ⟨ρ, S1, ι1, F1, a1, (noErr_then t1).mono fun d2 S2 F2 ι2 H2 n2 t2 v2 r2 => ?_⟩
  have t2 := t2.later n2
  have a2 := a1.next n2
  split at t2
  · rename_i S' e
    refine s2 a2.r (n2.d r1) r2 ((n1.trans n2).d r0) e fun H3 n3 => ?_
    exact t2 _ _ _ n3 σ (a2.e.mono n3) rfl
  · exact t2.elim
theorem dgsS_nil : DGSs X [] tsNil := PGs.imp pgs_nil fun v σ H Q q => by
  obtain ⟨ds, ρ, S, ι, F, r, a, t⟩ := q
  unfold tsNil at t
  split at t
  · rw [relDs_nil] at r
    exact ⟨r, t.now a.r _ a.e rfl⟩
  · exact t.elim
theorem dgsS_cons {e : Expr} {es : List Expr} {m : MT} {ms : List D → Env → M Env} (h1 : DGS X e m) (h2 : DGSs X es ms) (hs : (assignEach (e :: es) X.env).map (·.2) = assign e X.env :: (assignEach es X.env).map (·.2) := by rfl) : DGSs X (e :: es) (tsCons m ms) :=
  PGs.imp (pgs_cons h1 h2 hs) fun us σ H Q q => by
    obtain ⟨ds, ρ, S, ι, F, r, a, t⟩ := q
    unfold tsCons at t
    split at t
    · rename_i d ds
      simp only [RelDs] at r
      obtain ⟨v, ws, rfl, r1, r2⟩ := r
      refine ⟨v, ws, rfl, d, ρ, S, ι, F, r1, a, t.bind.mono fun ρ' S' F' ι' H' n t' σ' hσ hl => ?_⟩
      exact ⟨ds, ρ', S', ι', F', n.ds r2, ⟨hσ, n.r⟩, t'.mono fun ρ'' _ F'' ι'' H'' _ q σ'' h'' hl' => q σ'' h'' (hl'.trans hl)⟩
    · exact t.elim
theorem dgS_tup {es : List Expr} {k n : Nat} {pos : Pos} {ms : List D → Env → M Env} (hc : X.calm = true) (h : DGSs X es ms) (hn : (assignEach es X.env).length = n := by rfl) (hst : (assignEach es X.env).findIdx? (·.1) = none := by rfl) : DGS X (.Tuple es k pos) (tTp n ms) :=
  PG.imp (pg_tup hc h hn hst) fun v σ H Q q => by
    obtain ⟨d, ρ, S, ι, F, r, a, t⟩ := q
    unfold tTp at t
    split at t
    · rename_i ds el
      split at t
      · rename_i hl
        obtain ⟨p, vs, ev, qt, rd⟩ := tup?_rel el r
        exact ⟨p, vs, ev, qt, by rw [← relDs_len rd]; exact hl, ds, ρ, S, ι, F, rd, a, t⟩
      · exact t.elim
    · exact t.elim
def mAsgS (mt : MT) (me : ME D) : MS := fun ρ S => (me ρ S).bind fun d => fun S => (noErr (mt d ρ S)).bind fun ρ' S' => .ok (.nx ρ') S'
theorem ds_asgS {tg e : Expr} {pos : Pos} {mt : MT} {me : ME D} (hg : DGS X tg mt) (he : DE X W e me) (hs : swapsWithSole [tg] e pos.line X.env = pure false := by rfl) (hw : swappedStores [tg] e X.env = pure none := by rfl) (h1 : (assignEach [tg] X.env).map (·.2) = [assign tg X.env] := by rfl) :
    DS X W (.Assign [tg] e pos) (mAsgS mt me) := PS.imp (ps_asg he hg hs hw h1) fun E σ H q => by
  obtain ⟨ρ, S, ι, F, a, t⟩ := q
  refine T.firstS a t fun d S1 F1 ι1 H1 v n a1 r t1 => ?_
  refine ⟨d, ρ, S1, ι1, F1, r, a1, (noErr_then t1).mono fun ρ' S' F' ι' H' n' t' σ' hσ hl => ?_⟩
  exact t' F' ι' H' n' σ' hl hσ
end
end DL
set_option maxHeartbeats 4000000
/-! DLMore3: range(a, b, -1); divmod. -/
namespace DL
open PySem PySem.Spec PyProof.Rows L2
variable [HasT]
section
variable {X : Cx} {W : WX} {tg a b c : Expr} {mr : ME (List D)} {p pos : Pos}
def downD (hi : Int) (n : Nat) : List D := (List.range n).map fun (i : Nat) => D.p (.int (hi - i))
theorem downD_get {hi : Int} {n i : Nat} {d : D} (h : (downD hi n)[i]? = some d) : i < n ∧ d = .p (.int (hi - i)) := by
  unfold downD at h
  rw [List.getElem?_map] at h
  by_cases z : i < n
  · rw [List.getElem?_range z] at h
    cases h
    exact ⟨z, rfl⟩
  · rw [List.getElem?_eq_none (by simp; omega)] at h
    cases h
theorem downD_len (hi : Int) (n : Nat) : (downD hi n).length = n := by simp [downD]
theorem itc_ok {G : Gb} {F : Addr → Prop} {ι : List Addr} {H : Hp} {hi : Int} {n : Nat} : ItOk G F ι H (Itc hi (-1) n) ⟨downD hi n, []⟩ := fun F' ι' H' S' nx w i => by
  refine ⟨fun h => by rw [downD_len] at h; exact h, fun d hd => ?_⟩
  obtain ⟨hi', rfl⟩ := downD_get hd
  refine ⟨hi', fun x H'' ⟨e, hx⟩ => ?_⟩
  subst e
  subst hx
  refine ⟨Nxt.refl nx.r, ?_⟩
  simp only [RelD, RelP]
  rw [show hi + (i : Int) * -1 = hi - i by omega]
/-- range(a, b, -1) -/
def srcR3 : List D → Store → Option (Src × Store)
  | [.p (.int a), .p (.int b), .p (.int c)], S => if (decide (c = -1) && (fitR a && fitR b)) = true then some (⟨downD a (a - b).toNat, []⟩, S) else none
  | _, _ => none
theorem di_range3 (hm : X.mg "range" = none) (h : DA X W [a, b, c] mr) (hg : Gl X "range" := by rfl) (hs : starEach [a, b, c] X.env = (false, eval a X.env) :: starEach [b, c] X.env := by rfl) (hpl : (backTo pos (starEach [b, c] X.env)).any (·.1) = false := by rfl) :
    DI X W tg (.Call (.Name "range" p) [a, b, c] [] pos) (mSrcA srcR3 mr) := PI.imp (pi_range3 hg hm h hs hpl) fun σ H Rr q => by
  obtain ⟨ρ, S, ι, F, at', t⟩ := q
  refine srcA_first at' t fun ds S1 F1 ι1 H1 vs src S2 a1 r1 e z => ?_
  unfold srcR3 at e
  split at e
  · rename_i m n k
    split at e
    · rename_i hf
      cases e
      simp only [Bool.and_eq_true, decide_eq_true_eq] at hf
      obtain ⟨rfl, hf1, hf2⟩ := hf
      obtain ⟨v, w, u, rfl, r, r', r''⟩ := relDs3 r1
      cases relInt r
      cases relInt r'
      cases relInt r''
      exact ⟨m, n, -1, (m - n).toNat, rfl, RgC.neg (fitR_ok hf1).1 (fitR_ok hf1).2 (fitR_ok hf2).1 (fitR_ok hf2).2, z _ _ _ (Nxt.refl a1.r) _ itc_ok⟩
    · cases e
  · cases e
def fDivmod : FL := fun ds S => match ds with
  | [.p (.int i), .p (.int j)] => if (decide (0 < j) && decide (j < 1073741824)) = true then some (.p (.tup [.int (i / j), .int (i % j)]), S) else none
  | _ => none
theorem cd_divmod : CallD X (.builtin "divmod") fDivmod := ⟨_, call_divmod, fun {F ι S S' H ds d' vs Q} rs r e q => by
  unfold fDivmod at e
  split at e
  · rename_i i j
    split at e
    · rename_i hf
      cases e
      simp only [Bool.and_eq_true, decide_eq_true_eq] at hf
      obtain ⟨v, w, rfl, r1, r2⟩ := relDs2 r
      cases relInt r1
      cases relInt r2
      refine ⟨i, j, rfl, hf, fun p hp => ?_⟩
      refine q _ _ _ _ (Nxt.fresh rs hp) ?_
      have := rel_newT (G := gb X) (F := F) (ι := ι) hp (mkInts [i / j, i % j])
      rwa [show mkTup (dInts [i / j, i % j]) = .p (.tup [.int (i / j), .int (i % j)]) from by rw [← tupI_ints, mkTup_map]; rfl] at this
    · cases e
  · cases e⟩
end
/-- a run that never comes: any def -/
theorem fn_stuck {P : Program} {w : World} {K : PySem.W.Frag} {mg : Str → Option Value} {base : Heap} {x qual : Str} {params : Arguments} {body : List Stmt} {scope : Scope} {f : Addr} {fd : FuncData} {ps : List Str} {k n : Nat}
    (hg : mg x = some (.ref f)) (Fd : FunD K x qual params body scope [] [] f fd) (hn : ps.length = n)
    (hbind : ∀ (kV doc pm : Value) (an : Option Addr) (cdv ct : Value) (us : List Value), us.length = ps.length → bindArgs (PySem.W.fnOf x qual params body scope .none kV doc pm an cdv ct) ⟨us, []⟩ = pure (ps.zip us)) :
    FnD P w K mg base x k n (fun _ _ => .stuck) :=
  ⟨f, fd, ps, hg, Fd.kp, Fd.bindsN hbind, hn, ⟨fun vs H Q E h => by rw [hn]; exact h.1, fun A outer s H args us vs Q E hr hgd e0 hb r hsp => by
    obtain ⟨_, ds, S, ι, F, rs, rd, t⟩ := hsp
    exact t.elim⟩⟩
end DL
set_option maxHeartbeats 4000000
/-! DLTSet: sorted(set(xs)) of a list of tuples of ints: any number of them, fewer than 63 unlike ones. -/
namespace DL
open PySem PySem.Spec PyProof.Rows L2
section
variable {P : Program} {w : World} {A : Around} {E : Value → Shared → Prop} {s : Shared}
/-- the loop of set.update, for any account J of the set -/
theorem set_loopG {I S : Addr} {fp wr : List Addr} {G : Array GenState → Array GenState → Prop} {n : Nat} {Pv : Nat → Value → Prop} {St : Nat → Shared → Prop} {R : Result → Shared → Prop} (Wk : WalksS P w A.in1 I fp wr G n Pv St) (hS : S ∉ fp)
    {J : Nat → Heap → Prop} (stay : ∀ i h h', J i h → (∀ b o, b ∉ wr → h.get? b = some o → h'.get? b = some o) → J i h')
    (step : ∀ i v (s : Shared) (Q : Bool → Shared → Prop) (E : Value → Shared → Prop), i < n → Pv i v → J i s.heap → (∀ b h' tk, s.toks ≤ tk → Heap.SameBut S s.heap h' → J (i + 1) h' → Q b { s with heap := h', toks := tk }) → wpAny (model P w) A.in1 (setAdd S v) Q E s) :
    ∀ (k i : Nat) (s : Shared), i + k = n → St i s → J i s.heap → (∀ s', Moved (S :: wr) G s s' → J n s'.heap → R (.ok (.ret .none)) s') → codeAny (model P w) A (.builtin "set.update.loop" ⟨[.ref S, .ref I], []⟩) R s := by
  have hw : S ∉ wr := fun h => hS (Wk.sub _ h)
  intro k
  induction k with
  | zero =>
    intro i s e st j hR
    have e' : i = n := by omega
    subst e'
    refine codeAny_builtin F.entry_set_update_loop ?_
    rw [Around.under_plainId F.plain_set_update_loop _]
    show wpAny _ A.in1 (pyNext (.ref I) >>= _) _ _ s
    refine wpAny_bind (Wk.done s _ _ st fun s' m => ?_)
    show wpAny _ A.in1 (ret Value.none) _ _ s'
    exact wpAny_pure (hR s' (m.mono fun b hb => List.mem_cons_of_mem _ hb) (stay i _ _ j m.heap))
  | succ k ih =>
    intro i s e st j hR
    refine codeAny_builtin F.entry_set_update_loop ?_
    rw [Around.under_plainId F.plain_set_update_loop _]
    show wpAny _ A.in1 (pyNext (.ref I) >>= _) _ _ s
    refine wpAny_bind (Wk.item i s _ _ (by omega) st fun v s' hv st' m => ?_)
    show wpAny _ A.in1 (holding [v] (setAdd S v) >>= _) _ _ s'
    refine wpAny_bind (wpAny_holding (step i v s' _ _ (by omega) hv (stay i _ _ j m.heap) fun b h' tk ht hs j' => ?_))
    refine wpAny_pure ⟨plainId_quiet F.plain_set_update_loop _, ih (i + 1) _ (by omega) (Wk.frame _ s' _ _ st' ht fun b hb o eo => ?_) j' fun s'' m' j'' => hR s'' (Moved.trans Wk.gtrans ((m.mono fun b hb => List.mem_cons_of_mem _ hb).then_heap ht fun b o hb eo => ?_) m') j''⟩
    · rw [hs.2 b (fun z => hS (z ▸ hb))]
      exact eo
    · rw [hs.2 b (fun z => hb (z ▸ List.mem_cons_self))]
      exact eo
set_option maxHeartbeats 8000000 in
/-- set(l), for any account J of the set -/
theorem set_lstG {l : Addr} {items : Array Value} {J : Nat → Heap → Prop} {Q : Value → Shared → Prop} (hh : A.handled = none) (hl : s.heap.IsList l items)
    (stay : ∀ i h h', J i h → (∀ b o, b ≠ s.heap.objs.size + 1 → h.get? b = some o → h'.get? b = some o) → J i h')
    (step : ∀ i v (s1 : Shared) (Q : Bool → Shared → Prop) (E : Value → Shared → Prop), items[i]? = some v → J i s1.heap → (∀ b h' tk, s1.toks ≤ tk → Heap.SameBut s.heap.objs.size s1.heap h' → J (i + 1) h' → Q b { s1 with heap := h', toks := tk }) → wpAny (model P w) A.in1.in1.in1 (setAdd s.heap.objs.size v) Q E s1)
    (new : ∀ h : Heap, h.get? s.heap.objs.size = some (set0 w) → (∀ b o, s.heap.get? b = some o → h.get? b = some o) → J 0 h)
    (h : ∀ (h' : Heap) (tk : Nat), J items.size h' → (∀ b o, s.heap.get? b = some o → h'.get? b = some o) → Q (.ref s.heap.objs.size) { s with heap := h', toks := tk }) :
    wpAny (model P w) A (call (.type "set") [.ref l]) Q E s := by
  obtain ⟨c, tl, hmro⟩ := F.called_set.mro
  have hmade := F.called_set.made
  have hsub := F.called_set.sub
  have h1 := F.called_set.notType
  have h2 := F.called_set.canCreate
  have hct := F.typeCall_set_1 (.ref l)
  have hsz : (s.heap.push (set0 w)).objs.size = s.heap.objs.size + 1 := Heap.size_push ..
  have hS : (s.heap.push (set0 w)).get? s.heap.objs.size = some (set0 w) := Heap.get?_push_size _ rfl
  refine wpAny_call (codeAny_of_tree ?_)
  show wpAny _ _ (callAny (.type "set") _) _ _ _
  refine wpAny_pure ⟨Code.quiet_builtin _ (by decide +kernel), codeAny_builtin F.entry_type_call ?_⟩
  rw [Around.under_plain (weight_type_call_type "set" [.ref l] []) rfl]
  repeat (any_goals (first | assumption | wp_step))
  refine codeAny_mono (code_set_led1 (.ref l) (E := E) (Q₁ := fun obj s₁ => obj = .ref s.heap.objs.size ∧ s₁ = { s with heap := s.heap.push (set0 w) }) ⟨rfl, rfl⟩) fun r s₁ hr => ?_
  cases r with
  | error e => exact hr
  | ok fl =>
    cases fl with
    | ret obj =>
      obtain ⟨rfl, rfl⟩ := hr
      have hT : Shared.TypeIs { s with heap := s.heap.push (set0 w) } (.ref s.heap.objs.size) "set" := ⟨_, hS, rfl⟩
      have hli := F.called_set.init.lookup
      have hbi := F.called_set.init.bind (.ref s.heap.objs.size)
      repeat (any_goals (first | assumption | wp_step))
      refine codeAny_mono (codeAny_call_builtin (R := wants (fun r s₂ => r = .none ∧ ∃ h' tk, s₂ = { s with heap := h', toks := tk } ∧ J items.size h' ∧ (∀ b o, s.heap.get? b = some o → h'.get? b = some o)) E) F.called_set.init.plain F.entry_set_init (check_set_init_1 hT ?_)) fun r₂ s₂ hr₂ => ?_
      · obtain ⟨ol, hol, hcl, nl, hdl⟩ := hl
        obtain ⟨ocls, odict, odata, oslots⟩ := ol
        simp only at hcl hdl
        subst hcl; subst hdl
        have hol' : (s.heap.push (set0 w)).get? l = some { cls := .type "list", dict := odict, data := .seq items nl, slots := oslots } := Heap.get?_push_of_some _ hol
        have hl1 : (s.heap.push (set0 w)).IsList l items := ⟨_, hol', rfl, nl, rfl⟩
        have hsls := F.sub_list_set
        have hslf := F.sub_list_frozenset
        have hne : (Value.type "list" == Value.type "dict") = false := by decide
        have hlS : l < s.heap.objs.size := Heap.lt_size hol
        unfold Builtin.«set.__init__» noKeywords Builtin.Frozenset.updateFrom
        generalize hPI : pyIter = PI
        wp_walk
        subst hPI
        refine wpAny_pyIter_list hl1 ?_
        refine wpAny_bind (wpAny_runValue ?_)
        have hh3 : A.in1.in1.in1.handled = none := by simp [hh]
        have hneI : l ≠ (s.heap.push (set0 w)).objs.size := by
          rw [hsz]
          exact Nat.ne_of_lt (Nat.lt_succ_of_lt hlS)
        have hSf : s.heap.objs.size ∉ [(s.heap.push (set0 w)).objs.size, l] := by
          simp only [List.mem_cons, List.not_mem_nil, or_false, not_or]
          rw [hsz]
          exact ⟨Nat.ne_of_lt (Nat.lt_succ_self _), Nat.ne_of_gt hlS⟩
        refine set_loopG (J := J) ((Walks.list hh3 _ l hneI items).toS) hSf (fun i h h' j k => stay i h h' j fun b o hb => k b o (by rw [List.mem_singleton, hsz]; exact hb)) (fun i v s1 Q E hi hv j q => step i v s1 Q E hv j q) items.size 0 _ (by omega) ⟨⟨_, Heap.get?_push_size _ rfl, rfl, rfl⟩, (hl1.push _)⟩
          (new _ (Heap.get?_push_of_some _ hS) fun b o e => Heap.get?_push_of_some _ (Heap.get?_push_of_some _ e)) fun s' hm j => ?_
        obtain ⟨h', g2, d', tk', os'⟩ := s'
        have eg : g2 = s.gens := hm.gens
        have ed : d' = s.drawn := hm.drawn
        have eo : os' = s.os := hm.os
        subst eg; subst ed; subst eo
        show wpAny _ _ _ _ _ _
        refine wpAny_pure ?_
        show wpAny _ _ (ret Value.none) _ _ _
        refine wpAny_pure ⟨rfl, h', tk', rfl, j, fun b o e => ?_⟩
        have hb0 : b < s.heap.objs.size := Heap.lt_size e
        exact hm.heap b o (by simp only [List.mem_cons, List.not_mem_nil, or_false, not_or]; exact ⟨Nat.ne_of_lt hb0, by rw [hsz]; exact Nat.ne_of_lt (Nat.lt_succ_of_lt hb0)⟩) (Heap.get?_push_of_some _ (Heap.get?_push_of_some _ e))
      · cases r₂ with
        | error e => exact hr₂
        | ok fl₂ =>
          cases fl₂ with
          | ret r =>
            obtain ⟨rfl, h', tk, rfl, j, hk'⟩ := hr₂
            repeat (any_goals (first | assumption | wp_step))
            exact h _ _ j hk'
          | _ => exact hr₂.elim
    | _ => exact hr.elim
end
/-! ### of tuples -/
theorem nodup_len {α : Type} [DecidableEq α] : ∀ {l m : List α}, l.Nodup → (∀ x ∈ l, x ∈ m) → l.length ≤ m.length
  | [], _, _, _ => Nat.zero_le _
  | x :: l, m, h, s => by
    obtain ⟨h1, h2⟩ := List.nodup_cons.mp h
    have hx : x ∈ m := s x List.mem_cons_self
    have ih := nodup_len (m := m.erase x) h2 fun y hy => (List.mem_erase_of_ne (by rintro rfl; exact h1 hy)).mpr (s y (List.mem_cons_of_mem _ hy))
    have e := List.length_erase_of_mem hx
    have hp : 0 < m.length := List.length_pos_of_mem hx
    rw [List.length_cons]
    omega
section
variable {P : Program} {w : World} {A : Around} {E : Value → Shared → Prop} {s : Shared}
/-- set(l) of a list of tuples of ints, few unlike ones -/
theorem set_lstT {l : Addr} {items : Array Value} (ks : List (Addr × List Int)) (U : List (List Int)) {Q : Value → Shared → Prop} (hh : A.handled = none) (hl : s.heap.IsList l items) (hit : items.toList = ks.map fun p => Value.ref p.1)
    (hk : ∀ p ∈ ks, IsT P w s.heap p.2 p.1) (hU : ∀ p ∈ ks, p.2 ∈ U) (hfew : U.length < 63) (hu : A.units + 3 < cLine)
    (h : ∀ (h' : Heap) (tk : Nat) L es ep t, SetTR P w h' s.heap.objs.size L es ep t → (∀ p ∈ L, p ∈ ks) → (∀ p ∈ ks, p.2 ∈ L.map (·.2)) → (∀ b o, s.heap.get? b = some o → h'.get? b = some o) → Q (.ref s.heap.objs.size) { s with heap := h', toks := tk }) :
    wpAny (model P w) A (call (.type "set") [.ref l]) Q E s := by
  have lt : ∀ p ∈ ks, p.1 < s.heap.objs.size := fun p hp => by
    obtain ⟨o, its, n, ho, _⟩ := hk p hp
    exact Heap.lt_size ho
  have hn : items.size = ks.length := by
    have q := congrArg List.length hit
    rwa [Array.length_toList, List.length_map] at q
  refine set_lstG (J := fun i h' => (∀ p ∈ ks, IsT P w h' p.2 p.1) ∧ ∃ L es ep t, SetTR P w h' s.heap.objs.size L es ep t ∧ Got ks i L) hh hl ?_ ?_ ?_ ?_
  · rintro i h1 h2 ⟨j1, L, es, ep, t, R, g⟩ k
    have k1 : ∀ p ∈ ks, IsT P w h2 p.2 p.1 := fun p hp => by
      obtain ⟨o, its, n, ho, r⟩ := j1 p hp
      exact ⟨o, its, n, k p.1 o (Nat.ne_of_lt (Nat.lt_succ_of_lt (lt p hp))) ho, r⟩
    exact ⟨k1, L, es, ep, t, R.keep (fun o e => k _ o (Nat.ne_of_lt (Nat.lt_succ_self _)) e) fun p hp => k1 p (List.mem_of_mem_take (g.sub p hp)), g⟩
  · rintro i v s1 Q' E' hv ⟨j1, L, es, ep, t, R, g⟩ q
    have hv' : (ks.map fun p => Value.ref p.1)[i]? = some v := by rw [← hit, Array.getElem?_toList]; exact hv
    rw [List.getElem?_map] at hv'
    obtain ⟨p, hp, rfl⟩ := Option.map_eq_some_iff.mp hv'
    have hpk := List.mem_of_getElem? hp
    have hu3 : A.in1.in1.in1.units < cLine := by
      have : A.in1.in1.in1.units = A.units + 3 := rfl
      omega
    have hL : L.length ≤ U.length := by
      have := nodup_len R.nd fun x hx => by
        obtain ⟨p', hp', rfl⟩ := List.mem_map.mp hx
        exact hU p' (List.mem_of_mem_take (g.sub p' hp'))
      rwa [List.length_map] at this
    unfold setAdd
    refine wpAny_holding (wpAny_bind (wpAny_pyHash_tuple hu3 (j1 p hpk) ?_))
    refine add_at (s := { s1 with toks := s1.toks + (p.2.length + 1) }) R (j1 p hpk) hu3 (by omega) fun b h' L' es' ep' t' hs R' c1 c2 => q b h' _ (Nat.le_add_right _ _) hs ⟨fun p' hp' => ?_, L', es', ep', t', R', ?_⟩
    · obtain ⟨o, its, n, ho, r⟩ := j1 p' hp'
      exact ⟨o, its, n, by rw [hs.2 p'.1 (Nat.ne_of_lt (lt p' hp'))]; exact ho, r⟩
    · rcases Classical.em (p.2 ∈ L.map (·.2)) with c | c
      · rw [c1 c]
        exact g.same hp c
      · exact g.more hp (c2 c)
  · intro h' hS k
    exact ⟨fun p hp => isT_keep (hk p hp) k, [], #[], 0, _, setTR_fresh hS, Got.zero ks⟩
  · rintro h' tk ⟨j1, L, es, ep, t, R, g⟩ k
    rw [hn] at g
    refine h h' tk L es ep t R (fun p hp => List.mem_of_mem_take (g.sub p hp)) (fun p hp => g.all p ?_) k
    rw [List.take_length]
    exact hp
end

/-! ### sorted(set(xs)) -/
theorem lexLt_trans {a b c : List Int} (h1 : lexLt a b = true) (h2 : lexLt b c = true) : lexLt a c = true := by
  cases h : lexLt a c with
  | true => rfl
  | false =>
    have := lexLt_tr b c a (lexLt_asym b c h2) h
    rw [h1] at this
    cases this
theorem lexLt_or {a b : List Int} (h1 : lexLt a b = false) (h2 : a ≠ b) : lexLt b a = true := by
  cases h : lexLt b a with
  | true => rfl
  | false => exact absurd (lexLt_eq a b h1 h) h2
/-- k among ascending ones, once -/
def insT (k : List Int) : List (List Int) → List (List Int)
  | [] => [k]
  | x :: r => if lexLt k x = true then k :: x :: r else if k = x then x :: r else x :: insT k r
/-- the members, each once, ascending -/
def upT : List (List Int) → List (List Int)
  | [] => []
  | x :: r => insT x (upT r)
theorem insT_mem {k j : List Int} : ∀ l : List (List Int), j ∈ insT k l ↔ j = k ∨ j ∈ l
  | [] => by simp [insT]
  | x :: r => by
    unfold insT
    by_cases h1 : lexLt k x = true
    · rw [if_pos h1, List.mem_cons]
    · rw [if_neg h1]
      by_cases h2 : k = x
      · rw [if_pos h2, h2, List.mem_cons]
        exact ⟨.inr, fun h => h.elim (fun e => .inl e) id⟩
      · rw [if_neg h2, List.mem_cons, insT_mem r, List.mem_cons]
        constructor
        · rintro (h | h | h)
          · exact .inr (.inl h)
          · exact .inl h
          · exact .inr (.inr h)
        · rintro (h | h | h)
          · exact .inr (.inl h)
          · exact .inl h
          · exact .inr (.inr h)
abbrev UpT (l : List (List Int)) : Prop := l.Pairwise fun x y => lexLt x y = true
theorem insT_pw {k : List Int} : ∀ {l : List (List Int)}, UpT l → UpT (insT k l)
  | [], _ => List.pairwise_singleton _ _
  | x :: r, h => by
    have hx := List.pairwise_cons.mp h
    unfold insT
    by_cases h1 : lexLt k x = true
    · rw [if_pos h1]
      refine List.pairwise_cons.mpr ⟨fun y hy => ?_, h⟩
      rcases List.mem_cons.mp hy with e | e
      · rw [e]; exact h1
      · exact lexLt_trans h1 (hx.1 y e)
    · rw [if_neg h1]
      by_cases h2 : k = x
      · rw [if_pos h2]; exact h
      · rw [if_neg h2]
        refine List.pairwise_cons.mpr ⟨fun y hy => ?_, insT_pw hx.2⟩
        rcases (insT_mem r).mp hy with e | e
        · rw [e]
          exact lexLt_or (by simpa using h1) h2
        · exact hx.1 y e
theorem upT_mem {j : List Int} : ∀ l : List (List Int), j ∈ upT l ↔ j ∈ l
  | [] => by simp [upT]
  | x :: r => by
    show j ∈ insT x (upT r) ↔ _
    rw [insT_mem, upT_mem r, List.mem_cons]
theorem upT_pw : ∀ l : List (List Int), UpT (upT l)
  | [] => List.Pairwise.nil
  | x :: r => insT_pw (upT_pw r)
theorem lexLt_ne {a b : List Int} (h : lexLt a b = true) : a ≠ b := by
  rintro rfl
  rw [lexLt_irrefl] at h
  cases h
theorem upT_same : ∀ {a b : List (List Int)}, UpT a → UpT b → (∀ j, j ∈ a ↔ j ∈ b) → a = b
  | [], [], _, _, _ => rfl
  | [], y :: b, _, _, h => by have := (h y).mpr List.mem_cons_self; cases this
  | x :: a, [], _, _, h => by have := (h x).mp List.mem_cons_self; cases this
  | x :: a, y :: b, ha, hb, h => by
    have ha' := List.pairwise_cons.mp ha
    have hb' := List.pairwise_cons.mp hb
    have e : x = y := by
      have h1 := (h x).mp List.mem_cons_self
      have h2 := (h y).mpr List.mem_cons_self
      rcases List.mem_cons.mp h1 with e | e
      · exact e
      · rcases List.mem_cons.mp h2 with e2 | e2
        · exact e2.symm
        · have z1 := hb'.1 x e
          have z2 := lexLt_asym _ _ (ha'.1 y e2)
          rw [z1] at z2
          cases z2
    subst e
    have : a = b := upT_same ha'.2 hb'.2 fun j => by
      constructor
      · intro z
        rcases List.mem_cons.mp ((h j).mp (List.mem_cons_of_mem _ z)) with e | e
        · exact absurd e.symm (lexLt_ne (ha'.1 j z))
        · exact e
      · intro z
        rcases List.mem_cons.mp ((h j).mpr (List.mem_cons_of_mem _ z)) with e | e
        · exact absurd e.symm (lexLt_ne (hb'.1 j z))
        · exact e
    rw [this]
theorem code_pos {B : Int} : ∀ {a : List Int}, TS.Bd B a → 0 ≤ TS.code B a ∧ TS.code B a < B ^ a.length
  | [], _ => ⟨Int.le_refl _, by rw [List.length_nil, Int.pow_zero]; show (0 : Int) < 1; decide⟩
  | x :: a, h => by
    obtain ⟨c0, c1⟩ := code_pos h.tail
    obtain ⟨d0, d1⟩ := h.head
    have := TS.num1 c0 c1 d0 d1
    refine ⟨this.1, ?_⟩
    rw [List.length_cons, Int.pow_succ]
    exact this.2
theorem code_lex {B : Int} : ∀ {a b : List Int}, a.length = b.length → TS.Bd B a → TS.Bd B b → TS.code B a ≤ TS.code B b → lexLt b a = false
  | [], [], _, _, _, _ => rfl
  | [], _ :: _, h, _, _, _ => by cases h
  | _ :: _, [], h, _, _, _ => by cases h
  | x :: a, y :: b, h, ha, hb, hc => by
    have hl : a.length = b.length := Nat.succ.inj h
    obtain ⟨c0, c1⟩ := code_pos ha.tail
    obtain ⟨d0, d1⟩ := code_pos hb.tail
    have hc' : x * B ^ a.length + TS.code B a ≤ y * B ^ b.length + TS.code B b := hc
    rw [hl] at hc' c1
    unfold lexLt
    by_cases e : y = x
    · rw [if_pos e]
      refine code_lex hl ha.tail hb.tail ?_
      rw [e] at hc'
      omega
    · rw [if_neg e, decide_eq_false_iff_not]
      intro hlt
      have hm : (y + 1) * B ^ b.length ≤ x * B ^ b.length := Int.mul_le_mul_of_nonneg_right (by omega) (by omega)
      rw [Int.add_mul] at hm
      omega
abbrev BB : Int := 340282366920938463463374607431768211456
def adV : V → Addr
  | .ref a => a
  | _ => 0
def tSrtSetT (K : PySem.W.Frag) (ta : TE) : TE := fun σ H Q => ta σ H fun x H1 => ∃ (l : Addr) (xs : List V) (k : V → List Int) (d : Nat), x = .ref l ∧ SqL K H1 l xs ∧ 1 ≤ d ∧
  (∀ x ∈ xs, (∃ t, x = .ref t ∧ H1 t = some (.tup ((k x).map V.int))) ∧ (k x).length = d ∧ TS.Bd BB (k x)) ∧ (upT (xs.map k)).length < 63 ∧
  ∀ (b p : Addr) (o : HO) (ys : List V), (∀ y ∈ ys, y ∈ xs) → ys.map k = upT (xs.map k) → H1 b = none → upd H1 b o p = none → Q (.ref p) (upd (upd H1 b o) p (.lst ys))
theorem pe_srtSetT {X : Cx} {a : Expr} {ta : TE} {p p2 q pos : Pos} (hu : X.A.units + 65 < cLine) (hg : Gl X "sorted") (hm : X.mg "sorted" = none) (hg2 : Gl X "set") (hm2 : X.mg "set" = none) (ha : PE X a ta) (hc : X.calm = true := by rfl)
    (na : starEach [a] X.env = (false, eval a X.env) :: starEach [] X.env := by rfl) : PE X (.Call (.Name "sorted" p) [.Call (.Name "set" p2) [a] [] q] [] pos) (tSrtSetT X.K ta) := by
  refine ⟨fun pins s σ H Q I h => ?_⟩
  refine Call_ (ld_blt I hg hm boot_sorted ?_)
  refine PyProof.Rows.callWith_builtin1 (PyProof.Rows.args_cons ?_ rfl) rfl rfl
  refine Call_ (ld_blt I hg2 hm2 boot_set ?_)
  refine PyProof.Rows.callWith_type1 (PyProof.Rows.args_cons (thn (ha.run pins s σ H _ I h) fun v s1 ⟨x, H1, I1, r1, q1⟩ => PyProof.Rows.args_nil ?_) na) na rfl
  obtain ⟨l, xs, k, d, rfl, hq, hd, hx, hfew, q1⟩ := q1
  cases r1
  obtain ⟨its, r, pl, hz⟩ := I1.list hq
  have exs : xs = (xs.map fun x => (adV x, k x)).map fun p => V.ref p.1 := by
    rw [List.map_map]
    have : xs.map ((fun p : Addr × List Int => V.ref p.1) ∘ fun x => (adV x, k x)) = xs.map id := List.map_congr_left fun x hm' => by
      obtain ⟨⟨t, rfl, _⟩, _⟩ := hx x hm'
      rfl
    rw [this, List.map_id]
  have eits : its = (xs.map fun x => (adV x, k x)).map fun p => Value.ref p.1 := refs_of_vals (by rw [← exs]; exact r)
  have hks : ∀ p ∈ xs.map (fun x => (adV x, k x)), H1 p.1 = some (.tup (p.2.map V.int)) ∧ p.2.length = d ∧ TS.Bd BB p.2 ∧ V.ref p.1 ∈ xs ∧ k (V.ref p.1) = p.2 := fun p hp => by
    obtain ⟨x, hm', rfl⟩ := List.mem_map.mp hp
    obtain ⟨⟨t, rfl, ht⟩, h2, h3⟩ := hx x hm'
    exact ⟨ht, h2, h3, hm', rfl⟩
  refine set_lstT (xs.map fun x => (adV x, k x)) (upT (xs.map k)) (I1.ok.hd hc) pl.isList (by simpa using eits) (fun p hp => I1.isT (SqT.of (hks p hp).1)) (fun p hp => ?_) hfew (by omega) fun h' tk L es ep t R hL1 hL2 hk => ?_
  · rw [upT_mem]
    obtain ⟨x, hm', rfl⟩ := List.mem_map.mp hp
    exact List.mem_map.mpr ⟨x, hm', rfl⟩
  refine PyProof.Rows.args_nil ?_
  have hb : H1 s1.heap.objs.size = none := I1.hok.fresh (Nat.le_refl _)
  have I2 : L2.Inv X pins σ (upd H1 s1.heap.objs.size (SetTO X.prog X.w s1.heap.objs.size L)) { s1 with heap := h', toks := tk } := I1.laid (t' := tk) (fun b u e => hk b _ e) (Nat.le_refl _) (setTO_new R.t0)
  refine cr_sortedT hc pins _ σ _ [.ref s1.heap.objs.size] _ Q I2 (.cons rfl .nil) ⟨_, L, d, BB, rfl, upd_same, fun p hp => SqT.of ?_, hd, fun p hp => ?_, fun L' p pm nd few pw hp => ?_⟩
  · rw [upd_ne (ne_of_none (hks p (hL1 p hp)).1 hb)]
    exact (hks p (hL1 p hp)).1
  · exact ⟨(hks p (hL1 p hp)).2.1, (hks p (hL1 p hp)).2.2.1⟩
  · have sub : ∀ q ∈ L', q ∈ xs.map (fun x => (adV x, k x)) := fun q hq => hL1 q (pm.mem_iff.mp hq)
    refine q1 _ _ _ _ (fun y hy => ?_) ?_ hb hp
    · obtain ⟨q, hq, rfl⟩ := List.mem_map.mp hy
      exact (hks q (sub q hq)).2.2.2.1
    · have e1 : (L'.map fun q => V.ref q.1).map k = L'.map (·.2) := by
        rw [List.map_map]
        exact List.map_congr_left fun q hq => (hks q (sub q hq)).2.2.2.2
      rw [e1]
      refine upT_same ?_ (upT_pw _) fun j => ?_
      · have nd' : L'.Pairwise fun q r => q.2 ≠ r.2 := List.pairwise_map.mp nd
        rw [UpT, List.pairwise_map]
        refine List.Pairwise.imp_of_mem (fun {q r} hq hr hh => ?_) (pw.and nd')
        exact lexLt_or (code_lex ((hks q (sub q hq)).2.1.trans (hks r (sub r hr)).2.1.symm) (hks q (sub q hq)).2.2.1 (hks r (sub r hr)).2.2.1 hh.1) fun e => hh.2 e.symm
      · rw [upT_mem]
        constructor
        · intro hj
          obtain ⟨q, hq, rfl⟩ := List.mem_map.mp hj
          obtain ⟨x, hm', e⟩ := List.mem_map.mp (sub q hq)
          exact List.mem_map.mpr ⟨x, hm', by rw [← e]⟩
        · intro hj
          obtain ⟨x, hm', rfl⟩ := List.mem_map.mp hj
          have := hL2 (adV x, k x) (List.mem_map.mpr ⟨x, hm', rfl⟩)
          exact ((pm.map (·.2)).mem_iff).mpr this
variable [HasT]
def sameLen (L : List (List Int)) : Bool := match L with
  | [] => true
  | x :: r => r.all fun y => decide (y.length = x.length)
def bdB (L : List (List Int)) : Bool := L.all fun x => x.all fun m => decide (0 ≤ m) && decide (m < BB)
def fSrtSetT (fin : FL) : F1 := fun x S => match x.lst? S with
    | some xs => (match tupsD xs with
      | some L => if (sameLen L && (bdB L && decide ((upT L).length < 63))) = true then fin ((upT L).map tupI) S else none
      | none => none)
    | none => none
section
variable {X : Cx} {W : WX}
theorem de_srtSetT {a : Expr} {ma : ME D} {fin : FL} {p p2 q pos : Pos} (hu : X.A.units + 65 < cLine) (n : NewL X fin) (hm : X.mg "sorted" = none) (hm2 : X.mg "set" = none) (ha : DE X W a ma) (hc : X.calm = true := by rfl) (hg : Gl X "sorted" := by rfl) (hg2 : Gl X "set" := by rfl)
    (na : starEach [a] X.env = (false, eval a X.env) :: starEach [] X.env := by rfl) : DE X W (.Call (.Name "sorted" p) [.Call (.Name "set" p2) [a] [] q] [] pos) (mOp1 (fSrtSetT fin) ma) :=
  PE.imp (pe_srtSetT hu hg hm hg2 hm2 ha hc na) fun σ H Q q => by
    obtain ⟨ρ, S, ι, F, at', t⟩ := q
    refine T.first at' t fun d1 S1 F1 ι1 H1 v1 n1 a1 r1 t1 => ?_
    obtain ⟨d', S', e, q⟩ := lift_then t1
    unfold fSrtSetT at e
    split at e
    · rename_i xs ex
      split at e
      · rename_i L eL
        split at e
        · rename_i hl
          simp only [Bool.and_eq_true, decide_eq_true_eq] at hl
          obtain ⟨hs, hb, hf⟩ := hl
          obtain ⟨el, hne⟩ := tups_eq eL
          obtain ⟨a', us, rfl, q1, rd⟩ := lst?_rel a1.r ex r1
          rw [el] at rd
          obtain ⟨f1, f2⟩ := relTups rd
          have hbd : ∀ l ∈ L, TS.Bd BB l := fun l hl m hm => by
            have := List.all_eq_true.mp (List.all_eq_true.mp hb l hl) m hm
            simpa using this
          have hlen : ∃ d, 1 ≤ d ∧ ∀ l ∈ L, l.length = d := by
            cases L with
            | nil => exact ⟨1, Nat.le_refl _, fun l hl => absurd hl List.not_mem_nil⟩
            | cons x r =>
              refine ⟨x.length, List.length_pos_iff.mpr (hne x List.mem_cons_self), fun l hl => ?_⟩
              rcases List.mem_cons.mp hl with rfl | hl
              · rfl
              · simpa using List.all_eq_true.mp hs l hl
          obtain ⟨d, hd, hdl⟩ := hlen
          have inL : ∀ x ∈ us, keyV H1 x ∈ L := fun x hx => by rw [← f2]; exact List.mem_map.mpr ⟨x, hx, rfl⟩
          refine ⟨a', us, keyV H1, d, rfl, q1, hd, fun x hx => ⟨f1 x hx, hdl _ (inL x hx), hbd _ (inL x hx)⟩, by rw [f2]; exact hf, fun b p o ys hy hk hb hp => ?_⟩
          have n2 : Nxt (gb X) F1 ι1 H1 F1 ι1 S1 (upd H1 b o) := Nxt.fresh a1.r hb
          have rd2 : RelDs (gb X) F1 ι1 H1 ((upT L).map tupI) ys := by
            rw [← f2, ← hk]
            exact mkTups fun v hv => f1 v (hy v hv)
          exact (n n2.r (n2.ds rd2) e fun F' ι' H' v nx rv => q F' ι' H' (n2.trans nx) v rv).2 p hp
        · cases e
      · cases e
    · cases e
end
end DL
set_option maxHeartbeats 4000000
/-! DLBigSet: len(set(xs)) of many tuples of ints whose hashes all differ (up to 300: a table of 512). -/
namespace DL
open PySem PySem.Spec PyProof.Rows L2

/-! ### tables of 8, 32, 128, 512 -/
def MOk (m : Nat) : Prop := MaskOk m ∨ m = 511
def orb (m x : Nat) : Nat → List Nat
  | 0 => []
  | n + 1 => x :: orb m ((x * 5 + 1) % (m + 1)) n
theorem lcgI_sh (m x : Nat) : ∀ k, lcgI m ((x * 5 + 1) % (m + 1)) k = lcgI m x (k + 1)
  | 0 => rfl
  | k + 1 => by
    show (lcgI m ((x * 5 + 1) % (m + 1)) k * 5 + 1) % (m + 1) = (lcgI m x (k + 1) * 5 + 1) % (m + 1)
    rw [lcgI_sh m x k]
theorem orb_mem (m : Nat) : ∀ (n x j : Nat), j ∈ orb m x n → ∃ b, b < n ∧ lcgI m x b = j
  | 0, _, _, h => by cases h
  | n + 1, x, j, h => by
    rcases List.mem_cons.mp h with e | e
    · exact ⟨0, Nat.succ_pos _, e.symm⟩
    · obtain ⟨b, hb, e2⟩ := orb_mem m n _ j e
      exact ⟨b + 1, Nat.succ_lt_succ hb, by rw [← lcgI_sh]; exact e2⟩
theorem orb_all : ((List.range 512).all fun j => (orb 511 0 512).contains j) = true := by decide +kernel
theorem lcgI_add (m x a : Nat) : ∀ k, lcgI m (lcgI m x a) k = lcgI m x (a + k)
  | 0 => rfl
  | k + 1 => by
    show (lcgI m (lcgI m x a) k * 5 + 1) % (m + 1) = (lcgI m x (a + k) * 5 + 1) % (m + 1)
    rw [lcgI_add m x a k]
def itN (m : Nat) : Nat → Nat → Nat
  | 0, x => x
  | n + 1, x => itN m n ((x * 5 + 1) % (m + 1))
theorem itN_eq (m : Nat) : ∀ n x, itN m n x = lcgI m x n
  | 0, _ => rfl
  | n + 1, x => (itN_eq m n _).trans (lcgI_sh m x n)
theorem round_511 : lcgI 511 0 512 = 0 := by
  rw [← itN_eq]
  decide +kernel
theorem meet_511 {i j : Nat} (hi : i ≤ 511) (hj : j ≤ 511) : ∃ k, k ≤ 511 ∧ lcgI 511 i k = j := by
  have key : ∀ j, j ≤ 511 → ∃ b, b < 512 ∧ lcgI 511 0 b = j := fun j hj =>
    orb_mem 511 512 0 j (by simpa using List.all_eq_true.mp orb_all j (List.mem_range.mpr (by omega)))
  obtain ⟨a, ha, rfl⟩ := key i hi
  obtain ⟨b, hb, rfl⟩ := key j hj
  rcases Nat.lt_or_ge b a with c | c
  · refine ⟨b + 512 - a, by omega, ?_⟩
    rw [lcgI_add, show a + (b + 512 - a) = 512 + b by omega, ← lcgI_add, round_511]
  · refine ⟨b - a, by omega, ?_⟩
    rw [lcgI_add, show a + (b - a) = b by omega]
theorem meets {m : Nat} (hm : MOk m) (h : Int) {j : Nat} (hj : j ≤ m) : ∃ n, n ≤ m + 12 ∧ runI m (SetTable.bits h) n = j := by
  rcases hm with hm | rfl
  · exact run_meets hm h hj
  · obtain ⟨k, hk, e⟩ := meet_511 (runI_le 511 (SetTable.bits h) 12) hj
    exact ⟨12 + k, by omega, (runI_tail (bits_lt h) k).trans e⟩
theorem way_in {m : Nat} {h : Int} {k : Nat} : way m h k ≤ m := by
  have hi : SetTable.bits h % (m + 1) ≤ m := Nat.le_of_lt_succ (Nat.mod_lt _ (Nat.succ_pos _))
  have r := runEnd_bd hi
  have q := nth_in (m := m) k (runAt m (SetTable.bits h % (m + 1)) (SetTable.bits h)) (show SetTable.bits h % (m + 1) + (SetTable.runEnd m (SetTable.bits h % (m + 1)) - SetTable.bits h % (m + 1)) ≤ m by omega)
  exact Nat.le_trans (Nat.le_add_right _ _) q
/-- the first slot of the way of which something is true -/
theorem way_first {m : Nat} (hm : MOk m) (h : Int) {p : Nat → Prop} {j : Nat} (hj : j ≤ m) (hp : p j) :
    ∃ n K, n ≤ m + 12 ∧ K ≤ off m (SetTable.bits h % (m + 1)) (SetTable.bits h) n ∧ p (way m h K) ∧ ∀ k, k < K → ¬ p (way m h k) := by
  obtain ⟨n, hn, e⟩ := meets hm h hj
  have hw : way m h (off m (SetTable.bits h % (m + 1)) (SetTable.bits h) n) = j := by
    show (nth m (runAt m (SetTable.bits h % (m + 1)) (SetTable.bits h)) (off m (SetTable.bits h % (m + 1)) (SetTable.bits h) n)).j = j
    rw [nth_off, itL_run]
    exact e
  obtain ⟨K, k1, k2, k3⟩ := st_least (p := fun k => p (way m h k)) (off m (SetTable.bits h % (m + 1)) (SetTable.bits h) n) (by show p (way m h _); rw [hw]; exact hp)
  exact ⟨n, K, hn, k1, k2, k3⟩
theorem off_le (m : Nat) : ∀ (n i b : Nat), i ≤ m → off m i b n ≤ 10 * n
  | 0, _, _, _ => Nat.le_refl _
  | n + 1, i, b, hi => by
    have r := runEnd_bd hi
    have ih := off_le m n (SetTable.leap m i b).1 (SetTable.leap m i b).2 (leap_le m i b)
    show (SetTable.runEnd m i - i + 1) + off m (SetTable.leap m i b).1 (SetTable.leap m i b).2 n ≤ _
    omega
theorem free_slot {m : Nat} (hm : MOk m) (place : List Nat) (hl : place.length ≤ m) (h : Int) : ∃ K, K < 10 * SetTable.turns m ∧ way m h K ∉ place ∧ ∀ k, k < K → way m h k ∈ place := by
  obtain ⟨j, hj, hn⟩ := st_missing place (m + 1) (by omega)
  obtain ⟨n, K, h1, h2, h3, h4⟩ := way_first hm h (p := (· ∉ place)) (Nat.le_of_lt_succ hj) hn
  have := off_le m n (SetTable.bits h % (m + 1)) (SetTable.bits h) (Nat.le_of_lt_succ (Nat.mod_lt _ (Nat.succ_pos _)))
  exact ⟨K, by unfold SetTable.turns; omega, h3, fun k hk => Classical.not_not.mp (h4 k hk)⟩
/-! ### laying anew -/
structure OwN (m n : Nat) (owner : Array (Option Nat)) : Prop where
  sz : owner.size = m + 1
  all : ∀ k, k < n → ∃ j, j ≤ m ∧ oAt owner j = some k
  ps : ∃ ps : List Nat, ps.length = n ∧ ∀ j, j ≤ m → oAt owner j ≠ none → j ∈ ps
theorem ownN_init (m : Nat) : OwN m 0 (Array.replicate (m + 1) none) :=
  ⟨by simp, fun k hk => absurd hk (Nat.not_lt_zero _), [], rfl, fun j hj e => absurd (oAt_init hj) e⟩
theorem ownN_step {m : Nat} (hm : MOk m) {n : Nat} {owner : Array (Option Nat)} (W : OwN m n owner) (hl : n ≤ m) (h : Int) :
    ∃ j, SetTable.layClean.free m owner (SetTable.turns m) (SetTable.bits h % (m + 1)) (SetTable.bits h) = some j ∧ OwN m (n + 1) (owner.setIfInBounds j (some n)) := by
  obtain ⟨ps, hps, hin⟩ := W.ps
  obtain ⟨j0, h0, hn0⟩ := st_missing ps (m + 1) (by omega)
  have hj0 : oAt owner j0 = none := Classical.not_not.mp fun z => hn0 (hin j0 (Nat.le_of_lt_succ h0) z)
  obtain ⟨q, K, h1, h2, h3, h4⟩ := way_first hm h (p := fun j => oAt owner j = none) (Nat.le_of_lt_succ h0) hj0
  have e1 : SetTable.layClean.free m owner (SetTable.turns m) (SetTable.bits h % (m + 1)) (SetTable.bits h) = some (way m h K) :=
    free_spec m owner (SetTable.turns m) q _ _ K (by unfold SetTable.turns; omega) h2 (fun k hk => by
      have z := h4 k hk
      revert z
      show ¬ (oAt owner (way m h k) = none) → (oAt owner (way m h k)).isNone = false
      cases oAt owner (way m h k) <;> simp) (by
      show (oAt owner (way m h K)).isNone = true
      rw [h3] <;> rfl)
  have hjm : way m h K ≤ m := way_in
  refine ⟨_, e1, ?_⟩
  have hself := oAt_set_self (some n) (show way m h K < owner.size by rw [W.sz]; omega)
  refine ⟨by rw [Array.size_setIfInBounds]; exact W.sz, fun k hk => ?_, way m h K :: ps, by rw [List.length_cons, hps], fun j hj e => ?_⟩
  · rcases Nat.lt_or_ge k n with c | c
    · obtain ⟨j, hj, e⟩ := W.all k c
      exact ⟨j, hj, by rw [oAt_set_ne _ (fun z => by rw [z, h3] at e; cases e)]; exact e⟩
    · obtain rfl : k = n := by omega
      exact ⟨_, hjm, hself⟩
  · by_cases c : j = way m h K
    · rw [c]; exact List.mem_cons_self
    · rw [oAt_set_ne _ c] at e
      exact List.mem_cons_of_mem _ (hin j hj e)
theorem ownN_fold {m : Nat} (hm : MOk m) : ∀ (rest : List Int) (n : Nat) (owner : Array (Option Nat)), OwN m n owner → n + rest.length ≤ m →
    ∃ owner', rest.foldl (stepF m) (some (owner, n)) = some (owner', n + rest.length) ∧ OwN m (n + rest.length) owner'
  | [], n, owner, W, _ => ⟨owner, rfl, W⟩
  | h :: rest, n, owner, W, hl => by
    rw [List.length_cons] at hl
    obtain ⟨j, e, W'⟩ := ownN_step hm W (by omega) h
    obtain ⟨o', f, W2⟩ := ownN_fold hm rest (n + 1) _ W' (by omega)
    rw [List.length_cons, show n + (rest.length + 1) = n + 1 + rest.length by omega]
    exact ⟨o', by rw [List.foldl_cons, stepF_some e]; exact f, W2⟩
theorem laid_anew (t : SetTable) {hs : Array Int} {wanted M : Nat} (hw : SetTable.sizeAbove wanted - 1 = M) (hM : MOk M) (hn : hs.size ≤ M) :
    ∃ t' order, t.relaid hs wanted = some (t', order) ∧ order.toList.Perm (List.range hs.size) ∧ Ris t'.place.toList ∧ (∀ x ∈ t'.place.toList, x ≤ M) ∧ t'.place.size = hs.size ∧ t'.mask = M ∧ t'.led = t.led ∧ t'.plain = t.plain ∧ t'.dummies = #[] := by
  obtain ⟨owner, f, W⟩ := ownN_fold hM hs.toList 0 _ (ownN_init M) (by rw [Array.length_toList]; omega)
  rw [Array.length_toList, Nat.zero_add] at f W
  have e : SetTable.layClean M hs = some owner := by rw [layClean_eq, f] <;> rfl
  have hr : t.relaid hs wanted = some (tabOf t M owner, ((liveOf M owner).map (·.2)).toArray) := by
    rw [relaid_eq, hw, e] <;> rfl
  have ris := ris_live (fun j => owner.getD j none) (List.range (M + 1)) (by unfold Ris; exact List.pairwise_lt_range)
  have r1 : Ris ((liveOf M owner).map (·.1)) := ris.1
  have nd : ((liveOf M owner).map (·.1)).Nodup := List.Pairwise.imp (fun h => Nat.ne_of_lt h) r1
  have hall : ∀ k, k < hs.size → k ∈ (liveOf M owner).map (·.2) := fun k hk => by
    obtain ⟨j, b1, b2⟩ := W.all k hk
    exact List.mem_map.mpr ⟨(j, k), (mem_live W.sz).2 ⟨b1, b2⟩, rfl⟩
  have hlen : (liveOf M owner).length = hs.size := by
    obtain ⟨ps, p1, p2⟩ := W.ps
    have a := nat_nodup_len ((liveOf M owner).map (·.1)) ps nd fun x hx => by
      obtain ⟨⟨y, k⟩, hq, rfl⟩ := List.mem_map.mp hx
      obtain ⟨b1, b2⟩ := (mem_live W.sz).1 hq
      exact p2 y b1 (by rw [b2]; exact fun z => nomatch z)
    have b := nat_nodup_len (List.range hs.size) ((liveOf M owner).map (·.2)) List.nodup_range fun k hk => hall k (List.mem_range.mp hk)
    rw [List.length_map, p1] at a
    rw [List.length_map, List.length_range] at b
    omega
  refine ⟨_, _, hr, perm_range hs.size _ ?_ hall, r1, fun x hx => Nat.le_of_lt_succ (List.mem_range.mp (ris.2 x hx)), ?_, rfl, rfl, rfl, rfl⟩
  · show ((liveOf M owner).map (·.2)).length = hs.size
    rw [List.length_map]; exact hlen
  · show ((liveOf M owner).map (·.1)).toArray.size = hs.size
    rw [List.size_toArray, List.length_map]; exact hlen

/-! ### the set -/
structure SetN (P : Program) (w : World) (h : Heap) (a : Addr) (L : List (Addr × List Int)) (es : Array (Int × Value)) (ep : Nat) (t : SetTable) : Prop where
  ob : ∃ o, h.get? a = some o ∧ o.ExactSet ∧ o.data = .set es ep t
  rows : es.toList = rowsOf P w L
  ris : Ris t.place.toList
  dm : t.dummies = #[]
  sz : t.place.size = L.length
  mok : MOk t.mask
  plain : t.plain = true
  room : L.length * 5 < t.mask * 3
section
variable {P : Program} {w : World} {A : Around} {E : Value → Shared → Prop} {s : Shared}
variable {a : Addr} {L : List (Addr × List Int)} {es : Array (Int × Value)} {ep : Nat} {t : SetTable}
theorem SetN.size (R : SetN P w s.heap a L es ep t) : es.size = L.length := by
  have h := congrArg List.length R.rows
  unfold rowsOf at h
  rwa [Array.length_toList, List.length_map] at h
theorem SetN.fits (R : SetN P w s.heap a L es ep t) : t.fits es.size = true := by
  have h1 := R.sz
  have h2 := R.size
  have h3 := R.room
  unfold SetTable.fits SetTable.fill
  rw [R.dm, Bool.and_eq_true, beq_iff_eq, decide_eq_true_eq]
  show t.place.size = es.size ∧ t.place.size + 0 ≤ t.mask
  omega
theorem SetN.gw (R : SetN P w s.heap a L es ep t) : ¬ t.gaveWay = true := by
  have : t.mask % 2 = 1 := by
    rcases R.mok with e | e
    · exact mask_odd e
    · rw [e]
  unfold SetTable.gaveWay
  rw [this]
  decide
theorem set_search (R : SetN P w s.heap a L es ep t) {x : Value} {h : Int} (hf : ∀ p ∈ L, thash P w p.2 ≠ h) {Q : SetFound → Shared → Prop}
    (hout : ∀ K, way t.mask h K ∉ t.place.toList → Q (.free (way t.mask h K) false) s) :
    wpAny (model P w) A (setSearch a x h true) Q E s := by
  obtain ⟨o, ho, hex, hd⟩ := R.ob
  have hroom := R.room
  obtain ⟨K, hKf, hK, hKb⟩ := free_slot R.mok t.place.toList (by rw [Array.length_toList, R.sz]; omega) h
  unfold setSearch
  rw [show (100000 : Nat) = 99999 + 1 from rfl, setSearchFrom_succ]
  refine wpAny_bind (wpAny_setState_of ho hd R.fits ?_)
  dsimp only
  refine wp_if_neg R.gw ?_
  try refine wpAny_bind (wpAny_pure ?_)
  have hpr : t.probe (fun i => (es[i]?.map (·.1)).getD 0) h (Option.getD none (t.probeStart h)) = some (.empty (way t.mask h K) none) := by
    rcases go_spec t R.ris R.dm (fun i => (es[i]?.map (·.1)).getD 0) h (10 * SetTable.turns t.mask) K (t.probeStart h) rfl hKf hKb hK with ⟨q, i, _, hi, hh, _, _⟩ | ⟨_, e⟩
    · exfalso
      have hil : i < L.length := by
        have h1 : i < t.place.toList.length := (List.getElem?_eq_some_iff.mp hi).1
        rwa [Array.length_toList, R.sz] at h1
      have e2 : es[i]? = some (thash P w (L[i]).2, Value.ref (L[i]).1) := by
        rw [← Array.getElem?_toList, R.rows]
        unfold rowsOf
        rw [List.getElem?_map, List.getElem?_eq_getElem hil] <;> rfl
      rw [e2] at hh
      exact hf _ (List.getElem_mem hil) hh
    · exact e
  rw [hpr]
  dsimp only
  exact wpAny_pure (hout K hK)
theorem set_relay {o : Obj} (ho : s.heap.get? a = some o) (hex : o.ExactSet) (hd : o.data = .set es ep t) (hrows : es.toList = rowsOf P w L) (hsz : t.place.size = es.size) (hdm : t.dummies = #[]) (hfl : es.size ≤ t.mask)
    (pl : t.plain = true) {wanted M : Nat} (hw : SetTable.sizeAbove wanted - 1 = M) (hM : MOk M) (hw2 : SetTable.sizeAbove wanted ≤ 512) (hn : L.length * 5 < M * 3) {Q : Unit → Shared → Prop}
    (hQ : ∀ h' L' es' ep' t', Heap.SameBut a s.heap h' → SetN P w h' a L' es' ep' t' → L'.Perm L → Q () { s with heap := h' }) : wpAny (model P w) A (setRelay a wanted) Q E s := by
  have hsl : es.size = L.length := by
    have h := congrArg List.length hrows
    unfold rowsOf at h
    rwa [Array.length_toList, List.length_map] at h
  have hfits : t.fits es.size = true := by
    unfold SetTable.fits SetTable.fill
    rw [hdm, Bool.and_eq_true, beq_iff_eq, decide_eq_true_eq]
    show t.place.size = es.size ∧ t.place.size + 0 ≤ t.mask
    omega
  obtain ⟨t', order, e, hp, ris, bd, sz, em, el, ep', ed⟩ := laid_anew t (hs := es.map (·.1)) (wanted := wanted) hw hM (by rw [Array.size_map, hsl]; omega)
  rw [Array.size_map, hsl] at hp sz
  obtain ⟨L2, r1, r2, r3⟩ := order_rows L es order hrows hp
  have hs2 : (order.filterMap (es[·]?)).size = es.size := by
    have h := congrArg List.length r1
    unfold rowsOf at h
    rw [Array.length_toList, List.length_map, r2.length_eq] at h
    rw [h, hsl]
  rw [setRelay_eq]
  refine wpAny_bind (wpAny_setState_of ho hd hfits ?_)
  dsimp only
  refine wp_if_neg (by rw [sizeLine_eq]; omega) ?_
  try refine wpAny_bind (wpAny_pure ?_)
  rw [e]
  dsimp only
  refine wpAny_bind ?_
  refine wp_if_neg (by rw [hs2]; simp) ?_
  try refine wpAny_bind (wpAny_pure ?_)
  refine wpAny_pure ?_
  dsimp only
  refine wpAny_storeSet_of ho hd ?_ (by
    rw [hs2, hsl, sizeLine_eq]
    have : M ≤ 511 := by rcases hM with (z | z | z) | z <;> omega
    omega)
  have sb : Heap.SameBut a s.heap (s.heap.update a (Obj.putSet (order.filterMap (es[·]?)) t')) := Heap.SameBut.update ..
  refine hQ _ L2 (order.filterMap (es[·]?)) (ep + 1) t' sb ?_ r2
  refine ⟨⟨_, store_at ho hd, ⟨hex.1, hex.2.1, hex.2.2⟩, rfl⟩, r1, ris, ed, by rw [sz, r2.length_eq], by rw [em]; exact hM, by rw [ep']; exact pl, by rw [r2.length_eq, em]; exact hn⟩
theorem size_308 : SetTable.sizeAbove (SetTable.grown 77) = 512 := by decide +kernel
theorem set_add (R : SetN P w s.heap a L es ep t) {x : Addr} {k : List Int} (hx : IsT P w s.heap k x) (hf : ∀ p ∈ L, thash P w p.2 ≠ thash P w k) (hfew : L.length < 300) {Q : Bool → Shared → Prop}
    (hQ : ∀ b h' L' es' ep' t', Heap.SameBut a s.heap h' → SetN P w h' a L' es' ep' t' → L'.Perm ((x, k) :: L) → Q b { s with heap := h' }) :
    wpAny (model P w) A (setAddHashed a (.ref x) (thash P w k)) Q E s := by
  obtain ⟨o, ho, hex, hd⟩ := R.ob
  have hsl := R.size
  have hroom := R.room
  have hmask : t.mask ≤ 511 := by rcases R.mok with (z | z | z) | z <;> omega
  unfold setAddHashed
  refine wpAny_holding ?_
  rw [show (100000 : Nat) = 99999 + 1 from rfl, setAddHashedIn_succ]
  refine wpAny_bind (wpAny_setState_of ho hd R.fits ?_)
  dsimp only
  refine wp_if_neg (by simp [byScan, Value.scannable]) ?_
  try refine wpAny_bind (wpAny_pure ?_)
  refine wpAny_bind (set_search R hf fun K hK => ?_)
  dsimp only
  refine wpAny_bind (wpAny_setState_of ho hd R.fits ?_)
  dsimp only
  generalize way t.mask (thash P w k) K = j at hK ⊢
  obtain ⟨c1, _, _⟩ := below_cut R.ris j
  have hpl : SetTable.below t.place j ≤ t.place.toList.length := by
    rw [Array.length_toList]; exact c1
  have hnp : t.place[SetTable.below t.place j]? ≠ some j := fun e => hK (List.mem_of_getElem? (by rw [Array.getElem?_toList]; exact e))
  have q2 : Ris (t.put j).1.place.toList := ris_insert R.ris hnp
  have q3 : (t.put j).1.dummies = #[] := put_dm R.dm j
  have q4 : (t.put j).1.place.size = L.length + 1 := by
    rw [← Array.length_toList, put_place t j, len_ins _ hpl, Array.length_toList, R.sz]
  have q5 : (t.put j).1.plain = true := R.plain
  have q6 : (t.put j).1.mask = t.mask := rfl
  have q7 : (t.put j).1.fill = L.length + 1 := by
    show (t.put j).1.place.size + (t.put j).1.dummies.size = _
    rw [q4, q3] <;> rfl
  have q8 : (t.put j).2 = SetTable.below t.place j := rfl
  generalize hpt : t.put j = pt at q2 q3 q4 q5 q6 q7 q8 ⊢
  obtain ⟨t1, p⟩ := pt
  dsimp only at q2 q3 q4 q5 q6 q7 q8 ⊢
  first
    | (refine wpAny_bind ?_; refine wp_if_pos q5 ?_; refine hashBy_tup hx ?_)
    | refine wp_if_pos q5 (wpAny_bind (hashBy_tup hx ?_))
  simp only [if_true]
  have hin : (SetTable.insertAt es p (thash P w k, Value.ref x)).toList = rowsOf P w (L.take p ++ (x, k) :: L.drop p) := by
    rw [SetTable.toList_insertAt, rows_put, R.rows]
  have pm := put_perm L p (x, k)
  have hlen : (L.take p ++ (x, k) :: L.drop p).length = L.length + 1 := pm.length_eq
  have hes : (SetTable.insertAt es p (thash P w k, Value.ref x)).size = L.length + 1 := by
    have h := congrArg List.length hin
    unfold rowsOf at h
    rwa [Array.length_toList, List.length_map, hlen] at h
  generalize SetTable.insertAt es p (thash P w k, Value.ref x) = es1 at hin hes ⊢
  generalize L.take p ++ (x, k) :: L.drop p = L1 at pm hlen hin
  refine wpAny_bind (wpAny_storeSet_of ho hd ?_ (by rw [hes, sizeLine_eq]; omega))
  have sb : Heap.SameBut a s.heap (s.heap.update a (Obj.putSet es1 t1)) := Heap.SameBut.update ..
  have ho1 := store_at (es' := es1) (t' := t1) ho hd
  generalize s.heap.update a (Obj.putSet es1 t1) = h1 at sb ho1 ⊢
  by_cases hf : t1.tooFull = true
  · first
      | (refine wpAny_bind ?_; refine wp_if_pos (by simp [hf]) ?_)
      | (refine wp_if_pos (by simp [hf]) ?_; refine wpAny_bind ?_)
    have hfull : (L.length + 1) * 5 ≥ t1.mask * 3 := by
      have h := hf
      unfold SetTable.tooFull at h
      rwa [decide_eq_true_eq, q7] at h
    rw [hsl]
    have cases2 : (t.mask = 7 ∧ L.length = 4) ∨ (t.mask = 31 ∧ L.length = 18) ∨ (t.mask = 127 ∧ L.length = 76) := by
      rw [q6] at hfull
      rcases R.mok with (e | e | e) | e
      · left; exact ⟨e, by omega⟩
      · right; left; exact ⟨e, by omega⟩
      · right; right; exact ⟨e, by omega⟩
      · exfalso; omega
    have go : ∀ M, SetTable.sizeAbove (SetTable.grown (L.length + 1)) - 1 = M → MOk M → SetTable.sizeAbove (SetTable.grown (L.length + 1)) ≤ 512 → (L.length + 1) * 5 < M * 3 →
        wpAny (model P w) A (setRelay a (SetTable.grown (L.length + 1))) (fun _ s' => wpAny (model P w) A (pure true) Q E s') E { s with heap := h1 } := fun M h1' h2' h3' h4' => by
      refine set_relay (s := { s with heap := h1 }) ho1 ⟨hex.1, hex.2.1, hex.2.2⟩ rfl hin (by rw [q4, hes]) q3 (by rw [hes, q6]; omega) q5 h1' h2' h3' (by rw [hlen]; exact h4') ?_
      intro h2 L2 es2 ep2 t2 sb2 R2 pm2
      exact wpAny_pure (hQ true h2 L2 es2 ep2 t2 (sb.trans sb2) R2 (pm2.trans pm))
    rcases cases2 with ⟨_, e2⟩ | ⟨_, e2⟩ | ⟨_, e2⟩
    · refine go 31 (by rw [e2, size_20]) (.inl (.inr (.inl rfl))) (by rw [e2, size_20]; decide) (by omega)
    · refine go 127 (by rw [e2, size_76]) (.inl (.inr (.inr rfl))) (by rw [e2, size_76]; decide) (by omega)
    · refine go 511 (by rw [e2, size_308]) (.inr rfl) (by rw [e2, size_308]; decide) (by omega)
  · first
      | refine wp_if_neg (by simp [hf]) ?_
      | (refine wpAny_bind ?_; refine wp_if_neg (by simp [hf]) ?_; refine wpAny_pure ?_)
    refine wpAny_pure (hQ true h1 L1 es1 (ep + 1) t1 sb ⟨⟨_, ho1, ⟨hex.1, hex.2.1, hex.2.2⟩, rfl⟩, hin, q2, q3, by rw [q4, hlen], by rw [q6]; exact R.mok, q5, ?_⟩ pm)
    have h := hf
    unfold SetTable.tooFull at h
    rw [decide_eq_true_eq, q7] at h
    rw [hlen]
    omega
theorem setN_fresh {h : Heap} {a : Addr} (ho : h.get? a = some { cls := .type "set", dict := none, data := .set #[] 0 (.fresh 0 0 (!w.params.followText "set-order")) }) : SetN P w h a [] #[] 0 (.fresh 0 0 (!w.params.followText "set-order")) :=
  ⟨⟨_, ho, ⟨rfl, rfl, rfl⟩, rfl⟩, rfl, List.Pairwise.nil, rfl, rfl, .inl (.inl rfl), rfl, (by show 0 * 5 < 7 * 3; decide)⟩
/-- set(l) of a list of tuples of ints whose hashes all differ -/
theorem set_lstN {l : Addr} {items : Array Value} (ks : List (Addr × List Int)) {Q : Value → Shared → Prop} (hh : A.handled = none) (hl : s.heap.IsList l items) (hit : items.toList = ks.map fun p => Value.ref p.1)
    (hk : ∀ p ∈ ks, IsT P w s.heap p.2 p.1) (hnd : (ks.map fun p => thash P w p.2).Nodup) (hfew : ks.length ≤ 300) (hu : A.units + 3 < cLine)
    (h : ∀ (h' : Heap) (tk : Nat) L es ep t, SetN P w h' s.heap.objs.size L es ep t → L.length = ks.length → (∀ b o, s.heap.get? b = some o → h'.get? b = some o) → Q (.ref s.heap.objs.size) { s with heap := h', toks := tk }) :
    wpAny (model P w) A (call (.type "set") [.ref l]) Q E s := by
  have lt : ∀ p ∈ ks, p.1 < s.heap.objs.size := fun p hp => by
    obtain ⟨o, its, n, ho, _⟩ := hk p hp
    exact Heap.lt_size ho
  have hn : items.size = ks.length := by
    have q := congrArg List.length hit
    rwa [Array.length_toList, List.length_map] at q
  refine set_lstG (J := fun i h' => (∀ p ∈ ks, IsT P w h' p.2 p.1) ∧ ∃ L es ep t, SetN P w h' s.heap.objs.size L es ep t ∧ L.Perm (ks.take i)) hh hl ?_ ?_ ?_ ?_
  · rintro i h1 h2 ⟨j1, L, es, ep, t, R, g⟩ k
    have k1 : ∀ p ∈ ks, IsT P w h2 p.2 p.1 := fun p hp => by
      obtain ⟨o, its, n, ho, r⟩ := j1 p hp
      exact ⟨o, its, n, k p.1 o (Nat.ne_of_lt (Nat.lt_succ_of_lt (lt p hp))) ho, r⟩
    obtain ⟨o, ho, hex⟩ := R.ob
    exact ⟨k1, L, es, ep, t, ⟨⟨o, k _ o (Nat.ne_of_lt (Nat.lt_succ_self _)) ho, hex⟩, R.rows, R.ris, R.dm, R.sz, R.mok, R.plain, R.room⟩, g⟩
  · rintro i v s1 Q' E' hv ⟨j1, L, es, ep, t, R, g⟩ q
    have hv' : (ks.map fun p => Value.ref p.1)[i]? = some v := by rw [← hit, Array.getElem?_toList]; exact hv
    rw [List.getElem?_map] at hv'
    obtain ⟨p, hp, rfl⟩ := Option.map_eq_some_iff.mp hv'
    have hpk := List.mem_of_getElem? hp
    have hil : i < ks.length := (List.getElem?_eq_some_iff.mp hp).1
    have hu3 : A.in1.in1.in1.units < cLine := by
      have : A.in1.in1.in1.units = A.units + 3 := rfl
      omega
    have hL : L.length = i := by
      rw [g.length_eq, List.length_take]
      omega
    have tn := take_next hp
    have hno : ∀ p' ∈ L, thash P w p'.2 ≠ thash P w p.2 := fun p' hp' e => by
      have h1 : ((ks.take (i + 1)).map fun p => thash P w p.2).Nodup := by
        rw [List.map_take]
        exact hnd.sublist (List.take_sublist _ _)
      rw [tn, List.map_append, List.nodup_append] at h1
      exact h1.2.2 _ (List.mem_map.mpr ⟨p', g.mem_iff.mp hp', rfl⟩) _ (List.mem_singleton.mpr rfl) e
    unfold setAdd
    refine wpAny_holding (wpAny_bind (wpAny_pyHash_tuple hu3 (j1 p hpk) ?_))
    refine set_add (s := { s1 with toks := s1.toks + (p.2.length + 1) }) R (j1 p hpk) hno (by omega) fun b h' L' es' ep' t' hs R' pm => q b h' _ (Nat.le_add_right _ _) hs ⟨fun p' hp' => ?_, L', es', ep', t', R', ?_⟩
    · obtain ⟨o, its, n, ho, r⟩ := j1 p' hp'
      exact ⟨o, its, n, by rw [hs.2 p'.1 (Nat.ne_of_lt (lt p' hp'))]; exact ho, r⟩
    · rw [tn]
      exact pm.trans ((g.cons p).trans (List.perm_append_singleton p _).symm)
  · intro h' hS k
    exact ⟨fun p hp => isT_keep (hk p hp) k, [], #[], 0, _, setN_fresh hS, List.Perm.refl _⟩
  · rintro h' tk ⟨j1, L, es, ep, t, R, g⟩ k
    rw [hn, List.take_length] at g
    exact h h' tk L es ep t R g.length_eq k
end

/-! ### len(set(xs)) -/
def hashT (k : List Int) : Int := reduceHash (Builtin.Tuple.tupleHashOf (k.map hashInt))
def tLenSetN (K : PySem.W.Frag) (ta : TE) : TE := fun σ H Q => ta σ H fun x H1 => ∃ (l : Addr) (xs : List V) (k : V → List Int), x = .ref l ∧ SqL K H1 l xs ∧
  (∀ x ∈ xs, ∃ t, x = .ref t ∧ H1 t = some (.tup ((k x).map V.int))) ∧ (xs.map fun x => hashT (k x)).Nodup ∧ xs.length ≤ 300 ∧ Q (.int xs.length) H1
theorem pe_lenSetN {X : Cx} {a : Expr} {ta : TE} {p p2 q pos : Pos} (hu : X.A.units + 65 < cLine) (hg : Gl X "len") (hm : X.mg "len" = none) (hg2 : Gl X "set") (hm2 : X.mg "set" = none) (ha : PE X a ta) (hc : X.calm = true := by rfl)
    (na : starEach [a] X.env = (false, eval a X.env) :: starEach [] X.env := by rfl) : PE X (.Call (.Name "len" p) [.Call (.Name "set" p2) [a] [] q] [] pos) (tLenSetN X.K ta) := by
  refine ⟨fun pins s σ H Q I h => ?_⟩
  refine Call_ (ld_blt I hg hm PySem.boot_len ?_)
  refine PyProof.Rows.callWith_builtin1 (PyProof.Rows.args_cons ?_ rfl) rfl rfl
  refine Call_ (ld_blt I hg2 hm2 boot_set ?_)
  refine PyProof.Rows.callWith_type1 (PyProof.Rows.args_cons (thn (ha.run pins s σ H _ I h) fun v s1 ⟨x, H1, I1, r1, q1⟩ => PyProof.Rows.args_nil ?_) na) na rfl
  obtain ⟨l, xs, k, rfl, hq, hx, hnd, hfew, q1⟩ := q1
  cases r1
  obtain ⟨its, r, pl, hz⟩ := I1.list hq
  have exs : xs = (xs.map fun x => (adV x, k x)).map fun p => V.ref p.1 := by
    rw [List.map_map]
    have : xs.map ((fun p : Addr × List Int => V.ref p.1) ∘ fun x => (adV x, k x)) = xs.map id := List.map_congr_left fun x hm' => by
      obtain ⟨t, rfl, _⟩ := hx x hm'
      rfl
    rw [this, List.map_id]
  have eits : its = (xs.map fun x => (adV x, k x)).map fun p => Value.ref p.1 := refs_of_vals (by rw [← exs]; exact r)
  refine set_lstN (xs.map fun x => (adV x, k x)) (I1.ok.hd hc) pl.isList (by simpa using eits) (fun p hp => ?_) (by rw [List.map_map]; exact hnd) (by rw [List.length_map]; exact hfew) (by omega) fun h' tk L es ep t R hL hk => ?_
  · obtain ⟨x, hm', rfl⟩ := List.mem_map.mp hp
    obtain ⟨t, rfl, ht⟩ := hx x hm'
    exact I1.isT (SqT.of ht)
  refine PyProof.Rows.args_nil ?_
  rw [List.length_map] at hL
  have I2 : L2.Inv X pins σ H1 { s1 with heap := h', toks := tk } := I1.kept fun b o e => hk b o e
  obtain ⟨o, ho, hex, hd⟩ := R.ob
  have hsz := SetN.size (s := { s1 with heap := h', toks := tk }) R
  refine call_len_set (s := { s1 with heap := h', toks := tk }) ho hex hd (SetN.fits (s := { s1 with heap := h', toks := tk }) R) (by rw [hsz, hL] <;> omega) ⟨.int xs.length, H1, I2.tok _, ⟨_, by rw [hsz, hL]⟩, q1⟩
variable [HasT]
def nodupB : List Int → Bool
  | [] => true
  | x :: r => !(r.any fun y => decide (y = x)) && nodupB r
theorem nodupB_ok : ∀ {l : List Int}, nodupB l = true → l.Nodup
  | [], _ => List.nodup_nil
  | x :: r, h => by
    unfold nodupB at h
    rw [Bool.and_eq_true] at h
    refine List.nodup_cons.mpr ⟨fun hm => ?_, nodupB_ok h.2⟩
    have := h.1
    rw [Bool.not_eq_true', List.any_eq_false] at this
    exact this x hm (by simp)
def fLenSetN : F1 := fun x S => match x.lst? S with
    | some xs => (match tupsD xs with
      | some L => if (nodupB (L.map hashT) && decide (L.length ≤ 300)) = true then some (.p (.int L.length), S) else none
      | none => none)
    | none => none
section
variable {X : Cx} {W : WX}
theorem de_lenSetN {a : Expr} {ma : ME D} {p p2 q pos : Pos} (hu : X.A.units + 65 < cLine) (hm : X.mg "len" = none) (hm2 : X.mg "set" = none) (ha : DE X W a ma) (hc : X.calm = true := by rfl) (hg : Gl X "len" := by rfl) (hg2 : Gl X "set" := by rfl)
    (na : starEach [a] X.env = (false, eval a X.env) :: starEach [] X.env := by rfl) : DE X W (.Call (.Name "len" p) [.Call (.Name "set" p2) [a] [] q] [] pos) (mOp1 fLenSetN ma) :=
  PE.imp (pe_lenSetN hu hg hm hg2 hm2 ha hc na) fun σ H Q q => by
    obtain ⟨ρ, S, ι, F, at', t⟩ := q
    refine T.first at' t fun d1 S1 F1 ι1 H1 v1 n1 a1 r1 t1 => ?_
    obtain ⟨d', S', e, q⟩ := lift_then t1
    unfold fLenSetN at e
    split at e
    · rename_i xs ex
      split at e
      · rename_i L eL
        split at e
        · rename_i hl
          simp only [Bool.and_eq_true, decide_eq_true_eq] at hl
          obtain ⟨hs, hf⟩ := hl
          obtain ⟨el, hne⟩ := tups_eq eL
          obtain ⟨a', us, rfl, q1, rd⟩ := lst?_rel a1.r ex r1
          rw [el] at rd
          obtain ⟨f1, f2⟩ := relTups rd
          cases e
          have hl2 : us.length = L.length := by rw [← f2, List.length_map]
          refine ⟨a', us, keyV H1, rfl, q1, f1, ?_, by rw [hl2]; exact hf, ?_⟩
          · have := nodupB_ok hs
            rw [← f2, List.map_map] at this
            exact this
          · exact q F1 ι1 H1 (Nxt.refl a1.r) _ (by simp only [RelD, RelP]; rw [hl2])
        · cases e
      · cases e
    · cases e
end
end DL
set_option maxHeartbeats 4000000
/-! DLRev: t[::-1] of tuples, and of lists. -/
namespace DL
open PySem PySem.Spec PyProof.Rows L2
section
variable {prog : Program} {w : World} {A : Around} {E : Value → Shared → Prop} {s : Shared}
theorem adjust_rev (n : Nat) : Builtin.Slice.sliceAdjust none none (-1) (n : Int) = ((n : Int) - 1, -1) := by
  unfold Builtin.Slice.sliceAdjust
  have h1 : ((-1 : Int) < 0) := by omega
  simp only [h1, if_true]
theorem places_rev (n : Nat) : Builtin.Slice.slicePlaces ((n : Int) - 1) (-1) (-1) = n := by
  unfold Builtin.Slice.slicePlaces
  have h1 : ¬ ((-1 : Int) > 0) := by omega
  simp only [h1, if_false]
  split
  · rw [show (- -1 : Int) = 1 by decide, Int.ediv_one]
    omega
  · omega
theorem sliceApplied_rev {sl : Addr} {vl vu vs : Value} {n : Nat} {Q : Int × Int × Nat → Shared → Prop} (hs : s.heap.IsSliceOf sl vl vu vs) (pl : IsPart vl none) (pu : IsPart vu none) (ps : IsPart vs (some (-1)))
    (h : Q ((n : Int) - 1, -1, n) s) : wpAny (model prog w) A (Builtin.Slice.sliceApplied (.ref sl) (pure (n : Int))) Q E s := by
  obtain ⟨os, hos, hcs, hds⟩ := id hs
  unfold Builtin.Slice.sliceApplied Builtin.Slice.sliceFields
  refine wpAny_bind (wpAny_bind (wpAny_field hos hds (x := vl) rfl (wpAny_bind (wpAny_field hos hds (x := vu) rfl (wpAny_bind (wpAny_field hos hds (x := vs) rfl (wpAny_pure ?_)))))))
  refine wpAny_bind (HT.slicePart_ ps ?_)
  show wpAny _ _ (if ((-1 : Int) == 0) = true then _ else _) _ _ s
  rw [if_neg (by decide)]
  refine wpAny_bind (HT.slicePart_ pl (wpAny_bind (HT.slicePart_ pu (wpAny_bind (wpAny_pure ?_)))))
  show wpAny _ _ (match Builtin.Slice.sliceAdjust none none (-1) (n : Int) with | (lo, hi) => pure (lo, (-1 : Int), Builtin.Slice.slicePlaces lo hi (-1))) _ _ s
  rw [adjust_rev n]
  show wpAny _ _ (pure ((n : Int) - 1, (-1 : Int), Builtin.Slice.slicePlaces ((n : Int) - 1) (-1) (-1))) _ _ s
  rw [places_rev]
  exact wpAny_pure h
theorem fm_congr {α β : Type} {f g : α → Option β} : ∀ {l : List α}, (∀ x ∈ l, f x = g x) → l.filterMap f = l.filterMap g
  | [], _ => rfl
  | x :: l, h => by
    rw [List.filterMap_cons, List.filterMap_cons, h x List.mem_cons_self, fm_congr fun y hy => h y (List.mem_cons_of_mem _ hy)]
theorem pick_rev (xs : Array Value) : ((List.range xs.size).filterMap fun (m : Nat) => xs[(((xs.size : Nat) : Int) - 1 + (m : Int) * -1).toNat]?).toArray = xs.toList.reverse.toArray := by
  have e : (List.range xs.size).filterMap (fun (m : Nat) => xs[(((xs.size : Nat) : Int) - 1 + (m : Int) * -1).toNat]?) = ((List.range xs.size).map fun k => xs.size - 1 - k).filterMap (xs[·]?) := by
    rw [List.filterMap_map]
    refine fm_congr fun m hm => ?_
    rw [List.mem_range] at hm
    have : (((xs.size : Nat) : Int) - 1 + (m : Int) * -1).toNat = xs.size - 1 - m := by omega
    rw [this]
    rfl
  rw [e, PySem.W.krv_range, List.filterMap_reverse, PySem.W.krv_all]
theorem getItem_tuple_rev {t sl : Addr} {items : Array Value} {vl vu vs : Value} {Q : Value → Shared → Prop} (ht : IsTup s.heap t items) (hs : s.heap.IsSliceOf sl vl vu vs) (pl : IsPart vl none) (pu : IsPart vu none) (ps : IsPart vs (some (-1)))
    (h : Q (.ref s.heap.objs.size) { s with heap := s.heap.push { cls := .type "tuple", data := .seq items.toList.reverse.toArray } }) (hsz : items.size ≤ sizeLine) : wpAny (model prog w) A (getItem (.ref t) (.ref sl)) Q E s := by
  have htake : sizeOk (.seq items.toList.reverse.toArray) := by
    show items.toList.reverse.toArray.size ≤ sizeLine
    rw [List.size_toArray, List.length_reverse, Array.length_toList]
    exact hsz
  obtain ⟨os, hos, hcs, hds⟩ := id hs
  have hTs : s.TypeIs (.ref sl) "slice" := ⟨os, hos, hcs⟩
  unfold getItem
  try with_reducible refine wpAny_holding ?_
  first | refine wpAny_bind (wpAny_pure ?_) | skip
  refine wpAny_bind (wpAny_sequenceKey ht.typeIs (by decide) ?_)
  refine wpAny_bind (wpAny_callSpecial?_slot (name := Str.ofString "__getitem__") ht.typeIs PyProof.Rows.slot_tuple_getitem
    (wpAny_call_entry PyProof.Rows.slot_tuple_getitem ht.typeIs entry_tuple_getitem ?_ (args_tuple_getitem _ _)))
  show wpAny _ _ (Builtin.Tuple.tupleItemsOf (.ref t) >>= _) _ _ s
  refine wpAny_bind (tupleItemsOf_ ht ?_)
  refine wpAny_bind (wpAny_typeOf hTs ?_)
  rw [if_pos (by decide)]
  refine wpAny_bind (sliceApplied_rev hs pl pu ps ?_)
  have hno : ¬ ((((items.size : Nat) : Int) - 1 == 0 && (-1 : Int) == 1 && items.size == items.size) = true) := by
    intro q
    rw [Bool.and_eq_true, Bool.and_eq_true] at q
    exact absurd q.1.2 (by decide)
  show wpAny _ _ (if (((items.size : Nat) : Int) - 1 == 0 && (-1 : Int) == 1 && items.size == items.size) = true then _ else _) _ _ s
  rw [if_neg hno, pick_rev]
  first
    | exact wpAny_bind (m := Builtin.Tuple.tupleExact _) (wpAny_newObj_type (wpAny_pure ⟨_, rfl, wpAny_pure h⟩) htake)
    | exact wpAny_bind (m := Builtin.Tuple.tupleExact _) (wpAny_newObj_type (wpAny_bind (wpAny_pure (wpAny_pure ⟨_, rfl, wpAny_pure h⟩))) htake)
    | exact wpAny_bind (wpAny_bind (m := Builtin.Tuple.tupleExact _) (wpAny_newObj_type (wpAny_pure (wpAny_pure ⟨_, rfl, wpAny_pure h⟩)) htake))
    | exact wpAny_bind (wpAny_bind (m := Builtin.Tuple.tupleExact _) (wpAny_newObj_type (wpAny_pure ⟨_, rfl, wpAny_pure h⟩) htake))
end
section
variable {X : Cx}
/-- x[::-1], a list or a tuple -/
def tRevA (K : PySem.W.Frag) (te : TE) : TE := fun σ H Q => te σ H fun x H1 => ∃ a xs, x = .ref a ∧ ((SqL K H1 a xs ∧ ∀ p, H1 p = none → Q (.ref p) (upd H1 p (.lst xs.reverse))) ∨ (SqT K H1 a xs ∧ ∀ p, H1 p = none → Q (.ref p) (upd H1 p (.tup xs.reverse))))
theorem pe_revA {e : Expr} {te : TE} {k : Nat} {p1 p2 p3 pos : Pos} (he : PE X e te) : PE X (.Subscript e (.Slice none none (some (.UnaryOp .USub (.Constant (.int 1) k p1) p2)) p3) pos) (tRevA X.K te) := by
  refine ⟨fun pins s σ H Q I h => ?_⟩
  refine Subscript_ (thn (he.run pins s σ H _ I h) fun v s1 ⟨x, H1, I1, r1, q1⟩ => ?_)
  obtain ⟨a, xs, ex, hx⟩ := q1
  subst ex
  cases r1
  have hst : PO X (some (.UnaryOp .USub (.Constant (.int 1) k p1) p2)) (tPart (tUn (rU fun i => .int (-i)) (tC (.int 1)))) := po_some (pe_un un_neg pe_int)
  refine wpAny_Slice (thn (po_none.run pins s1 σ H1 (fun o H2 => o = none ∧ H2 = H1) I1 ⟨rfl, rfl⟩) fun vl s2 ⟨l, H2, I2, pl, el, e2⟩ => ?_)
  subst el e2
  refine thn (po_none.run pins s2 σ H2 (fun o H3 => o = none ∧ H3 = H2) I2 ⟨rfl, rfl⟩) fun vu s3 ⟨u, H3, I3, pu, eu, e3⟩ => ?_
  subst eu e3
  refine thn (hst.run pins s3 σ H3 (fun o H4 => o = some (-1) ∧ H4 = H3) I3 ⟨1, rfl, -1, rfl, rfl, rfl⟩) fun vs s4 ⟨o, H4, I4, ps, eo, e4⟩ => ?_
  subst eo e4
  have I5 : L2.Inv X pins σ H4 { s4 with heap := s4.heap.push { cls := .type "slice", data := .fields #[vl, vu, vs] } } := I4.kept (t' := s4.toks) fun b ob q => Heap.get?_push_of_some _ q
  show wpAny (model X.prog X.w) X.A (subscriptTail e (.Slice none none (some (.UnaryOp .USub (.Constant (.int 1) k p1) p2)) p3) (.ref a) (.ref s4.heap.objs.size)) (EP X pins σ Q) X.xe { s4 with heap := s4.heap.push { cls := .type "slice", data := .fields #[vl, vu, vs] } }
  rcases hx with ⟨hx, q⟩ | ⟨hx, q⟩
  · obtain ⟨its, r, ht, hz⟩ := I5.list hx
    have hlen := r.length
    refine tail_any (ops := [.ref a, .ref s4.heap.objs.size]) ht.isList.typeIs (PySem.slot_list_getitem.lookup) ?_ (by with_unfolding_all rfl)
    refine wpAny_getItem_list_slice ht.isList (Heap.IsSliceOf.new _ vl vu vs) pl pu ps (by decide) ?_ (by rw [List.size_toArray]; omega)
    rw [PySem.W.krv_pick]
    refine ⟨.ref _, _, I5.laid (t' := s4.toks) (o := .lst xs.reverse) (fun b ob q => Heap.get?_push_of_some _ q) (Nat.le_refl _) ?_, rfl, q _ (I5.hok.fresh (Nat.le_refl _))⟩
    exact ⟨by rw [List.length_reverse]; exact hz, _, 0, r.reverse, Heap.get?_push_size _ rfl⟩
  · obtain ⟨its, r, ht, hz⟩ := I5.tuple hx
    have hlen := r.length
    refine tail_any (ops := [.ref a, .ref s4.heap.objs.size]) ht.typeIs (PyProof.Rows.slot_tuple_getitem.lookup) ?_ (by with_unfolding_all rfl)
    refine getItem_tuple_rev ht (Heap.IsSliceOf.new _ vl vu vs) pl pu ps ?_ (by rw [List.size_toArray]; omega)
    refine ⟨.ref _, _, I5.laid (t' := s4.toks) (o := .tup xs.reverse) (fun b ob q => Heap.get?_push_of_some _ q) (Nat.le_refl _) ?_, rfl, q _ (I5.hok.fresh (Nat.le_refl _))⟩
    exact ⟨by rw [List.length_reverse]; exact hz, _, r.reverse, IsTup.new _ _⟩
end
variable [HasT]
def fRevA (fin : FL) : F1 := fun x S => match fRevL fin x S with
  | some z => some z
  | none => match x.tup? with
    | some xs => some (mkTup xs.reverse, S)
    | none => none
theorem de_revA {X : Cx} {W : WX} {a : Expr} {ma : ME D} {pos : Pos} {fin : FL} {k : Nat} {p1 p3 p4 : Pos} (n : NewL X fin) (ha : DE X W a ma) : DE X W (.Subscript a (.Slice none none (some (.UnaryOp .USub (.Constant (.int 1) k p1) p3)) p4) pos) (mOp1 (fRevA fin) ma) :=
  PE.imp (pe_revA ha) fun σ H Q q => by
    obtain ⟨ρ, S, ι, F, at', t⟩ := q
    refine T.first at' t fun d1 S1 F1 ι1 H1 v1 n1 a1 r1 t1 => ?_
    obtain ⟨d', S', e, q⟩ := lift_then t1
    unfold fRevA at e
    split at e
    · rename_i z ez
      cases e
      unfold fRevL at ez
      split at ez
      · rename_i xs ex
        obtain ⟨p, vs, rfl, q1, rd⟩ := lst?_rel a1.r ex r1
        exact ⟨p, vs, rfl, .inl ⟨q1, (n a1.r (relDs_reverse rd) ez fun F' ι' H' v n r => q F' ι' H' n v r).2⟩⟩
      · cases ez
    · split at e
      · rename_i xs ex
        cases e
        obtain ⟨p, vs, rfl, q1, rd⟩ := tup?_relH ex r1
        exact ⟨p, vs, rfl, .inr ⟨SqT.of q1, fun p' hp => q _ _ _ (Nxt.fresh a1.r hp) _ (rel_newT hp (relDs_reverse rd))⟩⟩
      · cases e
end DL
set_option maxHeartbeats 4000000
/-! DLRepI: repr of an int. -/
namespace DL
open PySem PySem.Spec PyProof.Rows L2
variable [HasT]
section
variable {X : Cx}
def fReprI : FL := fun ds S => match ds with
  | [.p (.int i)] => if i.natAbs.log2 < 1920 then some (.p (.str (toString i)), S) else none
  | _ => none
theorem cd_reprI : CallD X (.builtin "repr") fReprI := ⟨_, SkE.call_repr_int, fun {F ι S S' H ds d' vs Q} rs r e q => by
  unfold fReprI at e
  split at e
  · rename_i i
    split at e
    · rename_i hi
      cases e
      obtain ⟨v, rfl, r1⟩ := relDs1 r
      cases relInt r1
      exact ⟨i, rfl, hi, q F ι H _ (Nxt.refl rs) mkStr⟩
    · cases e
  · cases e⟩
/-- repr, of ints, too -/
def fReprA : FL := fun x S => match fReprX x S with
  | some z => some z
  | none => fReprI x S
theorem cd_reprA (gd : X.A.guards = some []) (hu : X.A.units + 65 < cLine) : CallD X (.builtin "repr") fReprA := (cd_reprX gd hu).or cd_reprI
end
theorem reprA_of {x : List D} {S : Store} {z : D × Store} (h : fReprX x S = some z) : fReprA x S = some z := by
  unfold fReprA
  rw [h]
theorem reprA_int {i : Int} {S : Store} (h : i.natAbs.log2 < 1920) : fReprA [.p (.int i)] S = some (.p (.str (toString i)), S) := by
  show (if i.natAbs.log2 < 1920 then some (D.p (.str (toString i)), S) else none) = _
  rw [if_pos h]
end DL
set_option maxHeartbeats 8000000
namespace DL
open PySem PySem.Spec PyProof.Rows L2
abbrev TopR : PySem.Program := PySem.Challenge.pw_arrowsums_k31_whole_nested_rows_listed
def top (i : Nat) : Stmt := TopR.main.body.getD i (.Pass ⟨0, 0, 0, 0⟩)

/-! ### what is known of the text -/
abbrev HasD (K : PySem.W.Frag) (mg : Str → Option Value) (x : Str) (st : Stmt) : Prop := ∃ f fd, mg x = some (.ref f) ∧ FunD K x x (defArgs st) (defBody st) (defScope st) [] [] f fd
abbrev HasK (K : PySem.W.Frag) (mg : Str → Option Value) (x kw : Str) (d0 : Int) (st : Stmt) : Prop := ∃ f fd, mg x = some (.ref f) ∧ FunD K x x (defArgs st) (defBody st) (defScope st) [] [(kw, .int d0)] f fd
def mtab : List (Str × Str × Bool) := []
structure Txt (P : Program) (w : World) (K : PySem.W.Frag) (mg : Str → Option Value) : Prop where
  k_InvalidNumber : mg "InvalidNumber" = some (.ref (chA mg "InvalidNumber"))
  k_InvalidSums : mg "InvalidSums" = some (.ref (chA mg "InvalidSums"))
  e_InvalidSums : ExcE K mg "InvalidSums"
  n_InvalidNumber : IniE P w K mg "InvalidNumber" "value"
  hmt : ∀ t ∈ mtab, mg t.1 = some (.ref (chA mg t.1)) ∧ PySem.W.exmOne K (.ref (chA mg t.1)) (.ref (chA mg t.2.1)) = some t.2.2
  f_abs : mg "abs" = none
  f_all : mg "all" = none
  f_bool : mg "bool" = none
  f_enumerate : mg "enumerate" = none
  f_int : mg "int" = none
  f_isinstance : mg "isinstance" = none
  f_len : mg "len" = none
  f_list : mg "list" = none
  f_max : mg "max" = none
  f_min : mg "min" = none
  f_range : mg "range" = none
  f_set : mg "set" = none
  f_sorted : mg "sorted" = none
  f_sum : mg "sum" = none
  f_super : mg "super" = none
  f_tuple : mg "tuple" = none
  i_MAX_LENGTH : ∃ t, mg "MAX_LENGTH" = some (.int 64 t)
  i_MAX_NUMBER : ∃ t, mg "MAX_NUMBER" = some (.int 999999999999999999999999999999 t)
  i_MAX_PLACES : ∃ t, mg "MAX_PLACES" = some (.int 16 t)
  d__law_dip : HasD K mg "_law_dip" (top 22)
  d__law_mixed : HasD K mg "_law_mixed" (top 24)
  d__law_pick : HasD K mg "_law_pick" (top 23)
  d__law_row_of : HasD K mg "_law_row_of" (top 26)
  d__law_words : HasD K mg "_law_words" (top 25)
  d_falling : HasD K mg "falling" (top 14)
  d_is_nested_in : HasD K mg "is_nested_in" (top 16)
  d_is_integer : HasD K mg "is_integer" (top 1)
  d_is_from : HasD K mg "is_from" (top 2)
  d_is_amount : HasD K mg "is_amount" (top 11)
  d_is_row : HasD K mg "is_row" (top 12)
  d_require_row : HasD K mg "require_row" (top 13)
  d_is_nested_row : HasD K mg "is_nested_row" (top 17)
  d_nested_in : HasD K mg "nested_in" (top 18)
  d_nested_rows : HasD K mg "nested_rows" (top 19)
  d__law_right : HasD K mg "_law_right" (top 27)
  d__law_vat : HasD K mg "_law_vat" (top 21)
  d_law : HasD K mg "law" (top 28)

/-! ### the runs -/
structure Lams [HasT] (K : PySem.W.Frag) (mg : Str → Option Value) (base : Heap) : Prop where
/-- _law_dip: 0 vat, 1 size, 2 found, 3 one, 4 two -/
def b__law_dip : MS := (mSeq (mIfS (mTest (mOp2 fGt (mOp2 fIx (mVar 0) (mC (.int 0))) (mC (.int 0)))) (mSeq (mAsg (gNm 2) (mOp2 fMod (mCallB fInt (mCons (mOp2 fIx (mVar 0) (mC (.int 0))) mNil)) (mVar 1))) (mSeq (mPut (mOp2 fDiv (mOp2 fIx (mVar 0) (mC (.int 0))) (mVar 1)) (mVar 0) (mC (.int 0))) (mRet (mVar 2)))) mNext) (mSeq (mPut (mOp2 (fAddG fLstF) (mOp2 fIx (mVar 0) (mC (.int 2))) (mC (.int 1))) (mVar 0) (mC (.int 2))) (mSeq (mAsg (gNm 3) (mOp2 fMod (mCallB fInt (mCons (mOp2 (fAddG fLstF) (mOp2 fIx (mVar 0) (mC (.int 1))) (mOp2 (fMulA fLstF) (mC (.int 961748927)) (mOp2 fIx (mVar 0) (mC (.int 2))))) mNil)) (mC (.int 2305843009213693967)))) (mSeq (mAsg (gNm 4) (mOp2 (fAddG fLstF) (mOp2 (fMulA fLstF) (mOp2 fMod (mCallB fInt (mCons (mOp2 (fMulA fLstF) (mVar 3) (mVar 3)) mNil)) (mC (.int 1000000000000063))) (mVar 3)) (mOp2 (fMulA fLstF) (mC (.int 5867)) (mOp2 fIx (mVar 0) (mC (.int 2)))))) (mRet (mOp2 fMod (mCallB fInt (mCons (mOp2 fDiv (mOp2 fMod (mCallB fInt (mCons (mOp2 (fAddG fLstF) (mVar 4) (mOp2 fIx (mVar 0) (mC (.int 1)))) mNil)) (mC (.int 4398046511119))) (mC (.int 64))) mNil)) (mVar 1)))))))
def m__law_dip : List D → M D := mFn 5 finP b__law_dip
/-- _law_mixed: 0 vat, 1 items, 2 left, 3 turn -/
def ce__law_mixed : ME D := (mMeth fPopAt (mVar 2) (mCons (mCall m__law_dip (mCons (mVar 0) (mCons (mCallB fLen (mCons (mVar 2) mNil)) mNil))) mNil))
def b__law_mixed : MS := (mSeq (mAsg (gNm 2) (mCallB (fToL fLst) (mCons (mVar 1) mNil))) (mRet (mCallB fLstF (mCompL (mSrcA srcR1 (mCons (mCallB fLen (mCons (mVar 1) mNil)) mNil)) [3] (gNm 3) mYes ce__law_mixed))))
def m__law_mixed : List D → M D := mFn 4 finP b__law_mixed
/-- _law_pick: 0 vat, 1 items -/
def b__law_pick : MS := (mRet (mOp2 fIx (mVar 1) (mCall m__law_dip (mCons (mVar 0) (mCons (mCallB fLen (mCons (mVar 1) mNil)) mNil)))))
def m__law_pick : List D → M D := mFn 2 finP b__law_pick
/-- _law_row_of: 0 word, 1 rows, 2 place, 3 entry -/
def lb__law_row_of : MS := (mDrop (mMeth fAppend (mVar 1) (mCons (mOp2 (fAddG fLstF) (mOp2 (fMulA fLstF) (mVar 3) (mVar 2)) (mCallB fSum (mCons (mSl (fCut fLstF) (mVar 0) (mPart (mOp2 (fAddG fLstF) (mVar 2) (mC (.int 1)))) mNoPart) mNil))) mNil)))
def b__law_row_of : MS := (mSeq (mAsg (gNm 1) (mCallB fLst mNil)) (mSeq (mFor (mSrcA srcEnum (mCons (mVar 0) mNil)) (gTp 2 (gsCons (gNm 2) (gsCons (gNm 3) gsNil))) lb__law_row_of) (mRet (mCallB fToT (mCons (mCallB (fSrt true fLstF) (mCons (mVar 1) mNil)) mNil)))))
def n__law_row_of : List D → M D := mFn 4 finP b__law_row_of
def m__law_row_of : List D → M D := mCl n__law_row_of
/-- _law_words: 0 places, 1 found, 2 place, 3 word -/
def ce__law_words : ME D := (mOp2 (fAddG fLstF) (mVar 3) (mCallB fTup (mCons (mC (.int 0)) mNil)))
def ce__law_words_1 : ME D := (mOp2 (fAddG fLstF) (mVar 3) (mCallB fTup (mCons (mC (.int 1)) mNil)))
def lb__law_words : MS := (mAsg (gNm 1) (mOp2 (fAddG fLstF) (mCallB fLstF (mCompL (mSrc srcSeq (mVar 1)) [3] (gNm 3) mYes ce__law_words)) (mCallB fLstF (mCompL (mSrc srcSeq (mVar 1)) [3] (gNm 3) mYes ce__law_words_1))))
def b__law_words : MS := (mSeq (mAsg (gNm 1) (mCallB fLstF (mCons (mCallB fTup (mCons (mC (.int 0)) mNil)) mNil))) (mSeq (mFor (mSrcA srcR1 (mCons (mOp2 fSub (mVar 0) (mC (.int 1))) mNil)) (gNm 2) lb__law_words) (mRet (mVar 1))))
def n__law_words : List D → M D := mFn 4 finP b__law_words
def m__law_words : List D → M D := mCl n__law_words
/-- falling: 0 row -/
def b_falling : MS := (mRet (mCallB fToT (mCons (mCallB (fSrt true fLstF) (mCons (mVar 0) mNil)) mNil)))
def m_falling : List D → M D := mFn 1 finP b_falling
/-- is_nested_in: 0 row, 1 at, 2 entry, 3 one -/
def ce_is_nested_in : ME D := (mVar 3)
def ct_is_nested_in : ME Bool := (mTest (mOp2 fGt (mVar 3) (mVar 1)))
def lb_is_nested_in : MS := (mIfS (mAndT (mTest (mOp2 fGt (mVar 2) (mVar 1))) (mTest (mOp2 fNe (mCallB fLen (mCons (mCallB fLstF (mCompL (mSrc srcSeq (mVar 0)) [3] (gNm 3) ct_is_nested_in ce_is_nested_in)) mNil)) (mOp2 (fAddG fLstF) (mVar 2) (mC (.int 1)))))) (mRet (mC (.bl false))) mNext)
def b_is_nested_in : MS := (mSeq (mFor (mSrcA srcEnum (mCons (mVar 0) mNil)) (gTp 2 (gsCons (gNm 1) (gsCons (gNm 2) gsNil))) lb_is_nested_in) (mRet (mC (.bl true))))
def m_is_nested_in : List D → M D := mFn 4 finP b_is_nested_in
/-- is_integer: 0 value -/
def b_is_integer : MS := (mRet (mAnd (mCallB fIsi (mCons (mVar 0) (mCons (mC (.ty "int")) mNil))) (mNot (mCallB fIsi (mCons (mVar 0) (mCons (mC (.ty "bool")) mNil))))))
def m_is_integer : List D → M D := mFn 1 finP b_is_integer
/-- is_from: 0 value, 1 first, 2 last -/
def b_is_from : MS := (mRet (mAnd (mCall m_is_integer (mCons (mVar 0) mNil)) (mChain fLe fLe (mVar 1) (mVar 0) (mVar 2))))
def m_is_from : List D → M D := mFn 3 finP b_is_from
/-- is_amount: 0 value -/
def b_is_amount : MS := (mRet (mCall m_is_from (mCons (mVar 0) (mCons (mC (.int 0)) (mCons (mC (.int 999999999999999999999999999999)) mNil)))))
def m_is_amount : List D → M D := mFn 1 finP b_is_amount
/-- is_row: 0 value, 1 entry -/
def ce_is_row : ME D := (mCall m_is_amount (mCons (mVar 1) mNil))
def b_is_row : MS := (mSeq (mIfS (mOrT (mNotT (mTest (mCallB fIsi (mCons (mVar 0) (mCons (mC (.ty "tuple")) mNil))))) (mNotT (mTest (mCall m_is_from (mCons (mCallB fLen (mCons (mVar 0) mNil)) (mCons (mC (.int 1)) (mCons (mC (.int 64)) mNil))))))) (mRet (mC (.bl false))) mNext) (mRet (mCallB fAll (mCons (mCallB fLstF (mCompL (mSrc srcSeq (mVar 0)) [1] (gNm 1) mYes ce_is_row)) mNil))))
def m_is_row : List D → M D := mFn 2 finP b_is_row
/-- require_row: 0 value -/
def b_require_row : MS := (mIfS (mNotT (mTest (mCall m_is_row (mCons (mVar 0) mNil)))) (mRaise "InvalidSums") mNext)
def m_require_row : List D → M D := mFn 1 finP b_require_row
/-- is_nested_row: 0 degrees -/
def b_is_nested_row : MS := (mSeq (mDrop (mCall m_require_row (mCons (mVar 0) mNil))) (mRet (mCall m_is_nested_in (mCons (mCall m_falling (mCons (mVar 0) mNil)) mNil))))
def m_is_nested_row : List D → M D := mFn 1 finP b_is_nested_row
/-- nested_in: 0 places, 1 total, 2 rows, 3 row, 4 one -/
def b_nested_in (mself : List D → M D) : MS := (mSeq (mIfS (mOrT (mTest (mOp2 fLt (mVar 1) (mC (.int 0)))) (mTest (mOp2 fGt (mVar 1) (mOp2 (fMulA fLstF) (mVar 0) (mOp2 fSub (mVar 0) (mC (.int 1))))))) (mRet (mCallB fLstF mNil)) mNext) (mSeq (mIfS (mTest (mOp2 fEq (mVar 0) (mC (.int 1)))) (mRet (mCallB fLstF (mCons (mCallB fTup (mCons (mC (.int 0)) mNil)) mNil))) mNext) (mSeq (mAsg (gNm 2) (mCallB fLst (mCompL (mSrc srcSeq (mCall mself (mCons (mOp2 fSub (mVar 0) (mC (.int 1))) (mCons (mVar 1) mNil)))) [3] (gNm 3) mYes (mCallB fTup (mStar (mVar 3) (mCons (mC (.int 0)) mNil)))))) (mSeq (mFor (mSrc srcSeq (mCall mself (mCons (mOp2 fSub (mVar 0) (mC (.int 1))) (mCons (mOp2 fSub (mVar 1) (mOp2 (fMulA fLstF) (mC (.int 2)) (mOp2 fSub (mVar 0) (mC (.int 1))))) mNil)))) (gNm 3) (mDrop (mMeth fAppend (mVar 2) (mCons (mCallB fTup (mCons (mOp2 fSub (mVar 0) (mC (.int 1))) (mStar (mCallB fLstF (mCompL (mSrc srcSeq (mVar 3)) [4] (gNm 4) mYes (mOp2 (fAddG fLstF) (mVar 4) (mC (.int 1))))) mNil))) mNil)))) (mRet (mVar 2))))))
def m_nested_in : Nat → List D → M D
  | 0 => fun _ _ => .stuck
  | k + 1 => mFn 5 finP (b_nested_in (m_nested_in k))
/-- nested_rows: 0 places, 1 total -/
def b_nested_rows : MS := (mSeq (mIfS (mNotT (mTest (mCall m_is_from (mCons (mVar 0) (mCons (mC (.int 1)) (mCons (mC (.int 16)) mNil)))))) (mRaise1 "InvalidNumber" "value" (mVar 0)) mNext) (mSeq (mIfS (mOrT (mNotT (mTest (mCall m_is_integer (mCons (mVar 1) mNil)))) (mTest (mOp2 fLt (mVar 1) (mC (.int 0))))) (mRaise1 "InvalidNumber" "value" (mVar 1)) mNext) (mRet (mCallB fToT (mCons (mCallB (fSort fLstF) (mCons (mCall (m_nested_in 20) (mCons (mVar 0) (mCons (mVar 1) mNil))) mNil)) mNil)))))
def n_nested_rows : List D → M D := mFn 2 finP b_nested_rows
def m_nested_rows : List D → M D := mCl n_nested_rows
/-- _law_right: 0 vat, 1 places, 2 rows, 3 many, 4 total, 5 told, 6 turn, 7 row, 8 word, 9 place -/
def ce__law_right : ME D := (mCall m__law_row_of (mCons (mVar 8) mNil))
def ce__law_right_1 : ME D := (mVar 7)
def ct__law_right : ME Bool := (mTest (mOp2 fEq (mCallB fSum (mCons (mVar 7) mNil)) (mVar 4)))
def lb__law_right : MS := (mSeq (mAsg (gNm 5) (mCall m_nested_rows (mCons (mVar 1) (mCons (mVar 4) mNil)))) (mSeq (mIfS (mTest (mOp2 fNe (mVar 5) (mCallB fToT (mCons (mCallB fLstF (mCompL (mSrc srcSeq (mVar 2)) [7] (gNm 7) ct__law_right ce__law_right_1)) mNil)))) (mRet (mC (.bl false))) mNext) (mAsg (gNm 3) (mOp2 (fAddG fLstF) (mVar 3) (mCallB fLen (mCons (mVar 5) mNil))))))
def ce__law_right_2 : ME D := (mCall m__law_dip (mCons (mVar 0) (mCons (mOp2 (fAddG fLstF) (mVar 1) (mC (.int 1))) mNil)))
def lb__law_right_1 : MS := (mSeq (mAsg (gNm 7) (mCallB fToT (mCons (mCallB fLstF (mCompL (mSrcA srcR1 (mCons (mVar 1) mNil)) [9] (gNm 9) mYes ce__law_right_2)) mNil))) (mIfS (mTest (mOp2 fNe (mCall m_is_nested_row (mCons (mVar 7) mNil)) (mOp2 (fIn false) (mCallB fToT (mCons (mCallB (fSrt true fLstF) (mCons (mVar 7) mNil)) mNil)) (mVar 2)))) (mRet (mC (.bl false))) mNext))
def b__law_right : MS := (mSeq (mAsg (gNm 1) (mOp2 (fAddG fLstF) (mC (.int 1)) (mCall m__law_dip (mCons (mVar 0) (mCons (mC (.int 8)) mNil))))) (mSeq (mAsg (gNm 2) (mCallB (fSort fLstF) (mCons (mCallB fLstF (mCompL (mSrc srcSeq (mCall m__law_words (mCons (mVar 1) mNil))) [8] (gNm 8) mYes ce__law_right)) mNil))) (mSeq (mIfS (mTest (mOp2 fNe (mOp1 fLenSetN (mVar 2)) (mCallB fLen (mCons (mVar 2) mNil)))) (mRet (mC (.bl false))) mNext) (mSeq (mAsg (gNm 3) (mC (.int 0))) (mSeq (mFor (mSrcA srcR1 (mCons (mOp2 (fAddG fLstF) (mOp2 (fMulA fLstF) (mVar 1) (mOp2 fSub (mVar 1) (mC (.int 1)))) (mC (.int 3))) mNil)) (gNm 4) lb__law_right) (mSeq (mIfS (mOrT (mTest (mOp2 fNe (mVar 3) (mCallB fLen (mCons (mVar 2) mNil)))) (mTest (mOp2 fNe (mCall m_nested_rows (mCons (mVar 1) (mCons (mOp2 fPow (mC (.int 10)) (mC (.int 30))) mNil))) (mCallB fTup mNil)))) (mRet (mC (.bl false))) mNext) (mSeq (mFor (mSrcA srcR1 (mCons (mC (.int 4)) mNil)) (gNm 6) lb__law_right_1) (mRet (mCall m_is_nested_row (mCons (mCallB fToT (mCons (mCall m__law_mixed (mCons (mVar 0) (mCons (mCall m__law_pick (mCons (mVar 0) (mCons (mVar 2) mNil))) mNil))) mNil)) mNil))))))))))
def m__law_right : List D → M D := mFn 10 finP b__law_right
/-- _law_vat: 0 script, 1 spot, 2 cell, 3 great, 4 seed -/
def b__law_vat : MS := (mSeq (mAsg (gNm 2) (mIf (mTest (mOp2 fLt (mVar 1) (mCallB fLen (mCons (mVar 0) mNil)))) (mOp2 fIx (mVar 0) (mVar 1)) (mOp2 (fAddG fLstF) (mOp2 (fMulA fLstF) (mC (.int 67)) (mVar 1)) (mC (.int 19))))) (mSeq (mAsg (gNm 3) (mOp2 fMod (mCallB fInt (mCons (mCallB fAbs (mCons (mVar 2) mNil)) mNil)) (mOp2 fPow (mOp2 fPow (mC (.int 10)) (mC (.int 58))) (mC (.int 9))))) (mSeq (mAsg (gNm 4) (mOp2 fMod (mCallB fInt (mCons (mOp2 (fAddG fLstF) (mOp2 (fAddG fLstF) (mOp2 (fAddG fLstF) (mOp2 (fMulA fLstF) (mVar 3) (mC (.int 1000231))) (mOp2 (fMulA fLstF) (mC (.int 8111)) (mVar 1))) (mOp2 (fMulA fLstF) (mC (.int 53)) (mCallB fInt (mCons (mOp2 fLt (mVar 2) (mC (.int 0))) mNil)))) (mC (.int 7))) mNil)) (mC (.int 1152921504606846883)))) (mRet (mCallB fLst (mCons (mCallB fMax (mCons (mC (.int 0)) (mCons (mOp2 fSub (mVar 3) (mOp2 fPow (mC (.int 10)) (mC (.int 17)))) mNil))) (mCons (mVar 4) (mCons (mC (.int 0)) mNil))))))))
def m__law_vat : List D → M D := mFn 5 finN b__law_vat
/-- law: 0 script, 1 spot, 2 told -/
def lb_law : MS := (mIfS (mNotT (mTest (mCall m__law_right (mCons (mCall m__law_vat (mCons (mVar 0) (mCons (mVar 1) mNil))) mNil)))) (mRet (mC (.bl false))) mNext)
def b_law : MS := (mSeq (mFor (mSrcA srcR1 (mCons (mCallB fMax (mCons (mC (.int 1)) (mCons (mCallB fMin (mCons (mC (.int 6)) (mCons (mCallB fLen (mCons (mVar 0) mNil)) mNil))) mNil))) mNil)) (gNm 1) lb_law) (mSeq (mAsg (gNm 2) (mCallB fLstF (mCons (mCall m_nested_rows (mCons (mC (.int 4)) (mCons (mC (.int 8)) mNil))) (mCons (mCall m_nested_rows (mCons (mC (.int 4)) (mCons (mC (.int 6)) mNil))) (mCons (mCall m_nested_rows (mCons (mC (.int 3)) (mCons (mC (.int 3)) mNil))) (mCons (mCall m_nested_rows (mCons (mC (.int 1)) (mCons (mC (.int 0)) mNil))) (mCons (mCall m_nested_rows (mCons (mC (.int 10)) (mCons (mC (.int 90)) mNil))) mNil))))))) (mRet (mOp2 fEq (mVar 2) (mCallB fLstF (mCons (mCallB fTup (mCons (mCallB fTup (mCons (mC (.int 3)) (mCons (mC (.int 2)) (mCons (mC (.int 2)) (mCons (mC (.int 1)) mNil))))) mNil)) (mCons (mCallB fTup (mCons (mCallB fTup (mCons (mC (.int 2)) (mCons (mC (.int 2)) (mCons (mC (.int 2)) (mCons (mC (.int 0)) mNil))))) (mCons (mCallB fTup (mCons (mC (.int 3)) (mCons (mC (.int 1)) (mCons (mC (.int 1)) (mCons (mC (.int 1)) mNil))))) mNil))) (mCons (mCallB fTup mNil) (mCons (mCallB fTup (mCons (mCallB fTup (mCons (mC (.int 0)) mNil)) mNil)) (mCons (mCallB fTup (mCons (mOp2 (fMulA fLstF) (mCallB fTup (mCons (mC (.int 9)) mNil)) (mC (.int 10))) mNil)) mNil))))))))))
def m_law : List D → M D := mFn 3 finP b_law

/-! ### the walks -/
section
variable [HasT] {P : Program} {w : World} {K : PySem.W.Frag} {mg : Str → Option Value} {base : Heap}
theorem sc__law_dip : FnScope ["vat", "size", "found", "one", "two"] ["vat", "size"] (defScope (top 22)) := ⟨rfl, rfl, rfl, by decide +kernel, rfl, by decide +kernel, by decide +kernel⟩
theorem D__law_dip (T : Txt P w K mg) (LT : Lams K mg base) : FnD P w K mg base "_law_dip" 1 2 m__law_dip := by
  obtain ⟨f, fd, hg, Fd⟩ := T.d__law_dip
  refine fn_mkD (k := 0) hg Fd sc__law_dip rfl rfl finP_ok (fun _ _ _ _ _ _ us hl => match us, hl with | [_, _], _ => rfl) fun cdv A outer s H E hr hgd => ?_
  have nd := sc__law_dip.nd
  have hu := room_u hr
  unfold b__law_dip
  exact (dss_cons (ds_if (dt_cmp od_gt (de_ix ixd (de_var 0) de_int) de_int (nomark _)) (dss_cons (ds_set 2 nd (de_op2 od_mod (de_callTy cd_int T.f_int boot_int (da_cons (de_ix ixd (de_var 0) de_int) da_nil)) (de_var 1)))
    (dss_cons (ds_put (de_op2 od_div (de_ix ixd (de_var 0) de_int) (de_var 1)) (de_var 0) de_int)
    (dss_one (ds_ret (de_var 2))))) dss_nil)
    (dss_cons (ds_put (de_op2 (od_addG newL_F) (de_ix ixd (de_var 0) de_int) de_int) (de_var 0) de_int)
    (dss_cons (ds_set 3 nd (de_op2 od_mod (de_callTy cd_int T.f_int boot_int (da_cons (de_op2 (od_addG newL_F) (de_ix ixd (de_var 0) de_int) (de_op2 (od_mulA newL_F) de_int (de_ix ixd (de_var 0) de_int))) da_nil)) de_int))
    (dss_cons (ds_set 4 nd (de_op2 (od_addG newL_F) (de_op2 (od_mulA newL_F) (de_op2 od_mod (de_callTy cd_int T.f_int boot_int (da_cons (de_op2 (od_mulA newL_F) (de_var 3) (de_var 3)) da_nil)) de_int) (de_var 3)) (de_op2 (od_mulA newL_F) de_int (de_ix ixd (de_var 0) de_int))))
    (dss_one (ds_ret (de_op2 od_mod (de_callTy cd_int T.f_int boot_int (da_cons (de_op2 od_div (de_op2 od_mod (de_callTy cd_int T.f_int boot_int (da_cons (de_op2 (od_addG newL_F) (de_var 4) (de_ix ixd (de_var 0) de_int)) da_nil)) de_int) de_int) da_nil)) (de_var 1))))))))
theorem sc__law_mixed : FnScope ["vat", "items", "left", "turn"] ["vat", "items"] (defScope (top 24)) := ⟨rfl, rfl, rfl, by decide +kernel, rfl, by decide +kernel, by decide +kernel⟩
theorem D__law_mixed (T : Txt P w K mg) (LT : Lams K mg base) : FnD P w K mg base "_law_mixed" 2 2 m__law_mixed := by
  obtain ⟨f, fd, hg, Fd⟩ := T.d__law_mixed
  refine fn_mkD (k := 1) hg Fd sc__law_mixed rfl rfl finP_ok (fun _ _ _ _ _ _ us hl => match us, hl with | [_, _], _ => rfl) fun cdv A outer s H E hr hgd => ?_
  have nd := sc__law_mixed.nd
  have hu := room_u hr
  unfold b__law_mixed
  exact (dss_cons (ds_set 2 nd (de_callTy (cd_toL newL_N) T.f_list boot_list (da_cons (de_var 1) da_nil)))
    (dss_one (ds_ret (de_lcF (own := [("turn", 3)]) rfl nd (blkOk_by (by kernel_rfl)) (di_range1 T.f_range (da_cons (de_callB cd_len T.f_len boot_len (da_cons (de_var 1) da_nil)) da_nil)) (fun _ _ _ _ _ => (dg_name 3 nd)) (fun _ _ _ _ _ => dts_nil) (fun _ _ _ _ _ => (de_meth md_popAt PySem.F.slot_list_pop PySem.F.type_list_pop (de_var 2) (da_cons (de_call (D__law_dip T LT) (hr.mono (by decide)) hgd takes0 (da_cons (de_var 0) (da_cons (de_callB cd_len T.f_len boot_len (da_cons (de_var 2) da_nil)) da_nil))) da_nil)))))))
theorem sc__law_pick : FnScope ["vat", "items"] ["vat", "items"] (defScope (top 23)) := ⟨rfl, rfl, rfl, by decide +kernel, rfl, by decide +kernel, by decide +kernel⟩
theorem D__law_pick (T : Txt P w K mg) (LT : Lams K mg base) : FnD P w K mg base "_law_pick" 2 2 m__law_pick := by
  obtain ⟨f, fd, hg, Fd⟩ := T.d__law_pick
  refine fn_mkD (k := 1) hg Fd sc__law_pick rfl rfl finP_ok (fun _ _ _ _ _ _ us hl => match us, hl with | [_, _], _ => rfl) fun cdv A outer s H E hr hgd => ?_
  have nd := sc__law_pick.nd
  have hu := room_u hr
  unfold b__law_pick
  exact (dss_one (ds_ret (de_ix ixd (de_var 1) (de_call (D__law_dip T LT) (hr.mono (by decide)) hgd (takes_of rfl rfl rfl rfl) (da_cons (de_var 0) (da_cons (de_callB cd_len T.f_len boot_len (da_cons (de_var 1) da_nil)) da_nil))))))
theorem sc__law_row_of : FnScope ["word", "rows", "place", "entry"] ["word"] (defScope (top 26)) := ⟨rfl, rfl, rfl, by decide +kernel, rfl, by decide +kernel, by decide +kernel⟩
theorem D__law_row_of (T : Txt P w K mg) (LT : Lams K mg base) : FnD P w K mg base "_law_row_of" 1 1 m__law_row_of := by
  obtain ⟨f, fd, hg, Fd⟩ := T.d__law_row_of
  refine FnD.cl ?_
  refine fn_mkD (k := 0) hg Fd sc__law_row_of rfl rfl finP_ok (fun _ _ _ _ _ _ us hl => match us, hl with | [_], _ => rfl) fun cdv A outer s H E hr hgd => ?_
  have nd := sc__law_row_of.nd
  have hu := room_u hr
  unfold b__law_row_of
  exact (dss_cons (ds_set 1 nd (de_lst da_nil))
    (dss_cons (ds_for (ws := [2, 3]) (passes_of rfl) rfl (di_enum T.f_enumerate (da_cons (de_var 0) da_nil)) (dg_tup rfl (dgs_cons (dg_name 2 nd) (dgs_cons (dg_name 3 nd) dgs_nil))) (dss_one (ds_expr (de_meth md_append PySem.F.slot_list_append PySem.F.type_list_append (de_var 1) (da_cons (de_op2 (od_addG newL_F) (de_op2 (od_mulA newL_F) (de_var 3) (de_var 2)) (de_callB (cd_sum rfl) T.f_sum boot_sum (da_cons (de_cut newL_F (de_var 0) (do_some (de_op2 (od_addG newL_F) (de_var 2) de_int)) do_none) da_nil))) da_nil)))))
    (dss_one (ds_ret (de_callTy cd_toT T.f_tuple boot_tuple (da_cons (de_srtR newL_F T.f_sorted boot_sorted (de_var 1)) da_nil))))))
theorem sc__law_words : FnScope ["places", "found", "place", "word"] ["places"] (defScope (top 25)) := ⟨rfl, rfl, rfl, by decide +kernel, rfl, by decide +kernel, by decide +kernel⟩
theorem D__law_words (T : Txt P w K mg) (LT : Lams K mg base) : FnD P w K mg base "_law_words" 1 1 m__law_words := by
  obtain ⟨f, fd, hg, Fd⟩ := T.d__law_words
  refine FnD.cl ?_
  refine fn_mkD (k := 0) hg Fd sc__law_words rfl rfl finP_ok (fun _ _ _ _ _ _ us hl => match us, hl with | [_], _ => rfl) fun cdv A outer s H E hr hgd => ?_
  have nd := sc__law_words.nd
  have hu := room_u hr
  unfold b__law_words
  exact (dss_cons (ds_set 1 nd (de_lstF (da_cons (de_tup (da_cons de_int da_nil)) da_nil)))
    (dss_cons (ds_for (ws := [2]) (passes_of rfl) rfl (di_range1 T.f_range (da_cons (de_op2 od_sub (de_var 0) de_int) da_nil)) (dg_name 2 nd) (dss_one (ds_set 1 nd (de_op2 (od_addG newL_F) (de_lcF (own := [("word", 3)]) rfl nd (blkOk_by (by kernel_rfl)) (di_seq (de_var 1)) (fun _ _ _ _ _ => (dg_name 3 nd)) (fun _ _ _ _ _ => dts_nil) (fun _ _ _ _ _ => (de_op2 (od_addG newL_F) (de_var 3) (de_tup (da_cons de_int da_nil))))) (de_lcF (own := [("word", 3)]) rfl nd (blkOk_by (by kernel_rfl)) (di_seq (de_var 1)) (fun _ _ _ _ _ => (dg_name 3 nd)) (fun _ _ _ _ _ => dts_nil) (fun _ _ _ _ _ => (de_op2 (od_addG newL_F) (de_var 3) (de_tup (da_cons de_int da_nil)))))))))
    (dss_one (ds_ret (de_var 1)))))
theorem sc_falling : FnScope ["row"] ["row"] (defScope (top 14)) := ⟨rfl, rfl, rfl, by decide +kernel, rfl, by decide +kernel, by decide +kernel⟩
theorem D_falling (T : Txt P w K mg) (LT : Lams K mg base) : FnD P w K mg base "falling" 1 1 m_falling := by
  obtain ⟨f, fd, hg, Fd⟩ := T.d_falling
  refine fn_mkD (k := 0) hg Fd sc_falling rfl rfl finP_ok (fun _ _ _ _ _ _ us hl => match us, hl with | [_], _ => rfl) fun cdv A outer s H E hr hgd => ?_
  have nd := sc_falling.nd
  have hu := room_u hr
  unfold b_falling
  exact (dss_one (ds_ret (de_callTy cd_toT T.f_tuple boot_tuple (da_cons (de_srtR newL_F T.f_sorted boot_sorted (de_var 0)) da_nil))))
theorem sc_is_nested_in : FnScope ["row", "at", "entry", "one"] ["row"] (defScope (top 16)) := ⟨rfl, rfl, rfl, by decide +kernel, rfl, by decide +kernel, by decide +kernel⟩
theorem D_is_nested_in (T : Txt P w K mg) (LT : Lams K mg base) : FnD P w K mg base "is_nested_in" 1 1 m_is_nested_in := by
  obtain ⟨f, fd, hg, Fd⟩ := T.d_is_nested_in
  refine fn_mkD (k := 0) hg Fd sc_is_nested_in rfl rfl finP_ok (fun _ _ _ _ _ _ us hl => match us, hl with | [_], _ => rfl) fun cdv A outer s H E hr hgd => ?_
  have nd := sc_is_nested_in.nd
  have hu := room_u hr
  unfold b_is_nested_in
  exact (dss_cons (ds_for (ws := [1, 2]) (passes_of rfl) rfl (di_enum T.f_enumerate (da_cons (de_var 0) da_nil)) (dg_tup rfl (dgs_cons (dg_name 1 nd) (dgs_cons (dg_name 2 nd) dgs_nil))) (dss_one (ds_if (dt_bool (dw_and (dt_cmp od_gt (de_var 2) (de_var 1) (nomark _)) (dw_and1 (dt_cmp (od_ne hu) (de_callB cd_len T.f_len boot_len (da_cons (de_lcF (own := [("one", 3)]) rfl nd (blkOk_by (by kernel_rfl)) (di_seq (de_var 0)) (fun _ _ _ _ _ => (dg_name 3 nd)) (fun _ _ _ _ _ => (dts_one (dt_cmp od_gt (de_var 3) (de_var 1) (nomark _)))) (fun _ _ _ _ _ => (de_var 3))) da_nil)) (de_op2 (od_addG newL_F) (de_var 2) de_int) (nomark _))))) (dss_one (ds_ret de_bl)) dss_nil)))
    (dss_one (ds_ret de_bl)))
theorem sc_is_integer : FnScope ["value"] ["value"] (defScope (top 1)) := ⟨rfl, rfl, rfl, by decide +kernel, rfl, by decide +kernel, by decide +kernel⟩
theorem D_is_integer (T : Txt P w K mg) (LT : Lams K mg base) : FnD P w K mg base "is_integer" 1 1 m_is_integer := by
  obtain ⟨f, fd, hg, Fd⟩ := T.d_is_integer
  refine fn_mkD (k := 0) hg Fd sc_is_integer rfl rfl finP_ok (fun _ _ _ _ _ _ us hl => match us, hl with | [_], _ => rfl) fun cdv A outer s H E hr hgd => ?_
  have nd := sc_is_integer.nd
  have hu := room_u hr
  unfold b_is_integer
  exact (dss_one (ds_ret (de_and (de_callB cd_isi T.f_isinstance boot_isinstance (da_cons (de_var 0) (da_cons (de_tyn T.f_int boot_int) da_nil))) (de_one (de_not (de_callB cd_isi T.f_isinstance boot_isinstance (da_cons (de_var 0) (da_cons (de_tyn T.f_bool boot_bool) da_nil))))))))
theorem sc_is_from : FnScope ["value", "first", "last"] ["value", "first", "last"] (defScope (top 2)) := ⟨rfl, rfl, rfl, by decide +kernel, rfl, by decide +kernel, by decide +kernel⟩
theorem D_is_from (T : Txt P w K mg) (LT : Lams K mg base) : FnD P w K mg base "is_from" 2 3 m_is_from := by
  obtain ⟨f, fd, hg, Fd⟩ := T.d_is_from
  refine fn_mkD (k := 1) hg Fd sc_is_from rfl rfl finP_ok (fun _ _ _ _ _ _ us hl => match us, hl with | [_, _, _], _ => rfl) fun cdv A outer s H E hr hgd => ?_
  have nd := sc_is_from.nd
  have hu := room_u hr
  unfold b_is_from
  exact (dss_one (ds_ret (de_and (de_call (D_is_integer T LT) (hr.mono (by decide)) hgd (takes_of rfl rfl rfl rfl) (da_cons (de_var 0) da_nil)) (de_one (de_chain od_le od_le (de_var 1) (de_var 0) (de_var 2) fun _ _ o o2 => pe_chain o o2 (de_var 1) (de_var 0) (de_var 2))))))
theorem sc_is_amount : FnScope ["value"] ["value"] (defScope (top 11)) := ⟨rfl, rfl, rfl, by decide +kernel, rfl, by decide +kernel, by decide +kernel⟩
theorem D_is_amount (T : Txt P w K mg) (LT : Lams K mg base) : FnD P w K mg base "is_amount" 3 1 m_is_amount := by
  obtain ⟨f, fd, hg, Fd⟩ := T.d_is_amount
  refine fn_mkD (k := 2) hg Fd sc_is_amount rfl rfl finP_ok (fun _ _ _ _ _ _ us hl => match us, hl with | [_], _ => rfl) fun cdv A outer s H E hr hgd => ?_
  have nd := sc_is_amount.nd
  have hu := room_u hr
  unfold b_is_amount
  exact (dss_one (ds_ret (de_call (D_is_from T LT) (hr.mono (by decide)) hgd (takes_of rfl rfl rfl rfl) (da_cons (de_var 0) (da_cons de_int (da_cons (de_gint T.i_MAX_NUMBER) da_nil))))))
theorem sc_is_row : FnScope ["value", "entry"] ["value"] (defScope (top 12)) := ⟨rfl, rfl, rfl, by decide +kernel, rfl, by decide +kernel, by decide +kernel⟩
theorem D_is_row (T : Txt P w K mg) (LT : Lams K mg base) : FnD P w K mg base "is_row" 4 1 m_is_row := by
  obtain ⟨f, fd, hg, Fd⟩ := T.d_is_row
  refine fn_mkD (k := 3) hg Fd sc_is_row rfl rfl finP_ok (fun _ _ _ _ _ _ us hl => match us, hl with | [_], _ => rfl) fun cdv A outer s H E hr hgd => ?_
  have nd := sc_is_row.nd
  have hu := room_u hr
  unfold b_is_row
  exact (dss_cons (ds_if (dt_bool (dw_or (dt_not (dt_val (de_callB cd_isi T.f_isinstance boot_isinstance (da_cons (de_var 0) (da_cons (de_tyn T.f_tuple boot_tuple) da_nil))))) (dw_or1 (dt_not (dt_val (de_call (D_is_from T LT) (hr.mono (by decide)) hgd (takes_of rfl rfl rfl rfl) (da_cons (de_callB cd_len T.f_len boot_len (da_cons (de_var 0) da_nil)) (da_cons de_int (da_cons (de_gint T.i_MAX_LENGTH) da_nil))))))))) (dss_one (ds_ret de_bl)) dss_nil)
    (dss_one (ds_ret (de_callB (cd_all rfl) T.f_all boot_all (da_cons (de_lcF (own := [("entry", 1)]) rfl nd (blkOk_by (by kernel_rfl)) (di_seq (de_var 0)) (fun _ _ _ _ _ => (dg_name 1 nd)) (fun _ _ _ _ _ => dts_nil) (fun _ _ _ _ _ => (de_call (D_is_amount T LT) (hr.mono (by decide)) hgd takes0 (da_cons (de_var 1) da_nil)))) da_nil)))))
theorem sc_require_row : FnScope ["value"] ["value"] (defScope (top 13)) := ⟨rfl, rfl, rfl, by decide +kernel, rfl, by decide +kernel, by decide +kernel⟩
theorem D_require_row (T : Txt P w K mg) (LT : Lams K mg base) : FnD P w K mg base "require_row" 5 1 m_require_row := by
  obtain ⟨f, fd, hg, Fd⟩ := T.d_require_row
  refine fn_mkD (k := 4) hg Fd sc_require_row rfl rfl finP_ok (fun _ _ _ _ _ _ us hl => match us, hl with | [_], _ => rfl) fun cdv A outer s H E hr hgd => ?_
  have nd := sc_require_row.nd
  have hu := room_u hr
  unfold b_require_row
  exact (dss_one (ds_if (dt_not (dt_val (de_call (D_is_row T LT) (hr.mono (by decide)) hgd (takes_of rfl rfl rfl rfl) (da_cons (de_var 0) da_nil)))) (dss_one (ds_raiseE T.e_InvalidSums (takes_of rfl rfl rfl rfl))) dss_nil))
theorem sc_is_nested_row : FnScope ["degrees"] ["degrees"] (defScope (top 17)) := ⟨rfl, rfl, rfl, by decide +kernel, rfl, by decide +kernel, by decide +kernel⟩
theorem D_is_nested_row (T : Txt P w K mg) (LT : Lams K mg base) : FnD P w K mg base "is_nested_row" 6 1 m_is_nested_row := by
  obtain ⟨f, fd, hg, Fd⟩ := T.d_is_nested_row
  refine fn_mkD (k := 5) hg Fd sc_is_nested_row rfl rfl finP_ok (fun _ _ _ _ _ _ us hl => match us, hl with | [_], _ => rfl) fun cdv A outer s H E hr hgd => ?_
  have nd := sc_is_nested_row.nd
  have hu := room_u hr
  unfold b_is_nested_row
  exact (dss_cons (ds_expr (de_call (D_require_row T LT) (hr.mono (by decide)) hgd (takes_of rfl rfl rfl rfl) (da_cons (de_var 0) da_nil)))
    (dss_one (ds_ret (de_call (D_is_nested_in T LT) (hr.mono (by decide)) hgd (takes_of rfl rfl rfl rfl) (da_cons (de_call (D_falling T LT) (hr.mono (by decide)) hgd (takes_of rfl rfl rfl rfl) (da_cons (de_var 0) da_nil)) da_nil)))))
theorem sc_nested_in : FnScope ["places", "total", "rows", "row", "one"] ["places", "total"] (defScope (top 18)) := ⟨rfl, rfl, rfl, by decide +kernel, rfl, by decide +kernel, by decide +kernel⟩
theorem D_nested_in (T : Txt P w K mg) (LT : Lams K mg base) : ∀ kk : Nat, FnD P w K mg base "nested_in" (1 + kk) 2 (m_nested_in kk)
  | 0 => by
    obtain ⟨f, fd, hg, Fd⟩ := T.d_nested_in
    exact fn_stuck hg Fd (ps := ["places", "total"]) rfl (fun _ _ _ _ _ _ us hl => match us, hl with | [_, _], _ => rfl)
  | kk + 1 => by
    obtain ⟨f, fd, hg, Fd⟩ := T.d_nested_in
    refine fn_mkD (k := 1 + kk) hg Fd sc_nested_in rfl rfl finP_ok (fun _ _ _ _ _ _ us hl => match us, hl with | [_, _], _ => rfl) fun cdv A outer s H E hr hgd => ?_
    have nd := sc_nested_in.nd
    have hu := room_u hr
    unfold b_nested_in
    exact (dss_cons (ds_if (dt_bool (dw_or (dt_cmp od_lt (de_var 1) de_int (nomark _)) (dw_or1 (dt_cmp od_gt (de_var 1) (de_op2 (od_mulA newL_F) (de_var 0) (de_op2 od_sub (de_var 0) de_int)) (nomark _))))) (dss_one (ds_ret (de_lstF da_nil))) dss_nil)
    (dss_cons (ds_if (dt_cmp (od_eq hu) (de_var 0) de_int (nomark _)) (dss_one (ds_ret (de_lstF (da_cons (de_tup (da_cons de_int da_nil)) da_nil)))) dss_nil)
    (dss_cons (ds_setLc 2 (own := [("row", 3)]) rfl nd (blkOk_by (by kernel_rfl)) (di_seq (de_call (D_nested_in T LT kk) (hr.mono (by omega)) hgd (takes_of rfl rfl rfl rfl) (da_cons (de_op2 od_sub (de_var 0) de_int) (da_cons (de_var 1) da_nil)))) (fun _ _ _ _ _ => (dg_name 3 nd)) (fun _ _ _ _ _ => dts_nil) (fun _ _ _ _ _ => (de_tup (da_star (de_var 3) (da_cons de_int da_nil)))) (sw_true rfl rfl rfl (by decide +kernel)))
    (dss_cons (ds_for (ws := [3]) (passes_of rfl) rfl (di_seq (de_call (D_nested_in T LT kk) (hr.mono (by omega)) hgd (takes_of rfl rfl rfl rfl) (da_cons (de_op2 od_sub (de_var 0) de_int) (da_cons (de_op2 od_sub (de_var 1) (de_op2 (od_mulA newL_F) de_int (de_op2 od_sub (de_var 0) de_int))) da_nil)))) (dg_name 3 nd) (dss_one (ds_expr (de_meth md_append PySem.F.slot_list_append PySem.F.type_list_append (de_var 2) (da_cons (de_tup (da_cons (de_op2 od_sub (de_var 0) de_int) (da_star (de_lcF (own := [("one", 4)]) rfl nd (blkOk_by (by kernel_rfl)) (di_seq (de_var 3)) (fun _ _ _ _ _ => (dg_name 4 nd)) (fun _ _ _ _ _ => dts_nil) (fun _ _ _ _ _ => (de_op2 (od_addG newL_F) (de_var 4) de_int))) da_nil))) da_nil)))))
    (dss_one (ds_ret (de_var 2)))))))
theorem sc_nested_rows : FnScope ["places", "total"] ["places", "total"] (defScope (top 19)) := ⟨rfl, rfl, rfl, by decide +kernel, rfl, by decide +kernel, by decide +kernel⟩
theorem D_nested_rows (T : Txt P w K mg) (LT : Lams K mg base) : FnD P w K mg base "nested_rows" 22 2 m_nested_rows := by
  obtain ⟨f, fd, hg, Fd⟩ := T.d_nested_rows
  refine FnD.cl ?_
  refine fn_mkD (k := 21) hg Fd sc_nested_rows rfl rfl finP_ok (fun _ _ _ _ _ _ us hl => match us, hl with | [_, _], _ => rfl) fun cdv A outer s H E hr hgd => ?_
  have nd := sc_nested_rows.nd
  have hu := room_u hr
  unfold b_nested_rows
  exact (dss_cons (ds_if (dt_not (dt_val (de_call (D_is_from T LT) (hr.mono (by decide)) hgd (takes_of rfl rfl rfl rfl) (da_cons (de_var 0) (da_cons de_int (da_cons (de_gint T.i_MAX_PLACES) da_nil)))))) (dss_one (ds_raise1E (k := 0) T.n_InvalidNumber (takes_of rfl rfl rfl rfl) (hr.mono (by decide)) (de_var 0))) dss_nil)
    (dss_cons (ds_if (dt_bool (dw_or (dt_not (dt_val (de_call (D_is_integer T LT) (hr.mono (by decide)) hgd (takes_of rfl rfl rfl rfl) (da_cons (de_var 1) da_nil)))) (dw_or1 (dt_cmp od_lt (de_var 1) de_int (nomark _))))) (dss_one (ds_raise1E (k := 0) T.n_InvalidNumber (takes_of rfl rfl rfl rfl) (hr.mono (by decide)) (de_var 1))) dss_nil)
    (dss_one (ds_ret (de_callTy cd_toT T.f_tuple boot_tuple (da_cons (de_callB (cd_sort newL_F) T.f_sorted boot_sorted (da_cons (de_call (D_nested_in T LT 20) (hr.mono (by decide)) hgd (takes_of rfl rfl rfl rfl) (da_cons (de_var 0) (da_cons (de_var 1) da_nil))) da_nil)) da_nil))))))
theorem sc__law_right : FnScope ["vat", "places", "rows", "many", "total", "told", "turn", "row", "word", "place"] ["vat"] (defScope (top 27)) := ⟨rfl, rfl, rfl, by decide +kernel, rfl, by decide +kernel, by decide +kernel⟩
theorem D__law_right (T : Txt P w K mg) (LT : Lams K mg base) : FnD P w K mg base "_law_right" 23 1 m__law_right := by
  obtain ⟨f, fd, hg, Fd⟩ := T.d__law_right
  refine fn_mkD (k := 22) hg Fd sc__law_right rfl rfl finP_ok (fun _ _ _ _ _ _ us hl => match us, hl with | [_], _ => rfl) fun cdv A outer s H E hr hgd => ?_
  have nd := sc__law_right.nd
  have hu := room_u hr
  unfold b__law_right
  exact (dss_cons (ds_set 1 nd (de_op2 (od_addG newL_F) de_int (de_call (D__law_dip T LT) (hr.mono (by decide)) hgd (takes_of rfl rfl rfl rfl) (da_cons (de_var 0) (da_cons de_int da_nil)))))
    (dss_cons (ds_set 2 nd (de_callB (cd_sort newL_F) T.f_sorted boot_sorted (da_cons (de_lcF (own := [("word", 8)]) rfl nd (blkOk_by (by kernel_rfl)) (di_seq (de_call (D__law_words T LT) (hr.mono (by decide)) hgd (takes_of rfl rfl rfl rfl) (da_cons (de_var 1) da_nil))) (fun _ _ _ _ _ => (dg_name 8 nd)) (fun _ _ _ _ _ => dts_nil) (fun _ _ _ _ _ => (de_call (D__law_row_of T LT) (hr.mono (by decide)) hgd takes0 (da_cons (de_var 8) da_nil)))) da_nil)))
    (dss_cons (ds_if (dt_cmp (od_ne hu) (de_lenSetN hu T.f_len T.f_set (de_var 2)) (de_callB cd_len T.f_len boot_len (da_cons (de_var 2) da_nil)) (nomark _)) (dss_one (ds_ret de_bl)) dss_nil)
    (dss_cons (ds_set 3 nd de_int)
    (dss_cons (ds_for (ws := [4]) (passes_of rfl) rfl (di_range1 T.f_range (da_cons (de_op2 (od_addG newL_F) (de_op2 (od_mulA newL_F) (de_var 1) (de_op2 od_sub (de_var 1) de_int)) de_int) da_nil)) (dg_name 4 nd) (dss_cons (ds_set 5 nd (de_call (D_nested_rows T LT) (hr.mono (by decide)) hgd (takes_of rfl rfl rfl rfl) (da_cons (de_var 1) (da_cons (de_var 4) da_nil))))
    (dss_cons (ds_if (dt_cmp (od_ne hu) (de_var 5) (de_callTy cd_toT T.f_tuple boot_tuple (da_cons (de_lcF (own := [("row", 7)]) rfl nd (blkOk_by (by kernel_rfl)) (di_seq (de_var 2)) (fun _ _ _ _ _ => (dg_name 7 nd)) (fun _ _ _ _ _ => (dts_one (dt_cmp (od_eq hu) (de_callB (cd_sum rfl) T.f_sum boot_sum (da_cons (de_var 7) da_nil)) (de_var 4) (nomark _)))) (fun _ _ _ _ _ => (de_var 7))) da_nil)) (nomark _)) (dss_one (ds_ret de_bl)) dss_nil)
    (dss_one (ds_set 3 nd (de_op2 (od_addG newL_F) (de_var 3) (de_callB cd_len T.f_len boot_len (da_cons (de_var 5) da_nil))))))))
    (dss_cons (ds_if (dt_bool (dw_or (dt_cmp (od_ne hu) (de_var 3) (de_callB cd_len T.f_len boot_len (da_cons (de_var 2) da_nil)) (nomark _)) (dw_or1 (dt_cmp (od_ne hu) (de_call (D_nested_rows T LT) (hr.mono (by decide)) hgd (takes_of rfl rfl rfl rfl) (da_cons (de_var 1) (da_cons (de_op2 od_pow de_int de_int) da_nil))) (de_tup da_nil) (nomark _))))) (dss_one (ds_ret de_bl)) dss_nil)
    (dss_cons (ds_for (ws := [6]) (passes_of rfl) rfl (di_range1 T.f_range (da_cons de_int da_nil)) (dg_name 6 nd) (dss_cons (ds_set 7 nd (de_callTy cd_toT T.f_tuple boot_tuple (da_cons (de_lcF (own := [("place", 9)]) rfl nd (blkOk_by (by kernel_rfl)) (di_range1 T.f_range (da_cons (de_var 1) da_nil)) (fun _ _ _ _ _ => (dg_name 9 nd)) (fun _ _ _ _ _ => dts_nil) (fun _ _ _ _ _ => (de_call (D__law_dip T LT) (hr.mono (by decide)) hgd takes0 (da_cons (de_var 0) (da_cons (de_op2 (od_addG newL_F) (de_var 1) de_int) da_nil))))) da_nil)))
    (dss_one (ds_if (dt_cmp (od_ne hu) (de_call (D_is_nested_row T LT) (hr.mono (by decide)) hgd (takes_of rfl rfl rfl rfl) (da_cons (de_var 7) da_nil)) (de_cmp (od_in hu) (de_callTy cd_toT T.f_tuple boot_tuple (da_cons (de_srtR newL_F T.f_sorted boot_sorted (de_var 7)) da_nil)) (de_var 2) (by rfl)) (nomark _)) (dss_one (ds_ret de_bl)) dss_nil))))
    (dss_one (ds_ret (de_call (D_is_nested_row T LT) (hr.mono (by decide)) hgd (takes_of rfl rfl rfl rfl) (da_cons (de_callTy cd_toT T.f_tuple boot_tuple (da_cons (de_call (D__law_mixed T LT) (hr.mono (by decide)) hgd (takes_of rfl rfl rfl rfl) (da_cons (de_var 0) (da_cons (de_call (D__law_pick T LT) (hr.mono (by decide)) hgd (takes_of rfl rfl rfl rfl) (da_cons (de_var 0) (da_cons (de_var 2) da_nil))) da_nil))) da_nil)) da_nil)))))))))))
theorem sc__law_vat : FnScope ["script", "spot", "cell", "great", "seed"] ["script", "spot"] (defScope (top 21)) := ⟨rfl, rfl, rfl, by decide +kernel, rfl, by decide +kernel, by decide +kernel⟩
theorem D__law_vat (T : Txt P w K mg) (LT : Lams K mg base) : FnD P w K mg base "_law_vat" 1 2 m__law_vat := by
  obtain ⟨f, fd, hg, Fd⟩ := T.d__law_vat
  refine fn_mkD (k := 0) hg Fd sc__law_vat rfl rfl finN_ok (fun _ _ _ _ _ _ us hl => match us, hl with | [_, _], _ => rfl) fun cdv A outer s H E hr hgd => ?_
  have nd := sc__law_vat.nd
  have hu := room_u hr
  unfold b__law_vat
  exact (dss_cons (ds_set 2 nd (de_if (dt_cmp od_lt (de_var 1) (de_callB cd_len T.f_len boot_len (da_cons (de_var 0) da_nil)) (nomark _)) (de_ix ixd (de_var 0) (de_var 1)) (de_op2 (od_addG newL_F) (de_op2 (od_mulA newL_F) de_int (de_var 1)) de_int)))
    (dss_cons (ds_set 3 nd (de_op2 od_mod (de_callTy cd_int T.f_int boot_int (da_cons (de_callB cd_abs T.f_abs boot_abs (da_cons (de_var 2) da_nil)) da_nil)) (de_op2 od_pow (de_op2 od_pow de_int de_int) de_int)))
    (dss_cons (ds_set 4 nd (de_op2 od_mod (de_callTy cd_int T.f_int boot_int (da_cons (de_op2 (od_addG newL_F) (de_op2 (od_addG newL_F) (de_op2 (od_addG newL_F) (de_op2 (od_mulA newL_F) (de_var 3) de_int) (de_op2 (od_mulA newL_F) de_int (de_var 1))) (de_op2 (od_mulA newL_F) de_int (de_callTy cd_int T.f_int boot_int (da_cons (de_cmp od_lt (de_var 2) de_int (nomark _)) da_nil)))) de_int) da_nil)) de_int))
    (dss_one (ds_ret (de_lst (da_cons (de_callB (cd_max rfl hu) T.f_max boot_max (da_cons de_int (da_cons (de_op2 od_sub (de_var 3) (de_op2 od_pow de_int de_int)) da_nil))) (da_cons (de_var 4) (da_cons de_int da_nil)))))))))
theorem sc_law : FnScope ["script", "spot", "told"] ["script"] (defScope (top 28)) := ⟨rfl, rfl, rfl, by decide +kernel, rfl, by decide +kernel, by decide +kernel⟩
theorem G_law (T : Txt P w K mg) (LT : Lams K mg base) {f : Addr} {fd : FuncData} (Fd : FunD K "law" "law" (defArgs (top 28)) (defBody (top 28)) (defScope (top 28)) [] [] f fd) : FnOkG P w K mg base 24 f fd ["script"] (spD ⟨K, mg⟩ 1 m_law) := by
  refine fn_body (k := 23) Fd sc_law rfl rfl finP_ok fun cdv A outer s H E hr hgd => ?_
  have nd := sc_law.nd
  have hu := room_u hr
  unfold b_law
  exact (dss_cons (ds_for (ws := [1]) (passes_of rfl) rfl (di_range1 T.f_range (da_cons (de_callB (cd_max rfl hu) T.f_max boot_max (da_cons de_int (da_cons (de_callB (cd_min rfl hu) T.f_min boot_min (da_cons de_int (da_cons (de_callB cd_len T.f_len boot_len (da_cons (de_var 0) da_nil)) da_nil))) da_nil))) da_nil)) (dg_name 1 nd) (dss_one (ds_if (dt_not (dt_val (de_call (D__law_right T LT) (hr.mono (by decide)) hgd (takes_of rfl rfl rfl rfl) (da_cons (de_call (D__law_vat T LT) (hr.mono (by decide)) hgd (takes_of rfl rfl rfl rfl) (da_cons (de_var 0) (da_cons (de_var 1) da_nil))) da_nil)))) (dss_one (ds_ret de_bl)) dss_nil)))
    (dss_cons (ds_set 2 nd (de_lstF (da_cons (de_call (D_nested_rows T LT) (hr.mono (by decide)) hgd (takes_of rfl rfl rfl rfl) (da_cons de_int (da_cons de_int da_nil))) (da_cons (de_call (D_nested_rows T LT) (hr.mono (by decide)) hgd (takes_of rfl rfl rfl rfl) (da_cons de_int (da_cons de_int da_nil))) (da_cons (de_call (D_nested_rows T LT) (hr.mono (by decide)) hgd (takes_of rfl rfl rfl rfl) (da_cons de_int (da_cons de_int da_nil))) (da_cons (de_call (D_nested_rows T LT) (hr.mono (by decide)) hgd (takes_of rfl rfl rfl rfl) (da_cons de_int (da_cons de_int da_nil))) (da_cons (de_call (D_nested_rows T LT) (hr.mono (by decide)) hgd (takes_of rfl rfl rfl rfl) (da_cons de_int (da_cons de_int da_nil))) da_nil)))))))
    (dss_one (ds_ret (de_cmp (od_eq hu) (de_var 2) (de_lstF (da_cons (de_tup (da_cons (de_tup (da_cons de_int (da_cons de_int (da_cons de_int (da_cons de_int da_nil))))) da_nil)) (da_cons (de_tup (da_cons (de_tup (da_cons de_int (da_cons de_int (da_cons de_int (da_cons de_int da_nil))))) (da_cons (de_tup (da_cons de_int (da_cons de_int (da_cons de_int (da_cons de_int da_nil))))) da_nil))) (da_cons (de_tup da_nil) (da_cons (de_tup (da_cons (de_tup (da_cons de_int da_nil)) da_nil)) (da_cons (de_tup (da_cons (de_op2 (od_mulA newL_F) (de_tup (da_cons de_int da_nil)) de_int) da_nil)) da_nil)))))) (nomark _))))))
end
end DL
set_option maxHeartbeats 4000000
/-! DLPure: how runs are reckoned. -/
namespace DL
open PySem PySem.Spec PyProof.Rows L2

/-! ### one step each -/
section
variable {ρ : Env} {S S' : Store} {ma mb mc mo mi me : ME D} {mr : ME (List D)} {mt mu : ME Bool} {f g : F2} {h : F1} {fl : FL} {fm : FM} {a b : MS} {α β : Type}
theorem r_ok {x : α} {k : α → M β} : Res.bind (.ok x S) k = k x S := rfl
theorem r_err {x : Exc} {k : α → M β} : Res.bind (.err x S) k = .err x S := rfl
theorem r_c {p : P} : mC p ρ S = .ok (.p p) S := rfl
theorem r_var {i : Nat} {d : D} (e : ρ[i]? = some (some d)) : mVar i ρ S = .ok d S := by
  unfold mVar
  rw [e]
theorem r_op2 : mOp2 f ma mb ρ S = (ma ρ S).bind fun x => fun S => (mb ρ S).bind fun y => lift (f x y) := rfl
theorem r_op1 : mOp1 h ma ρ S = (ma ρ S).bind fun x => lift (h x) := rfl
theorem r_lift {f : Store → Option (α × Store)} {x : α} (e : f S = some (x, S')) : lift f S = .ok x S' := by
  unfold lift
  rw [e]
theorem r_nil : mNil ρ S = .ok [] S := rfl
theorem r_cons : mCons ma mr ρ S = (ma ρ S).bind fun x => fun S => (mr ρ S).bind fun xs => fun S => .ok (x :: xs) S := rfl
theorem r_callB : mCallB fl mr ρ S = (mr ρ S).bind fun xs => lift (fl xs) := rfl
theorem r_call {mf : List D → M D} : mCall mf mr ρ S = (mr ρ S).bind mf := rfl
theorem r_and : mAnd ma mb ρ S = (ma ρ S).bind fun x => fun S => (asB x S).bind fun b => fun S => if b = true then mb ρ S else .ok (.p (.bl false)) S := rfl
theorem r_or : mOr ma mb ρ S = (ma ρ S).bind fun x => fun S => (asB x S).bind fun b => fun S => if b = true then .ok (.p (.bl true)) S else mb ρ S := rfl
theorem r_not : mNot ma ρ S = (ma ρ S).bind fun x => fun S => (asB x S).bind fun b => fun S => .ok (.p (.bl (!b))) S := rfl
theorem r_asB {b : Bool} : asB (.p (.bl b)) S = .ok b S := rfl
theorem r_if : mIf mt ma mb ρ S = (mt ρ S).bind fun b => fun S => if b = true then ma ρ S else mb ρ S := rfl
theorem r_andT : mAndT mt mu ρ S = (mt ρ S).bind fun b => fun S => if b = true then mu ρ S else .ok false S := rfl
theorem r_orT : mOrT mt mu ρ S = (mt ρ S).bind fun b => fun S => if b = true then .ok true S else mu ρ S := rfl
theorem r_notT : mNotT mt ρ S = (mt ρ S).bind fun b => fun S => .ok (!b) S := rfl
theorem r_test : mTest ma ρ S = (ma ρ S).bind asB := rfl
theorem r_chain : mChain f g ma mb mc ρ S = (ma ρ S).bind fun x => fun S => (mb ρ S).bind fun y => fun S => (lift (f x y) S).bind fun z => fun S => (asB z S).bind fun b => fun S =>
  if b = true then (mc ρ S).bind fun u => lift (g y u) else .ok (.p (.bl false)) S := rfl
theorem r_seq : mSeq a b ρ S = (a ρ S).bind (oSeq b) := rfl
theorem r_nx : oSeq b (.nx ρ) S = b ρ S := rfl
theorem r_rt {d : D} : oSeq b (.rt d) S = .ok (.rt d) S := rfl
theorem r_bk : oSeq b (.bk ρ) S = .ok (.bk ρ) S := rfl
theorem r_ct : oSeq b (.ct ρ) S = .ok (.ct ρ) S := rfl
theorem r_next : mNext ρ S = .ok (.nx ρ) S := rfl
theorem r_break : mBreak ρ S = .ok (.bk ρ) S := rfl
theorem r_cont : mCont ρ S = .ok (.ct ρ) S := rfl
theorem r_drop : mDrop ma ρ S = (ma ρ S).bind fun _ S => .ok (.nx ρ) S := rfl
theorem r_ret : mRet ma ρ S = (ma ρ S).bind fun d S => .ok (.rt d) S := rfl
theorem r_retN : mRetN ρ S = .ok (.rt (.p .non)) S := rfl
theorem r_asg {i : Nat} : mAsg (gNm i) ma ρ S = (ma ρ S).bind fun d S => .ok (.nx (ρ.set i (some d))) S := rfl
theorem r_asgG {g : MG} : mAsg g ma ρ S = (ma ρ S).bind fun d => gRun g d ρ := rfl
theorem r_aug {i : Nat} : mAug i f ma ρ S = (mVar i ρ S).bind fun x => fun S => (ma ρ S).bind fun y => fun S => (lift (f x y) S).bind fun z S => .ok (.nx (ρ.set i (some z))) S := rfl
theorem r_ifS : mIfS mt a b ρ S = (mt ρ S).bind fun k => if k = true then a ρ else b ρ := rfl
theorem r_par {is : List Nat} : mPar is mr ρ S = (mr ρ S).bind fun ds S => if ds.length = is.length then .ok (.nx (gPar is ds ρ)) S else .stuck := rfl
theorem r_sl {f : FS} {ml mh : ME (Option Int)} : mSl f ma ml mh ρ S = (ma ρ S).bind fun x => fun S => (ml ρ S).bind fun l => fun S => (mh ρ S).bind fun h => lift (f x l h) := rfl
theorem r_noPart : mNoPart ρ S = .ok none S := rfl
theorem r_part : mPart ma ρ S = (ma ρ S).bind fun x => fun S => (asInt x S).bind fun i S => .ok (some i) S := rfl
theorem r_asInt {i : Int} : asInt (.p (.int i)) S = .ok i S := rfl
theorem r_put : mPut me mo mi ρ S = (me ρ S).bind fun y => fun S => (mo ρ S).bind fun x => fun S => (mi ρ S).bind fun i => liftS (fPut x i y) ρ := rfl
theorem r_liftS {f : Store → Option Store} (e : f S = some S') : liftS f ρ S = .ok (.nx ρ) S' := by
  unfold liftS
  rw [e]
theorem r_meth : mMeth fm mo mr ρ S = (mo ρ S).bind fun x => fun S => (lift (fun S => match x.lst? S with
  | some _ => some ((), S)
  | none => none) S).bind fun _ S => (mr ρ S).bind fun ys => lift (fm x ys) := rfl
theorem r_for {mi : ME Src} {g : MG} : mFor mi g a ρ S = (mi ρ S).bind fun src => loopI src.watch g a src.xs ρ := rfl
theorem r_src {f : D → Store → Option (Src × Store)} : mSrc f ma ρ S = (ma ρ S).bind fun d => lift (f d) := rfl
theorem r_srcA {f : List D → Store → Option (Src × Store)} : mSrcA f mr ρ S = (mr ρ S).bind fun d => lift (f d) := rfl
theorem r_comp {mi : ME Src} {vs : List Nat} {g : MG} : mCompL mi vs g mt me ρ S = (mi ρ S).bind fun src => compI src.watch g mt me (unsetE ρ vs) [] src.xs := rfl
theorem r_while0 : mWhile mt a 0 ρ S = .stuck := rfl
theorem r_while {n : Nat} : mWhile mt a (n + 1) ρ S = (mt ρ S).bind fun k => if k = true then fun S => (a ρ S).bind (oLoop (mWhile mt a n)) else fun S => .ok (.nx ρ) S := rfl
theorem r_oNx {k : Env → M Out} : oLoop k (.nx ρ) S = k ρ S := rfl
theorem r_oCt {k : Env → M Out} : oLoop k (.ct ρ) S = k ρ S := rfl
theorem r_oBk {k : Env → M Out} : oLoop k (.bk ρ) S = .ok (.nx ρ) S := rfl
theorem r_oRt {k : Env → M Out} {d : D} : oLoop k (.rt d) S = .ok (.rt d) S := rfl
theorem r_fn {N : Nat} {fin : Fin} {ds : List D} : mFn N fin a ds S = finR fin S.objs.length ((a (env0 N ds) S).bind asRet) := rfl
theorem r_asNx : asRet (.nx ρ) S = .ok (.p .non) S := rfl
theorem r_asRt {d : D} : asRet (.rt d) S = .ok d S := rfl
theorem r_finOk {fin : Fin} {k : Nat} {d : D} : finR fin k (.ok d S) = .ok (fin k d S).1 (fin k d S).2 := rfl
theorem r_tt {α : Type} {x y : α} : (if true = true then x else y) = x := if_pos rfl
theorem r_ff {α : Type} {x y : α} : (if false = true then x else y) = y := if_neg (by decide)
theorem r_yes : mYes ρ S = .ok true S := rfl
end

/-! ### the ends of defs -/
theorem cut_self (S : Store) : Store.cut S.objs.length S = some S := by
  unfold Store.cut
  have h : (decide (S.objs.length ≤ S.objs.length) && allBelow S.objs.length (S.objs.take S.objs.length)) = true := by
    rw [List.take_length, S.wf, decide_eq_true (Nat.le_refl _)]
    rfl
  rw [dif_pos h]
  exact congrArg some (Store.ext' (List.take_length))
theorem cut_pre {S S' : Store} (h : S'.objs.take S.objs.length = S.objs) : Store.cut S.objs.length S' = some S := by
  unfold Store.cut
  have hl : S.objs.length ≤ S'.objs.length := by
    have := congrArg List.length h
    rw [List.length_take] at this
    omega
  have h2 : (decide (S.objs.length ≤ S'.objs.length) && allBelow S.objs.length (S'.objs.take S.objs.length)) = true := by
    rw [h, S.wf, decide_eq_true hl]
    rfl
  rw [dif_pos h2]
  exact congrArg some (Store.ext' h)
theorem finP_p {S S' : Store} {x : P} (h : S'.objs.take S.objs.length = S.objs) : finP S.objs.length (.p x) S' = (.p x, S) := by
  unfold finP
  rw [cut_pre h]
  simp only [frzD]
theorem finP_self {S : Store} {x : P} : finP S.objs.length (.p x) S = (.p x, S) := finP_p (List.take_length)
/-- a def that answers data and leaves the store longer at most -/
theorem fn_pure {N : Nat} {a : MS} {ds : List D} {S S' : Store} {x : P} (h : a (env0 N ds) S = .ok (.rt (.p x)) S') (hs : S'.objs.take S.objs.length = S.objs) : mFn N finP a ds S = .ok (.p x) S := by
  rw [r_fn, h, r_ok, r_asRt, r_finOk, finP_p hs]
theorem fn_pure0 {N : Nat} {a : MS} {ds : List D} {S : Store} {x : P} (h : a (env0 N ds) S = .ok (.rt (.p x)) S) : mFn N finP a ds S = .ok (.p x) S := fn_pure h (List.take_length)
theorem fn_none {N : Nat} {a : MS} {ds : List D} {S S' : Store} {ρ : Env} (h : a (env0 N ds) S = .ok (.nx ρ) S') (hs : S'.objs.take S.objs.length = S.objs) : mFn N finP a ds S = .ok (.p .non) S := by
  rw [r_fn, h, r_ok, r_asNx, r_finOk, finP_p hs]

/-! ### comprehensions without a change of the store -/
theorem compI_nil {w : List (Nat × List D)} {g : MG} {t : ME Bool} {e : ME D} {ρ : Env} {acc : List D} {S : Store} (hw : watchOk w S = true) : compI w g t e ρ acc [] S = .ok acc S := by
  unfold compI
  rw [if_pos hw]
theorem compI_pure {w : List (Nat × List D)} {g : MG} {t : ME Bool} {e : ME D} {ρ : Env} {S : Store} {p : D → Bool} {f : D → D} (hw : watchOk w S = true) : ∀ (xs acc : List D), acc.length + xs.length ≤ 100000 →
    (∀ x ∈ xs, ∃ ρ', g x ρ S = some ρ' ∧ t ρ' S = .ok (p x) S ∧ (p x = true → e ρ' S = .ok (f x) S)) → compI w g t e ρ acc xs S = .ok (acc ++ (xs.filter p).map f) S
  | [], acc, _, _ => by
    rw [compI_nil hw]
    simp
  | x :: xs, acc, hl, h => by
    obtain ⟨ρ', e1, e2, e3⟩ := h x List.mem_cons_self
    have hl' : acc.length < 100000 := by
      rw [List.length_cons] at hl
      omega
    unfold compI
    rw [if_pos hw, e1]
    simp only [e2, noErr, r_ok]
    cases hp : p x with
    | false =>
      simp only [Bool.false_eq_true, if_false]
      rw [compI_pure hw xs acc (by rw [List.length_cons] at hl; omega) fun y hy => h y (List.mem_cons_of_mem _ hy)]
      rw [List.filter_cons_of_neg (by rw [hp]; decide)]
    | true =>
      simp only [if_true, e3 hp, noErr, r_ok]
      rw [if_pos hl', compI_pure hw xs (acc ++ [f x]) (by rw [List.length_append, List.length_singleton]; rw [List.length_cons] at hl; omega) fun y hy => h y (List.mem_cons_of_mem _ hy)]
      rw [List.filter_cons_of_pos hp, List.map_cons, List.append_assoc]
      rfl
/-- all items kept -/
theorem compI_map {w : List (Nat × List D)} {g : MG} {e : ME D} {ρ : Env} {S : Store} {f : D → D} (hw : watchOk w S = true) (xs : List D) (hl : xs.length ≤ 100000)
    (h : ∀ x ∈ xs, ∃ ρ', g x ρ S = some ρ' ∧ e ρ' S = .ok (f x) S) : compI w g mYes e ρ [] xs S = .ok (xs.map f) S := by
  rw [compI_pure (p := fun _ => true) (f := f) hw xs [] (by simpa using hl) fun x hx => by
    obtain ⟨ρ', a, b⟩ := h x hx
    exact ⟨ρ', a, rfl, fun _ => b⟩]
  rw [List.nil_append, List.filter_eq_self.mpr fun _ _ => rfl]
/-! ### comprehensions that change the store -/
theorem compI_inv {w : List (Nat × List D)} {g : MG} {e : ME D} {ρ : Env} {I : List D → List D → Store → Prop} (hw : ∀ acc xs S, I acc xs S → watchOk w S = true)
    (step : ∀ acc x xs S, I acc (x :: xs) S → acc.length < 100000 ∧ ∃ ρ' y S', g x ρ S = some ρ' ∧ e ρ' S = .ok y S' ∧ I (acc ++ [y]) xs S') :
    ∀ (xs acc : List D) (S : Store), I acc xs S → ∃ out S', compI w g mYes e ρ acc xs S = .ok out S' ∧ I out [] S'
  | [], acc, S, h => ⟨acc, S, compI_nil (hw _ _ _ h), h⟩
  | x :: xs, acc, S, h => by
    obtain ⟨hl, ρ', y, S1, e1, e2, h1⟩ := step acc x xs S h
    obtain ⟨out, S2, e3, h2⟩ := compI_inv hw step xs (acc ++ [y]) S1 h1
    refine ⟨out, S2, ?_, h2⟩
    unfold compI
    rw [if_pos (hw _ _ _ h), e1]
    simp only [r_yes, noErr, r_ok, if_true, e2]
    rw [if_pos hl]
    exact e3
/-! ### loops -/
theorem loopI_nil {w : List (Nat × List D)} {g : MG} {b : MS} {ρ : Env} {S : Store} (hw : watchOk w S = true) : loopI w g b [] ρ S = .ok (.nx ρ) S := by
  unfold loopI
  rw [if_pos hw]
theorem loopI_cons {w : List (Nat × List D)} {g : MG} {b : MS} {ρ ρ' : Env} {S : Store} {x : D} {xs : List D} (hw : watchOk w S = true) (hg : g x ρ S = some ρ') : loopI w g b (x :: xs) ρ S = (b ρ' S).bind (oLoop (loopI w g b xs)) := by
  conv => lhs; unfold loopI
  rw [if_pos hw]
  unfold gBind
  rw [hg]
theorem loopI_inv {w : List (Nat × List D)} {g : MG} {b : MS} {I : List D → Env → Store → Prop} (hw : ∀ xs ρ S, I xs ρ S → watchOk w S = true)
    (step : ∀ x xs ρ S, I (x :: xs) ρ S → ∃ ρ' ρ'' S', g x ρ S = some ρ' ∧ b ρ' S = .ok (.nx ρ'') S' ∧ I xs ρ'' S') :
    ∀ (xs : List D) (ρ : Env) (S : Store), I xs ρ S → ∃ ρ' S', loopI w g b xs ρ S = .ok (.nx ρ') S' ∧ I [] ρ' S'
  | [], ρ, S, h => ⟨ρ, S, loopI_nil (hw _ _ _ h), h⟩
  | x :: xs, ρ, S, h => by
    obtain ⟨ρ', ρ'', S1, e1, e2, h1⟩ := step x xs ρ S h
    obtain ⟨ρ3, S3, e3, h3⟩ := loopI_inv hw step xs ρ'' S1 h1
    refine ⟨ρ3, S3, ?_, h3⟩
    rw [loopI_cons (hw _ _ _ h) e1, e2, r_ok, r_oNx]
    exact e3

/-! ### ints in lists and tuples -/
theorem intsD_d : ∀ ns : List Int, intsD (dInts ns) = some ns
  | [] => rfl
  | n :: ns => by
    show intsD (D.p (.int n) :: dInts ns) = _
    simp only [intsD, intsD_d ns]
theorem intsD_of : ∀ {ds : List D} {ns : List Int}, intsD ds = some ns → ds = dInts ns := fun {ds ns} h => @ints_eq ⟨[]⟩ ds ns h
def tI (ns : List Int) : D := .p (.tup (ns.map P.int))
def lI (ns : List Int) : D := .p (.lst (ns.map P.int))
theorem map_dInts (ns : List Int) : (ns.map P.int).map D.p = dInts ns := by
  rw [List.map_map]
  rfl
section
variable {S : Store} {ns : List Int}
theorem tI_tup : (tI ns).tup? = some (dInts ns) := by
  show some ((ns.map P.int).map D.p) = _
  rw [map_dInts]
theorem tI_seq : (tI ns).seq? S = some (dInts ns) := by
  unfold D.seq?
  rw [tI_tup]
theorem lI_lst : (lI ns).lst? S = some (dInts ns) := by
  show some ((ns.map P.int).map D.p) = _
  rw [map_dInts]
theorem lI_seq : (lI ns).seq? S = some (dInts ns) := by
  show (lI ns).lst? S = _
  exact lI_lst
theorem pures_dInts : ∀ ns : List Int, pures (dInts ns) = some (ns.map P.int)
  | [] => rfl
  | n :: ns => by
    show pures (D.p (.int n) :: dInts ns) = _
    simp only [pures, pures_dInts ns, List.map_cons]
theorem mkTup_dInts : mkTup (dInts ns) = tI ns := by
  unfold mkTup
  rw [pures_dInts]
  rfl
theorem dInts_len : (dInts ns).length = ns.length := by simp [dInts]
theorem f_toT_l : fToT [lI ns] S = some (tI ns, S) := by
  show (match (lI ns).seq? S with | some xs => some (mkTup xs, S) | none => none) = _
  rw [lI_seq]
  show some (mkTup (dInts ns), S) = _
  rw [mkTup_dInts]
theorem f_toT_t : fToT [tI ns] S = some (tI ns, S) := by
  show (match (tI ns).seq? S with | some xs => some (mkTup xs, S) | none => none) = _
  rw [tI_seq]
  show some (mkTup (dInts ns), S) = _
  rw [mkTup_dInts]
theorem f_lstF (h : ns.length ≤ 100000) : fLstF (dInts ns) S = some (lI ns, S) := by
  unfold fLstF
  rw [if_pos (by rw [dInts_len]; exact h), pures_dInts]
  rfl
theorem f_srt {b : Bool} {d : D} (hd : d.seq? S = some (dInts ns)) (h : ns.length ≤ 100000) : fSrt b fLstF [d] S = some (lI (sortBy b ns), S) := by
  show (match d.seq? S with | some xs => (match intsD xs with | some ns => fLstF (dInts (sortBy b ns)) S | none => none) | none => none) = _
  rw [hd]
  show (match intsD (dInts ns) with | some ns => fLstF (dInts (sortBy b ns)) S | none => none) = _
  rw [intsD_d]
  refine f_lstF ?_
  have : (sortBy b ns).length = ns.length := by
    cases b
    · exact (srtUp_perm ns).length_eq
    · show (sortUp ns).reverse.length = _
      rw [List.length_reverse]
      exact (srtUp_perm ns).length_eq
  omega
theorem f_sum {d : D} (hd : d.seq? S = some (dInts ns)) : fSum [d] S = some (.p (.int ns.sum), S) := by
  show (match d.seq? S with | some xs => (match intsD xs with | some ns => some (D.p (.int ns.sum), S) | none => none) | none => none) = _
  rw [hd]
  show (match intsD (dInts ns) with | some ns => some (D.p (.int ns.sum), S) | none => none) = _
  rw [intsD_d]
theorem f_len {d : D} {xs : List D} (hd : d.seq? S = some xs) : fLen [d] S = some (.p (.int xs.length), S) := by
  unfold fLen
  simp only [hd]
end
end DL
set_option maxHeartbeats 4000000
/-! DLPure2: operators at what they are used on. -/
namespace DL
open PySem PySem.Spec PyProof.Rows L2
section
variable {ρ : Env} {S : Store} {fin : FL} {i j : Int} {b c : Bool}
theorem r_var' {n : Nat} : mVar n ρ S = match ρ[n]? with
  | some (some d) => .ok d S
  | _ => .stuck := rfl
theorem r_lift' {α : Type} {f : Store → Option (α × Store)} : lift f S = match f S with
  | some (a, S') => .ok a S'
  | none => .stuck := rfl
theorem r_env {N : Nat} {ds : List D} : env0 N ds = ds.map some ++ List.replicate (N - ds.length) none := rfl
theorem o_add : fAddG fin (.p (.int i)) (.p (.int j)) S = some (.p (.int (i + j)), S) := rfl
theorem o_addI : fAddI (.p (.int i)) (.p (.int j)) S = some (.p (.int (i + j)), S) := rfl
theorem o_sub : fSub (.p (.int i)) (.p (.int j)) S = some (.p (.int (i - j)), S) := rfl
theorem o_neg : fNeg (.p (.int i)) S = some (.p (.int (-i)), S) := rfl
theorem o_mul (h : bitsB 400000 i = true) (h2 : bitsB 400000 j = true) : fMulA fin (.p (.int i)) (.p (.int j)) S = some (.p (.int (i * j)), S) := by
  unfold fMulA
  have e : fRep1 (.p (.int i)) (.p (.int j)) S = none := rfl
  rw [e]
  unfold fMulG
  have e2 : fMulI (.p (.int i)) (.p (.int j)) S = some (.p (.int (i * j)), S) := by
    unfold fMulI fII
    simp only [h, h2, Bool.and_self, if_true]
  simp only [e2]
theorem o_mod (h : 0 < j) : fMod (.p (.int i)) (.p (.int j)) S = some (.p (.int (i % j)), S) := by
  unfold fMod fII
  simp only [decide_eq_true h, if_true]
theorem o_div (h : 0 < j) (h2 : bitsB 9000 j = true) : fDiv (.p (.int i)) (.p (.int j)) S = some (.p (.int (i / j)), S) := by
  unfold fDiv fII
  simp only [decide_eq_true h, h2, Bool.and_self, if_true]
theorem o_lt : fLt (.p (.int i)) (.p (.int j)) S = some (.p (.bl (decide (i < j))), S) := rfl
theorem o_le : fLe (.p (.int i)) (.p (.int j)) S = some (.p (.bl (decide (i ≤ j))), S) := rfl
theorem o_gt : fGt (.p (.int i)) (.p (.int j)) S = some (.p (.bl (decide (j < i))), S) := rfl
theorem o_ge : fGe (.p (.int i)) (.p (.int j)) S = some (.p (.bl (decide (j ≤ i))), S) := rfl
theorem o_eq : fEq (.p (.int i)) (.p (.int j)) S = some (.p (.bl (decide (i = j))), S) := by
  have e : fEq (.p (.int i)) (.p (.int j)) S = some (.p (.bl (i == j)), S) := by
    simp only [fEq, D.py?, P.py, SeqAt.shaped, PyData.canLay0, PyData.depth, PyData.eqv, Bool.true_and, Nat.zero_le, decide_true, if_true]
  rw [e, show (i == j) = decide (i = j) by by_cases h : i = j <;> simp [h]]
theorem o_ne : fNe (.p (.int i)) (.p (.int j)) S = some (.p (.bl (!decide (i = j))), S) := by
  have e : fNe (.p (.int i)) (.p (.int j)) S = some (.p (.bl (!(i == j))), S) := by
    simp only [fNe, D.py?, P.py, SeqAt.shaped, PyData.canLay0, PyData.depth, PyData.eqv, Bool.true_and, Nat.zero_le, decide_true, if_true]
  rw [e, show (i == j) = decide (i = j) by by_cases h : i = j <;> simp [h]]
theorem o_int : fInt [.p (.int i)] S = some (.p (.int i), S) := rfl
theorem o_intB : fInt [.p (.bl b)] S = some (.p (.int (if b then 1 else 0)), S) := rfl
theorem o_abs : fAbs [.p (.int i)] S = some (.p (.int (if i < 0 then -i else i)), S) := rfl
theorem o_max : fMax [.p (.int i), .p (.int j)] S = some (.p (.int (max i j)), S) := by
  show some (D.p (.int (if j > i then j else i)), S) = _
  congr 4
  by_cases h : j > i
  · rw [if_pos h]; omega
  · rw [if_neg h]; omega
theorem o_min : fMin [.p (.int i), .p (.int j)] S = some (.p (.int (min i j)), S) := by
  show some (D.p (.int (if j < i then j else i)), S) = _
  congr 4
  by_cases h : j < i
  · rw [if_pos h]; omega
  · rw [if_neg h]; omega
theorem o_maxL {d : D} {n : Int} {ns : List Int} (hd : d.seq? S = some (dInts (n :: ns))) : fMax [d] S = some (.p (.int (ns.foldl max n)), S) := by
  have e : fMax [d] S = (match d.seq? S with
    | some xs => (match intsD xs with
      | some (n :: ns) => some (.p (.int (ns.foldl max n)), S)
      | _ => none)
    | none => none) := by
    cases d with
    | p x => cases x <;> rfl
    | r n => rfl
    | t xs => rfl
  rw [e, hd]
  simp only [intsD_d]
theorem o_minL {d : D} {n : Int} {ns : List Int} (hd : d.seq? S = some (dInts (n :: ns))) : fMin [d] S = some (.p (.int (ns.foldl min n)), S) := by
  have e : fMin [d] S = (match d.seq? S with
    | some xs => (match intsD xs with
      | some (n :: ns) => some (.p (.int (ns.foldl min n)), S)
      | _ => none)
    | none => none) := by
    cases d with
    | p x => cases x <;> rfl
    | r n => rfl
    | t xs => rfl
  rw [e, hd]
  simp only [intsD_d]
theorem o_ixT {xs : List D} {d x : D} (hd : d.tup? = some xs) (h : atI xs i = some x) : fIx d (.p (.int i)) S = some (x, S) := by
  simp only [fIx, hd, h]
theorem o_ixL {xs : List D} {d x : D} (h0 : d.tup? = none) (hd : d.lst? S = some xs) (h : atI xs i = some x) : fIx d (.p (.int i)) S = some (x, S) := by
  simp only [fIx, h0, hd, h]
theorem atI_get {α : Type} {xs : List α} {k : Nat} {x : α} (h : xs[k]? = some x) : atI xs (k : Int) = some x := atI_nat h
/-- a slice from a place on; up to a place -/
theorem cut_from {xs : List D} {k : Nat} : cutD xs (some (k : Int)) none = xs.drop k := by
  have e1 : HT.sIx xs.length 0 (some (k : Int)) = min k xs.length := HT.sIx_nat _ _ _
  have e2 : HT.sIx xs.length xs.length none = xs.length := rfl
  unfold cutD
  rw [e1, e2]
  by_cases h : k ≤ xs.length
  · rw [Nat.min_eq_left h, List.take_of_length_le]
    rw [List.length_drop]
    omega
  · rw [Nat.min_eq_right (by omega), List.drop_of_length_le (Nat.le_refl _), List.drop_of_length_le (by omega), List.take_nil]
theorem cut_to {xs : List D} {k : Nat} : cutD xs none (some (k : Int)) = xs.take k := by
  have e1 : HT.sIx xs.length xs.length (some (k : Int)) = min k xs.length := HT.sIx_nat _ _ _
  have e2 : HT.sIx xs.length 0 none = 0 := rfl
  unfold cutD
  rw [e1, e2, List.drop_zero, Nat.sub_zero]
  by_cases h : k ≤ xs.length
  · rw [Nat.min_eq_left h]
  · rw [Nat.min_eq_right (by omega), List.take_of_length_le (Nat.le_refl _), List.take_of_length_le (by omega)]
theorem o_cutT {xs : List D} {d : D} {lo hi : Option Int} (hd : d.tup? = some xs) (h : ¬ (HT.sIx xs.length 0 lo = 0 ∧ HT.sIx xs.length xs.length hi = xs.length)) : fCut fin d lo hi S = some (mkTup (cutD xs lo hi), S) := by
  simp only [fCut, hd]
  rw [if_neg h]
theorem o_cutL {xs : List D} {d : D} {lo hi : Option Int} (h0 : d.tup? = none) (hd : d.lst? S = some xs) : fCut fin d lo hi S = fin (cutD xs lo hi) S := by
  simp only [fCut, h0, hd]
theorem sIx_from {n : Nat} {k : Nat} : HT.sIx n 0 (some (k : Int)) = min k n := HT.sIx_nat _ _ _
theorem dInts_drop (ns : List Int) (k : Nat) : (dInts ns).drop k = dInts (ns.drop k) := by simp [dInts, List.map_drop]
theorem dInts_take (ns : List Int) (k : Nat) : (dInts ns).take k = dInts (ns.take k) := by simp [dInts, List.map_take]
theorem o_srcT {xs : List D} {d : D} (hd : d.tup? = some xs) : srcSeq d S = some (⟨xs, []⟩, S) := by
  simp only [srcSeq, hd]
theorem o_srcL {xs : List D} {d : D} (h0 : d.tup? = none) (hd : d.lst? S = some xs) : srcSeq d S = some (⟨xs, watchOf d xs⟩, S) := by
  simp only [srcSeq, h0, hd]
theorem o_range1 (h : fitR i = true) : srcR1 [.p (.int i)] S = some (⟨rangeD 0 i.toNat, []⟩, S) := by
  simp only [srcR1, h, if_true]
theorem o_range2 (h : fitR i = true) (h2 : fitR j = true) : srcR2 [.p (.int i), .p (.int j)] S = some (⟨rangeD i (j - i).toNat, []⟩, S) := by
  simp only [srcR2, h, h2, Bool.and_self, if_true]
theorem o_enumT {xs : List D} {d : D} (hd : d.tup? = some xs) : srcEnum [d] S = some (⟨enumD xs, []⟩, S) := by
  simp only [srcEnum, hd]
theorem o_zipT {xs ys : List D} {d e : D} (hd : d.tup? = some xs) (he : e.tup? = some ys) : srcZip [d, e] S = some (⟨zipD xs ys, []⟩, S) := by
  simp only [srcZip, hd, he]
theorem o_allL {d : D} {xs : List D} {bs : List Bool} (hd : d.lst? S = some xs) (h : bools xs = some bs) : fAll [d] S = some (.p (.bl (bs.all id)), S) := by
  simp only [fAll, hd, h]
theorem o_anyL {d : D} {xs : List D} {bs : List Bool} (hd : d.lst? S = some xs) (h : bools xs = some bs) : fAny [d] S = some (.p (.bl (bs.any id)), S) := by
  simp only [fAny, hd, h]
theorem bools_map (bs : List Bool) : bools (bs.map fun b => D.p (.bl b)) = some bs := by
  induction bs with
  | nil => rfl
  | cons b bs ih => simp only [List.map_cons, bools, ih]
theorem fit_small {i : Int} (h : 0 ≤ i) (h2 : i ≤ 1000000) : fitR i = true := by
  simp only [fitR, decide_eq_true_eq]
  omega
theorem bits_of {i : Int} {n : Nat} (h : i.natAbs < 2 ^ n) (hn : 0 < n) : bitsB n i = true := by
  simp only [bitsB, decide_eq_true_eq]
  by_cases z : i.natAbs = 0
  · rw [z]
    simpa using hn
  · exact (Nat.log2_lt z).mpr h
end
end DL
namespace DL
open PySem PySem.Spec PyProof.Rows L2
/-- a comprehension from ints to ints -/
theorem compI_ints {w : List (Nat × List D)} {g : MG} {e : ME D} {ρ : Env} {S : Store} {f : Int → Int} (hw : watchOk w S = true) (rest : List Int) (hl : rest.length ≤ 100000)
    (h : ∀ i ∈ rest, ∃ ρ', g (.p (.int i)) ρ S = some ρ' ∧ e ρ' S = .ok (.p (.int (f i))) S) : compI w g mYes e ρ [] (dInts rest) S = .ok (dInts (rest.map f)) S := by
  have k := compI_map (w := w) (g := g) (e := e) (ρ := ρ) (S := S) (f := fun x => match x with
    | .p (.int i) => .p (.int (f i))
    | x => x) hw (dInts rest) (by rw [dInts_len]; exact hl) fun x hx => by
      obtain ⟨i, hi, rfl⟩ := List.mem_map.mp hx
      exact h i hi
  rw [k]
  congr 1
  simp [dInts]
/-- .. with a test -/
theorem compI_intsIf {w : List (Nat × List D)} {g : MG} {t : ME Bool} {e : ME D} {ρ : Env} {S : Store} {p : Int → Bool} {f : Int → Int} (hw : watchOk w S = true) (rest : List Int) (hl : rest.length ≤ 100000)
    (h : ∀ i ∈ rest, ∃ ρ', g (.p (.int i)) ρ S = some ρ' ∧ t ρ' S = .ok (p i) S ∧ (p i = true → e ρ' S = .ok (.p (.int (f i))) S)) : compI w g t e ρ [] (dInts rest) S = .ok (dInts ((rest.filter p).map f)) S := by
  have k := compI_pure (w := w) (g := g) (t := t) (e := e) (ρ := ρ) (S := S) (p := fun x => match x with
    | .p (.int i) => p i
    | _ => false) (f := fun x => match x with
    | .p (.int i) => .p (.int (f i))
    | x => x) hw (dInts rest) [] (by rw [dInts_len]; simpa using hl) fun x hx => by
      obtain ⟨i, hi, rfl⟩ := List.mem_map.mp hx
      exact h i hi
  rw [k]
  congr 1
  simp only [List.nil_append]
  induction rest with
  | nil => rfl
  | cons a r ih =>
    have ih' := ih (by rw [List.length_cons] at hl; omega) (fun i hi => h i (List.mem_cons_of_mem _ hi)) (by
      rw [compI_pure (p := fun x => match x with
        | .p (.int i) => p i
        | _ => false) (f := fun x => match x with
        | .p (.int i) => .p (.int (f i))
        | x => x) hw (dInts r) [] (by rw [dInts_len]; rw [List.length_cons] at hl; simp; omega) fun x hx => by
          obtain ⟨i, hi, rfl⟩ := List.mem_map.mp hx
          exact h i (List.mem_cons_of_mem _ hi)])
    show List.map _ (List.filter _ (D.p (.int a) :: dInts r)) = _
    by_cases q : p a = true
    · rw [List.filter_cons_of_pos (by simpa using q), List.filter_cons_of_pos q, List.map_cons, List.map_cons, ih']
      rfl
    · rw [List.filter_cons_of_neg (by simpa using q), List.filter_cons_of_neg q, ih']
end DL
namespace DL
open PySem PySem.Spec PyProof.Rows L2
/-! ### pure lists in the store -/
abbrev pD (ps : List P) : List D := ps.map D.p
theorem los_pD (k : Nat) : ∀ ps : List P, D.los k (pD ps) = true
  | [] => rfl
  | p :: ps => by
    show (D.lo k (.p p) && D.los k (pD ps)) = true
    rw [los_pD k ps]
    rfl
theorem pures_pD (ps : List P) : pures (pD ps) = some ps := by
  induction ps with
  | nil => rfl
  | cons p ps ih =>
    show pures (D.p p :: pD ps) = _
    simp only [pures, ih]
theorem mkTup_pD (ps : List P) : mkTup (pD ps) = .p (.tup ps) := by
  unfold mkTup
  rw [pures_pD]
theorem dInts_pD (ns : List Int) : dInts ns = pD (ns.map P.int) := (map_dInts ns).symm
/-- one more list, of data, in the store -/
def SP (S : Store) (ps : List P) : Store := S.new (.lst (pD ps)) (los_pD _ _)
section
variable {S : Store} {ps : List P}
theorem SP_objs : (SP S ps).objs = S.objs ++ [.lst (pD ps)] := rfl
theorem SP_at : (SP S ps).objs[S.objs.length]? = some (.lst (pD ps)) := by
  rw [SP_objs]
  simp
theorem SP_len : (SP S ps).objs.length = S.objs.length + 1 := by
  rw [SP_objs]
  simp
theorem SP_take : (SP S ps).objs.take S.objs.length = S.objs := by
  rw [SP_objs]
  simp
theorem SP_old {n : Nat} (h : n < S.objs.length) : (SP S ps).objs[n]? = S.objs[n]? := by
  rw [SP_objs, List.getElem?_append_left h]
theorem SP_lst : (D.r S.objs.length).lst? (SP S ps) = some (pD ps) := by
  show (match (SP S ps).objs[S.objs.length]? with | some (.lst xs) => some xs | _ => none) = _
  rw [SP_at]
theorem SP_seq : (D.r S.objs.length).seq? (SP S ps) = some (pD ps) := SP_lst
theorem SP_mut : (D.r S.objs.length).mut? (SP S ps) = some (S.objs.length, pD ps) := by
  show (match (SP S ps).objs[S.objs.length]? with | some (.lst xs) => some (S.objs.length, xs) | _ => none) = _
  rw [SP_at]
theorem SP_put {qs : List P} : putL S.objs.length (pD qs) (SP S ps) = some (SP S qs) := by
  unfold putL
  have h : (O.lst (pD qs)).lo (SP S ps).objs.length = true := los_pD _ _
  rw [dif_pos h]
  refine congrArg some (Store.ext' ?_)
  show (SP S ps).objs.set S.objs.length (.lst (pD qs)) = S.objs ++ [.lst (pD qs)]
  rw [SP_objs]
  simp
theorem f_new (h : ps.length ≤ 100000) : fLst (pD ps) S = some (.r S.objs.length, SP S ps) := by
  unfold fLst
  have h2 : (O.lst (pD ps)).lo S.objs.length = true := los_pD _ _
  rw [if_pos (by simpa using h), dif_pos h2]
  rfl
theorem f_append {p : P} (h : ps.length < 100000) : fAppend (.r S.objs.length) [.p p] (SP S ps) = some (.p .non, SP S (ps ++ [p])) := by
  unfold fAppend
  simp only [SP_mut]
  rw [if_pos (by simpa using h)]
  have e : pD ps ++ [D.p p] = pD (ps ++ [p]) := by simp [pD]
  rw [e, SP_put]
theorem f_put {i : Int} {j : Nat} {p : P} (h : ixN ps.length i = some j) : fPut (.r S.objs.length) (.p (.int i)) (.p p) (SP S ps) = some (SP S (ps.set j p)) := by
  unfold fPut
  simp only [SP_mut]
  have e : (pD ps).length = ps.length := by simp [pD]
  rw [e, h]
  have e2 : (pD ps).set j (.p p) = pD (ps.set j p) := by simp [pD, List.map_set]
  show putL S.objs.length ((pD ps).set j (.p p)) (SP S ps) = _
  rw [e2, SP_put]
theorem f_toT_r : fToT [.r S.objs.length] (SP S ps) = some (.p (.tup ps), SP S ps) := by
  show (match (D.r S.objs.length).seq? (SP S ps) with | some xs => some (mkTup xs, SP S ps) | none => none) = _
  rw [SP_seq]
  show some (mkTup (pD ps), SP S ps) = _
  rw [mkTup_pD]
theorem r_methR {fm : FM} {mo : ME D} {mr : ME (List D)} {ρ : Env} {d : D} {T : Store} {xs : List D} (h : mo ρ T = .ok d T) (hd : d.lst? T = some xs) : mMeth fm mo mr ρ T = (mr ρ T).bind fun ys => lift (fm d ys) := by
  rw [r_meth, h, r_ok]
  show (lift (fun S => match d.lst? S with | some _ => some ((), S) | none => none) T).bind _ = _
  rw [r_lift (x := ()) (S' := T) (by rw [hd]), r_ok]
end
/-! ### isinstance -/
theorem o_isi {S : Store} {d : D} {a b : String} (hd : d.tyOf? S = some a) (h : (tyNames.contains a && tyNames.contains b && b != "NoneType") = true) : fIsi [d, .p (.ty b)] S = some (.p (.bl (isiB a b)), S) := by
  simp only [fIsi, hd, h, if_true]
end DL
namespace DL
theorem bools_pD (bs : List Bool) : bools (pD (bs.map P.bl)) = some bs := by
  induction bs with
  | nil => rfl
  | cons b bs ih =>
    show bools (D.p (.bl b) :: pD (bs.map P.bl)) = _
    simp only [bools, ih]
end DL
namespace DL
open PySem PySem.Spec PyProof.Rows L2
theorem rangeD_succ (lo : Int) (n : Nat) : rangeD lo (n + 1) = .p (.int lo) :: rangeD (lo + 1) n := by
  unfold rangeD
  rw [List.range_succ_eq_map, List.map_cons, List.map_map]
  congr 1
  · simp
  · refine List.map_congr_left fun i _ => ?_
    show D.p (.int (lo + ((i + 1 : Nat) : Int))) = D.p (.int (lo + 1 + (i : Int)))
    congr 2
    omega
theorem rangeD_zero (lo : Int) : rangeD lo 0 = [] := rfl
theorem rangeD_length (lo : Int) (n : Nat) : (rangeD lo n).length = n := by simp [rangeD]
section
variable {S : Store} {ps qs : List P} {fin : FL}
theorem f_lstP (h : ps.length ≤ 100000) : fLstF (pD ps) S = some (.p (.lst ps), S) := by
  unfold fLstF
  rw [if_pos (by simpa using h), pures_pD]
theorem o_addT {xs ys : List P} (h : xs.length + ys.length ≤ 100000) : fAddG fin (.p (.tup xs)) (.p (.tup ys)) S = some (.p (.tup (xs ++ ys)), S) := by
  have e : fAddT (.p (.tup xs)) (.p (.tup ys)) S = some (.p (.tup (xs ++ ys)), S) := by
    show (if (pD xs).length + (pD ys).length ≤ 100000 then some (mkTup (pD xs ++ pD ys), S) else none) = _
    rw [if_pos (by simpa using h), ← List.map_append, mkTup_pD]
  have e1 : fAddI (.p (.tup xs)) (.p (.tup ys)) S = none := rfl
  have e2 : fAddS (.p (.tup xs)) (.p (.tup ys)) S = none := rfl
  simp only [fAddG, e1, e2, e]
theorem o_addL {xs ys : List P} (h : xs.length + ys.length ≤ 100000) : fAddG fLstF (.p (.lst xs)) (.p (.lst ys)) S = some (.p (.lst (xs ++ ys)), S) := by
  have e : fAddL fLstF (.p (.lst xs)) (.p (.lst ys)) S = some (.p (.lst (xs ++ ys)), S) := by
    show (if (pD xs).length + (pD ys).length ≤ 100000 then fLstF (pD xs ++ pD ys) S else none) = _
    rw [if_pos (by simpa using h), ← List.map_append]
    exact f_lstP (by simpa using h)
  have e1 : fAddI (.p (.lst xs)) (.p (.lst ys)) S = none := rfl
  have e2 : fAddS (.p (.lst xs)) (.p (.lst ys)) S = none := rfl
  have e3 : fAddT (.p (.lst xs)) (.p (.lst ys)) S = none := rfl
  simp only [fAddG, e1, e2, e3, e]
theorem f_extend {T : Store} (h : ps.length + qs.length ≤ 100000) : fExtend (.r T.objs.length) [.p (.lst qs)] (SP T ps) = some (.p .non, SP T (ps ++ qs)) := by
  unfold fExtend
  simp only [SP_mut]
  have e : (D.p (.lst qs)).own? (SP T ps) = some (pD qs) := rfl
  simp only [e]
  rw [if_pos (by simpa using h)]
  have e : pD ps ++ pD qs = pD (ps ++ qs) := by simp [pD]
  rw [e, SP_put]
/-- a def that answers a list of the store, made in it -/
theorem fn_pureR {N : Nat} {a : MS} {ds : List D} {S' : Store} {f : Nat} (h : a (env0 N ds) S = .ok (.rt (.r f)) S') (hs : S'.objs.take S.objs.length = S.objs) (hf : S.objs.length ≤ f) (ho : S'.objs[f]? = some (.lst (pD ps))) : mFn N finP a ds S = .ok (.p (.lst ps)) S := by
  have e : frzD S.objs.length S' 8 (.r f) = some (.lst ps) := by
    have all : ∀ (n : Nat) (ps : List P), frzDs S.objs.length S' n (pD ps) = some ps := by
      intro n ps
      induction ps with
      | nil => rfl
      | cons p ps ih =>
        show frzDs S.objs.length S' n (D.p p :: pD ps) = _
        have e1 : frzD S.objs.length S' n (.p p) = some p := @frzD_p ⟨[]⟩ _ _ _ _
        show (match frzD S.objs.length S' n (.p p), frzDs S.objs.length S' n (pD ps) with
          | some p, some ps => some (p :: ps)
          | _, _ => none) = _
        rw [e1, ih]
    show (if S.objs.length ≤ f then (match S'.objs[f]? with
      | some (.lst ds) => (frzDs S.objs.length S' 7 ds).map P.lst
      | some (.ins c fs) => (frzDs S.objs.length S' 7 (fs.map (·.2))).map fun ps => P.ins c ((fs.map (·.1)).zip ps)
      | some (.dct fs) => (frzDs S.objs.length S' 7 (fs.map (·.2))).map fun ps => P.dic ((fs.map (·.1)).zip ps)
      | some (.dit fs) => (frzDs S.objs.length S' 7 (fs.map (·.2))).map fun ps => P.dit ((fs.map (·.1)).zip ps)
      | _ => none) else none) = _
    rw [if_pos hf, ho]
    show (frzDs S.objs.length S' 7 (pD ps)).map P.lst = _
    rw [all]
    rfl
  have e2 : finP S.objs.length (.r f) S' = (.p (.lst ps), S) := by
    unfold finP
    rw [cut_pre hs]
    simp only [e]
  rw [r_fn, h, r_ok, r_asRt, r_finOk, e2]
end
end DL
namespace DL
theorem r_forE {mi : ME Src} {g : MG} {b : MS} {ρ : Env} {S S1 : Store} {xs : List D} {w : List (Nat × List D)} {r : Res Out} (h : mi ρ S = .ok ⟨xs, w⟩ S1) (h2 : loopI w g b xs ρ S1 = r) : mFor mi g b ρ S = r := by
  rw [r_for, h, r_ok]
  exact h2
end DL
namespace DL
open PySem PySem.Spec PyProof.Rows L2
/-! ### a list of data that is changed in its place -/
def setP (T : Store) (r : Nat) (ps : List P) : Store := T.put r (.lst (pD ps)) (los_pD _ _)
section
variable {T S S' S2 : Store} {r : Nat} {ps qs : List P}
theorem setP_objs : (setP T r ps).objs = T.objs.set r (.lst (pD ps)) := rfl
theorem setP_len : (setP T r ps).objs.length = T.objs.length := by rw [setP_objs, List.length_set]
theorem at_lt {o : O} (h : T.objs[r]? = some o) : r < T.objs.length := (List.getElem?_eq_some_iff.mp h).1
theorem setP_at (h : r < T.objs.length) : (setP T r ps).objs[r]? = some (.lst (pD ps)) := by
  rw [setP_objs, List.getElem?_set_self h]
theorem setP_ne {j : Nat} (h : r ≠ j) : (setP T r ps).objs[j]? = T.objs[j]? := by
  rw [setP_objs, List.getElem?_set_ne h]
theorem setP_setP : setP (setP T r ps) r qs = setP T r qs := Store.ext' (by
  rw [setP_objs, setP_objs, setP_objs, List.set_set])
theorem setP_same (h : T.objs[r]? = some (.lst (pD ps))) : setP T r ps = T := Store.ext' (by
  rw [setP_objs]
  have hl := at_lt h
  have e : T.objs[r] = .lst (pD ps) := by
    rw [List.getElem?_eq_getElem hl] at h
    exact Option.some.inj h
  rw [← e, List.set_getElem_self])
theorem setP_SP (h : r < T.objs.length) : setP (SP T qs) r ps = SP (setP T r ps) qs := Store.ext' (by
  rw [setP_objs, SP_objs, SP_objs, setP_objs, List.set_append_left _ _ h])
theorem R_lst (h : T.objs[r]? = some (.lst (pD ps))) : (D.r r).lst? T = some (pD ps) := by
  show (match T.objs[r]? with | some (.lst xs) => some xs | _ => none) = _
  rw [h]
theorem R_seq (h : T.objs[r]? = some (.lst (pD ps))) : (D.r r).seq? T = some (pD ps) := R_lst h
theorem R_mut (h : T.objs[r]? = some (.lst (pD ps))) : (D.r r).mut? T = some (r, pD ps) := by
  show (match T.objs[r]? with | some (.lst xs) => some (r, xs) | _ => none) = _
  rw [h]
theorem putL_setP : putL r (pD qs) T = some (setP T r qs) := by
  unfold putL
  have h : (O.lst (pD qs)).lo T.objs.length = true := los_pD _ _
  rw [dif_pos h]
  rfl
theorem f_putR {i : Int} {j : Nat} {p : P} (h : T.objs[r]? = some (.lst (pD ps))) (hi : ixN ps.length i = some j) : fPut (.r r) (.p (.int i)) (.p p) T = some (setP T r (ps.set j p)) := by
  unfold fPut
  simp only [R_mut h]
  have e : (pD ps).length = ps.length := by simp [pD]
  rw [e, hi]
  have e2 : (pD ps).set j (.p p) = pD (ps.set j p) := by simp [pD, List.map_set]
  show putL r ((pD ps).set j (.p p)) T = _
  rw [e2, putL_setP]
theorem f_popAtR {i : Int} {k : Nat} {p : P} (h : T.objs[r]? = some (.lst (pD ps))) (hi : i = k) (hs : i ≤ 1000000) (hp : ps[k]? = some p) : fPopAt (.r r) [.p (.int i)] T = some (.p p, setP T r (ps.eraseIdx k)) := by
  have hk : k < ps.length := (List.getElem?_eq_some_iff.mp hp).1
  unfold fPopAt
  simp only [R_mut h]
  have e : (pD ps).length = ps.length := by simp [pD]
  have e1 : seqIndex? i (pD ps).length = some k := by
    rw [e, seqIndex_of (by omega) (by omega)]
    congr 1
    omega
  simp only [e1]
  rw [if_pos (fit_small (by omega) hs)]
  have e3 : (pD ps)[k]? = some (.p p) := by
    rw [List.getElem?_map, hp]
    rfl
  simp only [e3]
  have e2 : (pD ps).eraseIdx k = pD (ps.eraseIdx k) := by simp [pD, List.eraseIdx_eq_take_drop_succ, List.map_take, List.map_drop]
  rw [e2, putL_setP]
theorem cut_to' (h : S'.objs.take S.objs.length = S2.objs) (hl : S2.objs.length = S.objs.length) : Store.cut S.objs.length S' = some S2 := by
  have := cut_pre (S := S2) (S' := S') (by rw [hl]; exact h)
  rwa [hl] at this
/-- a def that answers data, what was there before being changed -/
theorem fn_to {N : Nat} {a : MS} {ds : List D} {x : P} (h : a (env0 N ds) S = .ok (.rt (.p x)) S') (hs : S'.objs.take S.objs.length = S2.objs) (hl : S2.objs.length = S.objs.length) : mFn N finP a ds S = .ok (.p x) S2 := by
  have e : finP S.objs.length (.p x) S' = (.p x, S2) := by
    unfold finP
    rw [cut_to' hs hl]
    simp only [frzD]
  rw [r_fn, h, r_ok, r_asRt, r_finOk, e]
theorem fn_same {N : Nat} {a : MS} {ds : List D} {x : P} (h : a (env0 N ds) S = .ok (.rt (.p x)) S') (hl : S'.objs.length = S.objs.length) : mFn N finP a ds S = .ok (.p x) S' :=
  fn_to h (by rw [← hl, List.take_length]) hl
end
end DL
namespace DL
theorem compI_step {w : List (Nat × List D)} {g : MG} {e : ME D} {ρ ρ' : Env} {S S' : Store} {x y : D} {xs acc : List D} (hw : watchOk w S = true) (hg : g x ρ S = some ρ') (he : e ρ' S = .ok y S') (hl : acc.length < 100000) :
    compI w g mYes e ρ acc (x :: xs) S = compI w g mYes e ρ (acc ++ [y]) xs S' := by
  conv => lhs; unfold compI
  rw [if_pos hw, hg]
  simp only [r_yes, noErr, r_ok, if_true, he]
  rw [if_pos hl]
theorem erase_perm {α : Type} {l : List α} {k : Nat} (h : k < l.length) : (l[k] :: l.eraseIdx k).Perm l := by
  have e : l = l.take k ++ l[k] :: l.drop (k + 1) := by rw [List.getElem_cons_drop, List.take_append_drop]
  have e2 : l.eraseIdx k = l.take k ++ l.drop (k + 1) := List.eraseIdx_eq_take_drop_succ l k
  rw [e2]
  exact List.perm_middle.symm.trans (List.Perm.of_eq e.symm)
end DL
set_option maxHeartbeats 4000000
set_option exponentiation.threshold 400001
/-! DLWp: runs reckoned forwards: what holds behind them; side conditions told by the reckoning itself. -/
namespace DL
open PySem PySem.Spec PyProof.Rows L2
/-- the run ends well, and so -/
def Wp {α : Type} (r : Res α) (Q : α → Store → Prop) : Prop := match r with
  | .ok a S => Q a S
  | _ => False
section
variable {α β : Type} {S S' T : Store} {Q Q' : α → Store → Prop}
theorem wp_ok {a : α} : Wp (.ok a S) Q = Q a S := rfl
theorem wp_bind {r : Res β} {k : β → M α} : Wp (r.bind k) Q ↔ Wp r fun b S => Wp (k b S) Q := by
  cases r <;> exact Iff.rfl
theorem wp_of {r : Res β} {k : β → M α} (h : Wp r fun b S => Wp (k b S) Q) : Wp (r.bind k) Q := wp_bind.mpr h
theorem Wp.mono {r : Res α} (h : Wp r Q) (f : ∀ a S, Q a S → Q' a S) : Wp r Q' := by
  cases r with
  | ok a S => exact f a S h
  | err e S => exact h
  | stuck => exact h
theorem wp_eq {r : Res α} {a : α} (h : r = .ok a S) (q : Q a S) : Wp r Q := by rw [h]; exact q
theorem eq_wp {r : Res α} {a : α} (h : Wp r fun b T => b = a ∧ T = S) : r = .ok a S := by
  cases r with
  | ok b T => obtain ⟨rfl, rfl⟩ := h; rfl
  | err e S => exact h.elim
  | stuck => exact h.elim
theorem wp_ex {r : Res α} (h : Wp r Q) : ∃ a S, r = .ok a S ∧ Q a S := by
  cases r with
  | ok b T => exact ⟨b, T, rfl, h⟩
  | err e S => exact h.elim
  | stuck => exact h.elim
/-- a run that is known, and the rest -/
theorem wp_then {r : Res β} {k : β → M α} {b : β} (h : r = .ok b S) (q : Wp (k b S) Q) : Wp (r.bind k) Q := by
  rw [h]
  exact q
/-- a run of which something is known, and the rest -/
theorem wp_with {r : Res β} {k : β → M α} {R : β → Store → Prop} (h : Wp r R) (q : ∀ b S, R b S → Wp (k b S) Q) : Wp (r.bind k) Q := wp_of (h.mono q)
theorem r_assoc {γ : Type} {r : Res α} {k : α → M β} {l : β → M γ} : (r.bind k).bind l = r.bind fun a S => (k a S).bind l := by
  cases r <;> rfl
theorem r_iteB {c : Prop} [Decidable c] {x y : Res α} {k : α → M β} : (if c then x else y).bind k = if c then x.bind k else y.bind k := by
  split <;> rfl
theorem r_iteS {c : Prop} [Decidable c] {x y : M α} : (if c then x else y) S = if c then x S else y S := by
  split <;> rfl
end
/-- the store S' is that of T, made longer -/
structure Top (S' T : Store) : Prop where
  at_ : S'.objs.take T.objs.length = T.objs
section
variable {S S' T U : Store} {ps : List P} {r : Nat}
theorem top_self : Top S S := ⟨List.take_length⟩
theorem top_len (h : Top S' T) : T.objs.length ≤ S'.objs.length := by
  have := congrArg List.length h.at_
  rw [List.length_take] at this
  omega
theorem top_new {o : O} {h : o.lo S'.objs.length = true} (t : Top S' T) : Top (S'.new o h) T := by
  have := top_len t
  refine ⟨?_⟩
  show (S'.objs ++ [o]).take _ = _
  rw [List.take_append_of_le_length this]
  exact t.at_
theorem top_SP (t : Top S' T) : Top (SP S' ps) T := top_new t
theorem top_setP (t : Top S' T) (h : T.objs.length ≤ r) : Top (setP S' r ps) T := by
  refine ⟨?_⟩
  rw [setP_objs, List.take_set_of_le h]
  exact t.at_
theorem top_trans (a : Top U S') (b : Top S' T) : Top U T := by
  have := top_len b
  refine ⟨?_⟩
  conv => rhs; rw [← b.at_]
  conv => rhs; rw [← a.at_]
  rw [List.take_take, Nat.min_eq_left this]
/-! ### the ends of defs -/
theorem wp_fnP {N : Nat} {a : MS} {ds : List D} {Q : D → Store → Prop} (h : Wp (a (env0 N ds) S) fun o S' => ∃ x S2, o = .rt (.p x) ∧ Top S' S2 ∧ S2.objs.length = S.objs.length ∧ Q (.p x) S2) : Wp (mFn N finP a ds S) Q := by
  obtain ⟨o, S', e, x, S2, rfl, t, l, q⟩ := wp_ex h
  rw [fn_to e (by rw [← l]; exact t.at_) l]
  exact q
/-- of a new list of data in the store -/
theorem wp_fnR {N : Nat} {a : MS} {ds : List D} {Q : D → Store → Prop} (h : Wp (a (env0 N ds) S) fun o S' => ∃ f ps, o = .rt (.r f) ∧ Top S' S ∧ S.objs.length ≤ f ∧ S'.objs[f]? = some (.lst (pD ps)) ∧ Q (.p (.lst ps)) S) : Wp (mFn N finP a ds S) Q := by
  obtain ⟨o, S', e, f, ps, rfl, t, l, g, q⟩ := wp_ex h
  rw [fn_pureR e t.at_ l g]
  exact q
theorem eq_fnP {N : Nat} {a : MS} {ds : List D} {x : P} (h : Wp (a (env0 N ds) S) fun o S' => o = .rt (.p x) ∧ Top S' S) : mFn N finP a ds S = .ok (.p x) S := by
  obtain ⟨o, S', e, rfl, t⟩ := wp_ex h
  exact fn_pure e t.at_
theorem eq_fnR {N : Nat} {a : MS} {ds : List D} {ps : List P} (h : Wp (a (env0 N ds) S) fun o S' => ∃ f, o = .rt (.r f) ∧ Top S' S ∧ S.objs.length ≤ f ∧ S'.objs[f]? = some (.lst (pD ps))) : mFn N finP a ds S = .ok (.p (.lst ps)) S := by
  obtain ⟨o, S', e, f, rfl, t, l, g⟩ := wp_ex h
  exact fn_pureR e t.at_ l g
end
/-! ### loops -/
section
variable {S : Store} {ρ : Env} {w : List (Nat × List D)} {g : MG} {b : MS} {Q : Out → Store → Prop}
theorem wp_loop (I : List D → Env → Store → Prop) (hw : ∀ xs ρ S, I xs ρ S → watchOk w S = true)
    (step : ∀ x xs ρ S, I (x :: xs) ρ S → ∃ ρ', g x ρ S = some ρ' ∧ Wp (b ρ' S) fun o S' => match o with
      | .nx ρ'' => I xs ρ'' S'
      | .ct ρ'' => I xs ρ'' S'
      | .bk ρ'' => Q (.nx ρ'') S'
      | .rt d => Q (.rt d) S')
    (done : ∀ ρ S, I [] ρ S → Q (.nx ρ) S) : ∀ (xs : List D) (ρ : Env) (S : Store), I xs ρ S → Wp (loopI w g b xs ρ S) Q
  | [], ρ, S, h => by
    rw [loopI_nil (hw _ _ _ h)]
    exact done _ _ h
  | x :: xs, ρ, S, h => by
    obtain ⟨ρ', e, h1⟩ := step x xs ρ S h
    rw [loopI_cons (hw _ _ _ h) e]
    refine wp_with h1 fun o S' q => ?_
    cases o with
    | nx ρ'' => exact wp_loop I hw step done xs ρ'' S' q
    | ct ρ'' => exact wp_loop I hw step done xs ρ'' S' q
    | bk ρ'' => exact q
    | rt d => exact q
theorem wp_loop0 (I : List D → Env → Store → Prop)
    (step : ∀ x xs ρ S, I (x :: xs) ρ S → ∃ ρ', g x ρ S = some ρ' ∧ Wp (b ρ' S) fun o S' => match o with
      | .nx ρ'' => I xs ρ'' S'
      | .ct ρ'' => I xs ρ'' S'
      | .bk ρ'' => Q (.nx ρ'') S'
      | .rt d => Q (.rt d) S')
    (done : ∀ ρ S, I [] ρ S → Q (.nx ρ) S) {xs : List D} {ρ : Env} {S : Store} (h : I xs ρ S) : Wp (loopI [] g b xs ρ S) Q :=
  wp_loop I (fun _ _ _ _ => rfl) step done xs ρ S h
theorem wp_comp {t : ME Bool} {e : ME D} {Q : List D → Store → Prop} (I : List D → List D → Store → Prop) (hw : ∀ xs ds S, I xs ds S → watchOk w S = true)
    (step : ∀ x xs ds S, I (x :: xs) ds S → ds.length < 100000 ∧ ∃ ρ', g x ρ S = some ρ' ∧ Wp (t ρ' S) fun k S' => if k = true then Wp (e ρ' S') fun y S'' => I xs (ds ++ [y]) S'' else I xs ds S')
    (done : ∀ ds S, I [] ds S → Q ds S) : ∀ (xs ds : List D) (S : Store), I xs ds S → Wp (compI w g t e ρ ds xs S) Q
  | [], ds, S, h => by
    rw [compI_nil (hw _ _ _ h)]
    exact done _ _ h
  | x :: xs, ds, S, h => by
    obtain ⟨hl, ρ', e1, h1⟩ := step x xs ds S h
    obtain ⟨k, S1, e2, h2⟩ := wp_ex h1
    unfold compI
    rw [if_pos (hw _ _ _ h), e1]
    simp only [e2, noErr, r_ok]
    cases k with
    | false =>
      simp only [Bool.false_eq_true, if_false] at h2 ⊢
      exact wp_comp I hw step done xs ds S1 h2
    | true =>
      simp only [if_true] at h2 ⊢
      obtain ⟨y, S2, e3, h3⟩ := wp_ex h2
      simp only [e3, noErr, r_ok]
      rw [if_pos hl]
      exact wp_comp I hw step done xs (ds ++ [y]) S2 h3
/-- a while: what grows less -/
theorem wp_while {t : ME Bool} {b : MS} (I : Nat → Env → Store → Prop)
    (step : ∀ n ρ S, I n ρ S → Wp (t ρ S) fun k S' => if k = true then Wp (b ρ S') fun o S'' => match o with
      | .nx ρ'' => ∃ m, m < n ∧ I m ρ'' S''
      | .ct ρ'' => ∃ m, m < n ∧ I m ρ'' S''
      | .bk ρ'' => Q (.nx ρ'') S''
      | .rt d => Q (.rt d) S'' else Q (.nx ρ) S') : ∀ (fuel n : Nat) (ρ : Env) (S : Store), n < fuel → I n ρ S → Wp (mWhile t b fuel ρ S) Q
  | 0, n, ρ, S, h, _ => by omega
  | fuel + 1, n, ρ, S, h, hi => by
    obtain ⟨k, S1, e1, h1⟩ := wp_ex (step n ρ S hi)
    rw [r_while, e1, r_ok]
    cases k with
    | false =>
      simp only [Bool.false_eq_true, if_false] at h1 ⊢
      exact h1
    | true =>
      simp only [if_true] at h1 ⊢
      refine wp_with h1 fun o S' q => ?_
      cases o with
      | nx ρ'' => obtain ⟨m, hm, q⟩ := q; exact wp_while I step fuel m ρ'' S' (by omega) q
      | ct ρ'' => obtain ⟨m, hm, q⟩ := q; exact wp_while I step fuel m ρ'' S' (by omega) q
      | bk ρ'' => exact q
      | rt d => exact q
end
/-! ### operators whose side conditions are told by the way -/
section
variable {S T : Store} {ns ms : List Int} {ps qs : List P} {i j : Int} {fin : FL} {x : P}
theorem q_lstI (h : ns.length ≤ 100000) : fLstF (dInts ns) S = some (lI ns, S) := f_lstF h
theorem q_lstP (h : ps.length ≤ 100000) : fLstF (pD ps) S = some (.p (.lst ps), S) := f_lstP h
theorem q_mul (h : -1000000000000000000000000000000000000000000000000000000000000 ≤ i ∧ i ≤ 1000000000000000000000000000000000000000000000000000000000000) (h2 : -1000000000000000000000000000000000000000000000000000000000000 ≤ j ∧ j ≤ 1000000000000000000000000000000000000000000000000000000000000) :
    fMulA fin (.p (.int i)) (.p (.int j)) S = some (.p (.int (i * j)), S) :=
  o_mul (bits_of (n := 400000) (Nat.lt_of_lt_of_le (show i.natAbs < 2 ^ 200 by omega) (Nat.pow_le_pow_right (by decide) (by decide))) (by decide))
    (bits_of (n := 400000) (Nat.lt_of_lt_of_le (show j.natAbs < 2 ^ 200 by omega) (Nat.pow_le_pow_right (by decide) (by decide))) (by decide))
theorem q_div (h : 0 < j ∧ j ≤ 1000000000000000000000000000000000000000000000000000000000000) : fDiv (.p (.int i)) (.p (.int j)) S = some (.p (.int (i / j)), S) :=
  o_div h.1 (bits_of (n := 9000) (Nat.lt_of_lt_of_le (show j.natAbs < 2 ^ 200 by omega) (Nat.pow_le_pow_right (by decide) (by decide))) (by decide))
theorem q_range1 (h : 0 ≤ i ∧ i ≤ 1000000) : srcR1 [.p (.int i)] S = some (⟨rangeD 0 i.toNat, []⟩, S) := o_range1 (fit_small h.1 h.2)
theorem q_range2 (h : 0 ≤ i ∧ i ≤ 1000000) (h2 : 0 ≤ j ∧ j ≤ 1000000) : srcR2 [.p (.int i), .p (.int j)] S = some (⟨rangeD i (j - i).toNat, []⟩, S) := o_range2 (fit_small h.1 h.2) (fit_small h2.1 h2.2)
theorem q_lenT : fLen [tI ns] S = some (.p (.int ns.length), S) := by
  have := f_len (S := S) (d := tI ns) tI_seq
  rwa [dInts_len] at this
theorem q_lenL : fLen [lI ns] S = some (.p (.int ns.length), S) := by
  have := f_len (S := S) (d := lI ns) lI_seq
  rwa [dInts_len] at this
theorem q_sumT : fSum [tI ns] S = some (.p (.int ns.sum), S) := f_sum tI_seq
theorem q_sumL : fSum [lI ns] S = some (.p (.int ns.sum), S) := f_sum lI_seq
theorem q_srcT : srcSeq (tI ns) S = some (⟨dInts ns, []⟩, S) := o_srcT tI_tup
theorem q_srcL : srcSeq (lI ns) S = some (⟨dInts ns, []⟩, S) := by
  rw [o_srcL rfl lI_lst]
  rfl
end
end DL

/-! ### lists of the store -/
namespace DL
open PySem PySem.Spec PyProof.Rows L2
/-- the list of data at r -/
structure Lst (T : Store) (r : Nat) (ps : List P) : Prop where
  at_ : T.objs[r]? = some (.lst (pD ps))
section
variable {S T : Store} {r j k : Nat} {ps qs : List P} {ns ms : List Int} {x : P} {i : Int}
theorem Lst.lt (h : Lst T r ps) : r < T.objs.length := at_lt h.at_
theorem lst_SP : Lst (SP T ps) T.objs.length ps := ⟨SP_at⟩
theorem Lst.sp (h : Lst T r ps) : Lst (SP T qs) r ps := ⟨(SP_old h.lt).trans h.at_⟩
theorem Lst.set (h : Lst T r ps) : Lst (setP T r qs) r qs := ⟨setP_at h.lt⟩
theorem lst_set (h : r < T.objs.length) : Lst (setP T r qs) r qs := ⟨setP_at h⟩
theorem Lst.ne (h : Lst T r ps) (hn : j ≠ r) : Lst (setP T j qs) r ps := ⟨(setP_ne hn).trans h.at_⟩
theorem q_new (h : ps.length ≤ 100000) : fLst (pD ps) T = some (.r T.objs.length, SP T ps) := f_new h
theorem q_new0 : fLst [] T = some (.r T.objs.length, SP T []) := f_new (ps := []) (by simp)
theorem q_lst (h : Lst T r ps) : (D.r r).lst? T = some (pD ps) := R_lst h.at_
theorem q_append (h : Lst T r ps) (hl : ps.length < 100000) : fAppend (.r r) [.p x] T = some (.p .non, setP T r (ps ++ [x])) := by
  unfold fAppend
  simp only [R_mut h.at_]
  rw [if_pos (by simpa using hl)]
  have e : pD ps ++ [D.p x] = pD (ps ++ [x]) := by simp [pD]
  rw [e, putL_setP]
theorem q_extend (h : Lst T r ps) (hl : ps.length + qs.length ≤ 100000) : fExtend (.r r) [.p (.lst qs)] T = some (.p .non, setP T r (ps ++ qs)) := by
  unfold fExtend
  simp only [R_mut h.at_]
  have e : (D.p (.lst qs)).own? T = some (pD qs) := rfl
  simp only [e]
  rw [if_pos (by simpa using hl)]
  have e : pD ps ++ pD qs = pD (ps ++ qs) := by simp [pD]
  rw [e, putL_setP]
theorem q_extendI (h : Lst T r (ns.map P.int)) (hl : ns.length + ms.length ≤ 100000) : fExtend (.r r) [lI ms] T = some (.p .non, setP T r ((ns ++ ms).map P.int)) := by
  rw [List.map_append]
  exact q_extend h (by simpa using hl)
theorem q_appendI (h : Lst T r (ns.map P.int)) (hl : ns.length < 100000) : fAppend (.r r) [.p (.int i)] T = some (.p .non, setP T r ((ns ++ [i]).map P.int)) := by
  rw [List.map_append]
  exact q_append h (by simpa using hl)
theorem q_lenR (h : Lst T r ps) : fLen [.r r] T = some (.p (.int ps.length), T) := by
  have := f_len (R_seq h.at_)
  simpa [pD] using this
theorem q_toTR (h : Lst T r ps) : fToT [.r r] T = some (.p (.tup ps), T) := by
  show (match (D.r r).seq? T with | some xs => some (mkTup xs, T) | none => none) = _
  rw [R_seq h.at_]
  show some (mkTup (pD ps), T) = _
  rw [mkTup_pD]
theorem q_ixR (h : Lst T r ps) (hk : ps[k]? = some x) : fIx (.r r) (.p (.int k)) T = some (.p x, T) := o_ixL rfl (R_lst h.at_) (atI_get (by
  rw [List.getElem?_map, hk]
  rfl))
theorem q_ixT (hk : k < ns.length) : fIx (tI ns) (.p (.int k)) T = some (.p (.int ns[k]), T) := o_ixT tI_tup (atI_get (by
  unfold dInts
  rw [List.getElem?_map, List.getElem?_eq_getElem hk]
  rfl))
theorem q_ixL (hk : k < ns.length) : fIx (lI ns) (.p (.int k)) T = some (.p (.int ns[k]), T) := o_ixL rfl lI_lst (atI_get (by
  unfold dInts
  rw [List.getElem?_map, List.getElem?_eq_getElem hk]
  rfl))
theorem q_l1 {a : Int} : fLstF [.p (.int a)] T = some (lI [a], T) := rfl
theorem q_l2 {a b : Int} : fLstF [.p (.int a), .p (.int b)] T = some (lI [a, b], T) := rfl
theorem q_l3 {a b c : Int} : fLstF [.p (.int a), .p (.int b), .p (.int c)] T = some (lI [a, b, c], T) := rfl
theorem q_l4 {a b c d : Int} : fLstF [.p (.int a), .p (.int b), .p (.int c), .p (.int d)] T = some (lI [a, b, c, d], T) := rfl
theorem q_addL (h : ns.length + ms.length ≤ 100000) : fAddG fLstF (lI ns) (lI ms) T = some (lI (ns ++ ms), T) := by
  have := o_addL (S := T) (xs := ns.map P.int) (ys := ms.map P.int) (by simpa using h)
  rw [← List.map_append] at this
  exact this
theorem q_addT {fin : FL} (h : ns.length + ms.length ≤ 100000) : fAddG fin (tI ns) (tI ms) T = some (tI (ns ++ ms), T) := by
  have := o_addT (fin := fin) (S := T) (xs := ns.map P.int) (ys := ms.map P.int) (by simpa using h)
  rw [← List.map_append] at this
  exact this
theorem q_maxL (h : ns ≠ []) : fMax [lI ns] T = some (.p (.int (ns.tail.foldl max (ns.headD 0))), T) := by
  cases ns with
  | nil => exact absurd rfl h
  | cons x xs => exact o_maxL lI_seq
theorem q_minL (h : ns ≠ []) : fMin [lI ns] T = some (.p (.int (ns.tail.foldl min (ns.headD 0))), T) := by
  cases ns with
  | nil => exact absurd rfl h
  | cons x xs => exact o_minL lI_seq
theorem q_srtT {b : Bool} (h : ns.length ≤ 100000) : fSrt b fLstF [tI ns] T = some (lI (sortBy b ns), T) := f_srt tI_seq h
theorem q_srtL {b : Bool} (h : ns.length ≤ 100000) : fSrt b fLstF [lI ns] T = some (lI (sortBy b ns), T) := f_srt lI_seq h
theorem watch1 (h : Lst T r ps) : watchOk [(r, pD ps)] T = true := by
  unfold watchOk
  rw [h.at_]
  show (D.beqs (pD ps) (pD ps) && true) = true
  rw [@D.beqs_refl ⟨[]⟩ _, Bool.and_true]
theorem q_srcR (h : Lst T r ps) : srcSeq (.r r) T = some (⟨pD ps, [(r, pD ps)]⟩, T) := o_srcL rfl (R_lst h.at_)
theorem q_addLR (h : Lst T r ps) (hl : qs.length + ps.length ≤ 100000) : fAddG fLstF (.p (.lst qs)) (.r r) T = some (.p (.lst (qs ++ ps)), T) := by
  have ow : D.own? (.r r) T = some (pD ps) := by
    show (match T.objs[r]? with
      | some (.lst xs) => some xs
      | _ => none) = _
    rw [h.at_]
  have e : fAddL fLstF (.p (.lst qs)) (.r r) T = some (.p (.lst (qs ++ ps)), T) := by
    show (match (D.p (.lst qs)).own? T, (D.r r).own? T with
      | some a, some b => if a.length + b.length ≤ 100000 then fLstF (a ++ b) T else none
      | _, _ => none) = _
    rw [ow]
    show (if (pD qs).length + (pD ps).length ≤ 100000 then fLstF (pD qs ++ pD ps) T else none) = _
    rw [if_pos (by simpa using hl), ← List.map_append]
    exact f_lstP (by simpa using hl)
  have e1 : fAddI (.p (.lst qs)) (.r r) T = none := rfl
  have e2 : fAddS (.p (.lst qs)) (.r r) T = none := rfl
  have e3 : fAddT (.p (.lst qs)) (.r r) T = none := rfl
  simp only [fAddG, e1, e2, e3, e]
theorem q_addLRI (h : Lst T r (ns.map P.int)) (hl : ms.length + ns.length ≤ 100000) : fAddG fLstF (lI ms) (.r r) T = some (lI (ms ++ ns), T) := by
  have := q_addLR (qs := ms.map P.int) h (by simpa using hl)
  rw [← List.map_append] at this
  exact this
theorem q_zipLR (h : Lst T r ps) : srcZip [.p (.lst qs), .r r] T = some (⟨zipD (pD qs) (pD ps), [(r, pD ps)]⟩, T) := by
  show (match (D.p (.lst qs)).lst? T, (D.r r).lst? T with
    | some xs, some ys => some ((⟨zipD xs ys, watchOf (.p (.lst qs)) xs ++ watchOf (.r r) ys⟩ : Src), T)
    | _, _ => none) = _
  rw [q_lst h]
  rfl
theorem q_zipLL : srcZip [.p (.lst qs), .p (.lst ps)] T = some (⟨zipD (pD qs) (pD ps), []⟩, T) := rfl
end
end DL

/-! ### the reckoning as one word -/
namespace DL
def toR {α : Type} : Option (α × Store) → Res α
  | some (a, S) => .ok a S
  | none => .stuck
def toV (S : Store) : Option (Option D) → Res D
  | some (some d) => .ok d S
  | _ => .stuck
def toS (ρ : Env) : Option Store → Res Out
  | some S => .ok (.nx ρ) S
  | none => .stuck
theorem t_lift {α : Type} {f : Store → Option (α × Store)} {S : Store} : lift f S = toR (f S) := rfl
theorem t_some {α : Type} {a : α} {S : Store} : toR (some (a, S)) = .ok a S := rfl
theorem t_var {n : Nat} {ρ : Env} {S : Store} : mVar n ρ S = toV S ρ[n]? := rfl
theorem t_vsome {d : D} {S : Store} : toV S (some (some d)) = .ok d S := rfl
theorem t_liftS {f : Store → Option Store} {ρ : Env} {S : Store} : liftS f ρ S = toS ρ (f S) := rfl
theorem t_ssome {ρ : Env} {S : Store} : toS ρ (some S) = .ok (.nx ρ) S := rfl
def lstO {α : Type} (x : D) (S : Store) (k : Unit → M α) : Res α := match x.lst? S with
  | some _ => k () S
  | none => .stuck
theorem t_meth {fm : FM} {mo : ME D} {mr : ME (List D)} {ρ : Env} {S : Store} : mMeth fm mo mr ρ S = (mo ρ S).bind fun x S => lstO x S fun _ S => (mr ρ S).bind fun ys => lift (fm x ys) := by
  show (mo ρ S).bind _ = (mo ρ S).bind _
  congr 1
  funext x S
  show (lift (fun S => match x.lst? S with | some _ => some ((), S) | none => none) S).bind _ = _
  unfold lift lstO
  cases e : x.lst? S <;> simp only [e, r_ok] <;> rfl
theorem t_lstO {α : Type} {r : Nat} {S : Store} {ps : List P} {k : Unit → M α} (h : Lst S r ps) : lstO (.r r) S k = k () S := by
  unfold lstO
  rw [q_lst h]
theorem t_lstOF {α : Type} {S : Store} {ps : List P} {k : Unit → M α} : lstO (.p (.lst ps)) S k = k () S := rfl
end DL
set_option maxHeartbeats 4000000
set_option exponentiation.threshold 400001
/-! DLWp2: instances, keywords, errors in the reckoning. -/
namespace DL
open PySem PySem.Spec PyProof.Rows L2
section
variable {α : Type} {S S' T : Store} {ρ : Env} {c m f : Str} {mf : List D → M D} {mo me : ME D} {mr : ME (List D)} {d x y : D} {fs : List (Str × D)} {b : Bool} {r : Nat} {ps : List P} {ns : List Int} {d0 : Int} {xs : List D}
def insO (c m : Str) (x : D) (S : Store) (k : M α) : Res α := match x.ins? c S with
  | some fs => if fs.lookup m = none then k S else .stuck
  | none => .stuck
def insP (c : Str) (x : D) (S : Store) (k : M α) : Res α := match x.ins? c S with
  | some _ => k S
  | none => .stuck
def seqO (x : D) (S : Store) (k : List D → M α) : Res α := match x.seq? S with
  | some xs => k xs S
  | none => .stuck
theorem t_insO {k : M α} (h : x.ins? c S = some fs) (hl : fs.lookup m = none) : insO c m x S k = k S := by
  unfold insO
  rw [h]
  simp only [hl, if_true]
theorem t_insP {k : M α} (h : x.ins? c S = some fs) : insP c x S k = k S := by
  unfold insP
  rw [h]
theorem t_seqO {k : List D → M α} (h : x.seq? S = some xs) : seqO x S k = k xs S := by
  unfold seqO
  rw [h]
theorem t_seqL {k : List D → M α} : seqO (lI ns) S k = k (dInts ns) S := t_seqO lI_seq
theorem t_seqT {k : List D → M α} : seqO (tI ns) S k = k (dInts ns) S := t_seqO tI_seq
theorem t_seqLP {k : List D → M α} : seqO (.p (.lst ps)) S k = k (pD ps) S := rfl
theorem t_seqTP {k : List D → M α} : seqO (.p (.tup ps)) S k = k (pD ps) S := rfl
theorem t_seqR {k : List D → M α} (h : Lst S r ps) : seqO (.r r) S k = k (pD ps) S := t_seqO (R_seq h.at_)
theorem t_methO : mMethO c m mf mo mr ρ S = (mo ρ S).bind fun x S => insO c m x S fun S => (mr ρ S).bind fun ds => mf (x :: ds) := rfl
theorem t_methS : mMethS c m mf mo mr ρ S = (mo ρ S).bind fun x S => insO c m x S fun S => (mr ρ S).bind fun ds S => if ds.length ≤ 1000 then mf [x, mkTup ds] S else .stuck := by
  show (mo ρ S).bind _ = (mo ρ S).bind _
  congr 1
  funext x S
  unfold insO
  cases x.ins? c S with
  | none => rfl
  | some fs =>
    show (if fs.lookup m = none then (mr ρ S).bind fun ds => if ds.length ≤ 1000 then mf [x, mkTup ds] else fun _ => .stuck else Res.stuck) = if fs.lookup m = none then (mr ρ S).bind fun ds S => if ds.length ≤ 1000 then mf [x, mkTup ds] S else .stuck else Res.stuck
    congr 2
    funext ds S
    split <;> rfl
theorem t_prop : mProp c mf mo ρ S = (mo ρ S).bind fun x S => insP c x S fun S => noErr (mf [x] S) := by
  rfl
theorem t_noErr {a : α} : noErr (.ok a S) = .ok a S := rfl
theorem t_fld (h : x.ins? c S = some fs) (hl : fs.lookup f = some d) : fFld c f x S = some (d, S) := by
  unfold fFld
  simp only [h, hl]
theorem t_star : mStar me mr ρ S = (me ρ S).bind fun d S => seqO d S fun xs S => (mr ρ S).bind fun ys S => .ok (xs ++ ys) S := rfl
theorem t_make : mMake c mf mr ρ S = (mr ρ S).bind (mNewI c mf) := rfl
theorem t_callK : mCallK mf mr me ρ S = (mr ρ S).bind fun ds S => (me ρ S).bind fun d => mf (ds ++ [d]) := rfl
theorem t_callD : mCallD mf d0 mr ρ S = (mr ρ S).bind fun ds => mf (ds ++ [.p (.int d0)]) := rfl
theorem t_inO {S' : Store} (h : y.ins? c S = some fs) (hm : mf [y, x] S = .ok (.p (.bl b)) S') : fInO c mf x y S = some (.p (.bl b), S') := by
  unfold fInO
  simp only [h, hm]
theorem t_eqS {a b : Str} : fEqS (.p (.str a)) (.p (.str b)) S = some (.p (.bl (decide (a = b))), S) := rfl
theorem t_neS {a b : Str} : fNeS (.p (.str a)) (.p (.str b)) S = some (.p (.bl (!decide (a = b))), S) := rfl
theorem t_tup1 {a : P} : fTup [.p a] S = some (.p (.tup [a]), S) := rfl
theorem t_tup2 {a b : P} : fTup [.p a, .p b] S = some (.p (.tup [a, b]), S) := rfl
theorem t_tup3 {a b c : P} : fTup [.p a, .p b, .p c] S = some (.p (.tup [a, b, c]), S) := rfl
theorem t_tup4 {a b c d : P} : fTup [.p a, .p b, .p c, .p d] S = some (.p (.tup [a, b, c, d]), S) := rfl
end
end DL
set_option maxHeartbeats 4000000
set_option exponentiation.threshold 400001
/-! DLShow: repr of data, told by its size alone. -/
namespace DL
open PySem PySem.Spec PyProof.Rows L2
structure Shw (x : P) (b d : Nat) : Prop where
  ex : ∃ pd, toPD x = some pd ∧ pd.showable = true ∧ pd.leavesShort 100 = true ∧ pd.bulk ≤ b ∧ pd.depth ≤ d
structure Shws (xs : List P) (b d : Nat) : Prop where
  ex : ∃ ps, toPDs xs = some ps ∧ PyData.showableAll ps = true ∧ PyData.leavesShortAll 100 ps = true ∧ PyData.bulkAll ps ≤ b ∧ PyData.depthAll ps ≤ d
section
variable {x : P} {xs ys : List P} {b b' c d d' : Nat} {ns : List Int} {i : Int}
theorem Shw.mono (h : Shw x b d) (hb : b ≤ b') (hd : d ≤ d') : Shw x b' d' := by
  obtain ⟨pd, e, s, l, k, m⟩ := h.ex
  exact ⟨pd, e, s, l, by omega, by omega⟩
theorem Shws.mono (h : Shws xs b d) (hb : b ≤ b') (hd : d ≤ d') : Shws xs b' d' := by
  obtain ⟨pd, e, s, l, k, m⟩ := h.ex
  exact ⟨pd, e, s, l, by omega, by omega⟩
theorem shws_nil : Shws [] 0 0 := ⟨[], rfl, rfl, rfl, Nat.le_refl _, Nat.le_refl _⟩
theorem shws_cons (h : Shw x b d) (k : Shws xs c d) : Shws (x :: xs) (b + 1 + c) d := by
  obtain ⟨pd, e, s, l, k1, m⟩ := h.ex
  obtain ⟨ps, e', s', l', k', m'⟩ := k.ex
  refine ⟨pd :: ps, ?_, ?_, ?_, ?_, ?_⟩
  · simp only [toPDs, e, e']
  · simp only [PyData.showableAll, s, s', Bool.and_self]
  · simp only [PyData.leavesShortAll, l, l', Bool.and_self]
  · simp only [PyData.bulkAll]
    omega
  · simp only [PyData.depthAll]
    omega
theorem shw_tup (h : Shws xs b d) : Shw (.tup xs) b (d + 1) := by
  obtain ⟨ps, e, s, l, k, m⟩ := h.ex
  refine ⟨.tuple ps, by simp only [toPD, e, Option.map_some], by simp only [PyData.showable, s], by simp only [PyData.leavesShort, l], by simp only [PyData.bulk]; omega, by simp only [PyData.depth]; omega⟩
theorem shw_lst (h : Shws xs b d) : Shw (.lst xs) b (d + 1) := by
  obtain ⟨ps, e, s, l, k, m⟩ := h.ex
  refine ⟨.list ps, by simp only [toPD, e, Option.map_some], by simp only [PyData.showable, s], by simp only [PyData.leavesShort, l], by simp only [PyData.bulk]; omega, by simp only [PyData.depth]; omega⟩
theorem shw_int (h : -1000000000000000000000000000000000000000000000000000000 ≤ i ∧ i ≤ 1000000000000000000000000000000000000000000000000000000) : Shw (.int i) 0 0 := by
  have h : i.natAbs < 10 ^ 60 := by
    have : (10 : Nat) ^ 60 = 1000000000000000000000000000000000000000000000000000000000000 := by decide
    omega
  refine ⟨.int i, rfl, ?_, ?_, Nat.le_refl _, Nat.le_refl _⟩
  · simp only [PyData.showable, decide_eq_true_eq]
    have : i.natAbs < 2 ^ 200 := Nat.lt_of_lt_of_le h (by decide)
    by_cases q : i.natAbs = 0
    · rw [q]; decide
    · have := (Nat.log2_lt q).mpr this
      omega
  · have e : (PyData.int i).shown.length = (toString i).length := by
      simp only [PyData.shown]
      exact PySem.ofString_length _
    have := int_text_length_le10 (k := 60) (by decide) h
    simp only [PyData.leavesShort]
    exact decide_eq_true (by omega)
theorem shw_bl {t : Bool} : Shw (.bl t) 0 0 := ⟨.bool t, rfl, rfl, rfl, Nat.le_refl _, Nat.le_refl _⟩
theorem shw_non : Shw .non 0 0 := ⟨.none, rfl, rfl, rfl, Nat.le_refl _, Nat.le_refl _⟩
theorem shws_ints (h : ∀ x ∈ ns, -1000000000000000000000000000000000000000000000000000000 ≤ x ∧ x ≤ 1000000000000000000000000000000000000000000000000000000) : Shws (ns.map P.int) ns.length 0 := by
  induction ns with
  | nil => exact shws_nil
  | cons y ns ih =>
    have := shws_cons (shw_int (h y List.mem_cons_self)) (ih fun x hx => h x (List.mem_cons_of_mem _ hx))
    exact this.mono (by rw [List.length_cons]; omega) (Nat.le_refl _)
theorem shws_all {ys : List α} {f : α → P} (h : ∀ y ∈ ys, Shw (f y) b d) : Shws (ys.map f) (ys.length * (b + 1)) d := by
  induction ys with
  | nil => exact shws_nil.mono (Nat.zero_le _) (Nat.zero_le _)
  | cons y ns ih =>
    have := shws_cons (h y List.mem_cons_self) (ih fun x hx => h x (List.mem_cons_of_mem _ hx))
    refine this.mono ?_ (Nat.le_refl _)
    rw [List.length_cons, Nat.add_mul]
    omega
theorem s_fits {d : PyData} (lv : d.leavesShort 100 = true) (bk : d.bulk ≤ 10000) : d.shown.length ≤ sizeLine := by
  have h := PyData.shown_le_bulk 100 (by decide) _ lv
  rw [sizeLine_eq]
  have : (100 + 2) * d.bulk ≤ 102 * 10000 := Nat.mul_le_mul_left _ bk
  omega
/-- repr of a list -/
theorem s_lst (h : Shws (x :: xs) 10000 50) : ∃ s, ∀ S : Store, fReprX [.p (.lst (x :: xs))] S = some (.p (.str s), S) := by
  obtain ⟨ps, e, s, l, k, m⟩ := h.ex
  refine ⟨(PyData.list ps).shown, fun S => ?_⟩
  have hz : (PyData.list ps).shown.length ≤ sizeLine := s_fits (by simp only [PyData.leavesShort, l]) (by simp only [PyData.bulk]; exact k)
  have e1 : fRepr [.p (.lst (x :: xs))] S = some (.p (.str (PyData.list ps).shown), S) := by
    show (match toPDs (x :: xs) with
      | some ps => if (PyData.list ps).showable && (decide (PyData.depthAll ps ≤ 50) && decide ((PyData.list ps).shown.length ≤ sizeLine)) then some (D.p (.str (PyData.list ps).shown), S) else none
      | none => none) = _
    rw [e]
    have sh : (PyData.list ps).showable = true := by simp only [PyData.showable, s]
    simp only [sh, decide_eq_true m, decide_eq_true hz, Bool.and_self, if_true]
  unfold fReprX
  simp only [e1]
theorem s_tup (h : Shws xs 10000 50) : ∃ s, ∀ S : Store, fReprX [.p (.tup xs)] S = some (.p (.str s), S) := by
  obtain ⟨ps, e, s, l, k, m⟩ := h.ex
  refine ⟨(PyData.tuple ps).shown, fun S => ?_⟩
  have hz : (PyData.tuple ps).shown.length ≤ sizeLine := s_fits (by simp only [PyData.leavesShort, l]) (by simp only [PyData.bulk]; exact k)
  have e0 : fRepr [.p (.tup xs)] S = none := rfl
  have e1 : fReprT [.p (.tup xs)] S = some (.p (.str (PyData.tuple ps).shown), S) := by
    show (match toPDs xs with
      | some ps => if (PyData.tuple ps).showable && (decide (PyData.depthAll ps ≤ 50) && decide ((PyData.tuple ps).shown.length ≤ sizeLine)) then some (D.p (.str (PyData.tuple ps).shown), S) else none
      | none => none) = _
    rw [e]
    have sh : (PyData.tuple ps).showable = true := by simp only [PyData.showable, s]
    simp only [sh, decide_eq_true m, decide_eq_true hz, Bool.and_self, if_true]
  unfold fReprX
  simp only [e0, e1]
end
end DL
set_option maxHeartbeats 4000000
namespace DL
open PySem PySem.Spec PyProof.Rows L2
/-! ### sorted rows -/
abbrev Dn (s : List Int) : Prop := s.Pairwise (· ≥ ·)
def Pos (s : List Int) : Prop := ∀ x ∈ s, 0 ≤ x
theorem sortDn_perm (d : List Int) : (sortDn d).Perm d := (List.reverse_perm _).trans (srtUp_perm _)
theorem sortDn_dn (d : List Int) : Dn (sortDn d) := by
  unfold sortDn
  rw [Dn, List.pairwise_reverse]
  exact (srtUp_up d).imp fun {a b} h => h
theorem sortDn_uniq {a d : List Int} (p : a.Perm d) (h : Dn a) : a = sortDn d := sortBy_eq (b := true) p h
theorem sortDn_same {a d : List Int} (p : a.Perm d) : sortDn a = sortDn d := sortDn_uniq ((sortDn_perm a).trans p) (sortDn_dn a)
theorem sortDn_len (d : List Int) : (sortDn d).length = d.length := (sortDn_perm d).length_eq
theorem sum_perm {a b : List Int} (p : a.Perm b) : a.sum = b.sum := by
  induction p with
  | nil => rfl
  | cons x _ ih => simp [ih]
  | swap x y l => simp; omega
  | trans _ _ h1 h2 => exact h1.trans h2
theorem sortDn_sum (d : List Int) : (sortDn d).sum = d.sum := sum_perm (sortDn_perm d)
theorem Pos_sort {d : List Int} (h : Pos d) : Pos (sortDn d) := fun x hx => h x ((sortDn_perm d).mem_iff.mp hx)
/-- sums of beginnings -/
def pre (b : Int) : List Int → List Int
  | [] => []
  | x :: xs => (b + x) :: pre (b + x) xs
theorem pre_len (b : Int) : ∀ xs, (pre b xs).length = xs.length
  | [] => rfl
  | x :: xs => by rw [pre, List.length_cons, pre_len, List.length_cons]
section
variable {S : Store} {ns vs : List Int} {d : D}
theorem fn_err {N : Nat} {a : MS} {ds : List D} {S' : Store} {e : Exc} {fin : Fin} (h : a (env0 N ds) S = .err e S') (hp : pureFs e.fs = true) (hs : S'.objs.take S.objs.length = S.objs) : mFn N fin a ds S = .err e S := by
  rw [r_fn, h, r_err]
  show finE _ e S' = _
  unfold finE
  rw [if_pos hp, cut_pre hs]
theorem fn_err0 {N : Nat} {a : MS} {ds : List D} {e : Exc} {fin : Fin} (h : a (env0 N ds) S = .err e S) (hp : pureFs e.fs = true) : mFn N fin a ds S = .err e S := fn_err h hp List.take_length
theorem r_raise {c : Str} {ρ : Env} : mRaise c ρ S = .err ⟨c, []⟩ S := rfl
theorem r_raise1 {c f : Str} {me : ME D} {ρ : Env} : mRaise1 c f me ρ S = (me ρ S).bind fun d S' => .err ⟨c, [(f, d)]⟩ S' := rfl
theorem r_out {mt : Str → Str → Option Bool} {hs : List Hd} {me : ME D} {ρ : Env} : mOut mt hs me ρ S = outR mt hs (me ρ S) := rfl
theorem r_outOk {mt : Str → Str → Option Bool} {hs : List Hd} : outR mt hs (.ok d S) = .ok d S := rfl
/-! ### what is a row -/
def P.sim : P → Bool
  | .non | .bl _ | .int _ | .str _ | .tup _ | .lst _ | .scr _ | .dic _ => true
  | _ => false
def isInt : P → Bool
  | .int _ => true
  | _ => false
abbrev MAXN : Int := 999999999999999999999999999999
def amt : P → Bool
  | .int i => decide (0 ≤ i) && decide (i ≤ MAXN)
  | _ => false
theorem p_is_integer {x : P} (h : x.sim = true) : m_is_integer [.p x] S = .ok (.p (.bl (isInt x))) S := by
  refine fn_pure0 ?_
  unfold b_is_integer
  have go : ∀ a : String, (D.p x).tyOf? S = some a → tyNames.contains a = true → (isiB a "int" && !isiB a "bool") = isInt x → (mRet (mAnd (mCallB fIsi (mCons (mVar 0) (mCons (mC (.ty "int")) mNil))) (mNot (mCallB fIsi (mCons (mVar 0) (mCons (mC (.ty "bool")) mNil)))))) (env0 1 [.p x]) S = .ok (.rt (.p (.bl (isInt x)))) S := fun a h1 h2 h3 => by
    have i1 := o_isi (b := "int") h1 (by rw [h2]; decide)
    have i2 := o_isi (b := "bool") h1 (by rw [h2]; decide)
    simp only [r_ok, r_c, r_op2, r_op1, r_nil, r_cons, r_callB, r_call, r_and, r_or, r_not, r_asB, r_if, r_andT, r_orT, r_notT, r_test, r_chain, r_seq, r_nx, r_rt, r_bk, r_ct, r_next, r_break, r_cont, r_drop, r_ret, r_retN, r_asg, r_aug, r_ifS, r_par, r_sl, r_noPart, r_part, r_asInt, r_put, r_for, r_src, r_srcA, r_comp, r_meth, r_oNx, r_oCt, r_oBk, r_oRt, r_yes, r_var', r_lift', List.getElem?_cons_zero, List.getElem?_cons_succ, List.set_cons_zero, List.set_cons_succ, o_add, o_addI, o_sub, o_neg, o_lt, o_le, o_gt, o_ge, o_eq, o_ne, o_int, o_intB, o_abs, o_max, o_min, r_env, List.map_cons, List.map_nil, List.length_cons, List.length_nil, Nat.zero_add, Nat.reduceAdd, Nat.reduceSub, List.replicate_succ, List.replicate_zero, List.cons_append, List.nil_append, Bool.false_eq_true, if_true, if_false, gPar, List.zip_cons_cons, List.zip_nil_right, List.zip_nil_left, List.foldl_cons, List.foldl_nil, unsetE, r_err, i1, i2]
    cases q : isiB a "int" with
    | true =>
      simp only [r_ok, r_c, r_op2, r_op1, r_nil, r_cons, r_callB, r_call, r_and, r_or, r_not, r_asB, r_if, r_andT, r_orT, r_notT, r_test, r_chain, r_seq, r_nx, r_rt, r_bk, r_ct, r_next, r_break, r_cont, r_drop, r_ret, r_retN, r_asg, r_aug, r_ifS, r_par, r_sl, r_noPart, r_part, r_asInt, r_put, r_for, r_src, r_srcA, r_comp, r_meth, r_oNx, r_oCt, r_oBk, r_oRt, r_yes, r_var', r_lift', List.getElem?_cons_zero, List.getElem?_cons_succ, List.set_cons_zero, List.set_cons_succ, o_add, o_addI, o_sub, o_neg, o_lt, o_le, o_gt, o_ge, o_eq, o_ne, o_int, o_intB, o_abs, o_max, o_min, r_env, List.map_cons, List.map_nil, List.length_cons, List.length_nil, Nat.zero_add, Nat.reduceAdd, Nat.reduceSub, List.replicate_succ, List.replicate_zero, List.cons_append, List.nil_append, Bool.false_eq_true, if_true, if_false, gPar, List.zip_cons_cons, List.zip_nil_right, List.zip_nil_left, List.foldl_cons, List.foldl_nil, unsetE, r_err, i2]
      rw [q, Bool.true_and] at h3
      rw [h3]
    | false =>
      simp only [r_ok, r_c, r_op2, r_op1, r_nil, r_cons, r_callB, r_call, r_and, r_or, r_not, r_asB, r_if, r_andT, r_orT, r_notT, r_test, r_chain, r_seq, r_nx, r_rt, r_bk, r_ct, r_next, r_break, r_cont, r_drop, r_ret, r_retN, r_asg, r_aug, r_ifS, r_par, r_sl, r_noPart, r_part, r_asInt, r_put, r_for, r_src, r_srcA, r_comp, r_meth, r_oNx, r_oCt, r_oBk, r_oRt, r_yes, r_var', r_lift', List.getElem?_cons_zero, List.getElem?_cons_succ, List.set_cons_zero, List.set_cons_succ, o_add, o_addI, o_sub, o_neg, o_lt, o_le, o_gt, o_ge, o_eq, o_ne, o_int, o_intB, o_abs, o_max, o_min, r_env, List.map_cons, List.map_nil, List.length_cons, List.length_nil, Nat.zero_add, Nat.reduceAdd, Nat.reduceSub, List.replicate_succ, List.replicate_zero, List.cons_append, List.nil_append, Bool.false_eq_true, if_true, if_false, gPar, List.zip_cons_cons, List.zip_nil_right, List.zip_nil_left, List.foldl_cons, List.foldl_nil, unsetE, r_err]
      rw [q, Bool.false_and] at h3
      rw [h3]
  cases x with
  | non => exact go "NoneType" rfl (by decide) (by decide)
  | bl b => exact go "bool" rfl (by decide) (by show (isiB "bool" "int" && !isiB "bool" "bool") = false; decide)
  | int i => exact go "int" rfl (by decide) (by show (isiB "int" "int" && !isiB "int" "bool") = true; decide)
  | str s => exact go "str" rfl (by decide) (by show (isiB "str" "int" && !isiB "str" "bool") = false; decide)
  | tup xs => exact go "tuple" rfl (by decide) (by show (isiB "tuple" "int" && !isiB "tuple" "bool") = false; decide)
  | lst xs => exact go "list" rfl (by decide) (by show (isiB "list" "int" && !isiB "list" "bool") = false; decide)
  | scr xs => exact go "list" rfl (by decide) (by show (isiB "list" "int" && !isiB "list" "bool") = false; decide)
  | dic xs => exact go "dict" rfl (by decide) (by show (isiB "dict" "int" && !isiB "dict" "bool") = false; decide)
  | dit xs => cases h
  | ins c xs => cases h
  | glo c => cases h
  | ty c => cases h
theorem p_is_fromI {i a b : Int} : m_is_from [.p (.int i), .p (.int a), .p (.int b)] S = .ok (.p (.bl (decide (a ≤ i) && decide (i ≤ b)))) S := by
  refine fn_pure0 ?_
  unfold b_is_from
  simp only [r_ok, r_c, r_op2, r_op1, r_nil, r_cons, r_callB, r_call, r_and, r_or, r_not, r_asB, r_if, r_andT, r_orT, r_notT, r_test, r_chain, r_seq, r_nx, r_rt, r_bk, r_ct, r_next, r_break, r_cont, r_drop, r_ret, r_retN, r_asg, r_aug, r_ifS, r_par, r_sl, r_noPart, r_part, r_asInt, r_put, r_for, r_src, r_srcA, r_comp, r_meth, r_oNx, r_oCt, r_oBk, r_oRt, r_yes, r_var', r_lift', List.getElem?_cons_zero, List.getElem?_cons_succ, List.set_cons_zero, List.set_cons_succ, o_add, o_addI, o_sub, o_neg, o_lt, o_le, o_gt, o_ge, o_eq, o_ne, o_int, o_intB, o_abs, o_max, o_min, r_env, List.map_cons, List.map_nil, List.length_cons, List.length_nil, Nat.zero_add, Nat.reduceAdd, Nat.reduceSub, List.replicate_succ, List.replicate_zero, List.cons_append, List.nil_append, Bool.false_eq_true, if_true, if_false, gPar, List.zip_cons_cons, List.zip_nil_right, List.zip_nil_left, List.foldl_cons, List.foldl_nil, unsetE, r_err, p_is_integer (x := .int i) rfl, isInt]
  cases q : decide (a ≤ i) <;> simp only [r_ok, r_c, r_op2, r_op1, r_nil, r_cons, r_callB, r_call, r_and, r_or, r_not, r_asB, r_if, r_andT, r_orT, r_notT, r_test, r_chain, r_seq, r_nx, r_rt, r_bk, r_ct, r_next, r_break, r_cont, r_drop, r_ret, r_retN, r_asg, r_aug, r_ifS, r_par, r_sl, r_noPart, r_part, r_asInt, r_put, r_for, r_src, r_srcA, r_comp, r_meth, r_oNx, r_oCt, r_oBk, r_oRt, r_yes, r_var', r_lift', List.getElem?_cons_zero, List.getElem?_cons_succ, List.set_cons_zero, List.set_cons_succ, o_add, o_addI, o_sub, o_neg, o_lt, o_le, o_gt, o_ge, o_eq, o_ne, o_int, o_intB, o_abs, o_max, o_min, r_env, List.map_cons, List.map_nil, List.length_cons, List.length_nil, Nat.zero_add, Nat.reduceAdd, Nat.reduceSub, List.replicate_succ, List.replicate_zero, List.cons_append, List.nil_append, Bool.false_eq_true, if_true, if_false, gPar, List.zip_cons_cons, List.zip_nil_right, List.zip_nil_left, List.foldl_cons, List.foldl_nil, unsetE, r_err, Bool.true_and, Bool.false_and]
theorem p_is_fromN {x : P} {a b : D} (h : x.sim = true) (hn : isInt x = false) : m_is_from [.p x, a, b] S = .ok (.p (.bl false)) S := by
  refine fn_pure0 ?_
  unfold b_is_from
  simp only [r_ok, r_c, r_op2, r_op1, r_nil, r_cons, r_callB, r_call, r_and, r_or, r_not, r_asB, r_if, r_andT, r_orT, r_notT, r_test, r_chain, r_seq, r_nx, r_rt, r_bk, r_ct, r_next, r_break, r_cont, r_drop, r_ret, r_retN, r_asg, r_aug, r_ifS, r_par, r_sl, r_noPart, r_part, r_asInt, r_put, r_for, r_src, r_srcA, r_comp, r_meth, r_oNx, r_oCt, r_oBk, r_oRt, r_yes, r_var', r_lift', List.getElem?_cons_zero, List.getElem?_cons_succ, List.set_cons_zero, List.set_cons_succ, o_add, o_addI, o_sub, o_neg, o_lt, o_le, o_gt, o_ge, o_eq, o_ne, o_int, o_intB, o_abs, o_max, o_min, r_env, List.map_cons, List.map_nil, List.length_cons, List.length_nil, Nat.zero_add, Nat.reduceAdd, Nat.reduceSub, List.replicate_succ, List.replicate_zero, List.cons_append, List.nil_append, Bool.false_eq_true, if_true, if_false, gPar, List.zip_cons_cons, List.zip_nil_right, List.zip_nil_left, List.foldl_cons, List.foldl_nil, unsetE, r_err, p_is_integer h, hn]
theorem p_is_amount {x : P} (h : x.sim = true) : m_is_amount [.p x] S = .ok (.p (.bl (amt x))) S := by
  refine fn_pure0 ?_
  unfold b_is_amount
  cases x with
  | int i => simp only [r_ok, r_c, r_op2, r_op1, r_nil, r_cons, r_callB, r_call, r_and, r_or, r_not, r_asB, r_if, r_andT, r_orT, r_notT, r_test, r_chain, r_seq, r_nx, r_rt, r_bk, r_ct, r_next, r_break, r_cont, r_drop, r_ret, r_retN, r_asg, r_aug, r_ifS, r_par, r_sl, r_noPart, r_part, r_asInt, r_put, r_for, r_src, r_srcA, r_comp, r_meth, r_oNx, r_oCt, r_oBk, r_oRt, r_yes, r_var', r_lift', List.getElem?_cons_zero, List.getElem?_cons_succ, List.set_cons_zero, List.set_cons_succ, o_add, o_addI, o_sub, o_neg, o_lt, o_le, o_gt, o_ge, o_eq, o_ne, o_int, o_intB, o_abs, o_max, o_min, r_env, List.map_cons, List.map_nil, List.length_cons, List.length_nil, Nat.zero_add, Nat.reduceAdd, Nat.reduceSub, List.replicate_succ, List.replicate_zero, List.cons_append, List.nil_append, Bool.false_eq_true, if_true, if_false, gPar, List.zip_cons_cons, List.zip_nil_right, List.zip_nil_left, List.foldl_cons, List.foldl_nil, unsetE, r_err, p_is_fromI, amt]
  | ins c xs => cases h
  | glo c => cases h
  | ty c => cases h
  | _ => simp only [r_ok, r_c, r_op2, r_op1, r_nil, r_cons, r_callB, r_call, r_and, r_or, r_not, r_asB, r_if, r_andT, r_orT, r_notT, r_test, r_chain, r_seq, r_nx, r_rt, r_bk, r_ct, r_next, r_break, r_cont, r_drop, r_ret, r_retN, r_asg, r_aug, r_ifS, r_par, r_sl, r_noPart, r_part, r_asInt, r_put, r_for, r_src, r_srcA, r_comp, r_meth, r_oNx, r_oCt, r_oBk, r_oRt, r_yes, r_var', r_lift', List.getElem?_cons_zero, List.getElem?_cons_succ, List.set_cons_zero, List.set_cons_succ, o_add, o_addI, o_sub, o_neg, o_lt, o_le, o_gt, o_ge, o_eq, o_ne, o_int, o_intB, o_abs, o_max, o_min, r_env, List.map_cons, List.map_nil, List.length_cons, List.length_nil, Nat.zero_add, Nat.reduceAdd, Nat.reduceSub, List.replicate_succ, List.replicate_zero, List.cons_append, List.nil_append, Bool.false_eq_true, if_true, if_false, gPar, List.zip_cons_cons, List.zip_nil_right, List.zip_nil_left, List.foldl_cons, List.foldl_nil, unsetE, r_err, p_is_fromN h rfl, amt]
theorem p_is_row_tup {xs : List P} (hs : ∀ x ∈ xs, x.sim = true) (hl : xs.length ≤ 100000) : m_is_row [.p (.tup xs)] S = .ok (.p (.bl (decide (1 ≤ xs.length) && decide (xs.length ≤ 64) && xs.all amt))) S := by
  refine fn_pure0 ?_
  have ht : (D.p (.tup xs)).tyOf? S = some "tuple" := rfl
  have i1 := o_isi (S := S) (b := "tuple") ht (by decide)
  have e1 : isiB "tuple" "tuple" = true := by decide
  rw [e1] at i1
  have hq : (D.p (.tup xs)).seq? S = some (pD xs) := rfl
  have i2 : fLen [.p (.tup xs)] S = some (.p (.int xs.length), S) := by
    have := f_len hq
    simpa [pD] using this
  have e2 : decide ((1 : Int) ≤ (xs.length : Int)) = decide (1 ≤ xs.length) := by
    by_cases h : 1 ≤ xs.length
    · rw [decide_eq_true h, decide_eq_true (by omega)]
    · rw [decide_eq_false h, decide_eq_false (by omega)]
  have e3 : decide ((xs.length : Int) ≤ 64) = decide (xs.length ≤ 64) := by
    by_cases h : xs.length ≤ 64
    · rw [decide_eq_true h, decide_eq_true (by omega)]
    · rw [decide_eq_false h, decide_eq_false (by omega)]
  unfold b_is_row
  simp only [r_ok, r_c, r_op2, r_op1, r_nil, r_cons, r_callB, r_call, r_and, r_or, r_not, r_asB, r_if, r_andT, r_orT, r_notT, r_test, r_chain, r_seq, r_nx, r_rt, r_bk, r_ct, r_next, r_break, r_cont, r_drop, r_ret, r_retN, r_asg, r_aug, r_ifS, r_par, r_sl, r_noPart, r_part, r_asInt, r_put, r_for, r_src, r_srcA, r_comp, r_meth, r_oNx, r_oCt, r_oBk, r_oRt, r_yes, r_var', r_lift', List.getElem?_cons_zero, List.getElem?_cons_succ, List.set_cons_zero, List.set_cons_succ, o_add, o_addI, o_sub, o_neg, o_lt, o_le, o_gt, o_ge, o_eq, o_ne, o_int, o_intB, o_abs, o_max, o_min, r_env, List.map_cons, List.map_nil, List.length_cons, List.length_nil, Nat.zero_add, Nat.reduceAdd, Nat.reduceSub, List.replicate_succ, List.replicate_zero, List.cons_append, List.nil_append, Bool.false_eq_true, if_true, if_false, gPar, List.zip_cons_cons, List.zip_nil_right, List.zip_nil_left, List.foldl_cons, List.foldl_nil, unsetE, r_err, i1, i2, p_is_fromI, e2, e3, Bool.not_true]
  cases q : (decide (1 ≤ xs.length) && decide (xs.length ≤ 64)) with
  | false => simp only [r_ok, r_c, r_op2, r_op1, r_nil, r_cons, r_callB, r_call, r_and, r_or, r_not, r_asB, r_if, r_andT, r_orT, r_notT, r_test, r_chain, r_seq, r_nx, r_rt, r_bk, r_ct, r_next, r_break, r_cont, r_drop, r_ret, r_retN, r_asg, r_aug, r_ifS, r_par, r_sl, r_noPart, r_part, r_asInt, r_put, r_for, r_src, r_srcA, r_comp, r_meth, r_oNx, r_oCt, r_oBk, r_oRt, r_yes, r_var', r_lift', List.getElem?_cons_zero, List.getElem?_cons_succ, List.set_cons_zero, List.set_cons_succ, o_add, o_addI, o_sub, o_neg, o_lt, o_le, o_gt, o_ge, o_eq, o_ne, o_int, o_intB, o_abs, o_max, o_min, r_env, List.map_cons, List.map_nil, List.length_cons, List.length_nil, Nat.zero_add, Nat.reduceAdd, Nat.reduceSub, List.replicate_succ, List.replicate_zero, List.cons_append, List.nil_append, Bool.false_eq_true, if_true, if_false, gPar, List.zip_cons_cons, List.zip_nil_right, List.zip_nil_left, List.foldl_cons, List.foldl_nil, unsetE, r_err, Bool.not_false, Bool.false_and]
  | true =>
    have c := compI_map (w := []) (g := gNm 1) (e := ce_is_row) (ρ := [some (D.p (.tup xs)), none]) (S := S) (f := fun x => match x with
      | .p x => .p (.bl (amt x))
      | x => x) rfl (pD xs) (by simpa [pD] using hl) fun x hx => by
        obtain ⟨y, hy, rfl⟩ := List.mem_map.mp hx
        refine ⟨_, rfl, ?_⟩
        unfold ce_is_row
        simp only [r_ok, r_c, r_op2, r_op1, r_nil, r_cons, r_callB, r_call, r_and, r_or, r_not, r_asB, r_if, r_andT, r_orT, r_notT, r_test, r_chain, r_seq, r_nx, r_rt, r_bk, r_ct, r_next, r_break, r_cont, r_drop, r_ret, r_retN, r_asg, r_aug, r_ifS, r_par, r_sl, r_noPart, r_part, r_asInt, r_put, r_for, r_src, r_srcA, r_comp, r_meth, r_oNx, r_oCt, r_oBk, r_oRt, r_yes, r_var', r_lift', List.getElem?_cons_zero, List.getElem?_cons_succ, List.set_cons_zero, List.set_cons_succ, o_add, o_addI, o_sub, o_neg, o_lt, o_le, o_gt, o_ge, o_eq, o_ne, o_int, o_intB, o_abs, o_max, o_min, r_env, List.map_cons, List.map_nil, List.length_cons, List.length_nil, Nat.zero_add, Nat.reduceAdd, Nat.reduceSub, List.replicate_succ, List.replicate_zero, List.cons_append, List.nil_append, Bool.false_eq_true, if_true, if_false, gPar, List.zip_cons_cons, List.zip_nil_right, List.zip_nil_left, List.foldl_cons, List.foldl_nil, unsetE, r_err, p_is_amount (hs y hy)]
    have e4 : ((pD xs).map fun x => match x with
      | .p x => D.p (.bl (amt x))
      | x => x) = pD ((xs.map amt).map P.bl) := by simp [pD]
    rw [e4] at c
    have e5 : fLstF (pD ((xs.map amt).map P.bl)) S = some (.p (.lst ((xs.map amt).map P.bl)), S) := by
      unfold fLstF
      rw [if_pos (by simpa [pD] using hl), pures_pD]
    have e6 : fAll [.p (.lst ((xs.map amt).map P.bl))] S = some (.p (.bl ((xs.map amt).all id)), S) := o_allL rfl (bools_pD _)
    have e7 : srcSeq (.p (.tup xs)) S = some (⟨pD xs, []⟩, S) := o_srcT rfl
    simp only [r_ok, r_c, r_op2, r_op1, r_nil, r_cons, r_callB, r_call, r_and, r_or, r_not, r_asB, r_if, r_andT, r_orT, r_notT, r_test, r_chain, r_seq, r_nx, r_rt, r_bk, r_ct, r_next, r_break, r_cont, r_drop, r_ret, r_retN, r_asg, r_aug, r_ifS, r_par, r_sl, r_noPart, r_part, r_asInt, r_put, r_for, r_src, r_srcA, r_comp, r_meth, r_oNx, r_oCt, r_oBk, r_oRt, r_yes, r_var', r_lift', List.getElem?_cons_zero, List.getElem?_cons_succ, List.set_cons_zero, List.set_cons_succ, o_add, o_addI, o_sub, o_neg, o_lt, o_le, o_gt, o_ge, o_eq, o_ne, o_int, o_intB, o_abs, o_max, o_min, r_env, List.map_cons, List.map_nil, List.length_cons, List.length_nil, Nat.zero_add, Nat.reduceAdd, Nat.reduceSub, List.replicate_succ, List.replicate_zero, List.cons_append, List.nil_append, Bool.false_eq_true, if_true, if_false, gPar, List.zip_cons_cons, List.zip_nil_right, List.zip_nil_left, List.foldl_cons, List.foldl_nil, unsetE, r_err, Bool.not_true, e7, c, e5, e6, Bool.true_and]
    congr 4
    simp [List.all_map]
theorem p_is_row_not {a : String} (h : d.tyOf? S = some a) (h1 : tyNames.contains a = true) (h2 : isiB a "tuple" = false) : m_is_row [d] S = .ok (.p (.bl false)) S := by
  refine fn_pure0 ?_
  have i1 := o_isi (S := S) (b := "tuple") h (by rw [h1]; decide)
  rw [h2] at i1
  unfold b_is_row
  simp only [r_ok, r_c, r_op2, r_op1, r_nil, r_cons, r_callB, r_call, r_and, r_or, r_not, r_asB, r_if, r_andT, r_orT, r_notT, r_test, r_chain, r_seq, r_nx, r_rt, r_bk, r_ct, r_next, r_break, r_cont, r_drop, r_ret, r_retN, r_asg, r_aug, r_ifS, r_par, r_sl, r_noPart, r_part, r_asInt, r_put, r_for, r_src, r_srcA, r_comp, r_meth, r_oNx, r_oCt, r_oBk, r_oRt, r_yes, r_var', r_lift', List.getElem?_cons_zero, List.getElem?_cons_succ, List.set_cons_zero, List.set_cons_succ, o_add, o_addI, o_sub, o_neg, o_lt, o_le, o_gt, o_ge, o_eq, o_ne, o_int, o_intB, o_abs, o_max, o_min, r_env, List.map_cons, List.map_nil, List.length_cons, List.length_nil, Nat.zero_add, Nat.reduceAdd, Nat.reduceSub, List.replicate_succ, List.replicate_zero, List.cons_append, List.nil_append, Bool.false_eq_true, if_true, if_false, gPar, List.zip_cons_cons, List.zip_nil_right, List.zip_nil_left, List.foldl_cons, List.foldl_nil, unsetE, r_err, i1, Bool.not_false]
/-- whether data is a row -/
def rowP : P → Bool
  | .tup xs => decide (1 ≤ xs.length) && decide (xs.length ≤ 64) && xs.all amt
  | _ => false
/-- data whose look is plain -/
def easy : P → Bool
  | .tup xs => decide (xs.length ≤ 100000) && xs.all P.sim
  | x => x.sim
theorem p_is_rowP {x : P} (h : easy x = true) : m_is_row [.p x] S = .ok (.p (.bl (rowP x))) S := by
  cases x with
  | tup xs =>
    simp only [easy, Bool.and_eq_true, decide_eq_true_eq, List.all_eq_true] at h
    exact p_is_row_tup h.2 h.1
  | non => exact p_is_row_not (a := "NoneType") rfl (by decide) (by decide)
  | bl b => exact p_is_row_not (a := "bool") rfl (by decide) (by decide)
  | int i => exact p_is_row_not (a := "int") rfl (by decide) (by decide)
  | str s => exact p_is_row_not (a := "str") rfl (by decide) (by decide)
  | lst xs => exact p_is_row_not (a := "list") rfl (by decide) (by decide)
  | scr xs => exact p_is_row_not (a := "list") rfl (by decide) (by decide)
  | dic xs => exact p_is_row_not (a := "dict") rfl (by decide) (by decide)
  | dit xs => cases h
  | ins c xs => cases h
  | glo c => cases h
  | ty c => cases h
def rowB (ns : List Int) : Bool := decide (1 ≤ ns.length) && decide (ns.length ≤ 64) && ns.all fun i => decide (0 ≤ i) && decide (i ≤ MAXN)
structure RowOk (ns : List Int) : Prop where
  one : 1 ≤ ns.length
  len : ns.length ≤ 64
  pos : Pos ns
  top : ∀ x ∈ ns, x ≤ MAXN
theorem rowB_ok {ns : List Int} : rowB ns = true ↔ RowOk ns := by
  unfold rowB
  simp only [Bool.and_eq_true, decide_eq_true_eq, List.all_eq_true]
  exact ⟨fun ⟨⟨a, b⟩, c⟩ => ⟨a, b, fun x hx => (c x hx).1, fun x hx => (c x hx).2⟩, fun h => ⟨⟨h.one, h.len⟩, fun x hx => ⟨h.pos x hx, h.top x hx⟩⟩⟩
theorem rowP_ints : rowP (.tup (ns.map P.int)) = rowB ns := by
  show (decide (1 ≤ (ns.map P.int).length) && decide ((ns.map P.int).length ≤ 64) && (ns.map P.int).all amt) = rowB ns
  rw [List.length_map, List.all_map]
  rfl
theorem easy_ints (h : ns.length ≤ 1000) : easy (.tup (ns.map P.int)) = true := by
  simp only [easy, Bool.and_eq_true, decide_eq_true_eq, List.all_eq_true, List.length_map]
  exact ⟨by omega, fun x hx => by obtain ⟨i, _, rfl⟩ := List.mem_map.mp hx; rfl⟩
theorem p_is_row (hl : ns.length ≤ 1000) : m_is_row [tI ns] S = .ok (.p (.bl (rowB ns))) S := by
  rw [← rowP_ints]
  exact p_is_rowP (easy_ints hl)
theorem RowOk.perm {a b : List Int} (h : RowOk a) (p : b.Perm a) : RowOk b :=
  ⟨by rw [p.length_eq]; exact h.one, by rw [p.length_eq]; exact h.len, fun x hx => h.pos x (p.mem_iff.mp hx), fun x hx => h.top x (p.mem_iff.mp hx)⟩
theorem p_require (h : RowOk ns) : m_require_row [tI ns] S = .ok (.p .non) S := by
  refine fn_none (S' := S) (ρ := [some (tI ns)]) ?_ List.take_length
  have hl := h.len
  unfold b_require_row
  simp only [r_ok, r_c, r_op2, r_op1, r_nil, r_cons, r_callB, r_call, r_and, r_or, r_not, r_asB, r_if, r_andT, r_orT, r_notT, r_test, r_chain, r_seq, r_nx, r_rt, r_bk, r_ct, r_next, r_break, r_cont, r_drop, r_ret, r_retN, r_asg, r_aug, r_ifS, r_par, r_sl, r_noPart, r_part, r_asInt, r_put, r_for, r_src, r_srcA, r_comp, r_meth, r_oNx, r_oCt, r_oBk, r_oRt, r_yes, r_var', r_lift', List.getElem?_cons_zero, List.getElem?_cons_succ, List.set_cons_zero, List.set_cons_succ, o_add, o_addI, o_sub, o_neg, o_lt, o_le, o_gt, o_ge, o_eq, o_ne, o_int, o_intB, o_abs, o_max, o_min, r_env, List.map_cons, List.map_nil, List.length_cons, List.length_nil, Nat.zero_add, Nat.reduceAdd, Nat.reduceSub, List.replicate_succ, List.replicate_zero, List.cons_append, List.nil_append, Bool.false_eq_true, if_true, if_false, gPar, List.zip_cons_cons, List.zip_nil_right, List.zip_nil_left, List.foldl_cons, List.foldl_nil, unsetE, r_err, p_is_row (S := S) (ns := ns) (by omega), rowB_ok.mpr h, Bool.not_true]
abbrev xSums : Exc := ⟨"InvalidSums", []⟩
theorem p_require_not {x : P} (h : easy x = true) (hr : rowP x = false) : m_require_row [.p x] S = .err xSums S := by
  refine fn_err0 ?_ rfl
  unfold b_require_row
  simp only [r_ok, r_c, r_op2, r_op1, r_nil, r_cons, r_callB, r_call, r_and, r_or, r_not, r_asB, r_if, r_andT, r_orT, r_notT, r_test, r_chain, r_seq, r_nx, r_rt, r_bk, r_ct, r_next, r_break, r_cont, r_drop, r_ret, r_retN, r_asg, r_aug, r_ifS, r_par, r_sl, r_noPart, r_part, r_asInt, r_put, r_for, r_src, r_srcA, r_comp, r_meth, r_oNx, r_oCt, r_oBk, r_oRt, r_yes, r_var', r_lift', List.getElem?_cons_zero, List.getElem?_cons_succ, List.set_cons_zero, List.set_cons_succ, o_add, o_addI, o_sub, o_neg, o_lt, o_le, o_gt, o_ge, o_eq, o_ne, o_int, o_intB, o_abs, o_max, o_min, r_env, List.map_cons, List.map_nil, List.length_cons, List.length_nil, Nat.zero_add, Nat.reduceAdd, Nat.reduceSub, List.replicate_succ, List.replicate_zero, List.cons_append, List.nil_append, Bool.false_eq_true, if_true, if_false, gPar, List.zip_cons_cons, List.zip_nil_right, List.zip_nil_left, List.foldl_cons, List.foldl_nil, unsetE, r_err, p_is_rowP h, hr, Bool.not_false, r_raise]
/-! ### sorted, summed up -/
theorem p_falling (hd : d.seq? S = some (dInts ns)) (hl : ns.length ≤ 1000) : m_falling [d] S = .ok (tI (sortDn ns)) S := by
  refine fn_pure0 (x := .tup ((sortDn ns).map P.int)) ?_
  unfold b_falling
  simp only [r_ok, r_c, r_op2, r_op1, r_nil, r_cons, r_callB, r_call, r_and, r_or, r_not, r_asB, r_if, r_andT, r_orT, r_notT, r_test, r_chain, r_seq, r_nx, r_rt, r_bk, r_ct, r_next, r_break, r_cont, r_drop, r_ret, r_retN, r_asg, r_aug, r_ifS, r_par, r_sl, r_noPart, r_part, r_asInt, r_put, r_for, r_src, r_srcA, r_comp, r_meth, r_oNx, r_oCt, r_oBk, r_oRt, r_yes, r_var', r_lift', List.getElem?_cons_zero, List.getElem?_cons_succ, List.set_cons_zero, List.set_cons_succ, o_add, o_addI, o_sub, o_neg, o_lt, o_le, o_gt, o_ge, o_eq, o_ne, o_int, o_intB, o_abs, o_max, o_min, r_env, List.map_cons, List.map_nil, List.length_cons, List.length_nil, Nat.zero_add, Nat.reduceAdd, Nat.reduceSub, List.replicate_succ, List.replicate_zero, List.cons_append, List.nil_append, Bool.false_eq_true, if_true, if_false, gPar, List.zip_cons_cons, List.zip_nil_right, List.zip_nil_left, List.foldl_cons, List.foldl_nil, unsetE, r_err, f_srt (b := true) hd (by omega : ns.length ≤ 100000), f_toT_l]
  rfl
end
end DL
set_option maxHeartbeats 4000000
namespace DL
open PySem PySem.Spec PyProof.Rows L2
section
variable {S : Store} {ns vs : List Int} {d : D}
theorem pre_append (b : Int) : ∀ (xs : List Int) (x : Int), pre b (xs ++ [x]) = pre b xs ++ [b + xs.sum + x]
  | [], x => by simp [pre]
  | y :: xs, x => by
    rw [List.cons_append, pre, pre_append (b + y) xs x, pre, List.cons_append, List.sum_cons]
    congr 3
    omega
theorem pre_take {s : List Int} {j : Nat} (hj : j < s.length) : pre 0 (s.take (j + 1)) = pre 0 (s.take j) ++ [(s.take (j + 1)).sum] := by
  rw [List.take_succ_eq_append_getElem hj, pre_append, List.sum_append]
  simp
/-- the loop of prefixes over a sorted row -/
theorem pre_loop {s : List Int} (hl : s.length ≤ 1000) (body : MS) (z0 : Option D)
    (hb : ∀ (T : Store) (ps : List P) (t x : Int) (z3 : Option D), ps.length < 1000 → body [z0, some (.r T.objs.length), some (.p (.int t)), some (.p (.int x))] (SP T ps) = .ok (.nx [z0, some (.r T.objs.length), some (.p (.int (t + x))), some (.p (.int x))]) (SP T (ps ++ [.int (t + x)]))) :
    ∀ (m j : Nat) (z3 : Option D), j + m = s.length → ∃ ρ' z, loopI [] (gNm 3) body (dInts (s.drop j)) [z0, some (.r S.objs.length), some (.p (.int (s.take j).sum)), z3] (SP S ((pre 0 (s.take j)).map P.int)) = .ok (.nx ρ') (SP S ((pre 0 s).map P.int)) ∧ ρ' = [z0, some (.r S.objs.length), some (.p (.int s.sum)), z]
  | 0, j, z3, h => by
    have e : s.drop j = [] := List.drop_of_length_le (by omega)
    have e2 : s.take j = s := List.take_of_length_le (by omega)
    rw [e, e2]
    exact ⟨_, z3, by show loopI [] _ _ [] _ _ = _; rw [loopI_nil rfl], rfl⟩
  | m + 1, j, z3, h => by
    have hj : j < s.length := by omega
    obtain ⟨ρ', z, e1, e2⟩ := pre_loop hl body z0 hb m (j + 1) (some (.p (.int s[j]))) (by omega)
    refine ⟨ρ', z, ?_, e2⟩
    have ed : dInts (s.drop j) = .p (.int s[j]) :: dInts (s.drop (j + 1)) := by
      rw [List.drop_eq_getElem_cons hj]
      rfl
    have st := hb S ((pre 0 (s.take j)).map P.int) (s.take j).sum s[j] z3 (by rw [List.length_map, pre_len, List.length_take]; omega)
    have es : (s.take j).sum + s[j] = (s.take (j + 1)).sum := by
      rw [List.take_succ_eq_append_getElem hj, List.sum_append]
      simp
    have ep : (pre 0 (s.take j)).map P.int ++ [P.int (s.take (j + 1)).sum] = (pre 0 (s.take (j + 1))).map P.int := by
      rw [pre_take hj, List.map_append]
      rfl
    rw [es, ep] at st
    rw [ed, loopI_cons rfl (ρ' := [z0, some (.r S.objs.length), some (.p (.int (s.take j).sum)), some (.p (.int s[j]))]) rfl, st, r_ok, r_oNx]
    exact e1
def heads (ns : List Int) : List Int := pre 0 (sortDn ns)
def exl (ns : List Int) (l : Int) : Int := ((ns.filter fun x => decide (l < x)).map fun x => x - l).sum
end
end DL
set_option maxHeartbeats 4000000
namespace DL
open PySem PySem.Spec PyProof.Rows L2
section
variable {S T : Store} {r : Nat} {d : D} {fin : FL}
theorem o_pow {i j : Int} (h : (decide (0 ≤ j) && decide ((i.natAbs.log2 + 1 : Int) * j ≤ 1000000)) = true) : fPow (.p (.int i)) (.p (.int j)) S = some (.p (.int (i ^ j.toNat)), S) := by
  unfold fPow fII
  simp only [h, if_true]
theorem bits_lt {i : Int} {k : Nat} (h : i.natAbs < 2 ^ k) (hk : k ≤ 400000) : bitsB 400000 i = true := bits_of (Nat.lt_of_lt_of_le h (Nat.pow_le_pow_right (by decide) hk)) (by decide)
theorem bits_small {i : Int} (h : i.natAbs ≤ 1000000000000) : bitsB 400000 i = true := bits_lt (k := 40) (Nat.lt_of_le_of_lt h (by decide)) (by decide)
theorem bits_60 {i : Int} (h : 0 ≤ i) (h2 : i < 2 ^ 62) : bitsB 400000 i = true := bits_lt (k := 62) (by omega) (by decide)
theorem bits9 {i : Int} (h : i.natAbs ≤ 1000000000000) : bitsB 9000 i = true := bits_of (Nat.lt_of_lt_of_le (Nat.lt_of_le_of_lt h (show 1000000000000 < 2 ^ 40 by decide)) (Nat.pow_le_pow_right (by decide) (by decide))) (by decide)
/-! ### draws -/
def VOk (n : Nat) (v : List P) : Prop := ∃ a b c : Int, v = [.int a, .int b, .int c] ∧ 0 ≤ a ∧ 0 ≤ b ∧ b < 2 ^ 62 ∧ 0 ≤ c ∧ c ≤ n
theorem VOk.mono {m n : Nat} {v : List P} (h : VOk m v) (hmn : m ≤ n) : VOk n v := by
  obtain ⟨a, b, c, e, h1, h2, h3, h4, h5⟩ := h
  exact ⟨a, b, c, e, h1, h2, h3, h4, by omega⟩
theorem bits9g {i : Int} (h0 : 0 < i) (h : i < 2 ^ 200) : bitsB 9000 i = true := bits_of (Nat.lt_of_lt_of_le (show i.natAbs < 2 ^ 200 by omega) (Nat.pow_le_pow_right (by decide) (by decide))) (by decide)
/-- a list or tuple of data -/
structure Sq (d : D) (ps : List P) : Prop where
  len : ∀ T : Store, fLen [d] T = some (.p (.int ps.length), T)
  ix : ∀ (T : Store) (k : Nat) (p : P), ps[k]? = some p → fIx d (.p (.int k)) T = some (.p p, T)
theorem sq_l {ps : List P} : Sq (.p (.lst ps)) ps := ⟨fun T => by
  have := f_len (S := T) (d := .p (.lst ps)) (xs := pD ps) rfl
  simpa [pD] using this, fun T k p h => o_ixL rfl rfl (atI_get (by
    rw [List.getElem?_map, h]
    rfl))⟩
theorem sq_t {ps : List P} : Sq (.p (.tup ps)) ps := ⟨fun T => by
  have := f_len (S := T) (d := .p (.tup ps)) (xs := pD ps) rfl
  simpa [pD] using this, fun T k p h => o_ixT rfl (atI_get (by
    rw [List.getElem?_map, h]
    rfl))⟩
/-- draws one behind another, of one size -/
theorem draw_loop {ρ : Env} {i : Nat} {el : ME D} {hi : Int} (hr : r < T.objs.length) (step : ∀ (x : D) (v : List P) (n : Nat), VOk n v → n ≤ 10000000 → ∃ (y : Int) (v' : List P), el (ρ.set i (some x)) (setP T r v) = .ok (.p (.int y)) (setP T r v') ∧ VOk (n + 100) v' ∧ 0 ≤ y ∧ y < hi) :
    ∀ (xs acc : List D) (v : List P) (n : Nat), acc.length + xs.length ≤ 1000 → VOk n v → n + 100 * xs.length ≤ 10000000 →
    ∃ (ms : List Int) (v' : List P), compI [] (gNm i) mYes el ρ acc xs (setP T r v) = .ok (acc ++ dInts ms) (setP T r v') ∧ VOk (n + 100 * xs.length) v' ∧ ms.length = xs.length ∧ ∀ x ∈ ms, 0 ≤ x ∧ x < hi
  | [], acc, v, n, _, hv, _ => ⟨[], v, by rw [compI_nil rfl]; simp [dInts], hv, rfl, fun x hx => absurd hx List.not_mem_nil⟩
  | x :: xs, acc, v, n, hl, hv, hn => by
    rw [List.length_cons] at hl hn
    obtain ⟨y, v1, e, h2, h3, h4⟩ := step x v n hv (by omega)
    obtain ⟨ms, v', e2, a1, a2, a3⟩ := draw_loop hr step xs (acc ++ [.p (.int y)]) v1 (n + 100) (by simp; omega) h2 (by omega)
    refine ⟨y :: ms, v', ?_, a1.mono (by rw [List.length_cons]; omega), by rw [List.length_cons, List.length_cons, a2], fun z hz => ?_⟩
    · rw [compI_step (ρ' := ρ.set i (some x)) rfl rfl e (by omega), e2]
      congr 1
      simp [dInts]
    · rcases List.mem_cons.mp hz with rfl | hz
      · omega
      · exact a3 z hz
end
end DL
set_option maxHeartbeats 4000000
set_option exponentiation.threshold 400001
namespace DL
open PySem PySem.Spec PyProof.Rows L2
section
variable {S T : Store} {r : Nat} {d : D} {fin : FL}
/-! ### the bowl -/
theorem fn_newR {N : Nat} {a : MS} {ds : List D} {v : List P} (h : a (env0 N ds) S = .ok (.rt (.r S.objs.length)) (SP S v)) : mFn N finN a ds S = .ok (.r S.objs.length) (SP S v) := by
  have e : finN S.objs.length (.r S.objs.length) (SP S v) = (.r S.objs.length, SP S v) := by
    unfold finN
    rw [cut_pre SP_take]
    have hw : (O.lst (pD v)).lo S.objs.length = true := los_pD _ _
    show (if S.objs.length ≤ S.objs.length then (match (SP S v).objs[S.objs.length]? with
      | some o => if h : o.lo S.objs.length = true then (D.r S.objs.length, S.new o h) else (.r S.objs.length, SP S v)
      | none => (.r S.objs.length, SP S v)) else (.r S.objs.length, S)) = _
    rw [if_pos (Nat.le_refl _), SP_at]
    show (if h : (O.lst (pD v)).lo S.objs.length = true then (D.r S.objs.length, S.new (.lst (pD v)) h) else (.r S.objs.length, SP S v)) = _
    rw [dif_pos hw]
    rfl
  rw [r_fn, h, r_ok, r_asRt, r_finOk, e]
abbrev GR : Int := ((10 : Int) ^ (60 : Int).toNat) ^ (10 : Int).toNat
theorem GR_pos : 0 < GR := by decide +kernel
theorem GR_top : GR < 2 ^ 2000 := by decide +kernel
/-! ### great numbers -/
abbrev E28 : Int := 10000000000000000000000000000
theorem pw {i j k : Int} (h : (decide (0 ≤ j) && decide ((i.natAbs.log2 + 1 : Int) * j ≤ 1000000)) = true) (e : i ^ j.toNat = k) : fPow (.p (.int i)) (.p (.int j)) S = some (.p (.int k), S) := by
  rw [o_pow h, e]
end
end DL
set_option maxHeartbeats 4000000
set_option exponentiation.threshold 400001
namespace DL
open PySem PySem.Spec PyProof.Rows L2
/-- differences of neighbours -/
def difs (a : Int) : List Int → List Int
  | [] => []
  | b :: r => (b - a) :: difs b r
theorem difs_len (a : Int) : ∀ r, (difs a r).length = r.length
  | [] => rfl
  | b :: r => by rw [difs, List.length_cons, difs_len, List.length_cons]
theorem difs_sum (a : Int) : ∀ (r : List Int) (t : Int), (difs a (r ++ [t])).sum = t - a
  | [], t => by simp [difs]
  | b :: r, t => by
    rw [List.cons_append, difs, List.sum_cons, difs_sum b r t]
    omega
theorem difs_pos (a : Int) : ∀ r : List Int, (a :: r).Pairwise (· ≤ ·) → Pos (difs a r)
  | [], _ => fun x hx => absurd hx List.not_mem_nil
  | b :: r, h => fun x hx => by
    rw [difs] at hx
    rcases List.mem_cons.mp hx with rfl | hx
    · have := (List.pairwise_cons.mp h).1 b List.mem_cons_self
      omega
    · exact difs_pos b r (List.pairwise_cons.mp h).2 x hx
theorem difs_zip (a : Int) : ∀ r : List Int, ((a :: r).zip r).map (fun q => q.2 - q.1) = difs a r
  | [] => rfl
  | b :: r => by
    show (b - a) :: ((b :: r).zip r).map (fun q => q.2 - q.1) = _
    rw [difs_zip b r]
    rfl
theorem sum_ge {s : List Int} (h : Pos s) : 0 ≤ s.sum ∧ ∀ x ∈ s, x ≤ s.sum := by
  induction s with
  | nil => exact ⟨by simp, fun x hx => absurd hx List.not_mem_nil⟩
  | cons y s ih =>
    obtain ⟨i1, i2⟩ := ih fun x hx => h x (List.mem_cons_of_mem _ hx)
    have hy := h y List.mem_cons_self
    rw [List.sum_cons]
    refine ⟨by omega, fun x hx => ?_⟩
    rcases List.mem_cons.mp hx with rfl | hx
    · omega
    · have := i2 x hx
      omega
section
variable {S T : Store} {r : Nat} {d : D} {fin : FL}
theorem zipD_ints (vs ns : List Int) : zipD (dInts vs) (dInts ns) = (vs.zip ns).map fun q => D.p (.tup [.int q.1, .int q.2]) := by
  induction vs generalizing ns with
  | nil => simp [zipD, dInts]
  | cons a vs ih => cases ns with
    | nil => simp [zipD, dInts]
    | cons b ns =>
      show _ :: zipD (dInts vs) (dInts ns) = _
      rw [ih]
      rfl
theorem compI_pairs {w : List (Nat × List D)} {g : MG} {e : ME D} {ρ : Env} {f : Int × Int → Int} (hw : watchOk w S = true) (q : List (Int × Int)) (hl : q.length ≤ 100000)
    (h : ∀ i ∈ q, ∃ ρ', g (.p (.tup [.int i.1, .int i.2])) ρ S = some ρ' ∧ e ρ' S = .ok (.p (.int (f i))) S) : compI w g mYes e ρ [] (q.map fun q => D.p (.tup [.int q.1, .int q.2])) S = .ok (dInts (q.map f)) S := by
  have k := compI_map (w := w) (g := g) (e := e) (ρ := ρ) (S := S) (f := fun x => match x with
    | .p (.tup [.int a, .int b]) => .p (.int (f (a, b)))
    | x => x) hw (q.map fun q => D.p (.tup [.int q.1, .int q.2])) (by rw [List.length_map]; exact hl) fun x hx => by
      obtain ⟨i, hi, rfl⟩ := List.mem_map.mp hx
      exact h i hi
  rw [k]
  congr 1
  rw [List.map_map]
  unfold dInts
  rw [List.map_map]
  rfl
theorem o_zipL {xs ys : List Int} : srcZip [lI xs, lI ys] S = some (⟨zipD (dInts xs) (dInts ys), []⟩, S) := by
  show (match (lI xs).lst? S, (lI ys).lst? S with
    | some a, some b => some ((⟨zipD a b, watchOf (lI xs) a ++ watchOf (lI ys) b⟩ : Src), S)
    | _, _ => none) = _
  rw [lI_lst, lI_lst]
  rfl
theorem sortUp_up (ns : List Int) : (sortUp ns).Pairwise (· ≤ ·) := srtUp_up ns
theorem sortUp_perm (ns : List Int) : (sortUp ns).Perm ns := srtUp_perm ns
end
end DL
set_option maxHeartbeats 4000000
set_option exponentiation.threshold 400001
namespace DL
open PySem PySem.Spec PyProof.Rows L2
section
variable {S T : Store} {r : Nat} {ns : List Int} {d : D} {fin : FL}
end
end DL
set_option maxHeartbeats 4000000
set_option exponentiation.threshold 400001
namespace DL
open PySem PySem.Spec PyProof.Rows L2
section
variable {S T : Store} {r : Nat} {ns : List Int} {d : D} {fin : FL}
/-! ### what the odd rows' laws share -/
theorem o_repN {x : P} {n : Nat} (h1 : 1 ≤ n) (h2 : n ≤ 1000) : fMulA fin (.p (.tup [x])) (.p (.int n)) S = some (.p (.tup (List.replicate n x)), S) := by
  by_cases q : n = 1
  · subst q
    have e : fRep1 (.p (.tup [x])) (.p (.int ((1 : Nat) : Int))) S = some (.p (.tup [x]), S) := rfl
    simp only [fMulA, e]
    rfl
  · have e : fRep1 (.p (.tup [x])) (.p (.int n)) S = none := by
      show (if (decide (-1000 ≤ (n : Int)) && decide ((n : Int) ≤ 1)) = true then _ else none) = _
      rw [if_neg (by
        rw [Bool.and_eq_true, decide_eq_true_eq, decide_eq_true_eq]
        omega)]
    have e2 : fMulI (.p (.tup [x])) (.p (.int n)) S = none := rfl
    have e3 : fRepT (.p (.tup [x])) (.p (.int n)) S = some (.p (.tup (List.replicate n x)), S) := by
      show (if (decide ([D.p x] ≠ []) && decide (2 ≤ (n : Int)) && decide ((n : Int) ≤ 1000) && decide ([D.p x].length ≤ 1000)) = true then some (mkTup (List.replicate (n : Int).toNat [D.p x]).flatten, S) else none) = _
      rw [if_pos (by
        simp only [Bool.and_eq_true, decide_eq_true_eq]
        exact ⟨⟨⟨by simp, by omega⟩, by omega⟩, by simp⟩)]
      have e4 : (List.replicate (n : Int).toNat [D.p x]).flatten = pD (List.replicate n x) := by
        rw [Int.toNat_natCast]
        simp [pD, List.flatten_replicate_singleton]
      rw [e4, mkTup_pD]
    simp only [fMulA, fMulG, e, e2, e3]
abbrev E30 : Int := 1000000000000000000000000000000
abbrev E39 : Int := 1000000000000000000000000000000000000000
def odds1 : List P := [.non, .int 0, .tup [], .lst [.int 1, .int 2], .tup [.int 1, .int (-1)], .tup [.bl true, .int 0], .tup [.int 1, .non], .tup [.str "1"], .tup [.int 1, .tup [.int 0]], .str "", .dic [], .tup [.int E30], .tup (List.replicate 65 (.int 0))]
def odds2 : List P := [.dic [(.inl 0, .int 1)], .tup [.tup [.int 1, .int 0]], .tup [.int 1, .int 0, .int E39], .bl false, .lst [.tup []], .tup [.int 0, .bl false]]
theorem odds_ok : ((odds1 ++ odds2).all fun p => easy p && !rowP p) = true := by decide +kernel
abbrev sumsP : P := .lst [.str "sums"]
theorem ne_sums : fNe (.p sumsP) (.p sumsP) S = some (.p (.bl false), S) := by
  show (if (SeqAt.shaped (.list [.str "sums"]) && SeqAt.shaped (.list [.str "sums"])) = true then some (D.p (.bl (!PyData.eqv (.list [.str "sums"]) (.list [.str "sums"]))), S) else none) = _
  rw [if_pos (by decide +kernel), show PyData.eqv (.list [.str "sums"]) (.list [.str "sums"]) = true by decide +kernel]
  rfl
theorem eq_sums : fEq (.r S.objs.length) (.p (.lst [sumsP, sumsP])) (SP S [sumsP, sumsP]) = some (.p (.bl true), SP S [sumsP, sumsP]) := by
  have e : (D.r S.objs.length).py? (SP S [sumsP, sumsP]) = some (.list [.list [.str "sums"], .list [.str "sums"]]) := by
    show (match (SP S [sumsP, sumsP]).objs[S.objs.length]? with
      | some (.lst ds) => (match pures ds with
        | some ps => (match P.pys ps with
          | some es => some (PyData.list es)
          | none => none)
        | none => none)
      | _ => none) = _
    rw [SP_at]
    rfl
  have e2 : (D.p (.lst [sumsP, sumsP])).py? (SP S [sumsP, sumsP]) = some (.list [.list [.str "sums"], .list [.str "sums"]]) := rfl
  unfold fEq
  simp only [e, e2]
  rw [if_pos (by decide +kernel), show PyData.eqv (.list [.list [.str "sums"], .list [.str "sums"]]) (.list [.list [.str "sums"], .list [.str "sums"]]) = true by decide +kernel]
/-! ### repr -/
theorem o_eqS {s : Str} : fEqS (.p (.str s)) (.p (.str s)) S = some (.p (.bl true), S) := by
  show some (D.p (.bl (decide (s = s))), S) = _
  rw [decide_eq_true rfl]
theorem o_neS {s : Str} : fNeS (.p (.str s)) (.p (.str s)) S = some (.p (.bl false), S) := by
  show some (D.p (.bl (!decide (s = s))), S) = _
  rw [decide_eq_true rfl]
  rfl
theorem f_repr {x : P} {xs : List P} {ps : List PyData} (e : toPDs (x :: xs) = some ps) (sh : (PyData.list ps).showable = true) (lv : (PyData.list ps).leavesShort 100 = true) (bk : (PyData.list ps).bulk ≤ 10000) (dp : PyData.depthAll ps ≤ 50) :
    fRepr [.p (.lst (x :: xs))] S = some (.p (.str (PyData.list ps).shown), S) := by
  have h := PyData.shown_le_bulk 100 (by decide) _ lv
  have hz : (PyData.list ps).shown.length ≤ sizeLine := by
    rw [sizeLine_eq]
    have : (100 + 2) * (PyData.list ps).bulk ≤ 102 * 10000 := Nat.mul_le_mul_left _ bk
    omega
  show (match toPDs (x :: xs) with
    | some ps => if (PyData.list ps).showable && (decide (PyData.depthAll ps ≤ 50) && decide ((PyData.list ps).shown.length ≤ sizeLine)) then some (D.p (.str (PyData.list ps).shown), S) else none
    | none => none) = _
  rw [e]
  simp only [sh, decide_eq_true dp, decide_eq_true hz, Bool.and_self, if_true]
theorem int_show {i : Int} (h : i.natAbs < 10 ^ 60) : (PyData.int i).showable = true ∧ (PyData.int i).leavesShort 100 = true := by
  constructor
  · simp only [PyData.showable, decide_eq_true_eq]
    have : i.natAbs < 2 ^ 200 := Nat.lt_of_lt_of_le h (by decide)
    by_cases q : i.natAbs = 0
    · rw [q]; decide
    · have := (Nat.log2_lt q).mpr this
      omega
  · have e : (PyData.int i).shown.length = (toString i).length := by
      simp only [PyData.shown]
      exact PySem.ofString_length _
    have := int_text_length_le10 (k := 60) (by decide) h
    simp only [PyData.leavesShort]
    exact decide_eq_true (by omega)
theorem ints_show : ∀ {ns : List Int}, (∀ x ∈ ns, x.natAbs < 10 ^ 60) → PyData.showableAll (ns.map PyData.int) = true ∧ PyData.leavesShortAll 100 (ns.map PyData.int) = true ∧ PyData.bulkAll (ns.map PyData.int) = ns.length ∧ PyData.depthAll (ns.map PyData.int) = 0
  | [], _ => ⟨rfl, rfl, rfl, rfl⟩
  | x :: xs, h => by
    obtain ⟨h1, h2⟩ := int_show (h x List.mem_cons_self)
    obtain ⟨i1, i2, i3, i4⟩ := ints_show (ns := xs) fun y hy => h y (List.mem_cons_of_mem _ hy)
    refine ⟨?_, ?_, ?_, ?_⟩
    · simp only [List.map_cons, PyData.showableAll, h1, i1, Bool.and_self]
    · simp only [List.map_cons, PyData.leavesShortAll, h2, i2, Bool.and_self]
    · simp only [List.map_cons, PyData.bulkAll, PyData.bulk, i3, List.length_cons]
      omega
    · simp only [List.map_cons, PyData.depthAll, PyData.depth, i4]
      rfl
theorem toPD_ints : ∀ ns : List Int, toPDs (ns.map P.int) = some (ns.map PyData.int)
  | [] => rfl
  | x :: xs => by simp only [List.map_cons, toPDs, toPD, toPD_ints xs]
end
end DL
set_option maxHeartbeats 4000000
set_option exponentiation.threshold 400001
namespace DL
open PySem PySem.Spec PyProof.Rows L2
section
variable {S T U : Store} {r : Nat} {d : D} {fin : FL}
/-! ### rows as data -/
theorem pys_ints : ∀ v : List Int, P.pys (v.map P.int) = some (v.map PyData.int)
  | [] => by simp [P.pys]
  | a :: v => by simp [P.pys, P.py, pys_ints v]
theorem eqvAll_ints : ∀ a b : List Int, PyData.eqvAll (a.map PyData.int) (b.map PyData.int) = decide (a = b)
  | [], [] => by simp [PyData.eqvAll]
  | [], _ :: _ => by simp [PyData.eqvAll]
  | _ :: _, [] => by simp [PyData.eqvAll]
  | x :: a, y :: b => by
    simp only [List.map_cons, PyData.eqvAll, PyData.eqv, eqvAll_ints a b]
    by_cases h : x = y
    · subst h
      simp
    · simp [h]
theorem lay_ints : ∀ v : List Int, PyData.canLayAll0 (v.map PyData.int) = true
  | [] => by simp [PyData.canLayAll0]
  | a :: v => by simp [PyData.canLayAll0, PyData.canLay0, lay_ints v]
theorem dep_ints : ∀ v : List Int, PyData.depthAll (v.map PyData.int) = 0
  | [] => by simp [PyData.depthAll]
  | a :: v => by simp [PyData.depthAll, PyData.depth, dep_ints v]
theorem shaped_row (v : List Int) : SeqAt.shaped (.tuple (v.map PyData.int)) = true := by
  show ((PyData.canLay0 (.tuple (v.map PyData.int))) && decide (PyData.depth (.tuple (v.map PyData.int)) ≤ 64)) = true
  simp [PyData.canLay0, lay_ints, PyData.depth, dep_ints]
mutual
theorem eqv_self : ∀ {d : PyData}, d.canLay0 = true → PyData.eqv d d = true
  | .none, _ => by simp [PyData.eqv]
  | .bool b, _ => by simp [PyData.eqv]
  | .int i, _ => by simp [PyData.eqv]
  | .str s, _ => by simp [PyData.eqv]
  | .list xs, h => by
    simp only [PyData.canLay0] at h
    simp only [PyData.eqv, eqvAll_self h]
  | .tuple xs, h => by
    simp only [PyData.canLay0] at h
    simp only [PyData.eqv, eqvAll_self h]
  | .dict _, h => by simp [PyData.canLay0] at h
theorem eqvAll_self : ∀ {xs : List PyData}, PyData.canLayAll0 xs = true → PyData.eqvAll xs xs = true
  | [], _ => by simp [PyData.eqvAll]
  | x :: xs, h => by
    simp only [PyData.canLayAll0, Bool.and_eq_true] at h
    simp only [PyData.eqvAll, eqv_self h.1, eqvAll_self h.2, Bool.and_self]
end
theorem o_eqSame {x : P} {z : PyData} (e : P.py x = some z) (sh : SeqAt.shaped z = true) : fEq (.p x) (.p x) S = some (.p (.bl true), S) := by
  have e1 : (D.p x).py? S = some z := e
  unfold fEq
  simp only [e1, sh, Bool.and_self, if_true]
  rw [eqv_self (SeqAt.canLay_of_shaped sh)]
theorem o_neSame {x : P} {z : PyData} (e : P.py x = some z) (sh : SeqAt.shaped z = true) : fNe (.p x) (.p x) S = some (.p (.bl false), S) := by
  have e1 : (D.p x).py? S = some z := e
  unfold fNe
  simp only [e1, sh, Bool.and_self, if_true]
  rw [eqv_self (SeqAt.canLay_of_shaped sh)]
  rfl
/-- two rows -/
theorem o_eqRow {a b : List Int} : fEq (tI a) (tI b) S = some (.p (.bl (decide (a = b))), S) := by
  have e1 : (tI a).py? S = some (.tuple (a.map PyData.int)) := by
    show P.py (.tup (a.map P.int)) = _
    simp [P.py, pys_ints a]
  have e2 : (tI b).py? S = some (.tuple (b.map PyData.int)) := by
    show P.py (.tup (b.map P.int)) = _
    simp [P.py, pys_ints b]
  unfold fEq
  simp only [e1, e2, shaped_row, Bool.and_self, if_true, PyData.eqv, eqvAll_ints]
theorem o_neRow {a b : List Int} : fNe (tI a) (tI b) S = some (.p (.bl (!decide (a = b))), S) := by
  have e1 : (tI a).py? S = some (.tuple (a.map PyData.int)) := by
    show P.py (.tup (a.map P.int)) = _
    simp [P.py, pys_ints a]
  have e2 : (tI b).py? S = some (.tuple (b.map PyData.int)) := by
    show P.py (.tup (b.map P.int)) = _
    simp [P.py, pys_ints b]
  unfold fNe
  simp only [e1, e2, shaped_row, Bool.and_self, if_true, PyData.eqv, eqvAll_ints]
/-- what is a shuffled row -/
theorem perm_ints {qs : List P} {xs : List Int} (h : qs.Perm (xs.map P.int)) : ∃ ys : List Int, qs = ys.map P.int ∧ ys.Perm xs := by
  have key : ∀ g : P → Int, (∀ a, g (.int a) = a) → ∃ ys : List Int, qs = ys.map P.int ∧ ys.Perm xs := fun g hg => by
    refine ⟨qs.map g, ?_, ?_⟩
    · rw [List.map_map]
      have : ∀ q ∈ qs, (P.int ∘ g) q = q := fun q hq => by
        obtain ⟨a, _, rfl⟩ := List.mem_map.mp (h.mem_iff.mp hq)
        show P.int (g (P.int a)) = P.int a
        rw [hg]
      exact ((List.map_congr_left this).trans (List.map_id qs)).symm
    · have h2 := h.map g
      rw [List.map_map] at h2
      have e : xs.map (g ∘ P.int) = xs := by
        have : ∀ x ∈ xs, (g ∘ P.int) x = x := fun x _ => hg x
        exact (List.map_congr_left this).trans (List.map_id xs)
      rwa [e] at h2
  exact key (fun x => match x with
    | .int i => i
    | _ => 0) fun _ => rfl
theorem setP_last {v w : List P} : setP (SP U v) U.objs.length w = SP U w := Store.ext' (by
  rw [setP_objs, SP_objs, SP_objs]
  simp)
theorem compI_keep {w : List (Nat × List D)} {g : MG} {t : ME Bool} {e : ME D} {ρ ρ' : Env} {S S' : Store} {x y : D} {xs acc : List D} (hw : watchOk w S = true) (hg : g x ρ S = some ρ') (ht : t ρ' S = .ok true S) (he : e ρ' S = .ok y S') (hl : acc.length < 100000) :
    compI w g t e ρ acc (x :: xs) S = compI w g t e ρ (acc ++ [y]) xs S' := by
  conv => lhs; unfold compI
  rw [if_pos hw, hg]
  simp only [ht, noErr, r_ok, if_true, he]
  rw [if_pos hl]
theorem compI_skip {w : List (Nat × List D)} {g : MG} {t : ME Bool} {e : ME D} {ρ ρ' : Env} {S : Store} {x : D} {xs acc : List D} (hw : watchOk w S = true) (hg : g x ρ S = some ρ') (ht : t ρ' S = .ok false S) :
    compI w g t e ρ acc (x :: xs) S = compI w g t e ρ acc xs S := by
  conv => lhs; unfold compI
  rw [if_pos hw, hg]
  simp only [ht, noErr, r_ok, Bool.false_eq_true, if_false]
end
end DL
set_option maxHeartbeats 4000000
set_option exponentiation.threshold 400001
namespace DL
open PySem PySem.Spec PyProof.Rows L2
section
variable {S T : Store} {r : Nat} {d : D} {fin : FL}
theorem p_dipG {v : List P} {n : Nat} {size : Int} (hv : T.objs[r]? = some (.lst (pD v))) (ho : VOk n v) (hn : n ≤ 100000000) (h0 : 0 < size) (h1 : size < 2 ^ 200) :
    ∃ (i : Int) (v' : List P), m__law_dip [.r r, .p (.int size)] T = .ok (.p (.int i)) (setP T r v') ∧ VOk (n + 1) v' ∧ 0 ≤ i ∧ i < size := by
  obtain ⟨a, b, c, rfl, ha, hb, hb2, hc, hc2⟩ := ho
  have x0 : fIx (.r r) (.p (.int 0)) T = some (.p (.int a), T) := o_ixL rfl (R_lst hv) (atI_get (k := 0) rfl)
  have x2 : fIx (.r r) (.p (.int 2)) T = some (.p (.int c), T) := o_ixL rfl (R_lst hv) (atI_get (k := 2) rfl)
  have dv : fDiv (.p (.int a)) (.p (.int size)) T = some (.p (.int (a / size)), T) := o_div h0 (bits9g h0 h1)
  by_cases q : 0 < a
  · have pt : fPut (.r r) (.p (.int 0)) (.p (.int (a / size))) T = some (setP T r [.int (a / size), .int b, .int c]) := f_putR hv (j := 0) (by rfl)
    refine ⟨a % size, [.int (a / size), .int b, .int c], ?_, ⟨a / size, b, c, rfl, Int.ediv_nonneg ha (by omega), hb, hb2, hc, by omega⟩, Int.emod_nonneg _ (by omega), Int.emod_lt_of_pos _ h0⟩
    refine fn_same ?_ setP_len
    unfold b__law_dip
    simp only [r_ok, r_c, r_op2, r_op1, r_nil, r_cons, r_callB, r_call, r_and, r_or, r_not, r_asB, r_if, r_andT, r_orT, r_notT, r_test, r_chain, r_seq, r_nx, r_rt, r_bk, r_ct, r_next, r_break, r_cont, r_drop, r_ret, r_retN, r_asg, r_aug, r_ifS, r_par, r_sl, r_noPart, r_part, r_asInt, r_put, r_for, r_src, r_srcA, r_comp, r_meth, r_oNx, r_oCt, r_oBk, r_oRt, r_yes, r_var', r_lift', List.getElem?_cons_zero, List.getElem?_cons_succ, List.set_cons_zero, List.set_cons_succ, o_add, o_addI, o_sub, o_neg, o_lt, o_le, o_gt, o_ge, o_eq, o_ne, o_int, o_intB, o_abs, o_max, o_min, r_env, List.map_cons, List.map_nil, List.length_cons, List.length_nil, Nat.zero_add, Nat.reduceAdd, Nat.reduceSub, List.replicate_succ, List.replicate_zero, List.cons_append, List.nil_append, Bool.false_eq_true, if_true, if_false, gPar, List.zip_cons_cons, List.zip_nil_right, List.zip_nil_left, List.foldl_cons, List.foldl_nil, unsetE, r_err, x0, decide_eq_true q, o_mod h0, dv, r_liftS pt]
  · have hr := at_lt hv
    have pt : fPut (.r r) (.p (.int 2)) (.p (.int (c + 1))) T = some (setP T r [.int a, .int b, .int (c + 1)]) := f_putR hv (j := 2) (by rfl)
    have hv2 : (setP T r [.int a, .int b, .int (c + 1)]).objs[r]? = some (.lst (pD [.int a, .int b, .int (c + 1)])) := setP_at hr
    have y1 : fIx (.r r) (.p (.int 1)) (setP T r [.int a, .int b, .int (c + 1)]) = some (.p (.int b), setP T r [.int a, .int b, .int (c + 1)]) := o_ixL rfl (R_lst hv2) (atI_get (k := 1) rfl)
    have y2 : fIx (.r r) (.p (.int 2)) (setP T r [.int a, .int b, .int (c + 1)]) = some (.p (.int (c + 1)), setP T r [.int a, .int b, .int (c + 1)]) := o_ixL rfl (R_lst hv2) (atI_get (k := 2) rfl)
    generalize eU : setP T r [.int a, .int b, .int (c + 1)] = U at pt y1 y2
    have m1 : fMulA fLstF (.p (.int 961748927)) (.p (.int (c + 1))) U = some (.p (.int (961748927 * (c + 1))), U) := o_mul (bits_small (by decide)) (bits_small (by omega))
    have o1 := o_mod (S := U) (i := b + 961748927 * (c + 1)) (show (0 : Int) < 2305843009213693967 by decide)
    have r1 : 0 ≤ (b + 961748927 * (c + 1)) % 2305843009213693967 := Int.emod_nonneg _ (by decide)
    have r2 : (b + 961748927 * (c + 1)) % 2305843009213693967 < 2305843009213693967 := Int.emod_lt_of_pos _ (by decide)
    generalize (b + 961748927 * (c + 1)) % 2305843009213693967 = one at o1 r1 r2
    have m2 : fMulA fLstF (.p (.int one)) (.p (.int one)) U = some (.p (.int (one * one)), U) := o_mul (bits_60 r1 (by omega)) (bits_60 r1 (by omega))
    have o2 := o_mod (S := U) (i := one * one) (show (0 : Int) < 1000000000000063 by decide)
    have r3 : 0 ≤ (one * one) % 1000000000000063 := Int.emod_nonneg _ (by decide)
    have r4 : (one * one) % 1000000000000063 < 1000000000000063 := Int.emod_lt_of_pos _ (by decide)
    generalize (one * one) % 1000000000000063 = two at o2 r3 r4
    have m3 : fMulA fLstF (.p (.int two)) (.p (.int one)) U = some (.p (.int (two * one)), U) := o_mul (bits_60 r3 (by omega)) (bits_60 r1 (by omega))
    have m4 : fMulA fLstF (.p (.int 5867)) (.p (.int (c + 1))) U = some (.p (.int (5867 * (c + 1))), U) := o_mul (bits_small (by decide)) (bits_small (by omega))
    have o3 := fun x : Int => o_mod (S := U) (i := x) (show (0 : Int) < 4398046511119 by decide)
    have d3 := fun x : Int => o_div (S := U) (i := x) (j := 64) (by decide) (by decide)
    have o4 := fun x : Int => o_mod (S := U) (i := x) h0
    refine ⟨(two * one + 5867 * (c + 1) + b) % 4398046511119 / 64 % size, [.int a, .int b, .int (c + 1)], ?_, ⟨a, b, c + 1, rfl, ha, hb, hb2, by omega, by omega⟩, Int.emod_nonneg _ (by omega), Int.emod_lt_of_pos _ h0⟩
    rw [eU]
    refine fn_same ?_ (by rw [← eU, setP_len])
    unfold b__law_dip
    simp only [r_ok, r_c, r_op2, r_op1, r_nil, r_cons, r_callB, r_call, r_and, r_or, r_not, r_asB, r_if, r_andT, r_orT, r_notT, r_test, r_chain, r_seq, r_nx, r_rt, r_bk, r_ct, r_next, r_break, r_cont, r_drop, r_ret, r_retN, r_asg, r_aug, r_ifS, r_par, r_sl, r_noPart, r_part, r_asInt, r_put, r_for, r_src, r_srcA, r_comp, r_meth, r_oNx, r_oCt, r_oBk, r_oRt, r_yes, r_var', r_lift', List.getElem?_cons_zero, List.getElem?_cons_succ, List.set_cons_zero, List.set_cons_succ, o_add, o_addI, o_sub, o_neg, o_lt, o_le, o_gt, o_ge, o_eq, o_ne, o_int, o_intB, o_abs, o_max, o_min, r_env, List.map_cons, List.map_nil, List.length_cons, List.length_nil, Nat.zero_add, Nat.reduceAdd, Nat.reduceSub, List.replicate_succ, List.replicate_zero, List.cons_append, List.nil_append, Bool.false_eq_true, if_true, if_false, gPar, List.zip_cons_cons, List.zip_nil_right, List.zip_nil_left, List.foldl_cons, List.foldl_nil, unsetE, r_err, x0, decide_eq_false q, x2, r_liftS pt, y1, y2, m1, o1, m2, o2, m3, m4, o3, d3, o4]
theorem p_dip {v : List P} {n : Nat} {size : Int} (hv : T.objs[r]? = some (.lst (pD v))) (ho : VOk n v) (hn : n ≤ 100000000) (h0 : 0 < size) (h1 : size ≤ 1000000000000) :
    ∃ (i : Int) (v' : List P), m__law_dip [.r r, .p (.int size)] T = .ok (.p (.int i)) (setP T r v') ∧ VOk (n + 1) v' ∧ 0 ≤ i ∧ i < size :=
  p_dipG hv ho hn h0 (Int.lt_of_le_of_lt h1 (by decide))
theorem p_pickN {v : List P} {n : Nat} {ps : List P} (sq : Sq d ps) (hv : T.objs[r]? = some (.lst (pD v))) (ho : VOk n v) (hn : n ≤ 100000000) (h0 : 0 < ps.length) (h1 : ps.length ≤ 1000) :
    ∃ (p : P) (v' : List P), m__law_pick [.r r, d] T = .ok (.p p) (setP T r v') ∧ VOk (n + 1) v' ∧ p ∈ ps := by
  obtain ⟨i, v', e, h2, h3, h4⟩ := p_dip (size := ps.length) hv ho hn (by omega) (by omega)
  obtain ⟨k, rfl⟩ : ∃ k : Nat, i = k := ⟨i.toNat, by omega⟩
  have hk : k < ps.length := by omega
  refine ⟨ps[k], v', ?_, h2, List.getElem_mem hk⟩
  refine fn_same ?_ setP_len
  unfold b__law_pick
  simp only [r_ok, r_c, r_op2, r_op1, r_nil, r_cons, r_callB, r_call, r_and, r_or, r_not, r_asB, r_if, r_andT, r_orT, r_notT, r_test, r_chain, r_seq, r_nx, r_rt, r_bk, r_ct, r_next, r_break, r_cont, r_drop, r_ret, r_retN, r_asg, r_aug, r_ifS, r_par, r_sl, r_noPart, r_part, r_asInt, r_put, r_for, r_src, r_srcA, r_comp, r_meth, r_oNx, r_oCt, r_oBk, r_oRt, r_yes, r_var', r_lift', List.getElem?_cons_zero, List.getElem?_cons_succ, List.set_cons_zero, List.set_cons_succ, o_add, o_addI, o_sub, o_neg, o_lt, o_le, o_gt, o_ge, o_eq, o_ne, o_int, o_intB, o_abs, o_max, o_min, r_env, List.map_cons, List.map_nil, List.length_cons, List.length_nil, Nat.zero_add, Nat.reduceAdd, Nat.reduceSub, List.replicate_succ, List.replicate_zero, List.cons_append, List.nil_append, Bool.false_eq_true, if_true, if_false, gPar, List.zip_cons_cons, List.zip_nil_right, List.zip_nil_left, List.foldl_cons, List.foldl_nil, unsetE, r_err, sq.len T, e, sq.ix (setP T r v') k _ (List.getElem?_eq_getElem hk)]
/-- a list in another order -/
theorem mixN_loop {z1 : Option D} (hr : r < T.objs.length) : ∀ (xs acc : List D) (left : List P) (v : List P) (n : Nat), xs.length = left.length → acc.length + xs.length ≤ 1000 → VOk n v → n + xs.length ≤ 100000000 →
    ∃ (qs : List P) (v' : List P), compI [] (gNm 3) mYes ce__law_mixed [some (.r r), z1, some (.r T.objs.length), none] acc xs (SP (setP T r v) left) = .ok (acc ++ pD qs) (SP (setP T r v') []) ∧ VOk (n + xs.length) v' ∧ qs.Perm left
  | [], acc, left, v, n, he, _, hv, _ => by
    have : left = [] := List.eq_nil_of_length_eq_zero he.symm
    subst this
    exact ⟨[], v, by rw [compI_nil rfl]; simp [pD], hv, List.Perm.refl _⟩
  | x :: xs, acc, left, v, n, he, hl, hv, hn => by
    rw [List.length_cons] at he hl hn
    have hlen : (setP T r v).objs.length = T.objs.length := setP_len
    have at1 : (SP (setP T r v) left).objs[r]? = some (.lst (pD v)) := by
      rw [SP_old (by rw [hlen]; exact hr)]
      exact setP_at hr
    have at2 : (SP (setP T r v) left).objs[T.objs.length]? = some (.lst (pD left)) := by
      rw [← hlen]
      exact SP_at
    obtain ⟨i, v1, e, h2, h3, h4⟩ := p_dip (T := SP (setP T r v) left) (r := r) (size := left.length) at1 hv (by omega) (by omega) (by omega)
    rw [setP_SP (by rw [hlen]; exact hr), setP_setP] at e
    obtain ⟨k, rfl⟩ : ∃ k : Nat, i = k := ⟨i.toNat, by omega⟩
    have hk : k < left.length := by omega
    have hlen1 : (setP T r v1).objs.length = T.objs.length := setP_len
    have at3 : (SP (setP T r v1) left).objs[T.objs.length]? = some (.lst (pD left)) := by
      rw [← hlen1]
      exact SP_at
    have pp := f_popAtR (i := (k : Int)) (k := k) at3 rfl (by omega) (List.getElem?_eq_getElem hk)
    have es : setP (SP (setP T r v1) left) T.objs.length (left.eraseIdx k) = SP (setP T r v1) (left.eraseIdx k) := Store.ext' (by
      rw [setP_objs, SP_objs, SP_objs, ← hlen1]
      simp)
    rw [es] at pp
    obtain ⟨qs, v', e2, a1, a2⟩ := mixN_loop (z1 := z1) hr xs (acc ++ [.p left[k]]) (left.eraseIdx k) v1 (n + 1) (by rw [List.length_eraseIdx, if_pos hk]; omega) (by simp; omega) h2 (by omega)
    refine ⟨left[k] :: qs, v', ?_, a1.mono (by rw [List.length_cons]; omega), (a2.cons _).trans (erase_perm hk)⟩
    have ln : fLen [.r T.objs.length] (SP (setP T r v) left) = some (.p (.int left.length), SP (setP T r v) left) := by
      have := f_len (R_seq at2)
      simpa [pD] using this
    have el : ce__law_mixed [some (.r r), z1, some (.r T.objs.length), some x] (SP (setP T r v) left) = .ok (.p left[k]) (SP (setP T r v1) (left.eraseIdx k)) := by
      unfold ce__law_mixed
      rw [r_methR (d := .r T.objs.length) rfl (R_lst at2)]
      simp only [r_ok, r_c, r_op2, r_op1, r_nil, r_cons, r_callB, r_call, r_and, r_or, r_not, r_asB, r_if, r_andT, r_orT, r_notT, r_test, r_chain, r_seq, r_nx, r_rt, r_bk, r_ct, r_next, r_break, r_cont, r_drop, r_ret, r_retN, r_asg, r_aug, r_ifS, r_par, r_sl, r_noPart, r_part, r_asInt, r_put, r_for, r_src, r_srcA, r_comp, r_meth, r_oNx, r_oCt, r_oBk, r_oRt, r_yes, r_var', r_lift', List.getElem?_cons_zero, List.getElem?_cons_succ, List.set_cons_zero, List.set_cons_succ, o_add, o_addI, o_sub, o_neg, o_lt, o_le, o_gt, o_ge, o_eq, o_ne, o_int, o_intB, o_abs, o_max, o_min, r_env, List.map_cons, List.map_nil, List.length_cons, List.length_nil, Nat.zero_add, Nat.reduceAdd, Nat.reduceSub, List.replicate_succ, List.replicate_zero, List.cons_append, List.nil_append, Bool.false_eq_true, if_true, if_false, gPar, List.zip_cons_cons, List.zip_nil_right, List.zip_nil_left, List.foldl_cons, List.foldl_nil, unsetE, r_err, ln, e, pp]
    have g : gNm 3 x [some (.r r), z1, some (.r T.objs.length), none] (SP (setP T r v) left) = some [some (.r r), z1, some (.r T.objs.length), some x] := rfl
    rw [compI_step rfl g el (by omega), e2]
    congr 1
    simp [pD]
theorem p_mixN {v : List P} {n : Nat} {ps : List P} {d : D} (hv : T.objs[r]? = some (.lst (pD v))) (ho : VOk n v) (hn : n + ps.length ≤ 100000000) (hd : d.seq? T = some (pD ps)) (hd2 : d.seq? (SP T ps) = some (pD ps)) (hd3 : ∀ v', d.seq? (SP (setP T r v') []) = some (pD ps)) (h1 : ps.length ≤ 1000) :
    ∃ (qs : List P) (v' : List P), m__law_mixed [.r r, d] T = .ok (.p (.lst qs)) (setP T r v') ∧ VOk (n + ps.length) v' ∧ qs.Perm ps := by
  have hr := at_lt hv
  obtain ⟨qs, v', e, a1, a2⟩ := mixN_loop (T := T) (r := r) (z1 := some d) hr (rangeD 0 ((ps.length : Int)).toNat) [] ps v n (by rw [rangeD_length]; omega) (by simp [rangeD_length]; omega) ho (by rw [rangeD_length]; omega)
  rw [setP_same hv, List.nil_append] at e
  rw [rangeD_length] at a1
  have nw : fToL fLst [d] T = some (.r T.objs.length, SP T ps) := by
    show (match d.seq? T with | some xs => fLst xs T | none => none) = _
    rw [hd]
    exact f_new (by omega)
  have ln : fLen [d] (SP T ps) = some (.p (.int ps.length), SP T ps) := by
    have := f_len hd2
    simpa [pD] using this
  have rg : srcR1 [.p (.int ps.length)] (SP T ps) = some (⟨rangeD 0 ((ps.length : Int)).toNat, []⟩, SP T ps) := o_range1 (fit_small (by omega) (by omega))
  have fl : fLstF (pD qs) (SP (setP T r v') []) = some (.p (.lst qs), SP (setP T r v') []) := f_lstP (by rw [a2.length_eq]; omega)
  refine ⟨qs, v', ?_, a1.mono (by omega), a2⟩
  refine fn_to (S2 := setP T r v') (S' := SP (setP T r v') []) ?_ (by rw [← setP_len (r := r) (ps := v'), SP_take]) setP_len
  unfold b__law_mixed
  simp only [r_ok, r_c, r_op2, r_op1, r_nil, r_cons, r_callB, r_call, r_and, r_or, r_not, r_asB, r_if, r_andT, r_orT, r_notT, r_test, r_chain, r_seq, r_nx, r_rt, r_bk, r_ct, r_next, r_break, r_cont, r_drop, r_ret, r_retN, r_asg, r_aug, r_ifS, r_par, r_sl, r_noPart, r_part, r_asInt, r_put, r_for, r_src, r_srcA, r_comp, r_meth, r_oNx, r_oCt, r_oBk, r_oRt, r_yes, r_var', r_lift', List.getElem?_cons_zero, List.getElem?_cons_succ, List.set_cons_zero, List.set_cons_succ, o_add, o_addI, o_sub, o_neg, o_lt, o_le, o_gt, o_ge, o_eq, o_ne, o_int, o_intB, o_abs, o_max, o_min, r_env, List.map_cons, List.map_nil, List.length_cons, List.length_nil, Nat.zero_add, Nat.reduceAdd, Nat.reduceSub, List.replicate_succ, List.replicate_zero, List.cons_append, List.nil_append, Bool.false_eq_true, if_true, if_false, gPar, List.zip_cons_cons, List.zip_nil_right, List.zip_nil_left, List.foldl_cons, List.foldl_nil, unsetE, r_err, nw, ln, rg, e, fl]
theorem fn_newN {N : Nat} {a : MS} {ds : List D} {v : List P} (h : a (env0 N ds) S = .ok (.rt (.r S.objs.length)) (SP S v)) : mFn N finN a ds S = .ok (.r S.objs.length) (SP S v) := by
  have e : finN S.objs.length (.r S.objs.length) (SP S v) = (.r S.objs.length, SP S v) := by
    unfold finN
    rw [cut_pre SP_take]
    have hw : (O.lst (pD v)).lo S.objs.length = true := los_pD _ _
    show (if S.objs.length ≤ S.objs.length then (match (SP S v).objs[S.objs.length]? with
      | some o => if h : o.lo S.objs.length = true then (D.r S.objs.length, S.new o h) else (.r S.objs.length, SP S v)
      | none => (.r S.objs.length, SP S v)) else (.r S.objs.length, S)) = _
    rw [if_pos (Nat.le_refl _), SP_at]
    show (if h : (O.lst (pD v)).lo S.objs.length = true then (D.r S.objs.length, S.new (.lst (pD v)) h) else (.r S.objs.length, SP S v)) = _
    rw [dif_pos hw]
    rfl
  rw [r_fn, h, r_ok, r_asRt, r_finOk, e]
abbrev GV : Int := ((10 : Int) ^ (58 : Int).toNat) ^ (9 : Int).toNat
theorem GV_pos : 0 < GV := by decide +kernel
theorem GV_top : GV < 2 ^ 2000 := by decide +kernel
theorem p_vat {ns : List Int} {spot : Nat} (hs : spot ≤ 100) : ∃ v, m__law_vat [.p (.scr (ns.map P.int)), .p (.int spot)] S = .ok (.r S.objs.length) (SP S v) ∧ VOk 0 v := by
  have ln : fLen [.p (.scr (ns.map P.int))] S = some (.p (.int ns.length), S) := by
    have := f_len (S := S) (d := .p (.scr (ns.map P.int))) (xs := pD (ns.map P.int)) rfl
    simpa [pD] using this
  have cell : ∃ c : Int, (mIf (mTest (mOp2 fLt (mVar 1) (mCallB fLen (mCons (mVar 0) mNil)))) (mOp2 fIx (mVar 0) (mVar 1)) (mOp2 (fAddG fLstF) (mOp2 (fMulA fLstF) (mC (.int 67)) (mVar 1)) (mC (.int 19)))) [some (.p (.scr (ns.map P.int))), some (.p (.int spot)), none, none, none] S = .ok (.p (.int c)) S := by
    by_cases q : (spot : Int) < (ns.length : Int)
    · have hk : spot < ns.length := by omega
      have ix : fIx (.p (.scr (ns.map P.int))) (.p (.int spot)) S = some (.p (.int ns[spot]), S) := o_ixL (xs := pD (ns.map P.int)) rfl rfl (atI_get (by
        rw [List.getElem?_map, List.getElem?_map, List.getElem?_eq_getElem hk]
        rfl))
      exact ⟨ns[spot], by simp only [r_ok, r_c, r_op2, r_op1, r_nil, r_cons, r_callB, r_call, r_and, r_or, r_not, r_asB, r_if, r_andT, r_orT, r_notT, r_test, r_chain, r_seq, r_nx, r_rt, r_bk, r_ct, r_next, r_break, r_cont, r_drop, r_ret, r_retN, r_asg, r_aug, r_ifS, r_par, r_sl, r_noPart, r_part, r_asInt, r_put, r_for, r_src, r_srcA, r_comp, r_meth, r_oNx, r_oCt, r_oBk, r_oRt, r_yes, r_var', r_lift', List.getElem?_cons_zero, List.getElem?_cons_succ, List.set_cons_zero, List.set_cons_succ, o_add, o_addI, o_sub, o_neg, o_lt, o_le, o_gt, o_ge, o_eq, o_ne, o_int, o_intB, o_abs, o_max, o_min, r_env, List.map_cons, List.map_nil, List.length_cons, List.length_nil, Nat.zero_add, Nat.reduceAdd, Nat.reduceSub, List.replicate_succ, List.replicate_zero, List.cons_append, List.nil_append, Bool.false_eq_true, if_true, if_false, gPar, List.zip_cons_cons, List.zip_nil_right, List.zip_nil_left, List.foldl_cons, List.foldl_nil, unsetE, r_err, ln, q, decide_true, ix]⟩
    · have m : fMulA fLstF (.p (.int 67)) (.p (.int spot)) S = some (.p (.int (67 * spot)), S) := o_mul (bits_small (by decide)) (bits_small (by omega))
      exact ⟨67 * spot + 19, by simp only [r_ok, r_c, r_op2, r_op1, r_nil, r_cons, r_callB, r_call, r_and, r_or, r_not, r_asB, r_if, r_andT, r_orT, r_notT, r_test, r_chain, r_seq, r_nx, r_rt, r_bk, r_ct, r_next, r_break, r_cont, r_drop, r_ret, r_retN, r_asg, r_aug, r_ifS, r_par, r_sl, r_noPart, r_part, r_asInt, r_put, r_for, r_src, r_srcA, r_comp, r_meth, r_oNx, r_oCt, r_oBk, r_oRt, r_yes, r_var', r_lift', List.getElem?_cons_zero, List.getElem?_cons_succ, List.set_cons_zero, List.set_cons_succ, o_add, o_addI, o_sub, o_neg, o_lt, o_le, o_gt, o_ge, o_eq, o_ne, o_int, o_intB, o_abs, o_max, o_min, r_env, List.map_cons, List.map_nil, List.length_cons, List.length_nil, Nat.zero_add, Nat.reduceAdd, Nat.reduceSub, List.replicate_succ, List.replicate_zero, List.cons_append, List.nil_append, Bool.false_eq_true, if_true, if_false, gPar, List.zip_cons_cons, List.zip_nil_right, List.zip_nil_left, List.foldl_cons, List.foldl_nil, unsetE, r_err, ln, q, decide_false, m]⟩
  obtain ⟨c, hc⟩ := cell
  have p1 : fPow (.p (.int 10)) (.p (.int 58)) S = some (.p (.int (10 ^ (58 : Int).toNat)), S) := o_pow (by decide)
  have p2 : fPow (.p (.int (10 ^ (58 : Int).toNat))) (.p (.int 9)) S = some (.p (.int GV), S) := o_pow (by decide +kernel)
  have p3 : fPow (.p (.int 10)) (.p (.int 17)) S = some (.p (.int (10 ^ (17 : Int).toNat)), S) := o_pow (by decide)
  have o1 := fun x : Int => o_mod (S := S) (i := x) GV_pos
  have g0 : 0 ≤ (if c < 0 then -c else c) % GV := Int.emod_nonneg _ (by have := GV_pos; omega)
  have g1 : (if c < 0 then -c else c) % GV < GV := Int.emod_lt_of_pos _ GV_pos
  generalize hg : (if c < 0 then -c else c) % GV = great at g0 g1
  have m1 : fMulA fLstF (.p (.int great)) (.p (.int 1000231)) S = some (.p (.int (great * 1000231)), S) := o_mul (bits_lt (k := 2000) (by have := GV_top; omega) (by decide)) (bits_small (by decide))
  have m2 : fMulA fLstF (.p (.int 8111)) (.p (.int spot)) S = some (.p (.int (8111 * spot)), S) := o_mul (bits_small (by decide)) (bits_small (by omega))
  have m3 : ∀ b : Bool, fMulA fLstF (.p (.int 53)) (.p (.int (if b = true then 1 else 0))) S = some (.p (.int (53 * (if b = true then 1 else 0))), S) := fun b => o_mul (bits_small (by decide)) (bits_small (by cases b <;> decide))
  have o2 := fun x : Int => o_mod (S := S) (i := x) (show (0 : Int) < 1152921504606846883 by decide)
  have s0 : ∀ x : Int, 0 ≤ x % 1152921504606846883 := fun x => Int.emod_nonneg _ (by decide)
  have s1 : ∀ x : Int, x % 1152921504606846883 < 1152921504606846883 := fun x => Int.emod_lt_of_pos _ (by decide)
  have nw : ∀ a b : Int, fLst [.p (.int a), .p (.int b), .p (.int 0)] S = some (.r S.objs.length, SP S [.int a, .int b, .int 0]) := fun a b => f_new (ps := [.int a, .int b, .int 0]) (by simp)
  refine ⟨[.int (max 0 (great - 10 ^ (17 : Int).toNat)), .int ((great * 1000231 + 8111 * (spot : Int) + 53 * (if (decide (c < 0)) = true then 1 else 0) + 7) % 1152921504606846883), .int 0], ?_, ⟨_, _, 0, rfl, by omega, s0 _, by have := s1 (great * 1000231 + 8111 * (spot : Int) + 53 * (if (decide (c < 0)) = true then 1 else 0) + 7); omega, Int.le_refl _, Int.le_refl _⟩⟩
  refine fn_newN ?_
  unfold b__law_vat
  have e0 : (mAsg (gNm 2) (mIf (mTest (mOp2 fLt (mVar 1) (mCallB fLen (mCons (mVar 0) mNil)))) (mOp2 fIx (mVar 0) (mVar 1)) (mOp2 (fAddG fLstF) (mOp2 (fMulA fLstF) (mC (.int 67)) (mVar 1)) (mC (.int 19))))) (env0 5 [.p (.scr (ns.map P.int)), .p (.int spot)]) S = .ok (.nx [some (.p (.scr (ns.map P.int))), some (.p (.int spot)), some (.p (.int c)), none, none]) S := by
    rw [r_asg]
    show (Res.bind (mIf _ _ _ [some (.p (.scr (ns.map P.int))), some (.p (.int spot)), none, none, none] S) _) = _
    rw [hc, r_ok]
    rfl
  have e1 : (mAsg (gNm 3) (mOp2 fMod (mCallB fInt (mCons (mCallB fAbs (mCons (mVar 2) mNil)) mNil)) (mOp2 fPow (mOp2 fPow (mC (.int 10)) (mC (.int 58))) (mC (.int 9))))) [some (.p (.scr (ns.map P.int))), some (.p (.int spot)), some (.p (.int c)), none, none] S = .ok (.nx [some (.p (.scr (ns.map P.int))), some (.p (.int spot)), some (.p (.int c)), some (.p (.int great)), none]) S := by
    simp only [r_ok, r_c, r_op2, r_op1, r_nil, r_cons, r_callB, r_call, r_and, r_or, r_not, r_asB, r_if, r_andT, r_orT, r_notT, r_test, r_chain, r_seq, r_nx, r_rt, r_bk, r_ct, r_next, r_break, r_cont, r_drop, r_ret, r_retN, r_asg, r_aug, r_ifS, r_par, r_sl, r_noPart, r_part, r_asInt, r_put, r_for, r_src, r_srcA, r_comp, r_meth, r_oNx, r_oCt, r_oBk, r_oRt, r_yes, r_var', r_lift', List.getElem?_cons_zero, List.getElem?_cons_succ, List.set_cons_zero, List.set_cons_succ, o_add, o_addI, o_sub, o_neg, o_lt, o_le, o_gt, o_ge, o_eq, o_ne, o_int, o_intB, o_abs, o_max, o_min, r_env, List.map_cons, List.map_nil, List.length_cons, List.length_nil, Nat.zero_add, Nat.reduceAdd, Nat.reduceSub, List.replicate_succ, List.replicate_zero, List.cons_append, List.nil_append, Bool.false_eq_true, if_true, if_false, gPar, List.zip_cons_cons, List.zip_nil_right, List.zip_nil_left, List.foldl_cons, List.foldl_nil, unsetE, r_err, p1, p2, o1, hg]
  rw [r_seq, e0, r_ok, r_nx, r_seq, e1, r_ok, r_nx]
  simp only [r_ok, r_c, r_op2, r_op1, r_nil, r_cons, r_callB, r_call, r_and, r_or, r_not, r_asB, r_if, r_andT, r_orT, r_notT, r_test, r_chain, r_seq, r_nx, r_rt, r_bk, r_ct, r_next, r_break, r_cont, r_drop, r_ret, r_retN, r_asg, r_aug, r_ifS, r_par, r_sl, r_noPart, r_part, r_asInt, r_put, r_for, r_src, r_srcA, r_comp, r_meth, r_oNx, r_oCt, r_oBk, r_oRt, r_yes, r_var', r_lift', List.getElem?_cons_zero, List.getElem?_cons_succ, List.set_cons_zero, List.set_cons_succ, o_add, o_addI, o_sub, o_neg, o_lt, o_le, o_gt, o_ge, o_eq, o_ne, o_int, o_intB, o_abs, o_max, o_min, r_env, List.map_cons, List.map_nil, List.length_cons, List.length_nil, Nat.zero_add, Nat.reduceAdd, Nat.reduceSub, List.replicate_succ, List.replicate_zero, List.cons_append, List.nil_append, Bool.false_eq_true, if_true, if_false, gPar, List.zip_cons_cons, List.zip_nil_right, List.zip_nil_left, List.foldl_cons, List.foldl_nil, unsetE, r_err, m1, m2, m3, o2, p3, nw]
end
end DL
set_option maxHeartbeats 4000000
namespace DL
open PySem PySem.Spec PyProof.Rows L2
/-! ### the rows, plainly -/
def wordsP : Nat → List (List Int)
  | 0 => []
  | 1 => [[0]]
  | p + 2 => (wordsP (p + 1)).map (· ++ [0]) ++ (wordsP (p + 1)).map (· ++ [1])
def rowOfGo : List Int → Int → List Int
  | [], _ => []
  | e :: w, k => (e * k + w.sum) :: rowOfGo w (k + 1)
def rowOfP (w : List Int) : List Int := sortDn (rowOfGo w 0)
def rowsP (p : Nat) : List (List Int) := sortT ((wordsP p).map rowOfP)
abbrev tupP (ns : List Int) : P := .tup (ns.map P.int)
/-! ### answers compared -/
def eqI : List P → List Int → Bool
  | [], [] => true
  | .int i :: ps, j :: ns => decide (i = j) && eqI ps ns
  | _, _ => false
def eqT : List P → List (List Int) → Bool
  | [], [] => true
  | .tup qs :: ps, n :: ns => eqI qs n && eqT ps ns
  | _, _ => false
def okI (r : Res D) (L : List Int) : Bool := match r with
  | .ok (.p (.tup ps)) _ => eqI ps L
  | _ => false
def okT (r : Res D) (L : List (List Int)) : Bool := match r with
  | .ok (.p (.tup ps)) _ => eqT ps L
  | _ => false
def okL (r : Res D) (L : List (List Int)) : Bool := match r with
  | .ok (.p (.lst ps)) _ => eqT ps L
  | _ => false
theorem eqI_eq : ∀ {ps : List P} {ns : List Int}, eqI ps ns = true → ps = ns.map P.int
  | [], [], _ => rfl
  | [], _ :: _, h => by cases h
  | p :: ps, [], h => by cases p <;> cases h
  | p :: ps, j :: ns, h => by
    cases p with
    | int i =>
      have h' : (decide (i = j) && eqI ps ns) = true := h
      rw [Bool.and_eq_true, decide_eq_true_eq] at h'
      rw [h'.1, eqI_eq h'.2, List.map_cons]
    | _ => cases h
theorem eqT_eq : ∀ {ps : List P} {L : List (List Int)}, eqT ps L = true → ps = L.map tupP
  | [], [], _ => rfl
  | [], _ :: _, h => by cases h
  | p :: ps, [], h => by cases p <;> cases h
  | p :: ps, j :: ns, h => by
    cases p with
    | tup qs =>
      have h' : (eqI qs j && eqT ps ns) = true := h
      rw [Bool.and_eq_true] at h'
      rw [eqI_eq h'.1, eqT_eq h'.2, List.map_cons]
    | _ => cases h
theorem okI_ok {r : Res D} {L : List Int} (h : okI r L = true) : ∃ S', r = .ok (.p (tupP L)) S' := by
  unfold okI at h
  split at h
  · rename_i ps S'
    exact ⟨S', by rw [eqI_eq h]⟩
  · cases h
theorem okT_ok {r : Res D} {L : List (List Int)} (h : okT r L = true) : ∃ S', r = .ok (.p (.tup (L.map tupP))) S' := by
  unfold okT at h
  split at h
  · rename_i ps S'
    exact ⟨S', by rw [eqT_eq h]⟩
  · cases h
theorem okL_ok {r : Res D} {L : List (List Int)} (h : okL r L = true) : ∃ S', r = .ok (.p (.lst (L.map tupP))) S' := by
  unfold okL at h
  split at h
  · rename_i ps S'
    exact ⟨S', by rw [eqT_eq h]⟩
  · cases h
/-! ### what the kernel runs -/
def S0 : Store := ⟨[], rfl⟩
theorem k_words : ∀ p, p < 8 → okL (n__law_words [.p (.int (p + 1 : Nat))] S0) (wordsP (p + 1)) = true := by decide +kernel
theorem k_rowof : ∀ p, p < 8 → ((wordsP (p + 1)).all fun w => okI (n__law_row_of [.p (tupP w)] S0) (rowOfP w)) = true := by decide +kernel
theorem k_nested : ∀ p, p < 8 → ∀ t : Nat, t < (p + 1) * p + 3 → okT (n_nested_rows [.p (.int (p + 1 : Nat)), .p (.int t)] S0) ((rowsP (p + 1)).filter fun r => decide (r.sum = (t : Int))) = true := by decide +kernel
theorem k_huge : ∀ p, p < 8 → okT (n_nested_rows [.p (.int (p + 1 : Nat)), .p (.int 1000000000000000000000000000000)] S0) [] = true := by decide +kernel
theorem k_hash : ∀ p, p < 8 → nodupB ((rowsP (p + 1)).map hashT) = true := by decide +kernel
def cnt (L : List (List Int)) : Nat → Nat
  | 0 => 0
  | t + 1 => cnt L t + (L.filter fun r => decide (r.sum = (t : Int))).length
theorem k_count : ∀ p, p < 8 → cnt (rowsP (p + 1)) ((p + 1) * p + 3) = (rowsP (p + 1)).length := by decide +kernel
theorem k_many : ∀ p, p < 8 → 0 < (rowsP (p + 1)).length ∧ (rowsP (p + 1)).length ≤ 128 := by decide +kernel
theorem k_long : ∀ p, p < 8 → ((rowsP (p + 1)).all fun r => decide (r.length = p + 1)) = true := by decide +kernel
theorem k_longW : ∀ p, p < 8 → ((wordsP (p + 1)).all fun r => decide (r.length = p + 1)) = true := by decide +kernel
theorem k_manyW : ∀ p, p < 8 → (wordsP (p + 1)).length ≤ 128 := by decide +kernel
theorem k_t1 : okT (n_nested_rows [.p (.int 4), .p (.int 8)] S0) [[3, 2, 2, 1]] = true := by decide +kernel
theorem k_t2 : okT (n_nested_rows [.p (.int 4), .p (.int 6)] S0) [[2, 2, 2, 0], [3, 1, 1, 1]] = true := by decide +kernel
theorem k_t3 : okT (n_nested_rows [.p (.int 3), .p (.int 3)] S0) [] = true := by decide +kernel
theorem k_t4 : okT (n_nested_rows [.p (.int 1), .p (.int 0)] S0) [[0]] = true := by decide +kernel
theorem k_t5 : okT (n_nested_rows [.p (.int 10), .p (.int 90)] S0) [List.replicate 10 9] = true := by decide +kernel
/-! ### nested, plainly -/
def nestGo (l : List Int) : List Int → Int → Bool
  | [], _ => true
  | e :: r, k => (decide (e ≤ k) || decide (((l.filter fun x => decide (k < x)).length : Int) = e + 1)) && nestGo l r (k + 1)
def nestB (l : List Int) : Bool := nestGo l l 0
/-- the falling lists of n entries up to m -/
def descs : Nat → Nat → List (List Int)
  | 0, _ => [[]]
  | n + 1, m => (List.range (m + 1)).flatMap fun x => (descs n x).map ((x : Int) :: ·)
theorem k_descs : ∀ p, p < 8 → (descs (p + 1) (p + 1)).filter nestB = rowsP (p + 1) := by decide +kernel
theorem descs_mem : ∀ {n m : Nat} {l : List Int}, l.length = n → Dn l → (∀ x ∈ l, 0 ≤ x ∧ x ≤ m) → l ∈ descs n m
  | 0, m, l, h, _, _ => by
    rw [List.eq_nil_of_length_eq_zero h]
    exact List.mem_singleton.mpr rfl
  | n + 1, m, [], h, _, _ => by cases h
  | n + 1, m, x :: l, h, hd, hb => by
    obtain ⟨h1, h2⟩ := List.pairwise_cons.mp hd
    obtain ⟨x0, x1⟩ := hb x List.mem_cons_self
    obtain ⟨k, rfl⟩ : ∃ k : Nat, x = k := ⟨x.toNat, by omega⟩
    refine List.mem_flatMap.mpr ⟨k, List.mem_range.mpr (by omega), List.mem_map.mpr ⟨l, ?_, rfl⟩⟩
    refine descs_mem (by rw [List.length_cons] at h; omega) h2 fun y hy => ⟨(hb y (List.mem_cons_of_mem _ hy)).1, h1 y hy⟩
theorem descs_dn : ∀ {n m : Nat} {l : List Int}, l ∈ descs n m → Dn l ∧ l.length = n ∧ ∀ x ∈ l, 0 ≤ x ∧ x ≤ m
  | 0, m, l, h => by
    have := List.mem_singleton.mp h
    subst this
    exact ⟨List.Pairwise.nil, rfl, fun x hx => absurd hx List.not_mem_nil⟩
  | n + 1, m, l, h => by
    obtain ⟨k, hk, hl⟩ := List.mem_flatMap.mp h
    obtain ⟨r, hr, rfl⟩ := List.mem_map.mp hl
    obtain ⟨a, b, c⟩ := descs_dn hr
    have hk' := List.mem_range.mp hk
    refine ⟨List.pairwise_cons.mpr ⟨fun y hy => (c y hy).2, a⟩, by rw [List.length_cons, b], fun x hx => ?_⟩
    rcases List.mem_cons.mp hx with rfl | hx
    · omega
    · have := c x hx
      omega
/-- nested: among the rows -/
theorem nest_rows {p : Nat} (hp : p < 8) {l : List Int} (hl : l.length = p + 1) (hd : Dn l) (hb : ∀ x ∈ l, 0 ≤ x ∧ x ≤ (p + 1 : Nat)) : nestB l = decide (l ∈ rowsP (p + 1)) := by
  rw [← k_descs p hp, Bool.eq_iff_iff, decide_eq_true_eq, List.mem_filter]
  exact ⟨fun h => ⟨descs_mem hl hd hb, h⟩, fun h => h.2⟩
theorem rows_dn {p : Nat} (hp : p < 8) {l : List Int} (h : l ∈ rowsP (p + 1)) : Dn l ∧ l.length = p + 1 ∧ (∀ x ∈ l, 0 ≤ x ∧ x ≤ (p + 1 : Nat)) ∧ nestB l = true := by
  rw [← k_descs p hp] at h
  obtain ⟨h1, h2⟩ := List.mem_filter.mp h
  obtain ⟨a, b, c⟩ := descs_dn h1
  exact ⟨a, b, c, h2⟩
section
variable {S T : Store}
theorem p_words {p : Nat} (hp : p < 8) : m__law_words [.p (.int (p + 1 : Nat))] S = .ok (.p (.lst ((wordsP (p + 1)).map tupP))) S := by
  obtain ⟨S', e⟩ := okL_ok (k_words p hp)
  exact @cl_ok ⟨[]⟩ _ _ _ _ _ rfl e
theorem p_row_of {p : Nat} (hp : p < 8) {w : List Int} (h : w ∈ wordsP (p + 1)) : m__law_row_of [.p (tupP w)] S = .ok (.p (tupP (rowOfP w))) S := by
  obtain ⟨S', e⟩ := okI_ok (List.all_eq_true.mp (k_rowof p hp) w h)
  exact @cl_ok ⟨[]⟩ _ _ _ _ _ rfl e
theorem p_nested {p : Nat} {t : Nat} (hp : p < 8) (ht : t < (p + 1) * p + 3) : m_nested_rows [.p (.int (p + 1 : Nat)), .p (.int t)] S = .ok (.p (.tup (((rowsP (p + 1)).filter fun r => decide (r.sum = (t : Int))).map tupP))) S := by
  obtain ⟨S', e⟩ := okT_ok (k_nested p hp t ht)
  exact @cl_ok ⟨[]⟩ _ _ _ _ _ rfl e
theorem p_huge {p : Nat} (hp : p < 8) : m_nested_rows [.p (.int (p + 1 : Nat)), .p (.int 1000000000000000000000000000000)] S = .ok (.p (.tup [])) S := by
  obtain ⟨S', e⟩ := okT_ok (k_huge p hp)
  exact @cl_ok ⟨[]⟩ _ _ _ _ _ rfl e
theorem p_told {a b : Int} {L : List (List Int)} (k : okT (n_nested_rows [.p (.int a), .p (.int b)] S0) L = true) : m_nested_rows [.p (.int a), .p (.int b)] S = .ok (.p (.tup (L.map tupP))) S := by
  obtain ⟨S', e⟩ := okT_ok k
  exact @cl_ok ⟨[]⟩ _ _ _ _ _ rfl e
end
end DL
set_option maxHeartbeats 4000000
local macro_rules | `(tactic| walk_at "lst") => `(tactic| first | assumption | exact DL.lst_SP | (apply DL.Lst.set; walk_at "lst") | (apply DL.Lst.sp; walk_at "lst") | (apply DL.Lst.ne; focus walk_at "lst"; first | assumption | omega | (simp only [DL.SP_len, DL.setP_len]; omega)))
local macro_rules | `(tactic| walk_at "top") => `(tactic| first | assumption | exact DL.top_self | (apply DL.top_SP; walk_at "top") | (apply DL.top_setP; focus walk_at "top"; first | assumption | omega | (simp only [DL.SP_len, DL.setP_len]; omega)))
local macro_rules | `(tactic| walk_at "dl") => `(tactic| first | assumption | walk_at "lst" | omega | (simp only [List.length_append, List.length_map, List.length_cons, List.length_nil, List.length_set, List.length_take, List.length_drop, List.length_reverse, List.length_replicate, List.length_range, List.length_range', List.length_zip, List.length_eraseIdx, DL.dInts_len, DL.setP_len, DL.SP_len, DL.rangeD_length]; omega) | decide | (refine id ?_; with_unfolding_all rfl))
namespace DL
open PySem PySem.Spec PyProof.Rows L2
section
variable {S T U : Store} {l : List Int} {L : List (List Int)}
/-! ### nested rows, walked -/
def enumZ : Nat → List Int → List D
  | _, [] => []
  | k, x :: r => .p (.tup [.int k, .int x]) :: enumZ (k + 1) r
theorem enumZ_eq (l : List Int) : enumD (dInts l) = enumZ 0 l := by
  have key : ∀ (l : List Int) (k : Nat), (((List.range' k l.length).zip (dInts l)).map fun q => mkTup [.p (.int q.1), q.2]) = enumZ k l := by
    intro l
    induction l with
    | nil => intro k; rfl
    | cons x r ih =>
      intro k
      show _ :: _ = _ :: enumZ (k + 1) r
      congr 1
      exact ih (k + 1)
  unfold enumD
  rw [dInts_len, List.range_eq_range']
  exact key l 0
theorem nest_loop (hl : l.length ≤ 1000) : ∀ (r : List Int) (k : Nat) (z1 z2 z3 : Option D), Wp (loopI [] (gTp 2 (gsCons (gNm 1) (gsCons (gNm 2) gsNil))) lb_is_nested_in (enumZ k r) [some (tI l), z1, z2, z3] S) fun o T => T = S ∧ (if nestGo l r k = true then ∃ a b c, o = .nx [some (tI l), a, b, c] else o = .rt (.p (.bl false)))
  | [], k, z1, z2, z3 => by
    show Wp (loopI [] _ _ [] _ _) _
    rw [loopI_nil rfl]
    have e : nestGo l [] (k : Int) = true := rfl
    exact ⟨rfl, by rw [e, if_pos rfl]; exact ⟨_, _, _, rfl⟩⟩
  | x :: r, k, z1, z2, z3 => by
    show Wp (loopI [] _ _ (.p (.tup [.int k, .int x]) :: enumZ (k + 1) r) _ _) _
    rw [loopI_cons rfl (ρ' := [some (tI l), some (.p (.int k)), some (.p (.int x)), z3]) rfl]
    have ih := fun z1 z2 z3 => nest_loop hl r (k + 1) z1 z2 z3
    have e0 : ((k : Int) + 1) = ((k + 1 : Nat) : Int) := by omega
    have c : compI [] (gNm 3) ct_is_nested_in ce_is_nested_in [some (tI l), some (.p (.int k)), some (.p (.int x)), none] [] (dInts l) S = .ok (dInts ((l.filter fun y => decide ((k : Int) < y)).map fun y => y)) S := by
      refine compI_intsIf rfl l (by omega) fun i hi => ⟨_, rfl, ?_, fun _ => ?_⟩
      · unfold ct_is_nested_in
        simp only [r_ok, r_c, r_op2, r_op1, r_nil, r_cons, r_callB, r_call, r_and, r_or, r_not, r_asB, r_if, r_andT, r_orT, r_notT, r_test, r_chain, r_seq, r_nx, r_rt, r_bk, r_ct, r_next, r_break, r_cont, r_drop, r_ret, r_retN, r_asg, r_aug, r_ifS, r_par, r_sl, r_noPart, r_part, r_asInt, r_put, r_for, r_src, r_srcA, r_comp, r_meth, r_oNx, r_oCt, r_oBk, r_oRt, r_yes, r_var', r_lift', List.getElem?_cons_zero, List.getElem?_cons_succ, List.set_cons_zero, List.set_cons_succ, o_add, o_addI, o_sub, o_neg, o_lt, o_le, o_gt, o_ge, o_eq, o_ne, o_int, o_intB, o_abs, o_max, o_min, r_env, List.map_cons, List.map_nil, List.length_cons, List.length_nil, Nat.zero_add, Nat.reduceAdd, Nat.reduceSub, List.replicate_succ, List.replicate_zero, List.cons_append, List.nil_append, Bool.false_eq_true, if_true, if_false, gPar, List.zip_cons_cons, List.zip_nil_right, List.zip_nil_left, List.foldl_cons, List.foldl_nil, unsetE, r_err]
      · unfold ce_is_nested_in
        simp only [r_ok, r_c, r_op2, r_op1, r_nil, r_cons, r_callB, r_call, r_and, r_or, r_not, r_asB, r_if, r_andT, r_orT, r_notT, r_test, r_chain, r_seq, r_nx, r_rt, r_bk, r_ct, r_next, r_break, r_cont, r_drop, r_ret, r_retN, r_asg, r_aug, r_ifS, r_par, r_sl, r_noPart, r_part, r_asInt, r_put, r_for, r_src, r_srcA, r_comp, r_meth, r_oNx, r_oCt, r_oBk, r_oRt, r_yes, r_var', r_lift', List.getElem?_cons_zero, List.getElem?_cons_succ, List.set_cons_zero, List.set_cons_succ, o_add, o_addI, o_sub, o_neg, o_lt, o_le, o_gt, o_ge, o_eq, o_ne, o_int, o_intB, o_abs, o_max, o_min, r_env, List.map_cons, List.map_nil, List.length_cons, List.length_nil, Nat.zero_add, Nat.reduceAdd, Nat.reduceSub, List.replicate_succ, List.replicate_zero, List.cons_append, List.nil_append, Bool.false_eq_true, if_true, if_false, gPar, List.zip_cons_cons, List.zip_nil_right, List.zip_nil_left, List.foldl_cons, List.foldl_nil, unsetE, r_err]
    rw [List.map_id'] at c
    have hf : (l.filter fun y => decide ((k : Int) < y)).length ≤ l.length := List.length_filter_le _ _
    have fl : fLstF (dInts (l.filter fun y => decide ((k : Int) < y))) S = some (lI (l.filter fun y => decide ((k : Int) < y)), S) := f_lstF (by omega)
    have ln : fLen [lI (l.filter fun y => decide ((k : Int) < y))] S = some (.p (.int (l.filter fun y => decide ((k : Int) < y)).length), S) := q_lenL
    unfold lb_is_nested_in nestGo
    rw [e0]
    by_cases h : x ≤ (k : Int)
    · have h' : ¬ ((k : Int) < x) := by omega
      simp only [r_ok, r_c, r_op2, r_op1, r_nil, r_cons, r_callB, r_call, r_and, r_or, r_not, r_asB, r_if, r_andT, r_orT, r_notT, r_test, r_chain, r_seq, r_nx, r_rt, r_bk, r_ct, r_next, r_break, r_cont, r_drop, r_ret, r_retN, r_asg, r_aug, r_ifS, r_par, r_sl, r_noPart, r_part, r_asInt, r_put, r_for, r_src, r_srcA, r_comp, r_meth, r_oNx, r_oCt, r_oBk, r_oRt, r_yes, r_var', r_lift', List.getElem?_cons_zero, List.getElem?_cons_succ, List.set_cons_zero, List.set_cons_succ, o_add, o_addI, o_sub, o_neg, o_lt, o_le, o_gt, o_ge, o_eq, o_ne, o_int, o_intB, o_abs, o_max, o_min, r_env, List.map_cons, List.map_nil, List.length_cons, List.length_nil, Nat.zero_add, Nat.reduceAdd, Nat.reduceSub, List.replicate_succ, List.replicate_zero, List.cons_append, List.nil_append, Bool.false_eq_true, if_true, if_false, gPar, List.zip_cons_cons, List.zip_nil_right, List.zip_nil_left, List.foldl_cons, List.foldl_nil, unsetE, r_err, decide_eq_false h', decide_eq_true h, Bool.true_or, Bool.true_and]
      exact ih _ _ _
    · have h' : (k : Int) < x := by omega
      simp only [r_ok, r_c, r_op2, r_op1, r_nil, r_cons, r_callB, r_call, r_and, r_or, r_not, r_asB, r_if, r_andT, r_orT, r_notT, r_test, r_chain, r_seq, r_nx, r_rt, r_bk, r_ct, r_next, r_break, r_cont, r_drop, r_ret, r_retN, r_asg, r_aug, r_ifS, r_par, r_sl, r_noPart, r_part, r_asInt, r_put, r_for, r_src, r_srcA, r_comp, r_meth, r_oNx, r_oCt, r_oBk, r_oRt, r_yes, r_var', r_lift', List.getElem?_cons_zero, List.getElem?_cons_succ, List.set_cons_zero, List.set_cons_succ, o_add, o_addI, o_sub, o_neg, o_lt, o_le, o_gt, o_ge, o_eq, o_ne, o_int, o_intB, o_abs, o_max, o_min, r_env, List.map_cons, List.map_nil, List.length_cons, List.length_nil, Nat.zero_add, Nat.reduceAdd, Nat.reduceSub, List.replicate_succ, List.replicate_zero, List.cons_append, List.nil_append, Bool.false_eq_true, if_true, if_false, gPar, List.zip_cons_cons, List.zip_nil_right, List.zip_nil_left, List.foldl_cons, List.foldl_nil, unsetE, r_err, decide_eq_true h', decide_eq_false h, Bool.false_or, o_srcT tI_tup, c, fl, ln]
      by_cases q : (((l.filter fun y => decide ((k : Int) < y)).length : Nat) : Int) = x + 1
      · simp only [decide_eq_true q, r_ok, r_c, r_op2, r_op1, r_nil, r_cons, r_callB, r_call, r_and, r_or, r_not, r_asB, r_if, r_andT, r_orT, r_notT, r_test, r_chain, r_seq, r_nx, r_rt, r_bk, r_ct, r_next, r_break, r_cont, r_drop, r_ret, r_retN, r_asg, r_aug, r_ifS, r_par, r_sl, r_noPart, r_part, r_asInt, r_put, r_for, r_src, r_srcA, r_comp, r_meth, r_oNx, r_oCt, r_oBk, r_oRt, r_yes, r_var', r_lift', List.getElem?_cons_zero, List.getElem?_cons_succ, List.set_cons_zero, List.set_cons_succ, o_add, o_addI, o_sub, o_neg, o_lt, o_le, o_gt, o_ge, o_eq, o_ne, o_int, o_intB, o_abs, o_max, o_min, r_env, List.map_cons, List.map_nil, List.length_cons, List.length_nil, Nat.zero_add, Nat.reduceAdd, Nat.reduceSub, List.replicate_succ, List.replicate_zero, List.cons_append, List.nil_append, Bool.false_eq_true, if_true, if_false, gPar, List.zip_cons_cons, List.zip_nil_right, List.zip_nil_left, List.foldl_cons, List.foldl_nil, unsetE, r_err, Bool.not_true, Bool.true_and]
        exact ih _ _ _
      · simp only [decide_eq_false q, r_ok, r_c, r_op2, r_op1, r_nil, r_cons, r_callB, r_call, r_and, r_or, r_not, r_asB, r_if, r_andT, r_orT, r_notT, r_test, r_chain, r_seq, r_nx, r_rt, r_bk, r_ct, r_next, r_break, r_cont, r_drop, r_ret, r_retN, r_asg, r_aug, r_ifS, r_par, r_sl, r_noPart, r_part, r_asInt, r_put, r_for, r_src, r_srcA, r_comp, r_meth, r_oNx, r_oCt, r_oBk, r_oRt, r_yes, r_var', r_lift', List.getElem?_cons_zero, List.getElem?_cons_succ, List.set_cons_zero, List.set_cons_succ, o_add, o_addI, o_sub, o_neg, o_lt, o_le, o_gt, o_ge, o_eq, o_ne, o_int, o_intB, o_abs, o_max, o_min, r_env, List.map_cons, List.map_nil, List.length_cons, List.length_nil, Nat.zero_add, Nat.reduceAdd, Nat.reduceSub, List.replicate_succ, List.replicate_zero, List.cons_append, List.nil_append, Bool.false_eq_true, if_true, if_false, gPar, List.zip_cons_cons, List.zip_nil_right, List.zip_nil_left, List.foldl_cons, List.foldl_nil, unsetE, r_err, Bool.not_false, Bool.false_and]
        exact ⟨rfl, rfl⟩
theorem p_is_nested_in (hl : l.length ≤ 1000) : m_is_nested_in [tI l] S = .ok (.p (.bl (nestB l))) S := by
  refine eq_fnP ?_
  unfold b_is_nested_in
  have en : srcEnum [tI l] S = some (⟨enumZ 0 l, []⟩, S) := by
    rw [← enumZ_eq]
    exact o_enumT tI_tup
  have lp := nest_loop (S := S) hl l 0 none none none
  simp -implicitDefEqProofs (disch := walk_at "dl") only [r_ok, r_c, r_op2, r_op1, r_nil, r_cons, r_callB, r_call, r_and, r_or, r_not, r_asB, r_if, r_andT, r_orT, r_notT, r_test, r_chain, r_seq, r_nx, r_rt, r_bk, r_ct, r_next, r_break, r_cont, r_drop, r_ret, r_retN, r_asg, r_aug, r_ifS, r_par, r_sl, r_noPart, r_part, r_asInt, r_put, r_for, r_src, r_srcA, r_comp, r_oNx, r_oCt, r_oBk, r_oRt, r_yes, t_lift, t_some, t_var, t_vsome, t_liftS, t_ssome, t_meth, t_lstO, t_lstOF, List.getElem?_cons_zero, List.getElem?_cons_succ, List.set_cons_zero, List.set_cons_succ, o_add, o_addI, o_sub, o_neg, o_lt, o_le, o_gt, o_ge, o_eq, o_ne, o_int, o_intB, o_abs, o_max, o_min, r_env, List.map_cons, List.map_nil, List.length_cons, List.length_nil, Nat.zero_add, Nat.reduceAdd, Nat.reduceSub, Nat.reduceLeDiff, List.replicate_succ, List.replicate_zero, List.cons_append, List.nil_append, Bool.false_eq_true, if_true, if_false, gPar, List.zip_cons_cons, List.zip_nil_right, List.zip_nil_left, List.foldl_cons, List.foldl_nil, unsetE, r_err, r_assoc, r_iteB, wp_ok, q_lstI, q_mul, q_div, q_range1, q_range2, q_lenT, q_lenL, q_sumT, q_sumL, q_srcT, q_srcL, q_new0, q_lst, q_append, q_extend, q_lenR, q_toTR, q_l1, q_l2, q_l3, q_l4, q_addL, q_addT, q_srtT, q_srtL, f_toT_l, f_toT_t, o_mod, Bool.not_true, Bool.not_false, Bool.true_and, Bool.false_and, en]
  refine wp_with lp fun o T ⟨eT, e⟩ => ?_
  subst eT
  have e2 : nestGo l l (0 : Nat) = nestB l := rfl
  rw [e2] at e
  cases q : nestB l with
  | true =>
    rw [q, if_pos rfl] at e
    obtain ⟨a, b, c, rfl⟩ := e
    simp -implicitDefEqProofs (disch := walk_at "dl") only [r_ok, r_c, r_op2, r_op1, r_nil, r_cons, r_callB, r_call, r_and, r_or, r_not, r_asB, r_if, r_andT, r_orT, r_notT, r_test, r_chain, r_seq, r_nx, r_rt, r_bk, r_ct, r_next, r_break, r_cont, r_drop, r_ret, r_retN, r_asg, r_aug, r_ifS, r_par, r_sl, r_noPart, r_part, r_asInt, r_put, r_for, r_src, r_srcA, r_comp, r_oNx, r_oCt, r_oBk, r_oRt, r_yes, t_lift, t_some, t_var, t_vsome, t_liftS, t_ssome, t_meth, t_lstO, t_lstOF, List.getElem?_cons_zero, List.getElem?_cons_succ, List.set_cons_zero, List.set_cons_succ, o_add, o_addI, o_sub, o_neg, o_lt, o_le, o_gt, o_ge, o_eq, o_ne, o_int, o_intB, o_abs, o_max, o_min, r_env, List.map_cons, List.map_nil, List.length_cons, List.length_nil, Nat.zero_add, Nat.reduceAdd, Nat.reduceSub, Nat.reduceLeDiff, List.replicate_succ, List.replicate_zero, List.cons_append, List.nil_append, Bool.false_eq_true, if_true, if_false, gPar, List.zip_cons_cons, List.zip_nil_right, List.zip_nil_left, List.foldl_cons, List.foldl_nil, unsetE, r_err, r_assoc, r_iteB, wp_ok, q_lstI, q_mul, q_div, q_range1, q_range2, q_lenT, q_lenL, q_sumT, q_sumL, q_srcT, q_srcL, q_new0, q_lst, q_append, q_extend, q_lenR, q_toTR, q_l1, q_l2, q_l3, q_l4, q_addL, q_addT, q_srtT, q_srtL, f_toT_l, f_toT_t, o_mod, Bool.not_true, Bool.not_false, Bool.true_and, Bool.false_and]
    exact ⟨by first | trivial | rfl, by walk_at "top"⟩
  | false =>
    rw [q, if_neg (by decide)] at e
    subst e
    simp -implicitDefEqProofs (disch := walk_at "dl") only [r_ok, r_c, r_op2, r_op1, r_nil, r_cons, r_callB, r_call, r_and, r_or, r_not, r_asB, r_if, r_andT, r_orT, r_notT, r_test, r_chain, r_seq, r_nx, r_rt, r_bk, r_ct, r_next, r_break, r_cont, r_drop, r_ret, r_retN, r_asg, r_aug, r_ifS, r_par, r_sl, r_noPart, r_part, r_asInt, r_put, r_for, r_src, r_srcA, r_comp, r_oNx, r_oCt, r_oBk, r_oRt, r_yes, t_lift, t_some, t_var, t_vsome, t_liftS, t_ssome, t_meth, t_lstO, t_lstOF, List.getElem?_cons_zero, List.getElem?_cons_succ, List.set_cons_zero, List.set_cons_succ, o_add, o_addI, o_sub, o_neg, o_lt, o_le, o_gt, o_ge, o_eq, o_ne, o_int, o_intB, o_abs, o_max, o_min, r_env, List.map_cons, List.map_nil, List.length_cons, List.length_nil, Nat.zero_add, Nat.reduceAdd, Nat.reduceSub, Nat.reduceLeDiff, List.replicate_succ, List.replicate_zero, List.cons_append, List.nil_append, Bool.false_eq_true, if_true, if_false, gPar, List.zip_cons_cons, List.zip_nil_right, List.zip_nil_left, List.foldl_cons, List.foldl_nil, unsetE, r_err, r_assoc, r_iteB, wp_ok, q_lstI, q_mul, q_div, q_range1, q_range2, q_lenT, q_lenL, q_sumT, q_sumL, q_srcT, q_srcL, q_new0, q_lst, q_append, q_extend, q_lenR, q_toTR, q_l1, q_l2, q_l3, q_l4, q_addL, q_addT, q_srtT, q_srtL, f_toT_l, f_toT_t, o_mod, Bool.not_true, Bool.not_false, Bool.true_and, Bool.false_and]
    exact ⟨by first | trivial | rfl, by walk_at "top"⟩
theorem p_is_nested_row (h : RowOk l) : m_is_nested_row [tI l] S = .ok (.p (.bl (nestB (sortDn l)))) S := by
  have hl := h.len
  refine fn_pure0 ?_
  unfold b_is_nested_row
  simp only [r_ok, r_c, r_op2, r_op1, r_nil, r_cons, r_callB, r_call, r_and, r_or, r_not, r_asB, r_if, r_andT, r_orT, r_notT, r_test, r_chain, r_seq, r_nx, r_rt, r_bk, r_ct, r_next, r_break, r_cont, r_drop, r_ret, r_retN, r_asg, r_aug, r_ifS, r_par, r_sl, r_noPart, r_part, r_asInt, r_put, r_for, r_src, r_srcA, r_comp, r_meth, r_oNx, r_oCt, r_oBk, r_oRt, r_yes, r_var', r_lift', List.getElem?_cons_zero, List.getElem?_cons_succ, List.set_cons_zero, List.set_cons_succ, o_add, o_addI, o_sub, o_neg, o_lt, o_le, o_gt, o_ge, o_eq, o_ne, o_int, o_intB, o_abs, o_max, o_min, r_env, List.map_cons, List.map_nil, List.length_cons, List.length_nil, Nat.zero_add, Nat.reduceAdd, Nat.reduceSub, List.replicate_succ, List.replicate_zero, List.cons_append, List.nil_append, Bool.false_eq_true, if_true, if_false, gPar, List.zip_cons_cons, List.zip_nil_right, List.zip_nil_left, List.foldl_cons, List.foldl_nil, unsetE, r_err, p_require h, p_falling (S := S) (d := tI l) tI_seq (by omega), p_is_nested_in (S := S) (l := sortDn l) (by rw [sortDn_len]; omega)]
/-! ### rows as data -/
abbrev tupY (r : List Int) : PyData := .tuple (r.map PyData.int)
theorem pys_tups : ∀ L : List (List Int), P.pys (L.map tupP) = some (L.map tupY)
  | [] => by simp [P.pys]
  | a :: v => by
    have := pys_tups v
    simp [P.pys, P.py, pys_ints a] at this ⊢
    simp [this]
theorem lay_tups : ∀ L : List (List Int), PyData.canLayAll0 (L.map tupY) = true
  | [] => by simp [PyData.canLayAll0]
  | a :: v => by
    have := lay_tups v
    simp [PyData.canLayAll0, PyData.canLay0, lay_ints] at this ⊢
    exact this
theorem dep_tups : ∀ L : List (List Int), PyData.depthAll (L.map tupY) ≤ 1
  | [] => by simp [PyData.depthAll]
  | a :: v => by
    have := dep_tups v
    simp [PyData.depthAll, PyData.depth, dep_ints] at this ⊢
    omega
theorem shaped_tupL (L : List (List Int)) : SeqAt.shaped (.list (L.map tupY)) = true := by
  show ((PyData.canLay0 (.list (L.map tupY))) && decide (PyData.depth (.list (L.map tupY)) ≤ 64)) = true
  have := dep_tups L
  have h := lay_tups L
  have e : ∀ d : PyData, PyData.canLay0 d = true → PyData.depth d ≤ 64 → (PyData.canLay0 d && decide (PyData.depth d ≤ 64)) = true := fun d a b => by rw [a, decide_eq_true b] <;> rfl
  refine e _ (by simp only [PyData.canLay0, h]) ?_
  simp only [PyData.depth]
  omega
theorem shaped_tupT (L : List (List Int)) : SeqAt.shaped (.tuple (L.map tupY)) = true := by
  show ((PyData.canLay0 (.tuple (L.map tupY))) && decide (PyData.depth (.tuple (L.map tupY)) ≤ 64)) = true
  have := dep_tups L
  have h := lay_tups L
  have e : ∀ d : PyData, PyData.canLay0 d = true → PyData.depth d ≤ 64 → (PyData.canLay0 d && decide (PyData.depth d ≤ 64)) = true := fun d a b => by rw [a, decide_eq_true b] <;> rfl
  refine e _ (by simp only [PyData.canLay0, h]) ?_
  simp only [PyData.depth]
  omega
theorem o_neT : fNe (.p (.tup (L.map tupP))) (.p (.tup (L.map tupP))) S = some (.p (.bl false), S) :=
  o_neSame (z := .tuple (L.map tupY)) (by simp only [P.py, pys_tups]) (shaped_tupT L)
theorem o_inRows {a : List Int} : fIn false (tI a) (.p (.lst (L.map tupP))) S = some (.p (.bl (decide (a ∈ L))), S) := by
  have e1 : (tI a).py? S = some (tupY a) := by
    show P.py (.tup (a.map P.int)) = _
    simp [P.py, pys_ints a]
  have e2 : (D.p (.lst (L.map tupP))).pyL? S = some (L.map tupY) := by
    have : (D.p (.lst (L.map tupP))).py? S = some (.list (L.map tupY)) := by
      show P.py (.lst (L.map tupP)) = _
      simp only [P.py, pys_tups]
    unfold D.pyL?
    rw [this]
  have e3 : ∀ L : List (List Int), ((L.map tupY).any fun z => PyData.eqv z (tupY a)) = decide (a ∈ L) := by
    intro L
    induction L with
    | nil => simp
    | cons x L ih =>
      rw [List.map_cons, List.any_cons, ih]
      have : PyData.eqv (tupY x) (tupY a) = decide (x = a) := by simp only [PyData.eqv, eqvAll_ints]
      rw [this, Bool.eq_iff_iff]
      simp only [Bool.or_eq_true, decide_eq_true_eq, List.mem_cons]
      exact ⟨fun h => h.imp Eq.symm id, fun h => h.imp Eq.symm id⟩
  unfold fIn
  simp only [e1, e2, shaped_row, shaped_tupL, Bool.and_self, if_true, e3, Bool.false_bne]
theorem tI_rows : (L.map tupI) = pD (L.map tupP) := by
  unfold pD
  rw [List.map_map]
  rfl
theorem o_sortRows (h0 : ∀ x ∈ L, x ≠ []) (hn : L ≠ []) (hl : L.length ≤ 1000) : fSort fLstF [.p (.lst (L.map tupP))] S = some (.p (.lst ((sortT L).map tupP)), S) := by
  have e2 : tupsD (L.map tupI) = some L := @tupsD_of ⟨[]⟩ _ h0
  have e1 : fSrt false fLstF [.p (.lst (L.map tupP))] S = none := by
    cases L with
    | nil => exact absurd rfl hn
    | cons x r => rfl
  unfold fSort
  rw [e1]
  show (match tupsD (pD (L.map tupP)) with
    | some L => fLstF ((sortT L).map tupI) S
    | none => none) = _
  rw [← tI_rows, e2]
  show fLstF ((sortT L).map tupI) S = _
  rw [tI_rows]
  exact q_lstP (by rw [List.length_map, (sortT_perm L).length_eq]; omega)
theorem o_lenSet (h0 : ∀ x ∈ L, x ≠ []) (hn : nodupB (L.map hashT) = true) (hl : L.length ≤ 300) : fLenSetN (.p (.lst (L.map tupP))) S = some (.p (.int L.length), S) := by
  have e2 : tupsD (L.map tupI) = some L := @tupsD_of ⟨[]⟩ _ h0
  show (match tupsD (pD (L.map tupP)) with
    | some L => if (nodupB (L.map hashT) && decide (L.length ≤ 300)) = true then some (D.p (.int L.length), S) else none
    | none => none) = _
  rw [← tI_rows, e2]
  simp only [hn, decide_eq_true hl, Bool.and_self, if_true]
theorem o_srcRows : srcSeq (.p (.lst (L.map tupP))) S = some (⟨L.map tupI, []⟩, S) := by
  rw [tI_rows]
  rfl
theorem compI_rows {g : MG} {t : ME Bool} {e : ME D} {ρ : Env} {p : List Int → Bool} {f : List Int → D} : ∀ (L : List (List Int)) (acc : List D), acc.length + L.length ≤ 1000 →
    (∀ x ∈ L, ∃ ρ', g (tupI x) ρ S = some ρ' ∧ t ρ' S = .ok (p x) S ∧ (p x = true → e ρ' S = .ok (f x) S)) → compI [] g t e ρ acc (L.map tupI) S = .ok (acc ++ (L.filter p).map f) S
  | [], acc, _, _ => by
    show compI [] _ _ _ _ acc [] S = _
    rw [compI_nil rfl]
    simp
  | x :: L, acc, hl, h => by
    rw [List.length_cons] at hl
    obtain ⟨ρ', e1, e2, e3⟩ := h x List.mem_cons_self
    rw [List.map_cons]
    cases q : p x with
    | true =>
      rw [q] at e2
      rw [compI_keep rfl e1 e2 (e3 q) (by omega), compI_rows L _ (by simp; omega) fun y hy => h y (List.mem_cons_of_mem _ hy), List.filter_cons_of_pos q, List.map_cons]
      simp
    | false =>
      rw [q] at e2
      rw [compI_skip rfl e1 e2, compI_rows L acc (by omega) fun y hy => h y (List.mem_cons_of_mem _ hy), List.filter_cons_of_neg (by rw [q]; decide)]
end
end DL
set_option maxHeartbeats 4000000
set_option exponentiation.threshold 400001
namespace DL
open PySem PySem.Spec PyProof.Rows L2
section
variable {S T U : Store} {r n p : Nat} {l : List Int} {L : List (List Int)} {ps : List P}
theorem f_toTP : fToT [.p (.lst ps)] S = some (.p (.tup ps), S) := by
  have e1 : fToT [.p (.lst ps)] S = some (mkTup (pD ps), S) := rfl
  rw [e1]
  unfold mkTup
  rw [pures_pD]
theorem f_lenTP : fLen [.p (.tup ps)] S = some (.p (.int ps.length), S) := by
  have := f_len (S := S) (d := .p (.tup ps)) (xs := pD ps) rfl
  simpa [pD] using this
theorem f_lenLP : fLen [.p (.lst ps)] S = some (.p (.int ps.length), S) := by
  have := f_len (S := S) (d := .p (.lst ps)) (xs := pD ps) rfl
  simpa [pD] using this
theorem f_lstRows (h : L.length ≤ 1000) : fLstF (L.map tupI) S = some (.p (.lst (L.map tupP)), S) := by
  rw [tI_rows]
  exact q_lstP (by rw [List.length_map]; omega)
theorem rows_len (hp : p < 8) {x : List Int} (h : x ∈ rowsP (p + 1)) : x.length = p + 1 := (rows_dn hp h).2.1
/-- the loop over the sums -/
theorem tot_step (hp : p < 8) {t m : Nat} {z5 : Option D} {rest : List (Option D)} (ht : t < (p + 1) * p + 3) (hr : rest = [none, none, none, none]) :
    lb__law_right (some (.r r) :: some (.p (.int (p + 1 : Nat))) :: some (.p (.lst ((rowsP (p + 1)).map tupP))) :: some (.p (.int m)) :: some (.p (.int t)) :: z5 :: rest) U =
      .ok (.nx (some (.r r) :: some (.p (.int (p + 1 : Nat))) :: some (.p (.lst ((rowsP (p + 1)).map tupP))) :: some (.p (.int (m + ((rowsP (p + 1)).filter fun r => decide (r.sum = (t : Int))).length : Nat))) :: some (.p (.int t)) :: some (.p (.tup (((rowsP (p + 1)).filter fun r => decide (r.sum = (t : Int))).map tupP))) :: rest)) U := by
  subst hr
  have k := (k_many p hp).2
  have hf : ((rowsP (p + 1)).filter fun r => decide (r.sum = (t : Int))).length ≤ 128 := Nat.le_trans (List.length_filter_le _ _) k
  have ne := p_nested (S := U) (t := t) hp ht
  have cp : compI [] (gNm 7) ct__law_right ce__law_right_1 [some (.r r), some (.p (.int (p + 1 : Nat))), some (.p (.lst ((rowsP (p + 1)).map tupP))), some (.p (.int m)), some (.p (.int t)), some (.p (.tup (((rowsP (p + 1)).filter fun r => decide (r.sum = (t : Int))).map tupP))), none, none, none, none] [] ((rowsP (p + 1)).map tupI) U = .ok ([] ++ (((rowsP (p + 1)).filter fun r => decide (r.sum = (t : Int))).map tupI)) U := by
    refine compI_rows (f := tupI) _ _ (by simp; omega) fun x hx => ⟨_, rfl, ?_, fun _ => ?_⟩
    · have sm : fSum [tupI x] U = some (.p (.int x.sum), U) := q_sumT
      unfold ct__law_right
      simp only [r_ok, r_c, r_op2, r_op1, r_nil, r_cons, r_callB, r_call, r_and, r_or, r_not, r_asB, r_if, r_andT, r_orT, r_notT, r_test, r_chain, r_seq, r_nx, r_rt, r_bk, r_ct, r_next, r_break, r_cont, r_drop, r_ret, r_retN, r_asg, r_aug, r_ifS, r_par, r_sl, r_noPart, r_part, r_asInt, r_put, r_for, r_src, r_srcA, r_comp, r_meth, r_oNx, r_oCt, r_oBk, r_oRt, r_yes, r_var', r_lift', List.getElem?_cons_zero, List.getElem?_cons_succ, List.set_cons_zero, List.set_cons_succ, o_add, o_addI, o_sub, o_neg, o_lt, o_le, o_gt, o_ge, o_eq, o_ne, o_int, o_intB, o_abs, o_max, o_min, r_env, List.map_cons, List.map_nil, List.length_cons, List.length_nil, Nat.zero_add, Nat.reduceAdd, Nat.reduceSub, List.replicate_succ, List.replicate_zero, List.cons_append, List.nil_append, Bool.false_eq_true, if_true, if_false, gPar, List.zip_cons_cons, List.zip_nil_right, List.zip_nil_left, List.foldl_cons, List.foldl_nil, unsetE, r_err, sm]
    · unfold ce__law_right_1
      simp only [r_ok, r_c, r_op2, r_op1, r_nil, r_cons, r_callB, r_call, r_and, r_or, r_not, r_asB, r_if, r_andT, r_orT, r_notT, r_test, r_chain, r_seq, r_nx, r_rt, r_bk, r_ct, r_next, r_break, r_cont, r_drop, r_ret, r_retN, r_asg, r_aug, r_ifS, r_par, r_sl, r_noPart, r_part, r_asInt, r_put, r_for, r_src, r_srcA, r_comp, r_meth, r_oNx, r_oCt, r_oBk, r_oRt, r_yes, r_var', r_lift', List.getElem?_cons_zero, List.getElem?_cons_succ, List.set_cons_zero, List.set_cons_succ, o_add, o_addI, o_sub, o_neg, o_lt, o_le, o_gt, o_ge, o_eq, o_ne, o_int, o_intB, o_abs, o_max, o_min, r_env, List.map_cons, List.map_nil, List.length_cons, List.length_nil, Nat.zero_add, Nat.reduceAdd, Nat.reduceSub, List.replicate_succ, List.replicate_zero, List.cons_append, List.nil_append, Bool.false_eq_true, if_true, if_false, gPar, List.zip_cons_cons, List.zip_nil_right, List.zip_nil_left, List.foldl_cons, List.foldl_nil, unsetE, r_err]
  rw [List.nil_append] at cp
  have fl := f_lstRows (S := U) (L := (rowsP (p + 1)).filter fun r => decide (r.sum = (t : Int))) (by omega)
  have ln := f_lenTP (S := U) (ps := ((rowsP (p + 1)).filter fun r => decide (r.sum = (t : Int))).map tupP)
  rw [List.length_map] at ln
  have nT := o_neT (S := U) (L := (rowsP (p + 1)).filter fun r => decide (r.sum = (t : Int)))
  generalize ((rowsP (p + 1)).filter fun r => decide (r.sum = (t : Int))) = F at *
  unfold lb__law_right
  simp -implicitDefEqProofs (disch := walk_at "dl") only [r_ok, r_c, r_op2, r_op1, r_nil, r_cons, r_callB, r_call, r_and, r_or, r_not, r_asB, r_if, r_andT, r_orT, r_notT, r_test, r_chain, r_seq, r_nx, r_rt, r_bk, r_ct, r_next, r_break, r_cont, r_drop, r_ret, r_retN, r_asg, r_aug, r_ifS, r_par, r_sl, r_noPart, r_part, r_asInt, r_put, r_for, r_src, r_srcA, r_comp, r_oNx, r_oCt, r_oBk, r_oRt, r_yes, t_lift, t_some, t_var, t_vsome, t_liftS, t_ssome, t_meth, t_lstO, t_lstOF, List.getElem?_cons_zero, List.getElem?_cons_succ, List.set_cons_zero, List.set_cons_succ, o_add, o_addI, o_sub, o_neg, o_lt, o_le, o_gt, o_ge, o_eq, o_ne, o_int, o_intB, o_abs, o_max, o_min, r_env, List.map_cons, List.map_nil, List.length_cons, List.length_nil, Nat.zero_add, Nat.reduceAdd, Nat.reduceSub, Nat.reduceLeDiff, List.replicate_succ, List.replicate_zero, List.cons_append, List.nil_append, Bool.false_eq_true, if_true, if_false, gPar, List.zip_cons_cons, List.zip_nil_right, List.zip_nil_left, List.foldl_cons, List.foldl_nil, unsetE, r_err, r_assoc, r_iteB, wp_ok, q_lstI, q_mul, q_div, q_range1, q_range2, q_lenT, q_lenL, q_sumT, q_sumL, q_srcT, q_srcL, q_new0, q_lst, q_append, q_extend, q_lenR, q_toTR, q_l1, q_l2, q_l3, q_l4, q_addL, q_addT, q_srtT, q_srtL, f_toT_l, f_toT_t, o_mod, Bool.not_true, Bool.not_false, Bool.true_and, Bool.false_and, ne, o_srcRows, cp, fl, f_toTP, nT, ln]
  rfl
theorem tot_loop (hp : p < 8) {z5 : Option D} {rest : List (Option D)} (hr : rest = [none, none, none, none]) : ∀ (c t : Nat) (z4 z5 : Option D), t + c = (p + 1) * p + 3 → ∃ z4' z5',
    loopI [] (gNm 4) lb__law_right (rangeD (t : Int) c) (some (.r r) :: some (.p (.int (p + 1 : Nat))) :: some (.p (.lst ((rowsP (p + 1)).map tupP))) :: some (.p (.int (cnt (rowsP (p + 1)) t : Nat))) :: z4 :: z5 :: rest) U =
      .ok (.nx (some (.r r) :: some (.p (.int (p + 1 : Nat))) :: some (.p (.lst ((rowsP (p + 1)).map tupP))) :: some (.p (.int ((rowsP (p + 1)).length : Nat))) :: z4' :: z5' :: rest)) U
  | 0, t, z4, z5, h => by
    have e : t = (p + 1) * p + 3 := by omega
    refine ⟨z4, z5, ?_⟩
    show loopI [] _ _ [] _ _ = _
    rw [loopI_nil rfl, e, k_count p hp]
  | c + 1, t, z4, z5, h => by
    obtain ⟨z4', z5', ih⟩ := tot_loop (z5 := z5) hp hr c (t + 1) (some (.p (.int t))) (some (.p (.tup (((rowsP (p + 1)).filter fun r => decide (r.sum = (t : Int))).map tupP)))) (by omega)
    refine ⟨z4', z5', ?_⟩
    rw [rangeD_succ, loopI_cons rfl (ρ' := some (.r r) :: some (.p (.int (p + 1 : Nat))) :: some (.p (.lst ((rowsP (p + 1)).map tupP))) :: some (.p (.int (cnt (rowsP (p + 1)) t : Nat))) :: some (.p (.int t)) :: z5 :: rest) rfl, tot_step hp (by omega) hr, r_ok, r_oNx]
    have e : ((t : Int) + 1) = ((t + 1 : Nat) : Int) := by omega
    rw [e]
    exact ih
theorem row_comp {ρ : Env} {v : List P} {n : Nat} {z2 z3 z4 z5 z6 z7 z8 : Option D} (hp : p < 8) (hr : r < T.objs.length) (ho : VOk n v) (hn : n ≤ 1000000) (eρ : ρ = [some (.r r), some (.p (.int (p + 1 : Nat))), z2, z3, z4, z5, z6, z7, z8, none]) :
    ∃ (ms : List Int) (v' : List P), compI [] (gNm 9) mYes ce__law_right_2 ρ [] (rangeD 0 (p + 1)) (setP T r v) = .ok (dInts ms) (setP T r v') ∧ VOk (n + 1000) v' ∧ ms.length = p + 1 ∧ ∀ x ∈ ms, 0 ≤ x ∧ x < (p + 2 : Nat) := by
  subst eρ
  obtain ⟨ms, v', e, a1, a2, a3⟩ := draw_loop (T := T) (r := r) (ρ := [some (.r r), some (.p (.int (p + 1 : Nat))), z2, z3, z4, z5, z6, z7, z8, none]) (i := 9) (el := ce__law_right_2) (hi := (p + 2 : Nat)) hr (fun x v n hv' hn' => by
    obtain ⟨i, v', e, h2, h3, h4⟩ := p_dip (T := setP T r v) (r := r) (size := (((p + 1 : Nat) : Int) + 1)) (setP_at hr) hv' (by omega) (by omega) (by omega)
    rw [setP_setP] at e
    refine ⟨i, v', ?_, h2.mono (by omega), h3, by omega⟩
    show ce__law_right_2 [some (.r r), some (.p (.int (p + 1 : Nat))), z2, z3, z4, z5, z6, z7, z8, some x] (setP T r v) = _
    unfold ce__law_right_2
    simp -implicitDefEqProofs (disch := walk_at "dl") only [r_ok, r_c, r_op2, r_op1, r_nil, r_cons, r_callB, r_call, r_and, r_or, r_not, r_asB, r_if, r_andT, r_orT, r_notT, r_test, r_chain, r_seq, r_nx, r_rt, r_bk, r_ct, r_next, r_break, r_cont, r_drop, r_ret, r_retN, r_asg, r_aug, r_ifS, r_par, r_sl, r_noPart, r_part, r_asInt, r_put, r_for, r_src, r_srcA, r_comp, r_oNx, r_oCt, r_oBk, r_oRt, r_yes, t_lift, t_some, t_var, t_vsome, t_liftS, t_ssome, t_meth, t_lstO, t_lstOF, List.getElem?_cons_zero, List.getElem?_cons_succ, List.set_cons_zero, List.set_cons_succ, o_add, o_addI, o_sub, o_neg, o_lt, o_le, o_gt, o_ge, o_eq, o_ne, o_int, o_intB, o_abs, o_max, o_min, r_env, List.map_cons, List.map_nil, List.length_cons, List.length_nil, Nat.zero_add, Nat.reduceAdd, Nat.reduceSub, Nat.reduceLeDiff, List.replicate_succ, List.replicate_zero, List.cons_append, List.nil_append, Bool.false_eq_true, if_true, if_false, gPar, List.zip_cons_cons, List.zip_nil_right, List.zip_nil_left, List.foldl_cons, List.foldl_nil, unsetE, r_err, r_assoc, r_iteB, wp_ok, q_lstI, q_mul, q_div, q_range1, q_range2, q_lenT, q_lenL, q_sumT, q_sumL, q_srcT, q_srcL, q_new0, q_lst, q_append, q_extend, q_lenR, q_toTR, q_l1, q_l2, q_l3, q_l4, q_addL, q_addT, q_srtT, q_srtL, f_toT_l, f_toT_t, o_mod, Bool.not_true, Bool.not_false, Bool.true_and, Bool.false_and, e]) (rangeD 0 (p + 1)) [] v n (by simp [rangeD_length]; omega) ho (by simp [rangeD_length]; omega)
  rw [List.nil_append] at e
  rw [rangeD_length] at a1 a2
  exact ⟨ms, v', e, a1.mono (by omega), a2, a3⟩
/-- a drawn row, judged -/
theorem turn_step (hp : p < 8) {v : List P} {n : Nat} {z3 z4 z5 z6 z7 z8 : Option D} (hv : T.objs[r]? = some (.lst (pD v))) (ho : VOk n v) (hn : n ≤ 1000000) :
    ∃ (z7' : Option D) (v' : List P), lb__law_right_1 [some (.r r), some (.p (.int (p + 1 : Nat))), some (.p (.lst ((rowsP (p + 1)).map tupP))), z3, z4, z5, z6, z7, z8, none] T =
      .ok (.nx [some (.r r), some (.p (.int (p + 1 : Nat))), some (.p (.lst ((rowsP (p + 1)).map tupP))), z3, z4, z5, z6, z7', z8, none]) (setP T r v') ∧ VOk (n + 1000) v' := by
  have hr := at_lt hv
  obtain ⟨ms, v', e, a1, a2, a3⟩ := row_comp (T := T) (r := r) (z2 := some (.p (.lst ((rowsP (p + 1)).map tupP)))) (z3 := z3) (z4 := z4) (z5 := z5) (z6 := z6) (z7 := z7) (z8 := z8) hp hr ho hn rfl
  rw [setP_same hv] at e
  have rg : srcR1 [.p (.int (p + 1 : Nat))] T = some (⟨rangeD 0 (p + 1), []⟩, T) := o_range1 (i := ((p + 1 : Nat) : Int)) (fit_small (by omega) (by omega))
  have fl : fLstF (dInts ms) (setP T r v') = some (lI ms, setP T r v') := f_lstF (by omega)
  have ft : fToT [lI ms] (setP T r v') = some (tI ms, setP T r v') := f_toT_l
  have ro : RowOk ms := ⟨by omega, by omega, fun x hx => (a3 x hx).1, fun x hx => by
    have := (a3 x hx).2
    unfold MAXN
    omega⟩
  have nr := p_is_nested_row (S := setP T r v') ro
  have sr : fSrt true fLstF [tI ms] (setP T r v') = some (lI (sortDn ms), setP T r v') := f_srt (b := true) tI_seq (by omega)
  have ft2 : fToT [lI (sortDn ms)] (setP T r v') = some (tI (sortDn ms), setP T r v') := f_toT_l
  have mi := o_inRows (S := setP T r v') (a := sortDn ms) (L := rowsP (p + 1))
  rw [← nest_rows hp (by rw [sortDn_len, a2]) (sortDn_dn ms) fun x hx => by
    have := a3 x ((sortDn_perm ms).mem_iff.mp hx)
    omega] at mi
  have nb : ∀ b : Bool, fNe (.p (.bl b)) (.p (.bl b)) (setP T r v') = some (.p (.bl false), setP T r v') := fun b => o_neSame (x := .bl b) (z := .bool b) (by simp [P.py]) (by cases b <;> decide)
  refine ⟨some (tI ms), v', ?_, a1⟩
  generalize rowsP (p + 1) = R at *
  have sb : sortBy true ms = sortDn ms := rfl
  unfold lb__law_right_1
  simp -implicitDefEqProofs (disch := walk_at "dl") only [r_ok, r_c, r_op2, r_op1, r_nil, r_cons, r_callB, r_call, r_and, r_or, r_not, r_asB, r_if, r_andT, r_orT, r_notT, r_test, r_chain, r_seq, r_nx, r_rt, r_bk, r_ct, r_next, r_break, r_cont, r_drop, r_ret, r_retN, r_asg, r_aug, r_ifS, r_par, r_sl, r_noPart, r_part, r_asInt, r_put, r_for, r_src, r_srcA, r_comp, r_oNx, r_oCt, r_oBk, r_oRt, r_yes, t_lift, t_some, t_var, t_vsome, t_liftS, t_ssome, t_meth, t_lstO, t_lstOF, List.getElem?_cons_zero, List.getElem?_cons_succ, List.set_cons_zero, List.set_cons_succ, o_add, o_addI, o_sub, o_neg, o_lt, o_le, o_gt, o_ge, o_eq, o_ne, o_int, o_intB, o_abs, o_max, o_min, r_env, List.map_cons, List.map_nil, List.length_cons, List.length_nil, Nat.zero_add, Nat.reduceAdd, Nat.reduceSub, Nat.reduceLeDiff, List.replicate_succ, List.replicate_zero, List.cons_append, List.nil_append, Bool.false_eq_true, if_true, if_false, gPar, List.zip_cons_cons, List.zip_nil_right, List.zip_nil_left, List.foldl_cons, List.foldl_nil, unsetE, r_err, r_assoc, r_iteB, wp_ok, q_lstI, q_mul, q_div, q_range1, q_range2, q_lenT, q_lenL, q_sumT, q_sumL, q_srcT, q_srcL, q_new0, q_lst, q_append, q_extend, q_lenR, q_toTR, q_l1, q_l2, q_l3, q_l4, q_addL, q_addT, q_srtT, q_srtL, f_toT_l, f_toT_t, o_mod, Bool.not_true, Bool.not_false, Bool.true_and, Bool.false_and, sb, rg, e, fl, ft, nr, sr, ft2, mi, nb]
theorem turn_loop (hp : p < 8) {z3 z4 z5 z8 : Option D} (hr : r < T.objs.length) : ∀ (c t : Nat) (v : List P) (n : Nat) (z6 z7 : Option D), VOk n v → n + 1000 * c ≤ 1000000 → ∃ (z6' z7' : Option D) (v' : List P),
    loopI [] (gNm 6) lb__law_right_1 (rangeD (t : Int) c) [some (.r r), some (.p (.int (p + 1 : Nat))), some (.p (.lst ((rowsP (p + 1)).map tupP))), z3, z4, z5, z6, z7, z8, none] (setP T r v) =
      .ok (.nx [some (.r r), some (.p (.int (p + 1 : Nat))), some (.p (.lst ((rowsP (p + 1)).map tupP))), z3, z4, z5, z6', z7', z8, none]) (setP T r v') ∧ VOk (n + 1000 * c) v'
  | 0, t, v, n, z6, z7, ho, hn => by
    refine ⟨z6, z7, v, ?_, ho⟩
    show loopI [] _ _ [] _ _ = _
    rw [loopI_nil rfl]
  | c + 1, t, v, n, z6, z7, ho, hn => by
    obtain ⟨z7', v1, e1, o1⟩ := turn_step (T := setP T r v) (r := r) (z3 := z3) (z4 := z4) (z5 := z5) (z6 := some (.p (.int t))) (z7 := z7) (z8 := z8) hp (setP_at hr) ho (by omega)
    rw [setP_setP] at e1
    obtain ⟨z6', z7'', v2, e2, o2⟩ := turn_loop (z3 := z3) (z4 := z4) (z5 := z5) (z8 := z8) hp hr c (t + 1) v1 (n + 1000) (some (.p (.int t))) z7' o1 (by omega)
    refine ⟨z6', z7'', v2, ?_, o2.mono (by omega)⟩
    rw [rangeD_succ, loopI_cons rfl (ρ' := [some (.r r), some (.p (.int (p + 1 : Nat))), some (.p (.lst ((rowsP (p + 1)).map tupP))), z3, z4, z5, some (.p (.int t)), z7, z8, none]) rfl, e1, r_ok, r_oNx]
    have e : ((t : Int) + 1) = ((t + 1 : Nat) : Int) := by omega
    rw [e]
    exact e2
/-- one draw of all -/
theorem size_eq : ∀ p : Nat, p < 8 → (((p + 1 : Nat) : Int) * (((p + 1 : Nat) : Int) - 1) + 3) = (((p + 1) * p + 3 : Nat) : Int) := by decide
theorem p_right {v : List P} (hv : T.objs[r]? = some (.lst (pD v))) (ho : VOk 0 v) : ∃ v', m__law_right [.r r] T = .ok (.p (.bl true)) (setP T r v') := by
  have hr := at_lt hv
  obtain ⟨i, v1, e1, o1, i0, i1⟩ := p_dip (size := 8) hv ho (by omega) (by decide) (by decide)
  obtain ⟨p, rfl⟩ : ∃ p : Nat, i = p := ⟨i.toNat, by omega⟩
  have hp : p < 8 := by omega
  have ep : (1 + (p : Int)) = ((p + 1 : Nat) : Int) := by omega
  have kw := k_manyW p hp
  obtain ⟨k0, km⟩ := k_many p hp
  have wd := p_words (S := setP T r v1) hp
  have cw : compI [] (gNm 8) mYes ce__law_right [some (.r r), some (.p (.int (p + 1 : Nat))), none, none, none, none, none, none, none, none] [] ((wordsP (p + 1)).map tupI) (setP T r v1) = .ok ([] ++ ((wordsP (p + 1)).filter fun _ => true).map fun w => tupI (rowOfP w)) (setP T r v1) := by
    refine compI_rows (p := fun _ => true) (f := fun w => tupI (rowOfP w)) _ _ (by simp; omega) fun x hx => ⟨_, rfl, rfl, fun _ => ?_⟩
    have := p_row_of (S := setP T r v1) hp hx
    unfold ce__law_right
    simp only [r_ok, r_c, r_op2, r_op1, r_nil, r_cons, r_callB, r_call, r_and, r_or, r_not, r_asB, r_if, r_andT, r_orT, r_notT, r_test, r_chain, r_seq, r_nx, r_rt, r_bk, r_ct, r_next, r_break, r_cont, r_drop, r_ret, r_retN, r_asg, r_aug, r_ifS, r_par, r_sl, r_noPart, r_part, r_asInt, r_put, r_for, r_src, r_srcA, r_comp, r_meth, r_oNx, r_oCt, r_oBk, r_oRt, r_yes, r_var', r_lift', List.getElem?_cons_zero, List.getElem?_cons_succ, List.set_cons_zero, List.set_cons_succ, o_add, o_addI, o_sub, o_neg, o_lt, o_le, o_gt, o_ge, o_eq, o_ne, o_int, o_intB, o_abs, o_max, o_min, r_env, List.map_cons, List.map_nil, List.length_cons, List.length_nil, Nat.zero_add, Nat.reduceAdd, Nat.reduceSub, List.replicate_succ, List.replicate_zero, List.cons_append, List.nil_append, Bool.false_eq_true, if_true, if_false, gPar, List.zip_cons_cons, List.zip_nil_right, List.zip_nil_left, List.foldl_cons, List.foldl_nil, unsetE, r_err]
    exact this
  have ew : ([] ++ ((wordsP (p + 1)).filter fun _ => true).map fun w => tupI (rowOfP w)) = ((wordsP (p + 1)).map rowOfP).map tupI := by
    rw [List.nil_append, List.filter_eq_self.mpr (fun _ _ => rfl), List.map_map]
    rfl
  rw [ew] at cw
  have fl := f_lstRows (S := setP T r v1) (L := (wordsP (p + 1)).map rowOfP) (by rw [List.length_map]; omega)
  have pm := sortT_perm ((wordsP (p + 1)).map rowOfP)
  have nz : ∀ x ∈ rowsP (p + 1), x ≠ [] := fun x hx e => by
    have := rows_len hp hx
    rw [e] at this
    simp at this
  have so : fSort fLstF [.p (.lst (((wordsP (p + 1)).map rowOfP).map tupP))] (setP T r v1) = some (.p (.lst ((rowsP (p + 1)).map tupP)), setP T r v1) := o_sortRows (fun x hx => nz x (pm.mem_iff.mpr hx)) (fun e => by
    have h1 : (rowsP (p + 1)).length = ((wordsP (p + 1)).map rowOfP).length := pm.length_eq
    rw [e] at h1
    simp at h1
    rw [h1] at k0
    simp at k0) (by rw [List.length_map]; omega)
  have ls := o_lenSet (S := setP T r v1) nz (k_hash p hp) (by omega)
  have ln := f_lenLP (S := setP T r v1) (ps := (rowsP (p + 1)).map tupP)
  rw [List.length_map] at ln
  have hm : fMulA fLstF (.p (.int (p + 1 : Nat))) (.p (.int (((p + 1 : Nat) : Int) - 1))) (setP T r v1) = some (.p (.int (((p + 1 : Nat) : Int) * (((p + 1 : Nat) : Int) - 1))), setP T r v1) := o_mul (bits_small (by omega)) (bits_small (by omega))
  have sz := size_eq p hp
  have small : (p + 1) * p + 3 ≤ 1000 := by
    have : (p + 1) * p ≤ 8 * 8 := Nat.mul_le_mul (by omega) (by omega)
    omega
  have rg : srcR1 [.p (.int (((p + 1) * p + 3 : Nat) : Int))] (setP T r v1) = some (⟨rangeD 0 ((p + 1) * p + 3), []⟩, setP T r v1) := o_range1 (i := (((p + 1) * p + 3 : Nat) : Int)) (fit_small (by omega) (by omega))
  obtain ⟨z4, z5, tl⟩ := tot_loop (r := r) (U := setP T r v1) (z5 := none) hp (rest := [none, none, none, none]) rfl ((p + 1) * p + 3) 0 none none (by omega)
  have c0 : cnt (rowsP (p + 1)) 0 = 0 := rfl
  have z0 : ((0 : Nat) : Int) = 0 := rfl
  rw [c0, z0] at tl
  have pw30 : fPow (.p (.int 10)) (.p (.int 30)) (setP T r v1) = some (.p (.int 1000000000000000000000000000000), setP T r v1) := by
    have := o_pow (S := setP T r v1) (i := 10) (j := 30) (by decide)
    rw [this]
    rfl
  have hg := p_huge (S := setP T r v1) hp
  have t0 : fTup [] (setP T r v1) = some (.p (.tup []), setP T r v1) := rfl
  have n0 : fNe (.p (.tup [])) (.p (.tup [])) (setP T r v1) = some (.p (.bl false), setP T r v1) := o_neT (L := [])
  have rg4 : srcR1 [.p (.int 4)] (setP T r v1) = some (⟨rangeD 0 4, []⟩, setP T r v1) := o_range1 (by decide)
  obtain ⟨z6, z7, v2, ul, o2⟩ := turn_loop (T := T) (r := r) (z3 := some (.p (.int ((rowsP (p + 1)).length : Nat)))) (z4 := z4) (z5 := z5) (z8 := none) hp hr 4 0 v1 1 none none o1 (by omega)
  rw [z0] at ul
  obtain ⟨q, v3, e3, o3, hq⟩ := p_pickN (T := setP T r v2) (r := r) (d := .p (.lst ((rowsP (p + 1)).map tupP))) sq_l (setP_at hr) o2 (by omega) (by rw [List.length_map]; omega) (by rw [List.length_map]; omega)
  rw [setP_setP] at e3
  obtain ⟨x, hx, rfl⟩ := List.mem_map.mp hq
  have xl := rows_len hp hx
  obtain ⟨qs, v4, e4, o4, pq⟩ := p_mixN (T := setP T r v3) (r := r) (ps := x.map P.int) (d := .p (tupP x)) (setP_at hr) o3 (by rw [List.length_map]; omega) rfl rfl (fun _ => rfl) (by rw [List.length_map]; omega)
  rw [setP_setP] at e4
  obtain ⟨ys, rfl, py⟩ := perm_ints pq
  obtain ⟨xd, _, xb, xn⟩ := rows_dn hp hx
  have yl := py.length_eq
  have ro : RowOk ys := ⟨by omega, by omega, fun y hy => (xb y (py.mem_iff.mp hy)).1, fun y hy => by
    have := (xb y (py.mem_iff.mp hy)).2
    unfold MAXN
    omega⟩
  have nr := p_is_nested_row (S := setP T r v4) ro
  rw [← sortDn_uniq py.symm xd, xn] at nr
  have nr' : m_is_nested_row [.p (.tup (ys.map P.int))] (setP T r v4) = .ok (.p (.bl true)) (setP T r v4) := nr
  refine ⟨v4, fn_same ?_ setP_len⟩
  unfold b__law_right
  generalize rowsP (p + 1) = R at *
  generalize wordsP (p + 1) = Wd at *
  generalize ((p + 1) * p + 3) = M at *
  simp -implicitDefEqProofs (disch := walk_at "dl") only [r_ok, r_c, r_op2, r_op1, r_nil, r_cons, r_callB, r_call, r_and, r_or, r_not, r_asB, r_if, r_andT, r_orT, r_notT, r_test, r_chain, r_seq, r_nx, r_rt, r_bk, r_ct, r_next, r_break, r_cont, r_drop, r_ret, r_retN, r_asg, r_aug, r_ifS, r_par, r_sl, r_noPart, r_part, r_asInt, r_put, r_for, r_src, r_srcA, r_comp, r_oNx, r_oCt, r_oBk, r_oRt, r_yes, t_lift, t_some, t_var, t_vsome, t_liftS, t_ssome, t_meth, t_lstO, t_lstOF, List.getElem?_cons_zero, List.getElem?_cons_succ, List.set_cons_zero, List.set_cons_succ, o_add, o_addI, o_sub, o_neg, o_lt, o_le, o_gt, o_ge, o_eq, o_ne, o_int, o_intB, o_abs, o_max, o_min, r_env, List.map_cons, List.map_nil, List.length_cons, List.length_nil, Nat.zero_add, Nat.reduceAdd, Nat.reduceSub, Nat.reduceLeDiff, List.replicate_succ, List.replicate_zero, List.cons_append, List.nil_append, Bool.false_eq_true, if_true, if_false, gPar, List.zip_cons_cons, List.zip_nil_right, List.zip_nil_left, List.foldl_cons, List.foldl_nil, unsetE, r_err, r_assoc, r_iteB, wp_ok, q_lstI, q_mul, q_div, q_range1, q_range2, q_lenT, q_lenL, q_sumT, q_sumL, q_srcT, q_srcL, q_new0, q_lst, q_append, q_extend, q_lenR, q_toTR, q_l1, q_l2, q_l3, q_l4, q_addL, q_addT, q_srtT, q_srtL, f_toT_l, f_toT_t, o_mod, Bool.not_true, Bool.not_false, Bool.true_and, Bool.false_and, e1, ep, wd, o_srcRows, cw, fl, so, ls, ln, hm, sz, rg, tl, pw30, hg, t0, n0, rg4, ul, e3, e4, f_toTP, nr', decide_true, Bool.not_true]
end
end DL
set_option maxHeartbeats 4000000
set_option exponentiation.threshold 400001
namespace DL
open PySem PySem.Spec PyProof.Rows L2
section
variable {S T U : Store}
theorem law_loop {sc : Option D} {ns : List Int} {rest : List (Option D)} (hs : sc = some (.p (.scr (ns.map P.int)))) {m : Nat} (hm : m ≤ 100) : Wp (loopI [] (gNm 1) lb_law (rangeD ((0 : Nat) : Int) m) (sc :: none :: rest) S) fun o T => ∃ z, o = .nx (sc :: z :: rest) ∧ Top T S := by
  subst hs
  refine wp_loop0 (I := fun xs ρ T => ∃ k z, k ≤ m ∧ xs = rangeD ((k : Nat) : Int) (m - k) ∧ ρ = some (.p (.scr (ns.map P.int))) :: z :: rest ∧ Top T S) ?_ ?_ ⟨0, none, by omega, rfl, rfl, top_self⟩
  · rintro x xs ρ T ⟨k, z, hk, ex, rfl, tp⟩
    obtain ⟨l, hl⟩ : ∃ l, m - k = l + 1 := by
      cases q : m - k with
      | zero => rw [q] at ex; cases ex
      | succ l => exact ⟨l, rfl⟩
    rw [hl, rangeD_succ] at ex
    cases ex
    refine ⟨_, rfl, ?_⟩
    obtain ⟨v, e1, o1⟩ := p_vat (S := T) (ns := ns) (spot := k) (by omega)
    obtain ⟨v2, e2⟩ := p_right (T := SP T v) (r := T.objs.length) SP_at o1
    have lT := top_len tp
    unfold lb_law
    simp only [List.set_cons_succ, List.set_cons_zero]
    simp -implicitDefEqProofs (disch := walk_at "dl") only [r_ok, r_c, r_op2, r_op1, r_nil, r_cons, r_callB, r_call, r_and, r_or, r_not, r_asB, r_if, r_andT, r_orT, r_notT, r_test, r_chain, r_seq, r_nx, r_rt, r_bk, r_ct, r_next, r_break, r_cont, r_drop, r_ret, r_retN, r_asg, r_aug, r_ifS, r_par, r_sl, r_noPart, r_part, r_asInt, r_put, r_for, r_src, r_srcA, r_comp, r_oNx, r_oCt, r_oBk, r_oRt, r_yes, t_lift, t_some, t_var, t_vsome, t_liftS, t_ssome, t_meth, t_lstO, t_lstOF, List.getElem?_cons_zero, List.getElem?_cons_succ, List.set_cons_zero, List.set_cons_succ, o_add, o_addI, o_sub, o_neg, o_lt, o_le, o_gt, o_ge, o_eq, o_ne, o_int, o_intB, o_abs, o_max, o_min, r_env, List.map_cons, List.map_nil, List.length_cons, List.length_nil, Nat.zero_add, Nat.reduceAdd, Nat.reduceSub, Nat.reduceLeDiff, List.replicate_succ, List.replicate_zero, List.cons_append, List.nil_append, Bool.false_eq_true, if_true, if_false, gPar, List.zip_cons_cons, List.zip_nil_right, List.zip_nil_left, List.foldl_cons, List.foldl_nil, unsetE, r_err, r_assoc, r_iteB, wp_ok, q_lstI, q_mul, q_div, q_range1, q_range2, q_lenT, q_lenL, q_sumT, q_sumL, q_srcT, q_srcL, q_new0, q_lst, q_append, q_extend, q_lenR, q_toTR, q_l1, q_l2, q_l3, q_l4, q_addL, q_addT, q_srtT, q_srtL, f_toT_l, f_toT_t, o_mod, Bool.not_true, Bool.not_false, Bool.true_and, Bool.false_and, t_insO, t_insP, t_seqL, t_seqT, t_seqLP, t_seqTP, t_seqR, t_methO, t_methS, t_prop, t_noErr, t_star, t_make, t_callK, t_callD, t_eqS, t_neS, e1, e2]
    exact ⟨k + 1, _, by omega, by rw [show m - (k + 1) = l by omega]; rfl, rfl, top_setP (top_SP tp) lT⟩
  · rintro ρ T ⟨k, z, hk, ex, rfl, tp⟩
    exact ⟨z, rfl, tp⟩
theorem law_plain (ns : List Int) (h1 : ns.length ≤ 63) (h2 : ∀ z ∈ ns, Builtin.Int.intBits z ≤ 1048576) : ∃ S', m_law [.p (.scr (ns.map P.int))] ⟨[], rfl⟩ = .ok (.p (.bl true)) S' := by
  generalize (⟨[], rfl⟩ : Store) = S
  have ln : fLen [.p (.scr (ns.map P.int))] S = some (.p (.int ns.length), S) := by
    have := f_len (S := S) (d := .p (.scr (ns.map P.int))) (xs := pD (ns.map P.int)) rfl
    simpa [pD] using this
  refine ⟨S, eq_fnP ?_⟩
  unfold b_law
  simp -implicitDefEqProofs (disch := walk_at "dl") only [r_ok, r_c, r_op2, r_op1, r_nil, r_cons, r_callB, r_call, r_and, r_or, r_not, r_asB, r_if, r_andT, r_orT, r_notT, r_test, r_chain, r_seq, r_nx, r_rt, r_bk, r_ct, r_next, r_break, r_cont, r_drop, r_ret, r_retN, r_asg, r_aug, r_ifS, r_par, r_sl, r_noPart, r_part, r_asInt, r_put, r_for, r_src, r_srcA, r_comp, r_oNx, r_oCt, r_oBk, r_oRt, r_yes, t_lift, t_some, t_var, t_vsome, t_liftS, t_ssome, t_meth, t_lstO, t_lstOF, List.getElem?_cons_zero, List.getElem?_cons_succ, List.set_cons_zero, List.set_cons_succ, o_add, o_addI, o_sub, o_neg, o_lt, o_le, o_gt, o_ge, o_eq, o_ne, o_int, o_intB, o_abs, o_max, o_min, r_env, List.map_cons, List.map_nil, List.length_cons, List.length_nil, Nat.zero_add, Nat.reduceAdd, Nat.reduceSub, Nat.reduceLeDiff, List.replicate_succ, List.replicate_zero, List.cons_append, List.nil_append, Bool.false_eq_true, if_true, if_false, gPar, List.zip_cons_cons, List.zip_nil_right, List.zip_nil_left, List.foldl_cons, List.foldl_nil, unsetE, r_err, r_assoc, r_iteB, wp_ok, q_lstI, q_mul, q_div, q_range1, q_range2, q_lenT, q_lenL, q_sumT, q_sumL, q_srcT, q_srcL, q_new0, q_lst, q_append, q_extend, q_lenR, q_toTR, q_l1, q_l2, q_l3, q_l4, q_addL, q_addT, q_srtT, q_srtL, f_toT_l, f_toT_t, o_mod, Bool.not_true, Bool.not_false, Bool.true_and, Bool.false_and, t_insO, t_insP, t_seqL, t_seqT, t_seqLP, t_seqTP, t_seqR, t_methO, t_methS, t_prop, t_noErr, t_star, t_make, t_callK, t_callD, t_eqS, t_neS, ln]
  refine wp_with (law_loop (S := S) (ns := ns) rfl (by omega)) fun o T ⟨z, e, tp⟩ => ?_
  subst e
  have w1 := p_told (S := T) k_t1
  have w2 := p_told (S := T) k_t2
  have w3 := p_told (S := T) k_t3
  have w4 := p_told (S := T) k_t4
  have w5 := p_told (S := T) k_t5
  have f1 : fLstF [.p (.tup [tupP [3, 2, 2, 1]]), .p (.tup [tupP [2, 2, 2, 0], tupP [3, 1, 1, 1]]), .p (.tup []), .p (.tup [tupP [0]]), .p (.tup [tupP [9, 9, 9, 9, 9, 9, 9, 9, 9, 9]])] T = some (.p (.lst [.tup [tupP [3, 2, 2, 1]], .tup [tupP [2, 2, 2, 0], tupP [3, 1, 1, 1]], .tup [], .tup [tupP [0]], .tup [tupP [9, 9, 9, 9, 9, 9, 9, 9, 9, 9]]]), T) := rfl
  have a1 : fTup [.p (.int 3), .p (.int 2), .p (.int 2), .p (.int 1)] T = some (.p (tupP [3, 2, 2, 1]), T) := rfl
  have a2 : fTup [.p (.int 2), .p (.int 2), .p (.int 2), .p (.int 0)] T = some (.p (tupP [2, 2, 2, 0]), T) := rfl
  have a3 : fTup [.p (.int 3), .p (.int 1), .p (.int 1), .p (.int 1)] T = some (.p (tupP [3, 1, 1, 1]), T) := rfl
  have a4 : fTup [.p (.int 0)] T = some (.p (tupP [0]), T) := rfl
  have a5 : fTup [.p (.int 9)] T = some (.p (tupP [9]), T) := rfl
  have a6 : fMulA fLstF (.p (tupP [9])) (.p (.int 10)) T = some (.p (tupP [9, 9, 9, 9, 9, 9, 9, 9, 9, 9]), T) := rfl
  have b1 : ∀ x : P, fTup [.p x] T = some (.p (.tup [x]), T) := fun _ => rfl
  have b2 : ∀ x y : P, fTup [.p x, .p y] T = some (.p (.tup [x, y]), T) := fun _ _ => rfl
  have b0 : fTup [] T = some (.p (.tup []), T) := rfl
  have eq1 : fEq (.p (.lst [.tup [tupP [3, 2, 2, 1]], .tup [tupP [2, 2, 2, 0], tupP [3, 1, 1, 1]], .tup [], .tup [tupP [0]], .tup [tupP [9, 9, 9, 9, 9, 9, 9, 9, 9, 9]]])) (.p (.lst [.tup [tupP [3, 2, 2, 1]], .tup [tupP [2, 2, 2, 0], tupP [3, 1, 1, 1]], .tup [], .tup [tupP [0]], .tup [tupP [9, 9, 9, 9, 9, 9, 9, 9, 9, 9]]])) T = some (.p (.bl true), T) := o_eqSame rfl (by decide +kernel)
  simp -implicitDefEqProofs (disch := walk_at "dl") only [r_ok, r_c, r_op2, r_op1, r_nil, r_cons, r_callB, r_call, r_and, r_or, r_not, r_asB, r_if, r_andT, r_orT, r_notT, r_test, r_chain, r_seq, r_nx, r_rt, r_bk, r_ct, r_next, r_break, r_cont, r_drop, r_ret, r_retN, r_asg, r_aug, r_ifS, r_par, r_sl, r_noPart, r_part, r_asInt, r_put, r_for, r_src, r_srcA, r_comp, r_oNx, r_oCt, r_oBk, r_oRt, r_yes, t_lift, t_some, t_var, t_vsome, t_liftS, t_ssome, t_meth, t_lstO, t_lstOF, List.getElem?_cons_zero, List.getElem?_cons_succ, List.set_cons_zero, List.set_cons_succ, o_add, o_addI, o_sub, o_neg, o_lt, o_le, o_gt, o_ge, o_eq, o_ne, o_int, o_intB, o_abs, o_max, o_min, r_env, List.map_cons, List.map_nil, List.length_cons, List.length_nil, Nat.zero_add, Nat.reduceAdd, Nat.reduceSub, Nat.reduceLeDiff, List.replicate_succ, List.replicate_zero, List.cons_append, List.nil_append, Bool.false_eq_true, if_true, if_false, gPar, List.zip_cons_cons, List.zip_nil_right, List.zip_nil_left, List.foldl_cons, List.foldl_nil, unsetE, r_err, r_assoc, r_iteB, wp_ok, q_lstI, q_mul, q_div, q_range1, q_range2, q_lenT, q_lenL, q_sumT, q_sumL, q_srcT, q_srcL, q_new0, q_lst, q_append, q_extend, q_lenR, q_toTR, q_l1, q_l2, q_l3, q_l4, q_addL, q_addT, q_srtT, q_srtL, f_toT_l, f_toT_t, o_mod, Bool.not_true, Bool.not_false, Bool.true_and, Bool.false_and, t_insO, t_insP, t_seqL, t_seqT, t_seqLP, t_seqTP, t_seqR, t_methO, t_methS, t_prop, t_noErr, t_star, t_make, t_callK, t_callD, t_eqS, t_neS, w1, w2, w3, w4, w5, f1, a1, a2, a3, a4, a5, a6, b1, b2, b0, eq1]
  exact ⟨by first | trivial | rfl, tp⟩
end
end DL
set_option maxHeartbeats 0
namespace DL
open PySem PySem.Spec PyProof.Rows L2 LamX
/-! ### the head -/
def ddf (x : Str) (i : Nat) : He.DefD := ⟨(x, none), x, x, defArgs (top i), defBody (top i), defScope (top i), [], []⟩
def hfn : List He.DefD := [ddf "_law_dip" 22, ddf "_law_mixed" 24, ddf "_law_pick" 23, ddf "_law_row_of" 26, ddf "_law_words" 25, ddf "falling" 14, ddf "is_nested_in" 16, ddf "is_integer" 1, ddf "is_from" 2, ddf "is_amount" 11, ddf "is_row" 12, ddf "require_row" 13, ddf "is_nested_row" 17, ddf "nested_in" 18, ddf "nested_rows" 19, ddf "_law_right" 27, ddf "_law_vat" 21, ddf "law" 28]
def hfa : List He.Fa := [.free "abs", .free "all", .free "bool", .free "enumerate", .free "int", .free "isinstance", .free "len", .free "list", .free "max", .free "min", .free "range", .free "set", .free "sorted", .free "sum", .free "super", .free "tuple", .int "MAX_LENGTH" 64, .int "MAX_NUMBER" 999999999999999999999999999999, .int "MAX_PLACES" 16, .glo "_law_dip", .glo "_law_mixed", .glo "_law_pick", .glo "_law_row_of", .glo "_law_words", .glo "falling", .glo "is_nested_in", .glo "is_integer", .glo "is_from", .glo "is_amount", .glo "is_row", .glo "require_row", .glo "is_nested_row", .glo "nested_in", .glo "nested_rows", .glo "_law_right", .glo "_law_vat", .glo "law", .glo "InvalidNumber", .glo "InvalidSums", .exc "InvalidSums"]
def htf : List He.Defn := []
def hex (K : PySem.W.Frag) : Bool := (iniB TopR.main.file K "InvalidNumber" "InvalidNumber.__init__" "value" "IndexError" "IndexError.__init__" "IndexError.__new__" [.type "IndexError", .type "LookupError", .type "Exception", .type "BaseException", .type "object"]) && (decide ((htf.map fun p => (He.cT K p).2).Nodup))
def hin (x q : Str) (i : Nat) : IniD := ⟨x, q, defArgs (clsInit (top i)), defBody (clsInit (top i)), defScope (clsInit (top i)), none⟩
def hip (c m q : Str) (i j : Nat) : IniD := ⟨c, q, defArgs (clsMem (top i) j), defBody (clsMem (top i) j), defScope (clsMem (top i) j), some m⟩
def hins : List IniD := [hin "InvalidNumber" "InvalidNumber.__init__" 6]
abbrev hrow : PySem.W.OpenRow := PySem.W.OpenLaw.row PySem.Challenge.rw_arrowsums_k31_whole_nested_rows_listed
abbrev hhk : PySem.W.Hook := hookI 4 hfa hfn [] htf hex hins
def hob (s : PySem.W.SharedT) : AlI := obsI 4 hfa hfn [] htf hex hins (HandSHeadRun.getT s)
theorem hob_eq (s : PySem.W.SharedT) : hob s = hhk.obs s.abs := obsI_eq (HandSHeadRun.getT_eq s)
def loose0 : List Str := ["is_integer", "is_from", "SumError", "InvalidSums", "InvalidNumber", "MAX_PLACES", "MAX_LENGTH", "MAX_NUMBER", "is_amount", "is_row", "require_row", "falling", "is_nested_in", "is_nested_row", "nested_in", "nested_rows", "_law_vat", "_law_dip", "_law_pick", "_law_mixed", "_law_words", "_law_row_of", "_law_right"]
def loose : List Str := loose0
theorem hrun (w : World) : HandSHeadRun.RunEq hrow (PySem.W.view hrow.prog [28]) hhk hob 10000 loose w := by
  intro os
  kernel_rfl
theorem chA_it {mg : Str → Option Value} {x : Str} {a : Addr} (h : mg x = some (.ref a)) : mg x = some (.ref (chA mg x)) := by rw [chA_of h]; exact h
theorem htxt {w : World} {K : PySem.W.Frag} {h : Heap} {mg : Str → Option Value} (X : K.In h) (G : h.Ns mainGlobals mg) (c : He.SaysD hfa hfn K) (m : hex K = true) (ci : (hins.map fun d => iniW K d) = hins.map IniD.val) : Txt TopR w K mg where
  k_InvalidNumber := chA_it (He.glo_ok X G (c.fact 37 (f := .glo "InvalidNumber") rfl))
  k_InvalidSums := chA_it (He.glo_ok X G (c.fact 38 (f := .glo "InvalidSums") rfl))
  e_InvalidSums := let z := He.exc_ok (c.fact 39 (f := .exc "InvalidSums") rfl); ⟨_, (He.glo_ok X G (c.fact 38 (f := .glo "InvalidSums") rfl)), z.1, z.2.1, z.2.2.1, z.2.2.2⟩
  n_InvalidNumber := ⟨_, _, _, _, _, _, iniC_of (P := TopR) (He.ba m).1 (He.glo_ok X G (c.fact 37 (f := .glo "InvalidNumber") rfl)) (He.free_ok X G (c.fact 14 (f := .free "super") rfl)) (List.cons.inj ci).1 PySem.F.excBase_IndexError PySem.F.store_IndexError PySem.W.kxs_IndexError rfl ⟨_, rfl, rfl⟩ rfl rfl rfl rfl rfl rfl (by decide +kernel) rfl rfl rfl rfl rfl (by intros; rfl) (by intros; rfl) (by intros; rfl) (by intros; rfl) (fun _ _ _ _ _ _ _ _ _ => BindsTo.of_eq rfl)⟩
  hmt := fun _ z => absurd z List.not_mem_nil
  f_abs := He.free_ok X G (c.fact 0 (f := .free "abs") rfl)
  f_all := He.free_ok X G (c.fact 1 (f := .free "all") rfl)
  f_bool := He.free_ok X G (c.fact 2 (f := .free "bool") rfl)
  f_enumerate := He.free_ok X G (c.fact 3 (f := .free "enumerate") rfl)
  f_int := He.free_ok X G (c.fact 4 (f := .free "int") rfl)
  f_isinstance := He.free_ok X G (c.fact 5 (f := .free "isinstance") rfl)
  f_len := He.free_ok X G (c.fact 6 (f := .free "len") rfl)
  f_list := He.free_ok X G (c.fact 7 (f := .free "list") rfl)
  f_max := He.free_ok X G (c.fact 8 (f := .free "max") rfl)
  f_min := He.free_ok X G (c.fact 9 (f := .free "min") rfl)
  f_range := He.free_ok X G (c.fact 10 (f := .free "range") rfl)
  f_set := He.free_ok X G (c.fact 11 (f := .free "set") rfl)
  f_sorted := He.free_ok X G (c.fact 12 (f := .free "sorted") rfl)
  f_sum := He.free_ok X G (c.fact 13 (f := .free "sum") rfl)
  f_super := He.free_ok X G (c.fact 14 (f := .free "super") rfl)
  f_tuple := He.free_ok X G (c.fact 15 (f := .free "tuple") rfl)
  i_MAX_LENGTH := He.int_ok X G (c.fact 16 (f := .int "MAX_LENGTH" 64) rfl)
  i_MAX_NUMBER := He.int_ok X G (c.fact 17 (f := .int "MAX_NUMBER" 999999999999999999999999999999) rfl)
  i_MAX_PLACES := He.int_ok X G (c.fact 18 (f := .int "MAX_PLACES" 16) rfl)
  d__law_dip := let ⟨fd, F⟩ := c.def_ 0 (d := ddf "_law_dip" 22) rfl; ⟨_, fd, (He.glo_ok X G (c.fact 19 (f := .glo "_law_dip") rfl)), F⟩
  d__law_mixed := let ⟨fd, F⟩ := c.def_ 1 (d := ddf "_law_mixed" 24) rfl; ⟨_, fd, (He.glo_ok X G (c.fact 20 (f := .glo "_law_mixed") rfl)), F⟩
  d__law_pick := let ⟨fd, F⟩ := c.def_ 2 (d := ddf "_law_pick" 23) rfl; ⟨_, fd, (He.glo_ok X G (c.fact 21 (f := .glo "_law_pick") rfl)), F⟩
  d__law_row_of := let ⟨fd, F⟩ := c.def_ 3 (d := ddf "_law_row_of" 26) rfl; ⟨_, fd, (He.glo_ok X G (c.fact 22 (f := .glo "_law_row_of") rfl)), F⟩
  d__law_words := let ⟨fd, F⟩ := c.def_ 4 (d := ddf "_law_words" 25) rfl; ⟨_, fd, (He.glo_ok X G (c.fact 23 (f := .glo "_law_words") rfl)), F⟩
  d_falling := let ⟨fd, F⟩ := c.def_ 5 (d := ddf "falling" 14) rfl; ⟨_, fd, (He.glo_ok X G (c.fact 24 (f := .glo "falling") rfl)), F⟩
  d_is_nested_in := let ⟨fd, F⟩ := c.def_ 6 (d := ddf "is_nested_in" 16) rfl; ⟨_, fd, (He.glo_ok X G (c.fact 25 (f := .glo "is_nested_in") rfl)), F⟩
  d_is_integer := let ⟨fd, F⟩ := c.def_ 7 (d := ddf "is_integer" 1) rfl; ⟨_, fd, (He.glo_ok X G (c.fact 26 (f := .glo "is_integer") rfl)), F⟩
  d_is_from := let ⟨fd, F⟩ := c.def_ 8 (d := ddf "is_from" 2) rfl; ⟨_, fd, (He.glo_ok X G (c.fact 27 (f := .glo "is_from") rfl)), F⟩
  d_is_amount := let ⟨fd, F⟩ := c.def_ 9 (d := ddf "is_amount" 11) rfl; ⟨_, fd, (He.glo_ok X G (c.fact 28 (f := .glo "is_amount") rfl)), F⟩
  d_is_row := let ⟨fd, F⟩ := c.def_ 10 (d := ddf "is_row" 12) rfl; ⟨_, fd, (He.glo_ok X G (c.fact 29 (f := .glo "is_row") rfl)), F⟩
  d_require_row := let ⟨fd, F⟩ := c.def_ 11 (d := ddf "require_row" 13) rfl; ⟨_, fd, (He.glo_ok X G (c.fact 30 (f := .glo "require_row") rfl)), F⟩
  d_is_nested_row := let ⟨fd, F⟩ := c.def_ 12 (d := ddf "is_nested_row" 17) rfl; ⟨_, fd, (He.glo_ok X G (c.fact 31 (f := .glo "is_nested_row") rfl)), F⟩
  d_nested_in := let ⟨fd, F⟩ := c.def_ 13 (d := ddf "nested_in" 18) rfl; ⟨_, fd, (He.glo_ok X G (c.fact 32 (f := .glo "nested_in") rfl)), F⟩
  d_nested_rows := let ⟨fd, F⟩ := c.def_ 14 (d := ddf "nested_rows" 19) rfl; ⟨_, fd, (He.glo_ok X G (c.fact 33 (f := .glo "nested_rows") rfl)), F⟩
  d__law_right := let ⟨fd, F⟩ := c.def_ 15 (d := ddf "_law_right" 27) rfl; ⟨_, fd, (He.glo_ok X G (c.fact 34 (f := .glo "_law_right") rfl)), F⟩
  d__law_vat := let ⟨fd, F⟩ := c.def_ 16 (d := ddf "_law_vat" 21) rfl; ⟨_, fd, (He.glo_ok X G (c.fact 35 (f := .glo "_law_vat") rfl)), F⟩
  d_law := let ⟨fd, F⟩ := c.def_ 17 (d := ddf "law" 28) rfl; ⟨_, fd, (He.glo_ok X G (c.fact 36 (f := .glo "law") rfl)), F⟩
theorem hlam {K : PySem.W.Frag} {h base : Heap} {mg : Str → Option Value} (X : K.In h) (G : h.Ns mainGlobals mg) (c : He.SaysD hfa hfn K) (m : hex K = true) (TB : ∀ p ∈ htf.map (fun p => (He.cT K p, lamQ p.1)), TabB base mg p.1.1 p.1.2) : @Lams ⟨(htf.map (fun p => (He.cT K p, lamQ p.1))).map fun p => (p.1.2, p.2)⟩ K mg base := by
  letI I : HasT := ⟨(htf.map (fun p => (He.cT K p, lamQ p.1))).map fun p => (p.1.2, p.2)⟩
  have nd : (HasT.T.map (·.1)).Nodup := by
    show (((htf.map (fun p => (He.cT K p, lamQ p.1))).map fun p => (p.1.2, p.2)).map (·.1)).Nodup
    rw [List.map_map, List.map_map]
    exact of_decide_eq_true (He.ba m).2
  refine ⟨⟩
end DL
open PySem PySem.W PySem.Calls PyProof.Rows
theorem PySem.Challenge.cw_arrowsums_k31_whole_nested_rows_listed_holds : PySem.Challenge.rw_arrowsums_k31_whole_nested_rows_listed.Holds := by
  w_on; o_law
  refine HandSHeadRun.head_any (r := DL.hrow) (q := view DL.hrow.prog [28]) (H := DL.hhk) (ob := DL.hob) (M := 10000) (loose := DL.loose) (d := HandSHeadRun.topDef DL.hrow.prog 28) (kwd := []) DL.hob_eq
    (by kernel_rfl) (fun s => by kernel_rfl) DL.hrun (by kernel_rfl) (by kernel_rfl) (by kernel_rfl) (by rfl) (by first | assumption | decide +kernel) (by decide +kernel) ⟨rfl, rfl, rfl, rfl, rfl, by decide +kernel⟩ ?hw ?hc
  case hw => w_witness2
  case hc =>
    refine DL.walk_G (l := PySem.Challenge.rw_arrowsums_k31_whole_nested_rows_listed) (n := 63) (k := 24) (x := "script") (mf := DL.m_law) rfl (by decide) (by kernel_rfl) ⟨rfl, by decide, by decide⟩ DL.law_plain ?_
    intro w mg fa h Y G hmg0
    obtain ⟨K, KX, c, ci⟩ := Y
    have hmg : mg ("law" : PySem.Str) = some (.ref fa) := by
      have e : (HandSHeadRun.topDef DL.hrow.prog 28).name = ("law" : PySem.Str) := by kernel_rfl
      rw [← e]
      exact hmg0
    have T := DL.htxt (w := w) KX G c.t.d c.more ci
    obtain ⟨f, fd, hg, Fd⟩ := T.d_law
    have ef : fa = f := by
      rw [hg] at hmg
      cases hmg
      rfl
    subst ef
    refine ⟨K, fd, DL.htf.map (fun p => (He.cT K p, DL.lamQ p.1)), KX, fun p hp => ?_, fun p hp => ?_, fun p hp => ?_, fun s v => L2.FunD.bindsA (ps := ["script"]) Fd (fun _ _ _ _ _ _ us hl => match us, hl with | [_], _ => rfl) s [v] rfl, fun base _ _ TB => ?_⟩
    · obtain ⟨q, hq, rfl⟩ := List.mem_map.mp hp
      exact c.empty q hq
    · obtain ⟨q, hq, rfl⟩ := List.mem_map.mp hp
      exact c.out q hq
    · obtain ⟨q, hq, rfl⟩ := List.mem_map.mp hp
      exact codeHd_of_K KX (c.hd q hq)
    letI : DL.HasT := ⟨(DL.htf.map (fun p => (He.cT K p, DL.lamQ p.1))).map fun p => (p.1.2, p.2)⟩
    exact DL.G_law T (DL.hlam KX G c.t.d c.more TB) Fd
