import PyProof.Rows.All
import Wide.All
import OpenK.AllK
import Wide.FinOn
import PySem.Challenge.RW_arrowsums_k74_whole_fillings_and_order
import HandS.ForMost
import HandS.ForExc
import HandS.WordsExc
import HandS.Lambda
import HandS.Wide
import HandS.Style
import HandS.TupAny
import HandS.TupMul
import HandS.SortInts
import HandS.IsInst
import HandS.Zip
import HandS.Rev
import HandS.Defaults
import HandS.ExcOwn
import HandS.Deep
import HandS.RaiseMore
import PyProof.ReprReads
import HandS.SortKw
import KE.KTupSum
import KE.DataAny
import KE.DataMinMax
import KE.OsSort
import HandS.Set
import HandS.More
import HandS.SetFor
import KE.GoesEnum
import HandS.Conv
import HandS.Dict
import HandS.EndTab
import HandS.HeadEnd
import HandS.TryMany
import HandS.ExcField
import HandS.ExcInit
import KE.KExcInit
import KE.KExcSuper
import KE.KSuper
import HandS.ExcSuper
import PyProof.ReprRoads
import HandS.HeadHook4
import HandS.Property
import KE.KDictZip
import KE.KItemsList
import HandS.MakeKwOnly
import HandS.Flt
import HandS.Star
import HandS.Strs
import HandS.SortOrd
import HandS.TupSets
import KE.KDictPairs
import HandS.Iter
import KE.KDictDisplayH
import HandS.ClsMeth
import HandS.CallLocal
import PyProof.RulesMatchSeq
import KE.KUnpackStar
import HandS.TryOnly
import HandS.DictTup
import PyProof.ReprBulk
import KE.KStateDown
import HandS.Words
import HandS.Head0
import HandS.Head1
import HandS.Head2
import HandS.HeadHook1
import HandS.HeadHook2
set_option Elab.async false
set_option linter.all false
set_option maxRecDepth 100000
set_option maxHeartbeats 2000000
/-! DLBase: plain data, a store of changeable things, and what a reading of plain functions over them means in the layer's heap. -/
namespace DL
open PySem PySem.Spec PyProof.Rows L2

/-- data that never changes (a list here is one that nobody changes any more) -/
inductive P where
  | non | bl (b : Bool) | int (i : Int) | str (s : Str) | tup (xs : List P) | lst (xs : List P) | scr (xs : List P) | ins (c : Str) (fs : List (Str × P)) | dic (fs : List (Key × P)) | dit (fs : List (List Key × P)) | glo (x : Str) | ty (n : String)

/-- a value: data, a thing of the store, a tuple with such -/
inductive D where
  | p (x : P) | r (n : Nat) | t (xs : List D)

/-- a thing of the store -/
inductive O where
  | lst (xs : List D)
  | ins (c : Str) (fs : List (Str × D))
  | dct (fs : List (Key × D))
  | dit (fs : List (List Key × D))

mutual
def D.lo (k : Nat) : D → Bool
  | .p _ => true
  | .r n => decide (n < k)
  | .t xs => D.los k xs
def D.los (k : Nat) : List D → Bool
  | [] => true
  | x :: xs => D.lo k x && D.los k xs
end
def O.lo (k : Nat) : O → Bool
  | .lst xs => D.los k xs
  | .ins _ fs => D.los k (fs.map (·.2))
  | .dct fs => D.los k (fs.map (·.2))
  | .dit fs => D.los k (fs.map (·.2))
def allBelow (k : Nat) : List O → Bool
  | [] => true
  | o :: os => o.lo k && allBelow k os

structure Store where
  objs : List O
  wf : allBelow objs.length objs = true

theorem Store.ext' {S S' : Store} (h : S.objs = S'.objs) : S = S' := by
  cases S; cases S'; cases h; rfl

mutual
theorem D.lo_mono {j k : Nat} (h : j ≤ k) : ∀ {d : D}, d.lo j = true → d.lo k = true
  | .p _, _ => rfl
  | .r n, e => by
    simp only [D.lo, decide_eq_true_eq] at e ⊢
    omega
  | .t xs, e => by
    simp only [D.lo] at e ⊢
    exact D.los_mono h e
theorem D.los_mono {j k : Nat} (h : j ≤ k) : ∀ {ds : List D}, D.los j ds = true → D.los k ds = true
  | [], _ => rfl
  | x :: xs, e => by
    simp only [D.los, Bool.and_eq_true] at e ⊢
    exact ⟨D.lo_mono h e.1, D.los_mono h e.2⟩
end
theorem O.lo_mono {j k : Nat} (h : j ≤ k) {o : O} (e : o.lo j = true) : o.lo k = true := by
  cases o with
  | lst xs => exact D.los_mono h e
  | ins c fs => exact D.los_mono h e
  | dct fs => exact D.los_mono h e
  | dit fs => exact D.los_mono h e
theorem allBelow_mono {j k : Nat} (h : j ≤ k) : ∀ {os : List O}, allBelow j os = true → allBelow k os = true
  | [], _ => rfl
  | o :: os, e => by
    simp only [allBelow, Bool.and_eq_true] at e ⊢
    exact ⟨O.lo_mono h e.1, allBelow_mono h e.2⟩
theorem allBelow_append {k : Nat} : ∀ {a b : List O}, allBelow k a = true → allBelow k b = true → allBelow k (a ++ b) = true
  | [], _, _, h => h
  | o :: a, b, e, h => by
    simp only [allBelow, Bool.and_eq_true, List.cons_append] at e ⊢
    exact ⟨e.1, allBelow_append e.2 h⟩
theorem allBelow_set {k : Nat} {o : O} (ho : o.lo k = true) : ∀ {a : List O} {n : Nat}, allBelow k a = true → allBelow k (a.set n o) = true
  | [], _, _ => rfl
  | x :: a, 0, e => by
    simp only [allBelow, Bool.and_eq_true, List.set] at e ⊢
    exact ⟨ho, e.2⟩
  | x :: a, n + 1, e => by
    simp only [allBelow, Bool.and_eq_true, List.set] at e ⊢
    exact ⟨e.1, allBelow_set ho e.2⟩

/-- a new thing -/
def Store.new (S : Store) (o : O) (h : o.lo S.objs.length = true) : Store :=
  ⟨S.objs ++ [o], by
    rw [List.length_append]
    exact allBelow_append (allBelow_mono (Nat.le_add_right _ _) S.wf) (by simp only [allBelow, Bool.and_true]; exact O.lo_mono (Nat.le_add_right _ _) h)⟩
/-- a changed thing -/
def Store.put (S : Store) (n : Nat) (o : O) (h : o.lo S.objs.length = true) : Store :=
  ⟨S.objs.set n o, by
    rw [List.length_set]
    exact allBelow_set h S.wf⟩

/-- an error in the air: its class, what it keeps -/
structure Exc where
  cls : Str
  fs : List (Str × D)

inductive Res (α : Type) where
  | ok (a : α) (S : Store)
  | err (e : Exc) (S : Store)
  | stuck
abbrev M (α : Type) := Store → Res α
def M.pure {α : Type} (a : α) : M α := fun S => .ok a S
def Res.bind {α β : Type} : Res α → (α → M β) → Res β
  | .ok a S, k => k a S
  | .err e S, _ => .err e S
  | .stuck, _ => .stuck
def M.bind {α β : Type} (m : M α) (k : α → M β) : M β := fun S => (m S).bind k
instance : Monad M where
  pure := M.pure
  bind := M.bind
abbrev Env := List (Option D)
abbrev ME (α : Type) := Env → M α

/-! ### what stands in the layer's heap -/
/-- the tables of code objects, with the name that their code objects bear -/
class HasT where
  T : List (Addr × Str)
variable [HasT]
def isTbl : HO → Bool
  | .tbl _ => true
  | _ => false
/-- a list or an instance -/
def isThing : HO → Bool
  | .lst _ => true
  | .dK _ => true
  | .dT _ => true
  | .ins _ _ _ => true
  | _ => false
structure Gb where
  K : PySem.W.Frag
  mg : Str → Option Value

/-- a list that is known to the object (the script), or one of the module -/
def SqC (K : PySem.W.Frag) (H : Hp) (a : Addr) (xs : List V) : Prop :=
  (∃ o, H a = some (.frz o (.lst xs))) ∨
    ∃ (o : Obj) (its : Array Value) (n : Nat), K.lookup a = some o ∧ o.cls = .type "list" ∧ o.dict = none ∧ o.data = .seq its n ∧ its.size ≤ sizeLine ∧ Vals xs its.toList
theorem SqC.sq {K : PySem.W.Frag} {H : Hp} {a : Addr} {xs : List V} (h : SqC K H a xs) : SqL K H a xs := by
  rcases h with h | h
  · exact .inl (.inr h)
  · exact .inr h

mutual
def RelP (G : Gb) (F : Addr → Prop) (H : Hp) : P → V → Prop
  | .non, v => v = .non
  | .bl b, v => v = .bl b
  | .int i, v => v = .int i
  | .str s, v => v = .str s
  | .tup xs, v => ∃ a vs, v = .ref a ∧ H a = some (.tup vs) ∧ RelPs G F H xs vs
  | .lst xs, v => ∃ a vs, v = .ref a ∧ F a ∧ H a = some (.lst vs) ∧ RelPs G F H xs vs
  | .scr xs, v => ∃ a vs, v = .ref a ∧ SqC G.K H a vs ∧ RelPs G F H xs vs
  | .ins c fs, v => ∃ a C dx fvs, v = .ref a ∧ F a ∧ G.mg c = some (.ref C) ∧ H a = some (.ins C dx fvs) ∧ RelPf G F H fs fvs
  | .dic fs, v => ∃ a fvs, v = .ref a ∧ F a ∧ H a = some (.dK fvs) ∧ RelPk G F H fs fvs
  | .dit fs, v => ∃ a fvs, v = .ref a ∧ (∃ o, H a = some (.frz o (.dT fvs))) ∧ RelPt G F H fs fvs
  | .glo x, v => ∃ u, G.mg x = some u ∧ RelV v u
  | .ty n, v => v = .ty n
def RelPs (G : Gb) (F : Addr → Prop) (H : Hp) : List P → List V → Prop
  | [], vs => vs = []
  | x :: xs, vs => ∃ v ws, vs = v :: ws ∧ RelP G F H x v ∧ RelPs G F H xs ws
def RelPf (G : Gb) (F : Addr → Prop) (H : Hp) : List (Str × P) → List (Str × V) → Prop
  | [], vs => vs = []
  | (f, x) :: xs, vs => ∃ v ws, vs = (f, v) :: ws ∧ RelP G F H x v ∧ RelPf G F H xs ws
def RelPk (G : Gb) (F : Addr → Prop) (H : Hp) : List (Key × P) → List (Key × V) → Prop
  | [], vs => vs = []
  | (f, x) :: xs, vs => ∃ v ws, vs = (f, v) :: ws ∧ RelP G F H x v ∧ RelPk G F H xs ws
def RelPt (G : Gb) (F : Addr → Prop) (H : Hp) : List (List Key × P) → List (List Key × V) → Prop
  | [], vs => vs = []
  | (f, x) :: xs, vs => ∃ v ws, vs = (f, v) :: ws ∧ RelP G F H x v ∧ RelPt G F H xs ws
end
mutual
def RelD (G : Gb) (F : Addr → Prop) (ι : List Addr) (H : Hp) : D → V → Prop
  | .p x, v => RelP G F H x v
  | .r n, v => ∃ a, v = .ref a ∧ ι[n]? = some a
  | .t xs, v => ∃ a vs, v = .ref a ∧ H a = some (.tup vs) ∧ RelDs G F ι H xs vs
def RelDs (G : Gb) (F : Addr → Prop) (ι : List Addr) (H : Hp) : List D → List V → Prop
  | [], vs => vs = []
  | x :: xs, vs => ∃ v ws, vs = v :: ws ∧ RelD G F ι H x v ∧ RelDs G F ι H xs ws
end
def RelDf (G : Gb) (F : Addr → Prop) (ι : List Addr) (H : Hp) : List (Str × D) → List (Str × V) → Prop
  | [], vs => vs = []
  | (f, x) :: xs, vs => ∃ v ws, vs = (f, v) :: ws ∧ RelD G F ι H x v ∧ RelDf G F ι H xs ws
def RelDk (G : Gb) (F : Addr → Prop) (ι : List Addr) (H : Hp) {α : Type} : List (α × D) → List (α × V) → Prop
  | [], vs => vs = []
  | (f, x) :: xs, vs => ∃ v ws, vs = (f, v) :: ws ∧ RelD G F ι H x v ∧ RelDk G F ι H xs ws
def RelO (G : Gb) (F : Addr → Prop) (ι : List Addr) (H : Hp) (a : Addr) : O → Prop
  | .lst ds => ∃ vs, H a = some (.lst vs) ∧ RelDs G F ι H ds vs
  | .ins c fs => ∃ C dx fvs, G.mg c = some (.ref C) ∧ H a = some (.ins C dx fvs) ∧ RelDf G F ι H fs fvs
  | .dct fs => ∃ fvs, H a = some (.dK fvs) ∧ RelDk G F ι H fs fvs
  | .dit fs => ∃ fvs, H a = some (.dT fvs) ∧ RelDk G F ι H fs fvs

/-- the store S, its things at the addresses ι, what is frozen at F -/
structure R (G : Gb) (F : Addr → Prop) (ι : List Addr) (S : Store) (H : Hp) : Prop where
  len : ι.length = S.objs.length
  nd : ι.Nodup
  nf : ∀ a ∈ ι, ¬ F a
  fz : ∀ a, F a → ∃ o, H a = some o ∧ isThing o = true
  tb : LamX.Tabs HasT.T H
  ob : ∀ (n : Nat) (a : Addr) (o : O), ι[n]? = some a → S.objs[n]? = some o → RelO G F ι H a o

def isImm : HO → Bool
  | .tup _ => true
  | .frz _ _ => true
  | _ => false
/-- what is not of the store stays -/
def Keep (F : Addr → Prop) (ι : List Addr) (H H' : Hp) : Prop := ∀ a o, H a = some o → (F a ∨ isImm o = true ∨ (a ∉ ι ∧ isTbl o = false)) → H' a = some o
theorem Keep.refl {F : Addr → Prop} {ι : List Addr} {H : Hp} : Keep F ι H H := fun _ _ e _ => e
theorem Keep.trans {F F' : Addr → Prop} {ι ι' : List Addr} {H H1 H2 : Hp} (a : Keep F ι H H1) (s : ∀ x, F x → F' x) (nw : ∀ x ∈ ι', x ∉ ι → H x = none) (b : Keep F' ι' H1 H2) : Keep F ι H H2 := fun x o e h =>
  b x o (a x o e h) (h.imp (s x) (Or.imp id fun z => ⟨(fun y => by
    rw [nw x y z.1] at e
    cases e), z.2⟩))
/-- what data leans on stays -/
def KeepW (F : Addr → Prop) (H H' : Hp) : Prop := ∀ a o, H a = some o → (F a ∨ isImm o = true) → H' a = some o
theorem Keep.w {F : Addr → Prop} {ι : List Addr} {H H' : Hp} (k : Keep F ι H H') : KeepW F H H' := fun a o e h => k a o e (h.imp id Or.inl)
theorem KeepW.tup {F : Addr → Prop} {H H' : Hp} (k : KeepW F H H') {a : Addr} {vs : List V} (h : H a = some (.tup vs)) : H' a = some (.tup vs) := k _ _ h (.inr rfl)
theorem KeepW.sqC {K : PySem.W.Frag} {F : Addr → Prop} {H H' : Hp} (k : KeepW F H H') {a : Addr} {vs : List V} (h : SqC K H a vs) : SqC K H' a vs := by
  rcases h with ⟨o, h⟩ | h
  · exact .inl ⟨o, k _ _ h (.inr rfl)⟩
  · exact .inr h

section mono
variable {G : Gb} {F F' : Addr → Prop} {H H' : Hp} {ι ι' : List Addr}
mutual
theorem RelP.mono (k : KeepW F H H') (s : ∀ a, F a → F' a) : ∀ {x : P} {v : V}, RelP G F H x v → RelP G F' H' x v
  | .non, _, h => by simpa only [RelP] using h
  | .bl _, _, h => by simpa only [RelP] using h
  | .int _, _, h => by simpa only [RelP] using h
  | .str _, _, h => by simpa only [RelP] using h
  | .ty _, _, h => by simpa only [RelP] using h
  | .glo _, _, h => by simpa only [RelP] using h
  | .tup xs, _, h => by
    simp only [RelP] at h ⊢
    obtain ⟨a, vs, e, q, r⟩ := h
    exact ⟨a, vs, e, k.tup q, RelPs.mono k s r⟩
  | .lst xs, _, h => by
    simp only [RelP] at h ⊢
    obtain ⟨a, vs, e, f, q, r⟩ := h
    exact ⟨a, vs, e, s a f, k _ _ q (.inl f), RelPs.mono k s r⟩
  | .scr xs, _, h => by
    simp only [RelP] at h ⊢
    obtain ⟨a, vs, e, q, r⟩ := h
    exact ⟨a, vs, e, k.sqC q, RelPs.mono k s r⟩
  | .ins c fs, _, h => by
    simp only [RelP] at h ⊢
    obtain ⟨a, C, dx, fvs, e, f, m, q, r⟩ := h
    exact ⟨a, C, dx, fvs, e, s a f, m, k _ _ q (.inl f), RelPf.mono k s r⟩
  | .dic fs, _, h => by
    simp only [RelP] at h ⊢
    obtain ⟨a, fvs, e, f, q, r⟩ := h
    exact ⟨a, fvs, e, s a f, k _ _ q (.inl f), RelPk.mono k s r⟩
  | .dit fs, _, h => by
    simp only [RelP] at h ⊢
    obtain ⟨a, fvs, e, ⟨o, q⟩, r⟩ := h
    exact ⟨a, fvs, e, ⟨o, k _ _ q (.inr rfl)⟩, RelPt.mono k s r⟩
theorem RelPs.mono (k : KeepW F H H') (s : ∀ a, F a → F' a) : ∀ {xs : List P} {vs : List V}, RelPs G F H xs vs → RelPs G F' H' xs vs
  | [], _, h => by simpa only [RelPs] using h
  | x :: xs, _, h => by
    simp only [RelPs] at h ⊢
    obtain ⟨v, ws, e, a, b⟩ := h
    exact ⟨v, ws, e, RelP.mono k s a, RelPs.mono k s b⟩
theorem RelPf.mono (k : KeepW F H H') (s : ∀ a, F a → F' a) : ∀ {xs : List (Str × P)} {vs : List (Str × V)}, RelPf G F H xs vs → RelPf G F' H' xs vs
  | [], _, h => by simpa only [RelPf] using h
  | (f, x) :: xs, _, h => by
    simp only [RelPf] at h ⊢
    obtain ⟨v, ws, e, a, b⟩ := h
    exact ⟨v, ws, e, RelP.mono k s a, RelPf.mono k s b⟩
theorem RelPk.mono (k : KeepW F H H') (s : ∀ a, F a → F' a) : ∀ {xs : List (Key × P)} {vs : List (Key × V)}, RelPk G F H xs vs → RelPk G F' H' xs vs
  | [], _, h => by simpa only [RelPk] using h
  | (f, x) :: xs, _, h => by
    simp only [RelPk] at h ⊢
    obtain ⟨v, ws, e, a, b⟩ := h
    exact ⟨v, ws, e, RelP.mono k s a, RelPk.mono k s b⟩
theorem RelPt.mono (k : KeepW F H H') (s : ∀ a, F a → F' a) : ∀ {xs : List (List Key × P)} {vs : List (List Key × V)}, RelPt G F H xs vs → RelPt G F' H' xs vs
  | [], _, h => by simpa only [RelPt] using h
  | (f, x) :: xs, _, h => by
    simp only [RelPt] at h ⊢
    obtain ⟨v, ws, e, a, b⟩ := h
    exact ⟨v, ws, e, RelP.mono k s a, RelPt.mono k s b⟩
end
theorem pre_get {n : Nat} {a : Addr} (p : ι <+: ι') (h : ι[n]? = some a) : ι'[n]? = some a := by
  obtain ⟨t, rfl⟩ := p
  rw [List.getElem?_append_left (List.getElem?_eq_some_iff.mp h).1]
  exact h
mutual
theorem RelD.mono (k : KeepW F H H') (s : ∀ a, F a → F' a) (p : ι <+: ι') : ∀ {x : D} {v : V}, RelD G F ι H x v → RelD G F' ι' H' x v
  | .p x, _, h => by
    simp only [RelD] at h ⊢
    exact h.mono k s
  | .r n, _, h => by
    simp only [RelD] at h ⊢
    obtain ⟨a, e, q⟩ := h
    exact ⟨a, e, pre_get p q⟩
  | .t xs, _, h => by
    simp only [RelD] at h ⊢
    obtain ⟨a, vs, e, q, r⟩ := h
    exact ⟨a, vs, e, k.tup q, RelDs.mono k s p r⟩
theorem RelDs.mono (k : KeepW F H H') (s : ∀ a, F a → F' a) (p : ι <+: ι') : ∀ {xs : List D} {vs : List V}, RelDs G F ι H xs vs → RelDs G F' ι' H' xs vs
  | [], _, h => by simpa only [RelDs] using h
  | x :: xs, _, h => by
    simp only [RelDs] at h ⊢
    obtain ⟨v, ws, e, a, b⟩ := h
    exact ⟨v, ws, e, RelD.mono k s p a, RelDs.mono k s p b⟩
end
theorem RelDf.mono (k : KeepW F H H') (s : ∀ a, F a → F' a) (p : ι <+: ι') : ∀ {xs : List (Str × D)} {vs : List (Str × V)}, RelDf G F ι H xs vs → RelDf G F' ι' H' xs vs
  | [], _, h => h
  | (f, x) :: xs, _, h => by
    obtain ⟨v, ws, e, a, b⟩ := h
    exact ⟨v, ws, e, RelD.mono k s p a, RelDf.mono k s p b⟩
theorem RelDk.mono {α : Type} (k : KeepW F H H') (s : ∀ a, F a → F' a) (p : ι <+: ι') : ∀ {xs : List (α × D)} {vs : List (α × V)}, RelDk G F ι H xs vs → RelDk G F' ι' H' xs vs
  | [], _, h => h
  | (f, x) :: xs, _, h => by
    obtain ⟨v, ws, e, a, b⟩ := h
    exact ⟨v, ws, e, RelD.mono k s p a, RelDk.mono k s p b⟩
end mono

theorem R.thing {G : Gb} {F : Addr → Prop} {ι : List Addr} {S : Store} {H : Hp} (r : R G F ι S H) {a : Addr} (h : a ∈ ι) : ∃ o, H a = some o ∧ isThing o = true := by
  obtain ⟨n, hn, e⟩ := List.getElem_of_mem h
  have hs : n < S.objs.length := by rw [← r.len]; exact hn
  have q := r.ob n a S.objs[n] (by rw [List.getElem?_eq_getElem hn, e]) (List.getElem?_eq_getElem hs)
  cases eo : S.objs[n] with
  | lst ds => rw [eo] at q; obtain ⟨vs, h, _⟩ := q; exact ⟨_, h, rfl⟩
  | ins c fs => rw [eo] at q; obtain ⟨C, dx, fvs, _, h, _⟩ := q; exact ⟨_, h, rfl⟩
  | dct fs => rw [eo] at q; obtain ⟨fvs, h, _⟩ := q; exact ⟨_, h, rfl⟩
  | dit fs => rw [eo] at q; obtain ⟨fvs, h, _⟩ := q; exact ⟨_, h, rfl⟩
theorem R.there {G : Gb} {F : Addr → Prop} {ι : List Addr} {S : Store} {H : Hp} (r : R G F ι S H) {a : Addr} (h : a ∈ ι) : ∃ o, H a = some o := let ⟨o, e, _⟩ := r.thing h; ⟨o, e⟩

/-- a later state -/
structure Nxt (G : Gb) (F : Addr → Prop) (ι : List Addr) (H : Hp) (F' : Addr → Prop) (ι' : List Addr) (S' : Store) (H' : Hp) : Prop where
  sub : ∀ a, F a → F' a
  keep : Keep F ι H H'
  pre : ι <+: ι'
  nw : ∀ x ∈ ι', x ∉ ι → H x = none
  nF : ∀ x, F' x → ¬ F x → H x = none
  old : ∀ x o, H x = some o → ∃ o', H' x = some o'
  r : R G F' ι' S' H'
theorem Nxt.none_back {G : Gb} {F F' : Addr → Prop} {ι ι' : List Addr} {H H' : Hp} {S' : Store} (n : Nxt G F ι H F' ι' S' H') {x : Addr} (h : H' x = none) : H x = none := by
  cases e : H x with
  | none => rfl
  | some o =>
    obtain ⟨o', e'⟩ := n.old x o e
    rw [h] at e'
    cases e'
section
variable {G : Gb} {F F1 F2 : Addr → Prop} {ι ι1 ι2 : List Addr} {H H1 H2 : Hp} {S S1 S2 : Store}
theorem Nxt.refl (r : R G F ι S H) : Nxt G F ι H F ι S H := ⟨fun _ h => h, Keep.refl, List.prefix_refl _, fun x a b => absurd a b, fun x a b => absurd a b, fun _ o e => ⟨o, e⟩, r⟩
theorem Nxt.trans (a : Nxt G F ι H F1 ι1 S1 H1) (b : Nxt G F1 ι1 H1 F2 ι2 S2 H2) : Nxt G F ι H F2 ι2 S2 H2 where
  sub := fun x h => b.sub x (a.sub x h)
  keep := a.keep.trans a.sub a.nw b.keep
  pre := a.pre.trans b.pre
  nw := fun x h n => by
    by_cases z : x ∈ ι1
    · exact a.nw x z n
    · exact a.none_back (b.nw x h z)
  nF := fun x h n => by
    by_cases z : F1 x
    · exact a.nF x z n
    · exact a.none_back (b.nF x h z)
  old := fun x o e => let ⟨o', e'⟩ := a.old x o e; b.old x o' e'
  r := b.r
theorem Nxt.d (n : Nxt G F ι H F1 ι1 S1 H1) {x : D} {v : V} (h : RelD G F ι H x v) : RelD G F1 ι1 H1 x v := h.mono n.keep.w n.sub n.pre
theorem Nxt.ds (n : Nxt G F ι H F1 ι1 S1 H1) {x : List D} {v : List V} (h : RelDs G F ι H x v) : RelDs G F1 ι1 H1 x v := h.mono n.keep.w n.sub n.pre
theorem Nxt.pp (n : Nxt G F ι H F1 ι1 S1 H1) {x : P} {v : V} (h : RelP G F H x v) : RelP G F1 H1 x v := h.mono n.keep.w n.sub
end

/-- an error: its class, its own dict -/
def RelX (G : Gb) (F : Addr → Prop) (ι : List Addr) (H : Hp) (e : Exc) (c : Value) (d : Option Addr) : Prop :=
  ∃ C, G.mg e.cls = some (.ref C) ∧ c = .ref C ∧ match e.fs with
    | [] => d = none
    | fs => ∃ dd fvs, d = some dd ∧ H dd = some (.xd fvs) ∧ RelDf G F ι H fs fvs

/-- what is wanted behind a plain run -/
def Then (G : Gb) (W : Value → Option Addr → Hp → Prop) (F : Addr → Prop) (ι : List Addr) (H : Hp) {α : Type} (r : Res α) (Q : α → Store → (Addr → Prop) → List Addr → Hp → Prop) : Prop :=
  match r with
  | .ok a S' => ∀ F' ι' H', Nxt G F ι H F' ι' S' H' → Q a S' F' ι' H'
  | .err e S' => ∀ F' ι' H' c d, Nxt G F ι H F' ι' S' H' → RelX G F' ι' H' e c d → W c d H'
  | .stuck => False
section
variable {G : Gb} {W : Value → Option Addr → Hp → Prop} {F F1 : Addr → Prop} {ι ι1 : List Addr} {H H1 : Hp} {S S1 : Store} {α β : Type}
theorem Then.mono {r : Res α} {Q Q' : α → Store → (Addr → Prop) → List Addr → Hp → Prop} (h : Then G W F ι H r Q)
    (q : ∀ a S' F' ι' H', Nxt G F ι H F' ι' S' H' → Q a S' F' ι' H' → Q' a S' F' ι' H') : Then G W F ι H r Q' := by
  cases r with
  | ok a S' => exact fun F' ι' H' n => q _ _ _ _ _ n (h F' ι' H' n)
  | err e S' => exact h
  | stuck => exact h
theorem Then.later {r : Res α} {Q : α → Store → (Addr → Prop) → List Addr → Hp → Prop} (h : Then G W F ι H r Q) (n : Nxt G F ι H F1 ι1 S1 H1) : Then G W F1 ι1 H1 r Q := by
  cases r with
  | ok a S' => exact fun F' ι' H' n' => h F' ι' H' (n.trans n')
  | err e S' => exact fun F' ι' H' c d n' => h F' ι' H' c d (n.trans n')
  | stuck => exact h
theorem Then.bind {r : Res α} {k : α → M β} {Q : β → Store → (Addr → Prop) → List Addr → Hp → Prop} (h : Then G W F ι H (r.bind k) Q) :
    Then G W F ι H r (fun a S' F' ι' H' => Then G W F' ι' H' (k a S') Q) := by
  cases r with
  | ok a S' => exact fun F' ι' H' n => Then.later (show Then G W F ι H (k a S') Q from h) n
  | err e S' => exact h
  | stuck => exact h
theorem Then.now {a : α} {Q : α → Store → (Addr → Prop) → List Addr → Hp → Prop} (h : Then G W F ι H (.ok a S) Q) (r : R G F ι S H) : Q a S F ι H := h F ι H (Nxt.refl r)
end

/-! ### slots -/
def RelE (G : Gb) (F : Addr → Prop) (ι : List Addr) (H : Hp) : Env → L2.St → Prop
  | [], σ => σ = []
  | none :: ρ, σ => ∃ o τ, σ = o :: τ ∧ RelE G F ι H ρ τ
  | some d :: ρ, σ => ∃ v τ, σ = some v :: τ ∧ RelD G F ι H d v ∧ RelE G F ι H ρ τ
section
variable {G : Gb} {F F1 : Addr → Prop} {ι ι1 : List Addr} {H H1 : Hp} {S S1 : Store}
theorem RelE.mono (n : Nxt G F ι H F1 ι1 S1 H1) : ∀ {ρ : Env} {σ : L2.St}, RelE G F ι H ρ σ → RelE G F1 ι1 H1 ρ σ
  | [], _, h => h
  | none :: ρ, _, ⟨o, τ, e, h⟩ => ⟨o, τ, e, h.mono n⟩
  | some d :: ρ, _, ⟨v, τ, e, r, h⟩ => ⟨v, τ, e, n.d r, h.mono n⟩
theorem RelE.get : ∀ {ρ : Env} {σ : L2.St} {i : Nat} {d : D}, RelE G F ι H ρ σ → ρ[i]? = some (some d) → ∃ v, σ[i]? = some (some v) ∧ RelD G F ι H d v
  | [], _, _, _, _, e => by simp at e
  | none :: ρ, _, 0, d, _, e => by simp at e
  | none :: ρ, _, i + 1, d, ⟨o, τ, es, h⟩, e => by
    subst es
    obtain ⟨v, a, b⟩ := RelE.get h (show ρ[i]? = some (some d) by simpa using e)
    exact ⟨v, by simpa using a, b⟩
  | some d' :: ρ, _, 0, d, ⟨v, τ, es, r, h⟩, e => by
    subst es
    simp at e
    subst e
    exact ⟨v, rfl, r⟩
  | some d' :: ρ, _, i + 1, d, ⟨v, τ, es, r, h⟩, e => by
    subst es
    obtain ⟨v, a, b⟩ := RelE.get h (show ρ[i]? = some (some d) by simpa using e)
    exact ⟨v, by simpa using a, b⟩
theorem RelE.set {d : D} {v : V} (r : RelD G F ι H d v) : ∀ {ρ : Env} {σ : L2.St} (i : Nat), RelE G F ι H ρ σ → RelE G F ι H (ρ.set i (some d)) (σ.set i (some v))
  | [], _, i, h => by
    cases h
    cases i <;> rfl
  | none :: ρ, _, 0, ⟨o, τ, es, h⟩ => by subst es; exact ⟨v, τ, rfl, r, h⟩
  | none :: ρ, _, i + 1, ⟨o, τ, es, h⟩ => by subst es; exact ⟨o, τ.set i (some v), rfl, h.set r i⟩
  | some d' :: ρ, _, 0, ⟨w, τ, es, q, h⟩ => by subst es; exact ⟨v, τ, rfl, r, h⟩
  | some d' :: ρ, _, i + 1, ⟨w, τ, es, q, h⟩ => by subst es; exact ⟨w, τ.set i (some v), rfl, q, h.set r i⟩
theorem RelE.unset : ∀ {ρ : Env} {σ : L2.St} (i : Nat), RelE G F ι H ρ σ → RelE G F ι H (ρ.set i none) (σ.set i none)
  | [], _, i, h => by
    cases h
    cases i <;> rfl
  | none :: ρ, _, 0, ⟨o, τ, es, h⟩ => by subst es; exact ⟨none, τ, rfl, h⟩
  | none :: ρ, _, i + 1, ⟨o, τ, es, h⟩ => by subst es; exact ⟨o, τ.set i none, rfl, h.unset i⟩
  | some d' :: ρ, _, 0, ⟨w, τ, es, q, h⟩ => by subst es; exact ⟨none, τ, rfl, h⟩
  | some d' :: ρ, _, i + 1, ⟨w, τ, es, q, h⟩ => by subst es; exact ⟨w, τ.set i none, rfl, q, h.unset i⟩
end

/-! ### readings -/
/-- the state at hand -/
structure At (G : Gb) (F : Addr → Prop) (ι : List Addr) (H : Hp) (σ : L2.St) (ρ : Env) (S : Store) : Prop where
  e : RelE G F ι H ρ σ
  r : R G F ι S H
theorem At.next {G : Gb} {F F1 : Addr → Prop} {ι ι1 : List Addr} {H H1 : Hp} {S S1 : Store} {σ : L2.St} {ρ : Env} (a : At G F ι H σ ρ S) (n : Nxt G F ι H F1 ι1 S1 H1) : At G F1 ι1 H1 σ ρ S1 := ⟨a.e.mono n, n.r⟩

def T (G : Gb) (W : WX) (m : ME D) : TE := fun σ H Q => ∃ ρ S ι F, At G F ι H σ ρ S ∧ Then G (fun c d H' => W c d σ H') F ι H (m ρ S) fun d _ F' ι' H' => ∀ v, RelD G F' ι' H' d v → Q v H'
def TB (G : Gb) (W : WX) (m : ME Bool) : TT := fun σ H Q => ∃ ρ S ι F, At G F ι H σ ρ S ∧ Then G (fun c d H' => W c d σ H') F ι H (m ρ S) fun b _ _ _ H' => Q b H'
def TL (G : Gb) (W : WX) (m : ME (List D)) : TA := fun σ H Q => ∃ ρ S ι F, At G F ι H σ ρ S ∧ Then G (fun c d H' => W c d σ H') F ι H (m ρ S) fun ds _ F' ι' H' => ∀ vs, RelDs G F' ι' H' ds vs → Q vs H'

/-- an expression's plain run -/
abbrev DE (X : Cx) (W : WX) (e : Expr) (m : ME D) : Prop := PE X e (T ⟨X.K, X.mg⟩ W m)
abbrev DT (X : Cx) (W : WX) (e : Expr) (m : ME Bool) : Prop := PT X e (TB ⟨X.K, X.mg⟩ W m)
abbrev DA (X : Cx) (W : WX) (es : List Expr) (m : ME (List D)) : Prop := PA X es (TL ⟨X.K, X.mg⟩ W m)

/-! weaker readings -/
theorem PE.imp {X : Cx} {e : Expr} {t t' : TE} (h : PE X e t) (i : ∀ σ H Q, t' σ H Q → t σ H Q) : PE X e t' := ⟨fun pins s σ H Q I q => h.run pins s σ H Q I (i σ H Q q)⟩
theorem PT.imp {X : Cx} {e : Expr} {t t' : TT} (h : PT X e t) (i : ∀ σ H Q, t' σ H Q → t σ H Q) : PT X e t' := ⟨fun pins s σ H Q I q => h.run pins s σ H Q I (i σ H Q q)⟩
theorem PW.imp {X : Cx} {e : Expr} {t t' : TT} (h : PW X e t) (i : ∀ σ H Q, t' σ H Q → t σ H Q) : PW X e t' := ⟨fun whole pins s σ H Q I q => h.run whole pins s σ H Q I (i σ H Q q)⟩
theorem PA.imp {X : Cx} {e : List Expr} {t t' : TA} (h : PA X e t) (i : ∀ σ H Q, t' σ H Q → t σ H Q) : PA X e t' := ⟨fun pos pins s σ H Q I q => h.run pos pins s σ H Q I (i σ H Q q)⟩
theorem PS.imp {X : Cx} {e : Stmt} {t t' : TS} (h : PS X e t) (i : ∀ D σ H, t' D σ H → t D σ H) : PS X e t' := ⟨fun pins s σ H D I q => h.run pins s σ H D I (i D σ H q)⟩
theorem PSs.imp {X : Cx} {e : List Stmt} {t t' : TS} (h : PSs X e t) (i : ∀ D σ H, t' D σ H → t D σ H) : PSs X e t' := ⟨fun pins s σ H D I q => h.run pins s σ H D I (i D σ H q)⟩

/-- from the run of a row: first a, then what follows -/
theorem T.first {G : Gb} {W : WX} {α : Type} {F : Addr → Prop} {ι : List Addr} {σ : L2.St} {ρ : Env} {S : Store} {H : Hp} {m : ME D} {k : D → M α} {Q : α → Store → (Addr → Prop) → List Addr → Hp → Prop} {Q' : VK}
    (a : At G F ι H σ ρ S) (h : Then G (fun c d H' => W c d σ H') F ι H ((m ρ S).bind k) Q)
    (q : ∀ d S1 F1 ι1 H1 v, Nxt G F ι H F1 ι1 S1 H1 → At G F1 ι1 H1 σ ρ S1 → RelD G F1 ι1 H1 d v → Then G (fun c d H' => W c d σ H') F1 ι1 H1 (k d S1) Q → Q' v H1) : T G W m σ H Q' :=
  ⟨ρ, S, ι, F, a, h.bind.mono fun d S1 F1 ι1 H1 n t v r => q d S1 F1 ι1 H1 v n (a.next n) r t⟩
theorem TB.first {G : Gb} {W : WX} {α : Type} {F : Addr → Prop} {ι : List Addr} {σ : L2.St} {ρ : Env} {S : Store} {H : Hp} {m : ME Bool} {k : Bool → M α} {Q : α → Store → (Addr → Prop) → List Addr → Hp → Prop} {Q' : Bool → Hp → Prop}
    (a : At G F ι H σ ρ S) (h : Then G (fun c d H' => W c d σ H') F ι H ((m ρ S).bind k) Q)
    (q : ∀ b S1 F1 ι1 H1, Nxt G F ι H F1 ι1 S1 H1 → At G F1 ι1 H1 σ ρ S1 → Then G (fun c d H' => W c d σ H') F1 ι1 H1 (k b S1) Q → Q' b H1) : TB G W m σ H Q' :=
  ⟨ρ, S, ι, F, a, h.bind.mono fun b S1 F1 ι1 H1 n t => q b S1 F1 ι1 H1 n (a.next n) t⟩
theorem TL.first {G : Gb} {W : WX} {α : Type} {F : Addr → Prop} {ι : List Addr} {σ : L2.St} {ρ : Env} {S : Store} {H : Hp} {m : ME (List D)} {k : List D → M α} {Q : α → Store → (Addr → Prop) → List Addr → Hp → Prop} {Q' : List V → Hp → Prop}
    (a : At G F ι H σ ρ S) (h : Then G (fun c d H' => W c d σ H') F ι H ((m ρ S).bind k) Q)
    (q : ∀ ds S1 F1 ι1 H1 vs, Nxt G F ι H F1 ι1 S1 H1 → At G F1 ι1 H1 σ ρ S1 → RelDs G F1 ι1 H1 ds vs → Then G (fun c d H' => W c d σ H') F1 ι1 H1 (k ds S1) Q → Q' vs H1) : TL G W m σ H Q' :=
  ⟨ρ, S, ι, F, a, h.bind.mono fun ds S1 F1 ι1 H1 n t vs r => q ds S1 F1 ι1 H1 vs n (a.next n) r t⟩
/-- a last value -/
theorem Then.val {G : Gb} {W : Value → Option Addr → Hp → Prop} {F : Addr → Prop} {ι : List Addr} {H : Hp} {S : Store} {d : D} {Q : VK} {v : V} (h : Then G W F ι H (.ok d S) (fun d _ F' ι' H' => ∀ v, RelD G F' ι' H' d v → Q v H')) (r : R G F ι S H) (rv : RelD G F ι H d v) : Q v H :=
  h.now r v rv
end DL
set_option maxHeartbeats 2000000
/-! DLOps: views of values, new things, operators. -/
namespace DL
open PySem PySem.Spec PyProof.Rows L2
variable [HasT]

/-! ### relation lemmas -/
section
variable {G : Gb} {F F' : Addr → Prop} {ι ι' : List Addr} {H H' : Hp} {S S' : Store}
theorem relDs_len : ∀ {xs : List D} {vs : List V}, RelDs G F ι H xs vs → xs.length = vs.length
  | [], _, h => by simp only [RelDs] at h; subst h; rfl
  | x :: xs, _, h => by
    simp only [RelDs] at h
    obtain ⟨v, ws, rfl, _, b⟩ := h
    simp [relDs_len b]
theorem relDs_map : ∀ {xs : List P} {vs : List V}, RelPs G F H xs vs → RelDs G F ι H (xs.map D.p) vs
  | [], _, h => by simpa only [RelPs, RelDs, List.map] using h
  | x :: xs, _, h => by
    simp only [RelPs] at h
    obtain ⟨v, ws, rfl, a, b⟩ := h
    simp only [RelDs, List.map]
    exact ⟨v, ws, rfl, (by simp only [RelD]; exact a), relDs_map b⟩
theorem relDs_cons {x : D} {xs : List D} {v : V} {vs : List V} : RelDs G F ι H (x :: xs) (v :: vs) ↔ RelD G F ι H x v ∧ RelDs G F ι H xs vs := by
  simp only [RelDs]
  constructor
  · rintro ⟨v', ws, e, a, b⟩
    cases e
    exact ⟨a, b⟩
  · rintro ⟨a, b⟩
    exact ⟨v, vs, rfl, a, b⟩
theorem relDs_nil {vs : List V} : RelDs G F ι H [] vs ↔ vs = [] := by simp only [RelDs]
theorem relDs_nil' : RelDs G F ι H [] [] := by simp only [RelDs]
theorem relDs_append : ∀ {xs ys : List D} {vs ws : List V}, RelDs G F ι H xs vs → RelDs G F ι H ys ws → RelDs G F ι H (xs ++ ys) (vs ++ ws)
  | [], _, _, _, h, k => by
    rw [relDs_nil] at h
    subst h
    exact k
  | x :: xs, ys, vs, ws, h, k => by
    simp only [RelDs] at h
    obtain ⟨v, us, rfl, a, b⟩ := h
    exact relDs_cons.mpr ⟨a, relDs_append b k⟩
theorem relDs_get : ∀ {xs : List D} {vs : List V} {i : Nat} {d : D}, RelDs G F ι H xs vs → xs[i]? = some d → ∃ v, vs[i]? = some v ∧ RelD G F ι H d v
  | [], _, _, _, _, e => by simp at e
  | x :: xs, _, 0, d, h, e => by
    simp only [RelDs] at h
    obtain ⟨v, us, rfl, a, b⟩ := h
    simp at e
    subst e
    exact ⟨v, rfl, a⟩
  | x :: xs, _, i + 1, d, h, e => by
    simp only [RelDs] at h
    obtain ⟨v, us, rfl, a, b⟩ := h
    obtain ⟨w, p, q⟩ := relDs_get (i := i) b (by simpa using e)
    exact ⟨w, by simpa using p, q⟩
theorem relDs_take : ∀ {xs : List D} {vs : List V} (n : Nat), RelDs G F ι H xs vs → RelDs G F ι H (xs.take n) (vs.take n)
  | _, _, 0, _ => by simp only [List.take_zero]; exact relDs_nil'
  | [], _, n + 1, h => by rw [relDs_nil] at h; subst h; exact relDs_nil'
  | x :: xs, _, n + 1, h => by
    simp only [RelDs] at h
    obtain ⟨v, us, rfl, a, b⟩ := h
    exact relDs_cons.mpr ⟨a, relDs_take n b⟩
theorem relDs_drop : ∀ {xs : List D} {vs : List V} (n : Nat), RelDs G F ι H xs vs → RelDs G F ι H (xs.drop n) (vs.drop n)
  | _, _, 0, h => h
  | [], _, n + 1, h => by rw [relDs_nil] at h; subst h; exact relDs_nil'
  | x :: xs, _, n + 1, h => by
    simp only [RelDs] at h
    obtain ⟨v, us, rfl, a, b⟩ := h
    exact relDs_drop n b
theorem relDs_set {d : D} {v : V} (r : RelD G F ι H d v) : ∀ {xs : List D} {vs : List V} (i : Nat), RelDs G F ι H xs vs → RelDs G F ι H (xs.set i d) (vs.set i v)
  | [], _, _, h => by rw [relDs_nil] at h; subst h; exact relDs_nil'
  | x :: xs, _, 0, h => by
    simp only [RelDs] at h
    obtain ⟨w, us, rfl, a, b⟩ := h
    exact relDs_cons.mpr ⟨r, b⟩
  | x :: xs, _, i + 1, h => by
    simp only [RelDs] at h
    obtain ⟨w, us, rfl, a, b⟩ := h
    exact relDs_cons.mpr ⟨a, relDs_set r i b⟩
theorem relDs_erase : ∀ {xs : List D} {vs : List V} (i : Nat), RelDs G F ι H xs vs → RelDs G F ι H (xs.eraseIdx i) (vs.eraseIdx i)
  | [], _, _, h => by rw [relDs_nil] at h; subst h; exact relDs_nil'
  | x :: xs, _, 0, h => by
    simp only [RelDs] at h
    obtain ⟨w, us, rfl, a, b⟩ := h
    exact b
  | x :: xs, _, i + 1, h => by
    simp only [RelDs] at h
    obtain ⟨w, us, rfl, a, b⟩ := h
    exact relDs_cons.mpr ⟨a, relDs_erase i b⟩
theorem relDs_reverse : ∀ {xs : List D} {vs : List V}, RelDs G F ι H xs vs → RelDs G F ι H xs.reverse vs.reverse
  | [], _, h => by rw [relDs_nil] at h; subst h; exact relDs_nil'
  | x :: xs, _, h => by
    simp only [RelDs] at h
    obtain ⟨w, us, rfl, a, b⟩ := h
    rw [List.reverse_cons, List.reverse_cons]
    exact relDs_append (relDs_reverse b) (relDs_cons.mpr ⟨a, relDs_nil'⟩)
theorem relDs_flat {ds : List D} {vs : List V} (h : RelDs G F ι H ds vs) : ∀ n : Nat, RelDs G F ι H (List.replicate n ds).flatten (List.replicate n vs).flatten
  | 0 => relDs_nil'
  | n + 1 => by
    rw [List.replicate_succ, List.replicate_succ, List.flatten_cons, List.flatten_cons]
    exact relDs_append h (relDs_flat h n)

/-! ### all data -/
def pures : List D → Option (List P)
  | [] => some []
  | .p x :: r => match pures r with
    | some ps => some (x :: ps)
    | none => none
  | _ => none
theorem pures_eq : ∀ {ds : List D} {ps : List P}, pures ds = some ps → ds = ps.map D.p
  | [], _, h => by cases h; rfl
  | .p x :: r, _, h => by
    simp only [pures] at h
    split at h
    · rename_i qs e
      cases h
      rw [pures_eq e]
      rfl
    · cases h
  | .r _ :: _, _, h => by cases h
  | .t _ :: _, _, h => by cases h
theorem relPs_of : ∀ {ps : List P} {vs : List V}, RelDs G F ι H (ps.map D.p) vs → RelPs G F H ps vs
  | [], _, h => by simpa only [RelPs, RelDs, List.map] using h
  | x :: ps, _, h => by
    simp only [RelDs, List.map] at h
    obtain ⟨v, ws, rfl, a, b⟩ := h
    simp only [RelPs]
    exact ⟨v, ws, rfl, (by simpa only [RelD] using a), relPs_of b⟩
theorem pures_rel {ds : List D} {ps : List P} {vs : List V} (h : pures ds = some ps) (r : RelDs G F ι H ds vs) : RelPs G F H ps vs := by
  rw [pures_eq h] at r
  exact relPs_of r

def mkTup (ds : List D) : D := match pures ds with
  | some ps => .p (.tup ps)
  | none => .t ds
theorem mkTup_rel {ds : List D} {a : Addr} {vs : List V} (q : H a = some (.tup vs)) (r : RelDs G F ι H ds vs) : RelD G F ι H (mkTup ds) (.ref a) := by
  unfold mkTup
  split
  · rename_i ps e
    simp only [RelD, RelP]
    exact ⟨a, vs, rfl, q, pures_rel e r⟩
  · simp only [RelD]
    exact ⟨a, vs, rfl, q, r⟩
def D.tup? : D → Option (List D)
  | .p (.tup xs) => some (xs.map D.p)
  | .t xs => some xs
  | _ => none
theorem tup?_relH {d : D} {ds : List D} {v : V} (h : d.tup? = some ds) (r : RelD G F ι H d v) : ∃ a vs, v = .ref a ∧ H a = some (.tup vs) ∧ RelDs G F ι H ds vs := by
  cases d with
  | p x =>
    cases x with
    | tup xs =>
      simp only [D.tup?, Option.some.injEq] at h
      subst h
      simp only [RelD, RelP] at r
      obtain ⟨a, vs, e, q, r⟩ := r
      exact ⟨a, vs, e, q, relDs_map r⟩
    | _ => cases h
  | r n => cases h
  | t xs =>
    simp only [D.tup?, Option.some.injEq] at h
    subst h
    simp only [RelD] at r
    exact r
theorem tup?_rel {d : D} {ds : List D} {v : V} (h : d.tup? = some ds) (r : RelD G F ι H d v) : ∃ a vs, v = .ref a ∧ SqT G.K H a vs ∧ RelDs G F ι H ds vs := by
  obtain ⟨a, vs, e, q, r⟩ := tup?_relH h r
  exact ⟨a, vs, e, SqT.of q, r⟩
/-- a list that may be read: frozen, the script, of the store -/
def D.lst? (d : D) (S : Store) : Option (List D) := match d with
  | .p (.lst xs) => some (xs.map D.p)
  | .p (.scr xs) => some (xs.map D.p)
  | .r n => match S.objs[n]? with
    | some (.lst xs) => some xs
    | _ => none
  | _ => none
theorem R.obj (r : R G F ι S H) {n : Nat} {o : O} (h : S.objs[n]? = some o) : ∃ a, ι[n]? = some a ∧ RelO G F ι H a o := by
  have hl : n < ι.length := by
    rw [r.len]
    exact (List.getElem?_eq_some_iff.mp h).1
  exact ⟨ι[n], List.getElem?_eq_getElem hl, r.ob n _ o (List.getElem?_eq_getElem hl) h⟩
/-- a list of the layer's heap that is no object of the module's -/
def D.own? (d : D) (S : Store) : Option (List D) := match d with
  | .p (.lst xs) => some (xs.map D.p)
  | .r n => match S.objs[n]? with
    | some (.lst xs) => some xs
    | _ => none
  | _ => none
theorem own?_rel {d : D} {ds : List D} {v : V} (rs : R G F ι S H) (h : d.own? S = some ds) (r : RelD G F ι H d v) : ∃ a vs, v = .ref a ∧ H a = some (.lst vs) ∧ RelDs G F ι H ds vs := by
  cases d with
  | p x =>
    cases x with
    | lst xs =>
      simp only [D.own?, Option.some.injEq] at h
      subst h
      simp only [RelD, RelP] at r
      obtain ⟨a, vs, e, _, q, r⟩ := r
      exact ⟨a, vs, e, q, relDs_map r⟩
    | _ => cases h
  | r n =>
    simp only [D.own?] at h
    split at h
    · rename_i xs e
      cases h
      simp only [RelD] at r
      obtain ⟨a, rfl, q⟩ := r
      obtain ⟨b, qb, ro⟩ := rs.obj e
      rw [q] at qb
      cases qb
      obtain ⟨vs, hv, rv⟩ := ro
      exact ⟨a, vs, rfl, hv, rv⟩
    · cases h
  | t xs => cases h
theorem lst?_rel {d : D} {ds : List D} {v : V} (rs : R G F ι S H) (h : d.lst? S = some ds) (r : RelD G F ι H d v) : ∃ a vs, v = .ref a ∧ SqL G.K H a vs ∧ RelDs G F ι H ds vs := by
  cases d with
  | p x =>
    cases x with
    | lst xs =>
      obtain ⟨a, vs, e, q, r⟩ := own?_rel (d := .p (.lst xs)) rs h r
      exact ⟨a, vs, e, SqL.of q, r⟩
    | scr xs =>
      simp only [D.lst?, Option.some.injEq] at h
      subst h
      simp only [RelD, RelP] at r
      obtain ⟨a, vs, e, q, r⟩ := r
      exact ⟨a, vs, e, q.sq, relDs_map r⟩
    | _ => cases h
  | r n =>
    obtain ⟨a, vs, e, q, r⟩ := own?_rel (d := .r n) rs h r
    exact ⟨a, vs, e, SqL.of q, r⟩
  | t xs => cases h
/-- a list or a tuple -/
def D.seq? (d : D) (S : Store) : Option (List D) := match d.tup? with
  | some xs => some xs
  | none => d.lst? S
theorem seq?_relH {d : D} {ds : List D} {v : V} (rs : R G F ι S H) (h : d.seq? S = some ds) (r : RelD G F ι H d v) : ∃ a vs, v = .ref a ∧ (SqL G.K H a vs ∨ H a = some (.tup vs)) ∧ RelDs G F ι H ds vs := by
  unfold D.seq? at h
  split at h
  · rename_i xs e
    cases h
    obtain ⟨a, vs, e, q, r⟩ := tup?_relH e r
    exact ⟨a, vs, e, .inr q, r⟩
  · obtain ⟨a, vs, e, q, r⟩ := lst?_rel rs h r
    exact ⟨a, vs, e, .inl q, r⟩
theorem seq?_rel {d : D} {ds : List D} {v : V} (rs : R G F ι S H) (h : d.seq? S = some ds) (r : RelD G F ι H d v) : ∃ a vs, v = .ref a ∧ (SqL G.K H a vs ∨ SqT G.K H a vs) ∧ RelDs G F ι H ds vs := by
  unfold D.seq? at h
  split at h
  · rename_i xs e
    cases h
    obtain ⟨a, vs, e, q, r⟩ := tup?_rel e r
    exact ⟨a, vs, e, .inr q, r⟩
  · obtain ⟨a, vs, e, q, r⟩ := lst?_rel rs h r
    exact ⟨a, vs, e, .inl q, r⟩

/-! ### new things -/
theorem keepW_new {p : Addr} {o : HO} (hp : H p = none) : KeepW F H (upd H p o) := fun a u e _ => by
  rw [upd_ne (ne_of_none e hp)]
  exact e
theorem keep_new {p : Addr} {o : HO} (hp : H p = none) : Keep F ι H (upd H p o) := fun a u e _ => by
  rw [upd_ne (ne_of_none e hp)]
  exact e
theorem RelO.mono {a : Addr} {o : O} (k : KeepW F H H') (s : ∀ a, F a → F' a) (p : ι <+: ι') (ha : H' a = H a) (h : RelO G F ι H a o) : RelO G F' ι' H' a o := by
  cases o with
  | lst ds =>
    obtain ⟨vs, e, r⟩ := h
    exact ⟨vs, ha.trans e, r.mono k s p⟩
  | ins c fs =>
    obtain ⟨C, dx, fvs, m, e, r⟩ := h
    exact ⟨C, dx, fvs, m, ha.trans e, r.mono k s p⟩
  | dct fs =>
    obtain ⟨fvs, e, r⟩ := h
    exact ⟨fvs, ha.trans e, r.mono k s p⟩
  | dit fs =>
    obtain ⟨fvs, e, r⟩ := h
    exact ⟨fvs, ha.trans e, r.mono k s p⟩
theorem R.ne (r : R G F ι S H) {p a : Addr} (hp : H p = none) (ha : a ∈ ι) : a ≠ p := fun z => by
  obtain ⟨u, hu⟩ := r.there ha
  rw [z, hp] at hu
  cases hu
theorem R.nF (r : R G F ι S H) {p : Addr} (hp : H p = none) : ¬ F p := fun z => by
  obtain ⟨u, hu, _⟩ := r.fz p z
  rw [hp] at hu
  cases hu
theorem old_upd {p : Addr} {o : HO} : ∀ x u, H x = some u → ∃ u', upd H p o x = some u' := fun x u e => by
  by_cases z : x = p
  · subst z
    exact ⟨_, upd_same⟩
  · exact ⟨u, by rw [upd_ne z]; exact e⟩
theorem tabs_new {T : List (Addr × Str)} {p : Addr} {o : HO} (hp : H p = none) (h : LamX.Tabs T H) : LamX.Tabs T (upd H p o) := h.ext fun b u e => by
  rw [upd_ne (ne_of_none e hp)]
  exact e
theorem tabs_put {T : List (Addr × Str)} {p : Addr} {u o : HO} (hu : H p = some u) (hm : isThing u = true) (h : LamX.Tabs T H) : LamX.Tabs T (upd H p o) := fun q hq => by
  obtain ⟨ps, h1, h2, h3⟩ := h q hq
  refine ⟨ps, ?_, h2, fun pos cv hc => ?_⟩
  · rw [upd_ne (fun z => by rw [z, hu] at h1; cases h1; cases hm)]
    exact h1
  · obtain ⟨c, e1, e2⟩ := h3 pos cv hc
    refine ⟨c, e1, ?_⟩
    rw [upd_ne (fun z => by rw [z, hu] at e2; cases e2; cases hm)]
    exact e2
theorem fz_upd (r : R G F ι S H) {p : Addr} {o : HO} (hF : ¬ F p) {a : Addr} (h : F a) : ∃ u, upd H p o a = some u ∧ isThing u = true := by
  obtain ⟨u, hu, hm⟩ := r.fz a h
  exact ⟨u, by rw [upd_ne (fun z => by subst z; exact hF h)]; exact hu, hm⟩
/-- a new object of the layer's heap, not of the store -/
theorem R.fresh {p : Addr} {o : HO} (r : R G F ι S H) (hp : H p = none) : R G F ι S (upd H p o) where
  len := r.len
  nd := r.nd
  nf := r.nf
  fz := fun a h => fz_upd r (r.nF hp) h
  tb := tabs_new hp r.tb
  ob := fun n a x e q => RelO.mono (keepW_new hp) (fun _ h => h) (List.prefix_refl _) (upd_ne (r.ne hp (List.mem_of_getElem? e))) (r.ob n a x e q)
theorem Nxt.fresh {p : Addr} {o : HO} (r : R G F ι S H) (hp : H p = none) : Nxt G F ι H F ι S (upd H p o) := ⟨fun _ h => h, keep_new hp, List.prefix_refl _, fun x a b => absurd a b, fun x a b => absurd a b, old_upd, r.fresh hp⟩
/-- a new object that is frozen at once -/
theorem Nxt.frz {p : Addr} {o : HO} (r : R G F ι S H) (hp : H p = none) (ho : isThing o = true := by rfl) : Nxt G F ι H (fun a => F a ∨ a = p) ι S (upd H p o) where
  sub := fun _ h => .inl h
  keep := keep_new hp
  pre := List.prefix_refl _
  nw := fun x a b => absurd a b
  nF := fun x a b => a.elim (fun z => absurd z b) fun z => by rw [z]; exact hp
  old := old_upd
  r :=
    { len := r.len
      nd := r.nd
      nf := fun a ha z => z.elim (r.nf a ha) fun e => r.ne hp ha e
      fz := fun a h => h.elim (fun h => fz_upd r (r.nF hp) h) fun h => ⟨o, by rw [h]; exact upd_same, ho⟩
      tb := tabs_new hp r.tb
      ob := fun n a x e q => RelO.mono (F' := fun a => F a ∨ a = p) (ι := ι) (keepW_new hp) (fun _ h => Or.inl h) (List.prefix_refl _) (upd_ne (r.ne hp (List.mem_of_getElem? e))) (r.ob n a x e q) }
/-- a new thing of the store -/
theorem Nxt.newO {p : Addr} {x : O} {u : HO} (r : R G F ι S H) (hp : H p = none) (hw : x.lo S.objs.length = true) (rd : RelO G F (ι ++ [p]) (upd H p u) p x) :
    Nxt G F ι H F (ι ++ [p]) (S.new x hw) (upd H p u) := by
  refine ⟨fun _ h => h, keep_new hp, List.prefix_append _ _, fun x a b => ?_, fun x a b => absurd a b, old_upd, ⟨by simp [Store.new, r.len], ?_, ?_, fun a h => fz_upd r (r.nF hp) h, tabs_new hp r.tb, ?_⟩⟩
  · have e : x = p := by simpa [b] using a
    rw [e]
    exact hp
  · rw [List.nodup_append]
    refine ⟨r.nd, by simp, fun a ha b hb => ?_⟩
    have e : b = p := by simpa using hb
    rw [e]
    exact r.ne hp ha
  · intro a ha
    rcases List.mem_append.mp ha with h | h
    · exact r.nf a h
    · have e : a = p := by simpa using h
      rw [e]
      exact r.nF hp
  · intro n a o e q
    by_cases hn : n < ι.length
    · rw [List.getElem?_append_left hn] at e
      have q' : S.objs[n]? = some o := by
        have hn' : n < S.objs.length := by rw [← r.len]; exact hn
        simpa [Store.new, List.getElem?_append_left hn'] using q
      exact RelO.mono (keepW_new hp) (fun _ h => h) (List.prefix_append _ _) (upd_ne (r.ne hp (List.mem_of_getElem? e))) (r.ob n a o e q')
    · have hn2 : n = ι.length := by
        have := (List.getElem?_eq_some_iff.mp e).1
        simp at this
        omega
      subst hn2
      simp at e
      subst e
      have q' : o = x := by
        have : (S.objs ++ [x])[ι.length]? = some o := q
        rw [r.len] at this
        simp at this
        exact this.symm
      subst q'
      exact rd
theorem Nxt.newL {p : Addr} {ds : List D} {vs : List V} (r : R G F ι S H) (hp : H p = none) (rd : RelDs G F ι H ds vs) (hw : (O.lst ds).lo S.objs.length = true) :
    Nxt G F ι H F (ι ++ [p]) (S.new (.lst ds) hw) (upd H p (.lst vs)) := Nxt.newO r hp hw ⟨vs, upd_same, rd.mono (keepW_new hp) (fun _ h => h) (List.prefix_append _ _)⟩
theorem keep_put {p : Addr} {u o : HO} (hF : ¬ F p) (hi : p ∈ ι) (hu : H p = some u) (hm : isImm u = false) : Keep F ι H (upd H p o) := fun a o e h => by
  by_cases z : a = p
  · subst z
    rcases h with h | h | h
    · exact absurd h hF
    · rw [hu] at e
      cases e
      rw [hm] at h
      cases h
    · exact absurd hi h.1
  · rw [upd_ne z]
    exact e
/-- a changed thing of the store -/
theorem Nxt.putO {n : Nat} {p : Addr} {x : O} {u u' : HO} (r : R G F ι S H) (hi : ι[n]? = some p) (hu : H p = some u) (hm : isThing u = true) (hw : x.lo S.objs.length = true) (rd : RelO G F ι (upd H p u') p x) :
    Nxt G F ι H F ι (S.put n x hw) (upd H p u') := by
  have hF : ¬ F p := r.nf p (List.mem_of_getElem? hi)
  have hmm : isImm u = false := by cases u <;> first | rfl | cases hm
  have k : Keep F ι H (upd H p u') := keep_put hF (List.mem_of_getElem? hi) hu hmm
  refine ⟨fun _ h => h, k, List.prefix_refl _, fun x a b => absurd a b, fun x a b => absurd a b, old_upd, ⟨by simp [Store.put, r.len], r.nd, r.nf, fun a h => fz_upd r hF h, tabs_put hu hm r.tb, fun m a o e q => ?_⟩⟩
  by_cases hm : m = n
  · subst hm
    rw [hi] at e
    cases e
    have hlt : m < S.objs.length := by
      rw [← r.len]
      exact (List.getElem?_eq_some_iff.mp hi).1
    have q' : o = x := by
      have : (S.objs.set m x)[m]? = some o := q
      rw [List.getElem?_set_self hlt] at this
      exact (Option.some.inj this).symm
    subst q'
    exact rd
  · have q' : S.objs[m]? = some o := by
      have : (S.objs.set n x)[m]? = some o := q
      rwa [List.getElem?_set_ne (Ne.symm hm)] at this
    refine RelO.mono k.w (fun _ h => h) (List.prefix_refl _) (upd_ne fun z => hm ?_) (r.ob m a o e q')
    subst z
    obtain ⟨h1, e1⟩ := List.getElem?_eq_some_iff.mp e
    obtain ⟨h2, e2⟩ := List.getElem?_eq_some_iff.mp hi
    exact (List.getElem_inj r.nd).mp (e1.trans e2.symm)
theorem Nxt.putL {n : Nat} {p : Addr} {es : List D} {us vs : List V} (r : R G F ι S H) (hi : ι[n]? = some p) (hu : H p = some (.lst us)) (rd : RelDs G F ι H es vs) (hw : (O.lst es).lo S.objs.length = true) :
    Nxt G F ι H F ι (S.put n (.lst es) hw) (upd H p (.lst vs)) :=
  Nxt.putO r hi hu rfl hw ⟨vs, upd_same, rd.mono (keep_put (r.nf p (List.mem_of_getElem? hi)) (List.mem_of_getElem? hi) hu rfl).w (fun _ h => h) (List.prefix_refl _)⟩
theorem rel_frzL {p : Addr} {ps : List P} {vs : List V} (hp : H p = none) (h : RelPs G F H ps vs) : RelD G (fun a => F a ∨ a = p) ι (upd H p (.lst vs)) (.p (.lst ps)) (.ref p) := by
  simp only [RelD, RelP]
  exact ⟨p, vs, rfl, .inr rfl, upd_same, h.mono (keepW_new hp) fun _ h => .inl h⟩
theorem rel_newT {p : Addr} {ds : List D} {vs : List V} (hp : H p = none) (h : RelDs G F ι H ds vs) : RelD G F ι (upd H p (.tup vs)) (mkTup ds) (.ref p) :=
  mkTup_rel upd_same (h.mono (keepW_new hp) (fun _ h => h) (List.prefix_refl _))
end
end DL
set_option maxHeartbeats 2000000
/-! DLExpr: expressions. -/
namespace DL
open PySem PySem.Spec PyProof.Rows L2
variable [HasT]

abbrev gb (X : Cx) : Gb := ⟨X.K, X.mg⟩
def lift {α : Type} (f : Store → Option (α × Store)) : M α := fun S => match f S with
  | some (a, S') => .ok a S'
  | none => .stuck
abbrev F2 := D → D → Store → Option (D × Store)
abbrev F1 := D → Store → Option (D × Store)
abbrev FL := List D → Store → Option (D × Store)

/-! ### what the runs are -/
def mC (x : P) : ME D := fun _ S => .ok (.p x) S
def mVar (i : Nat) : ME D := fun ρ S => match ρ[i]? with
  | some (some d) => .ok d S
  | _ => .stuck
def mOp2 (f : F2) (ma mb : ME D) : ME D := fun ρ S => (ma ρ S).bind fun x => fun S => (mb ρ S).bind fun y => lift (f x y)
def mOp1 (f : F1) (ma : ME D) : ME D := fun ρ S => (ma ρ S).bind fun x => lift (f x)
def asB : D → M Bool
  | .p (.bl b) => fun S => .ok b S
  | _ => fun _ => .stuck
def mTest (m : ME D) : ME Bool := fun ρ S => (m ρ S).bind asB
def mNil : ME (List D) := fun _ S => .ok [] S
def mCons (ma : ME D) (mr : ME (List D)) : ME (List D) := fun ρ S => (ma ρ S).bind fun x => fun S => (mr ρ S).bind fun xs => fun S => .ok (x :: xs) S
def mCallB (g : FL) (m : ME (List D)) : ME D := fun ρ S => (m ρ S).bind fun xs => lift (g xs)
def mAnd (ma mb : ME D) : ME D := fun ρ S => (ma ρ S).bind fun x => fun S => (asB x S).bind fun b => fun S => if b = true then mb ρ S else .ok (.p (.bl false)) S
def mOr (ma mb : ME D) : ME D := fun ρ S => (ma ρ S).bind fun x => fun S => (asB x S).bind fun b => fun S => if b = true then .ok (.p (.bl true)) S else mb ρ S
def mNot (ma : ME D) : ME D := fun ρ S => (ma ρ S).bind fun x => fun S => (asB x S).bind fun b => fun S => .ok (.p (.bl (!b))) S
def mIf (mt : ME Bool) (ma mb : ME D) : ME D := fun ρ S => (mt ρ S).bind fun b => fun S => if b = true then ma ρ S else mb ρ S
def mAndT (ma mb : ME Bool) : ME Bool := fun ρ S => (ma ρ S).bind fun b => fun S => if b = true then mb ρ S else .ok false S
def mOrT (ma mb : ME Bool) : ME Bool := fun ρ S => (ma ρ S).bind fun b => fun S => if b = true then .ok true S else mb ρ S
def mNotT (ma : ME Bool) : ME Bool := fun ρ S => (ma ρ S).bind fun b => fun S => .ok (!b) S
def mChain (f g : F2) (ma mb mc : ME D) : ME D := fun ρ S => (ma ρ S).bind fun x => fun S => (mb ρ S).bind fun y => fun S => (lift (f x y) S).bind fun z => fun S => (asB z S).bind fun b => fun S =>
  if b = true then (mc ρ S).bind fun u => lift (g y u) else .ok (.p (.bl false)) S

section
variable {X : Cx} {W : WX} {e a b c : Expr} {es : List Expr} {pos : Pos} {ma mb mc : ME D}

/-! ### constants, names -/
theorem T_c {G : Gb} {x : P} {v : V} (h : ∀ F H, RelP G F H x v) {σ : L2.St} {H : Hp} {Q : VK} (q : T G W (mC x) σ H Q) : Q v H := by
  obtain ⟨ρ, S, ι, F, a, t⟩ := q
  exact t.val a.r (by simp only [RelD]; exact h F H)
theorem de_int {i : Int} {j} : DE X W (.Constant (.int i) j pos) (mC (.int i)) := PE.imp pe_int fun σ H Q q => T_c (fun _ _ => by simp only [RelP]) q
theorem de_bl {b : Bool} {j} : DE X W (.Constant (.bool b) j pos) (mC (.bl b)) := PE.imp pe_bl fun σ H Q q => T_c (fun _ _ => by simp only [RelP]) q
theorem de_var (i : Nat) {x : Str} (hN : X.N[i]? = some x := by rfl) (hv : Vis X.env.scope x := by first | exact Or.inl rfl | exact Or.inr (Or.inl rfl) | exact Or.inr (Or.inr rfl)) (hd : (x == ("__debug__" : Str)) = false := by decide)
    (hcd : (x == ("__classdict__" : Str)) = false := by decide) : DE X W (.Name x pos) (mVar i) := PE.imp (pe_var hN hv hd hcd) fun σ H Q q => by
  obtain ⟨ρ, S, ι, F, at', t⟩ := q
  unfold mVar at t
  split at t
  · rename_i d e
    obtain ⟨v, ev, r⟩ := at'.e.get e
    exact ⟨v, ev, t.val at'.r r⟩
  · exact t.elim
/-- a module's constant -/
theorem de_glob {x : Str} {v : V} {u : Value} {p : P} (hg : Gl X x) (hm : X.mg x = some u) (r : RelV v u) (hp : ∀ F H, RelP (gb X) F H p v) (hd : (x == ("__debug__" : Str)) = false := by decide) : DE X W (.Name x pos) (mC p) :=
  PE.imp (pe_glob hg hm r hd) fun σ H Q q => T_c (fun F H => hp F H) q
theorem de_gint {x : Str} {i : Int} (hm : ∃ t, X.mg x = some (.int i t)) (hg : Gl X x := by rfl) (hd : (x == ("__debug__" : Str)) = false := by decide) : DE X W (.Name x pos) (mC (.int i)) := by
  obtain ⟨t, hm⟩ := hm
  exact de_glob (v := .int i) hg hm ⟨t, rfl⟩ (fun _ _ => by simp only [RelP]) hd
/-! ### operators -/
def OpD (X : Cx) (g : Value → Value → Sem Value) (f : F2) : Prop :=
  ∃ r : R2, OpR X g r ∧ ∀ {F : Addr → Prop} {ι : List Addr} {S S' : Store} {H : Hp} {d1 d2 d' : D} {v1 v2 : V} {Q : VK}, R (gb X) F ι S H → RelD (gb X) F ι H d1 v1 → RelD (gb X) F ι H d2 v2 → f d1 d2 S = some (d', S') →
    (∀ F' ι' H' v, Nxt (gb X) F ι H F' ι' S' H' → RelD (gb X) F' ι' H' d' v → Q v H') → r v1 v2 H Q
theorem OpD.or {g : Value → Value → Sem Value} {f f' : F2} (h : OpD X g f) (h' : OpD X g f') : OpD X g (fun x y S => match f x y S with
    | some z => some z
    | none => f' x y S) := by
  obtain ⟨r, o, k⟩ := h
  obtain ⟨r', o', k'⟩ := h'
  refine ⟨_, o.or o', fun {F ι S S' H d1 d2 d' v1 v2 Q} rs r1 r2 e q => ?_⟩
  dsimp only at e
  split at e
  · rename_i z ez
    cases e
    exact .inl (k rs r1 r2 ez q)
  · exact .inr (k' rs r1 r2 e q)
theorem OpD.imp {g : Value → Value → Sem Value} {f f' : F2} (h : OpD X g f) (i : ∀ x y S z, f' x y S = some z → f x y S = some z) : OpD X g f' := by
  obtain ⟨r, o, k⟩ := h
  exact ⟨r, o, fun rs r1 r2 e q => k rs r1 r2 (i _ _ _ _ e) q⟩
theorem lift_then {G : Gb} {W : Value → Option Addr → Hp → Prop} {F : Addr → Prop} {ι : List Addr} {H : Hp} {α : Type} {f : Store → Option (α × Store)} {S : Store} {Q : α → Store → (Addr → Prop) → List Addr → Hp → Prop}
    (h : Then G W F ι H (lift f S) Q) : ∃ a S', f S = some (a, S') ∧ ∀ F' ι' H', Nxt G F ι H F' ι' S' H' → Q a S' F' ι' H' := by
  unfold lift at h
  split at h
  · rename_i a S' e
    exact ⟨a, S', e, h⟩
  · exact h.elim
theorem op2_imp {f : F2} {r : R2} (k : ∀ {F : Addr → Prop} {ι : List Addr} {S S' : Store} {H : Hp} {d1 d2 d' : D} {v1 v2 : V} {Q : VK}, R (gb X) F ι S H → RelD (gb X) F ι H d1 v1 → RelD (gb X) F ι H d2 v2 → f d1 d2 S = some (d', S') →
    (∀ F' ι' H' v, Nxt (gb X) F ι H F' ι' S' H' → RelD (gb X) F' ι' H' d' v → Q v H') → r v1 v2 H Q) (σ : L2.St) (H : Hp) (Q : VK) (q : T (gb X) W (mOp2 f ma mb) σ H Q) : tOp r (T (gb X) W ma) (T (gb X) W mb) σ H Q := by
  obtain ⟨ρ, S, ι, F, at', t⟩ := q
  refine T.first at' t fun d1 S1 F1 ι1 H1 v1 n1 a1 r1 t1 => ?_
  refine T.first a1 t1 fun d2 S2 F2 ι2 H2 v2 n2 a2 r2 t2 => ?_
  obtain ⟨d', S', e, q⟩ := lift_then t2
  exact k a2.r (n2.d r1) r2 e fun F' ι' H' v n r => q F' ι' H' n v r
theorem de_op2 {op : Operator} {f : F2} (ho : OpD X (binaryOp op) f) (ha : DE X W a ma) (hb : DE X W b mb) : DE X W (.BinOp a op b pos) (mOp2 f ma mb) := by
  obtain ⟨r, o, k⟩ := ho
  exact PE.imp (pe_op o ha hb) (op2_imp k)
theorem de_cmp {op : CmpOp} {f : F2} (ho : OpD X (compareOp op) f) (ha : DE X W a ma) (hb : DE X W b mb) (hm : behindInMarks op b = false) : DE X W (.Compare a [op] [b] pos) (mOp2 f ma mb) := by
  obtain ⟨r, o, k⟩ := ho
  exact PE.imp (pe_cmpR o ha hb hm) (op2_imp k)
theorem asB_then {G : Gb} {W : Value → Option Addr → Hp → Prop} {F : Addr → Prop} {ι : List Addr} {H : Hp} {α : Type} {d : D} {S : Store} {k : Bool → M α} {v : V} {Q : α → Store → (Addr → Prop) → List Addr → Hp → Prop}
    (h : Then G W F ι H ((asB d S).bind k) Q) (r : RelD G F ι H d v) : ∃ b, v = .bl b ∧ Then G W F ι H (k b S) Q := by
  unfold asB at h
  split at h
  · rename_i b
    simp only [RelD, RelP] at r
    exact ⟨b, r, h⟩
  · exact h.elim
theorem asB_then' {G : Gb} {W : Value → Option Addr → Hp → Prop} {F : Addr → Prop} {ι : List Addr} {H : Hp} {d : D} {S : Store} {v : V} {Q : Bool → Store → (Addr → Prop) → List Addr → Hp → Prop}
    (h : Then G W F ι H (asB d S) Q) (r : RelD G F ι H d v) (rs : R G F ι S H) : ∃ b, v = .bl b ∧ Q b S F ι H := by
  unfold asB at h
  split at h
  · rename_i b
    simp only [RelD, RelP] at r
    exact ⟨b, r, h.now rs⟩
  · exact h.elim
theorem dt_cmp {op : CmpOp} {f : F2} (ho : OpD X (compareOp op) f) (ha : DE X W a ma) (hb : DE X W b mb) (hm : behindInMarks op b = false) : DT X W (.Compare a [op] [b] pos) (mTest (mOp2 f ma mb)) := by
  obtain ⟨r, o, k⟩ := ho
  refine PT.imp (pt_cmpR o ha hb hm) fun σ H Q q => ?_
  obtain ⟨ρ, S, ι, F, at', t⟩ := q
  exact op2_imp k σ H _ ⟨ρ, S, ι, F, at', t.bind.mono fun d S1 F1 ι1 H1 n t1 v r1 => asB_then' t1 r1 n.r⟩
theorem dt_val (h : DE X W e ma) (he : ∀ whole, isTrue e X.env whole = (do let v ← whole; standAt e.pos; holding [v] (truthy v)) := by intro _; rfl) : DT X W e (mTest ma) := PT.imp (pt_val h he) fun σ H Q q => by
  obtain ⟨ρ, S, ι, F, at', t⟩ := q
  refine T.first at' t fun d1 S1 F1 ι1 H1 v1 n1 a1 r1 t1 => ?_
  exact asB_then' t1 r1 a1.r
/-- a chain of two comparisons -/
theorem chain_imp {f g : F2} {r r' : R2} (k : ∀ {F : Addr → Prop} {ι : List Addr} {S S' : Store} {H : Hp} {d1 d2 d' : D} {v1 v2 : V} {Q : VK}, R (gb X) F ι S H → RelD (gb X) F ι H d1 v1 → RelD (gb X) F ι H d2 v2 → f d1 d2 S = some (d', S') →
    (∀ F' ι' H' v, Nxt (gb X) F ι H F' ι' S' H' → RelD (gb X) F' ι' H' d' v → Q v H') → r v1 v2 H Q) (k' : ∀ {F : Addr → Prop} {ι : List Addr} {S S' : Store} {H : Hp} {d1 d2 d' : D} {v1 v2 : V} {Q : VK}, R (gb X) F ι S H → RelD (gb X) F ι H d1 v1 → RelD (gb X) F ι H d2 v2 → g d1 d2 S = some (d', S') →
    (∀ F' ι' H' v, Nxt (gb X) F ι H F' ι' S' H' → RelD (gb X) F' ι' H' d' v → Q v H') → r' v1 v2 H Q) (σ : L2.St) (H : Hp) (Q : VK) (q : T (gb X) W (mChain f g ma mb mc) σ H Q) : tChain r r' (T (gb X) W ma) (T (gb X) W mb) (T (gb X) W mc) σ H Q := by
  obtain ⟨ρ, S, ι, F, at', t⟩ := q
  refine T.first at' t fun d1 S1 F1 ι1 H1 v1 n1 a1 r1 t1 => ?_
  refine T.first a1 t1 fun d2 S2 F2 ι2 H2 v2 n2 a2 r2 t2 => ?_
  obtain ⟨z, S3, e3, q3⟩ := lift_then t2.bind
  refine k a2.r (n2.d r1) r2 e3 fun F3 ι3 H3 v3 n3 r3 => ?_
  obtain ⟨c, rfl, t4⟩ := asB_then (q3 F3 ι3 H3 n3) r3
  refine ⟨c, rfl, ?_⟩
  have a3 := a2.next n3
  cases c with
  | true =>
    rw [if_pos rfl] at t4 ⊢
    refine T.first a3 t4 fun d4 S4 F4 ι4 H4 v4 n4 a4 r4 t4 => ?_
    obtain ⟨d5, S5, e5, q5⟩ := lift_then t4
    exact k' a4.r (n4.d (n3.d r2)) r4 e5 fun F' ι' H' v n r => q5 F' ι' H' n v r
  | false =>
    rw [if_neg (by decide)] at t4 ⊢
    exact t4.val a3.r (by simp only [RelD, RelP])
theorem de_chain {op op' : CmpOp} {f g : F2} (ho : OpD X (compareOp op) f) (ho' : OpD X (compareOp op') g) (ha : DE X W a ma) (hb : DE X W b mb) (hc : DE X W c mc)
    (h : ∀ r r', OpR X (compareOp op) r → OpR X (compareOp op') r' → PE X (.Compare a [op, op'] [b, c] pos) (tChain r r' (T (gb X) W ma) (T (gb X) W mb) (T (gb X) W mc))) : DE X W (.Compare a [op, op'] [b, c] pos) (mChain f g ma mb mc) := by
  obtain ⟨r, o, k⟩ := ho
  obtain ⟨r', o', k'⟩ := ho'
  exact PE.imp (h r r' o o') (chain_imp k k')
/-! ### one operand -/
/-! ### and, or, not, if -/
theorem de_one {op} (h : DE X W a ma) : DE X W (.BoolOp op [a] pos) ma := pe_one h
theorem de_and {rest : List Expr} (ha : DE X W a ma) (hb : DE X W (.BoolOp .And (b :: rest) pos) mb) : DE X W (.BoolOp .And (a :: b :: rest) pos) (mAnd ma mb) := PE.imp (pe_and ha hb) fun σ H Q q => by
  obtain ⟨ρ, S, ι, F, at', t⟩ := q
  refine T.first at' t fun d1 S1 F1 ι1 H1 v1 n1 a1 r1 t1 => ?_
  obtain ⟨c, rfl, t2⟩ := asB_then t1 r1
  refine ⟨c, rfl, ?_⟩
  cases c with
  | true =>
    rw [if_pos rfl] at t2 ⊢
    exact ⟨ρ, S1, ι1, F1, a1, t2⟩
  | false =>
    rw [if_neg (by decide)] at t2 ⊢
    exact t2.val a1.r (by simp only [RelD, RelP])
theorem de_or {rest : List Expr} (ha : DE X W a ma) (hb : DE X W (.BoolOp .Or (b :: rest) pos) mb) : DE X W (.BoolOp .Or (a :: b :: rest) pos) (mOr ma mb) := PE.imp (pe_or ha hb) fun σ H Q q => by
  obtain ⟨ρ, S, ι, F, at', t⟩ := q
  refine T.first at' t fun d1 S1 F1 ι1 H1 v1 n1 a1 r1 t1 => ?_
  obtain ⟨c, rfl, t2⟩ := asB_then t1 r1
  refine ⟨c, rfl, ?_⟩
  cases c with
  | true =>
    rw [if_pos rfl] at t2 ⊢
    exact t2.val a1.r (by simp only [RelD, RelP])
  | false =>
    rw [if_neg (by decide)] at t2 ⊢
    exact ⟨ρ, S1, ι1, F1, a1, t2⟩
theorem de_not (ha : DE X W a ma) : DE X W (.UnaryOp .Not a pos) (mNot ma) := PE.imp (pe_not ha) fun σ H Q q => by
  obtain ⟨ρ, S, ι, F, at', t⟩ := q
  refine T.first at' t fun d1 S1 F1 ι1 H1 v1 n1 a1 r1 t1 => ?_
  obtain ⟨c, rfl, t2⟩ := asB_then t1 r1
  exact ⟨c, rfl, t2.val a1.r (by simp only [RelD, RelP])⟩
theorem de_if {mt : ME Bool} (hc : DT X W c mt) (ha : DE X W a ma) (hb : DE X W b mb) : DE X W (.IfExp c a b pos) (mIf mt ma mb) := PE.imp (pe_ifExp hc ha hb) fun σ H Q q => by
  obtain ⟨ρ, S, ι, F, at', t⟩ := q
  refine TB.first at' t fun c S1 F1 ι1 H1 n1 a1 t1 => ?_
  cases c with
  | true =>
    rw [if_pos rfl] at t1 ⊢
    exact ⟨ρ, S1, ι1, F1, a1, t1⟩
  | false =>
    rw [if_neg (by decide)] at t1 ⊢
    exact ⟨ρ, S1, ι1, F1, a1, t1⟩
abbrev DW (X : Cx) (W : WX) (e : Expr) (m : ME Bool) : Prop := PW X e (TB (gb X) W m)
variable {mt mu : ME Bool}
theorem dw_and1 (ha : DT X W a mt) : DW X W (.BoolOp .And [a] pos) mt := pw_and1 ha
theorem dw_or1 (ha : DT X W a mt) : DW X W (.BoolOp .Or [a] pos) mt := pw_or1 ha
theorem dw_and {rest : List Expr} (ha : DT X W a mt) (hb : DW X W (.BoolOp .And (b :: rest) pos) mu) : DW X W (.BoolOp .And (a :: b :: rest) pos) (mAndT mt mu) := PW.imp (pw_and ha hb) fun σ H Q q => by
  obtain ⟨ρ, S, ι, F, at', t⟩ := q
  refine TB.first at' t fun c S1 F1 ι1 H1 n1 a1 t1 => ?_
  cases c with
  | true =>
    rw [if_pos rfl] at t1 ⊢
    exact ⟨ρ, S1, ι1, F1, a1, t1⟩
  | false =>
    rw [if_neg (by decide)] at t1 ⊢
    exact t1.now a1.r
theorem dw_or {rest : List Expr} (ha : DT X W a mt) (hb : DW X W (.BoolOp .Or (b :: rest) pos) mu) : DW X W (.BoolOp .Or (a :: b :: rest) pos) (mOrT mt mu) := PW.imp (pw_or ha hb) fun σ H Q q => by
  obtain ⟨ρ, S, ι, F, at', t⟩ := q
  refine TB.first at' t fun c S1 F1 ι1 H1 n1 a1 t1 => ?_
  cases c with
  | true =>
    rw [if_pos rfl] at t1 ⊢
    exact t1.now a1.r
  | false =>
    rw [if_neg (by decide)] at t1 ⊢
    exact ⟨ρ, S1, ι1, F1, a1, t1⟩
theorem dt_bool (h : DW X W e mt) : DT X W e mt := PW.pt h
theorem dt_not (ha : DT X W a mt) : DT X W (.UnaryOp .Not a pos) (mNotT mt) := PT.imp (pt_not ha) fun σ H Q q => by
  obtain ⟨ρ, S, ι, F, at', t⟩ := q
  refine TB.first at' t fun c S1 F1 ι1 H1 n1 a1 t1 => ?_
  exact t1.now a1.r

/-! ### arguments, built-in calls -/
theorem da_nil : DA X W [] mNil := PA.imp pa_nil fun σ H Q q => by
  obtain ⟨ρ, S, ι, F, at', t⟩ := q
  exact t.now at'.r [] relDs_nil'
variable {mr : ME (List D)}
theorem da_cons (ha : DE X W e ma) (hr : DA X W es mr) (hs : starEach (e :: es) X.env = (false, eval e X.env) :: starEach es X.env := by rfl) : DA X W (e :: es) (mCons ma mr) := PA.imp (pa_cons ha hr hs) fun σ H Q q => by
  obtain ⟨ρ, S, ι, F, at', t⟩ := q
  refine T.first at' t fun d1 S1 F1 ι1 H1 v1 n1 a1 r1 t1 => ?_
  refine TL.first a1 t1 fun ds S2 F2 ι2 H2 vs n2 a2 r2 t2 => ?_
  exact t2.now a2.r _ (relDs_cons.mpr ⟨n2.d r1, r2⟩)
def CallD (X : Cx) (f : Value) (g : FL) : Prop :=
  ∃ r : List V → Hp → VK → Prop, CallR X f r ∧ ∀ {F : Addr → Prop} {ι : List Addr} {S S' : Store} {H : Hp} {ds : List D} {d' : D} {vs : List V} {Q : VK}, R (gb X) F ι S H → RelDs (gb X) F ι H ds vs → g ds S = some (d', S') →
    (∀ F' ι' H' v, Nxt (gb X) F ι H F' ι' S' H' → RelD (gb X) F' ι' H' d' v → Q v H') → r vs H Q
theorem CallD.or {f : Value} {g g' : FL} (h : CallD X f g) (h' : CallD X f g') : CallD X f (fun x S => match g x S with
    | some z => some z
    | none => g' x S) := by
  obtain ⟨r, o, k⟩ := h
  obtain ⟨r', o', k'⟩ := h'
  refine ⟨_, o.or o', fun {F ι S S' H ds d' vs Q} rs r1 e q => ?_⟩
  dsimp only at e
  split at e
  · rename_i z ez
    cases e
    exact .inl (k rs r1 ez q)
  · exact .inr (k' rs r1 e q)
theorem CallD.imp {f : Value} {g g' : FL} (h : CallD X f g) (i : ∀ x S z, g' x S = some z → g x S = some z) : CallD X f g' := by
  obtain ⟨r, o, k⟩ := h
  exact ⟨r, o, fun rs r1 e q => k rs r1 (i _ _ _ e) q⟩
theorem callB_imp {g : FL} {r : List V → Hp → VK → Prop} (k : ∀ {F : Addr → Prop} {ι : List Addr} {S S' : Store} {H : Hp} {ds : List D} {d' : D} {vs : List V} {Q : VK}, R (gb X) F ι S H → RelDs (gb X) F ι H ds vs → g ds S = some (d', S') →
    (∀ F' ι' H' v, Nxt (gb X) F ι H F' ι' S' H' → RelD (gb X) F' ι' H' d' v → Q v H') → r vs H Q) (σ : L2.St) (H : Hp) (Q : VK) (q : T (gb X) W (mCallB g mr) σ H Q) : tCB r (TL (gb X) W mr) σ H Q := by
  obtain ⟨ρ, S, ι, F, at', t⟩ := q
  refine TL.first at' t fun ds S1 F1 ι1 H1 vs n1 a1 r1 t1 => ?_
  obtain ⟨d', S', e, q⟩ := lift_then t1
  exact k a1.r r1 e fun F' ι' H' v n r => q F' ι' H' n v r
theorem de_callB {x : Str} {id : String} {g : FL} {p : Pos} (hc : CallD X (.builtin id) g) (hm : X.mg x = none) (hv : bootBuiltins x = some (.builtin id)) (ha : DA X W (e :: es) mr) (hg : Gl X x := by rfl) (hn : x ≠ "__name__" := by decide) (hdb : (x == ("__debug__" : Str)) = false := by decide)
    (he : starEach (e :: es) X.env = (false, eval e X.env) :: starEach es X.env := by rfl) (hpl : (backTo pos (starEach es X.env)).any (·.1) = false := by rfl) : DE X W (.Call (.Name x p) (e :: es) [] pos) (mCallB g mr) := by
  obtain ⟨r, o, k⟩ := hc
  exact PE.imp (pe_callB o hg hm hv ha hn hdb he hpl) (callB_imp k)
theorem de_callTy {x : Str} {T : String} {g : FL} {p : Pos} (hc : CallD X (.type T) g) (hm : X.mg x = none) (hv : bootBuiltins x = some (.type T)) (ha : DA X W (e :: es) mr) (hg : Gl X x := by rfl) (hn : x ≠ "__name__" := by decide) (hdb : (x == ("__debug__" : Str)) = false := by decide)
    (he : starEach (e :: es) X.env = (false, eval e X.env) :: starEach es X.env := by rfl) (hpl : (backTo pos (starEach es X.env)).any (·.1) = false := by rfl) : DE X W (.Call (.Name x p) (e :: es) [] pos) (mCallB g mr) := by
  obtain ⟨r, o, k⟩ := hc
  exact PE.imp (pe_callTy o hg hm hv ha hn hdb he hpl) (callB_imp k)

/-! ### displays -/
def fTup : FL := fun ds S => if ds.length ≤ 100000 then some (mkTup ds, S) else none
def fLstF : FL := fun ds S => if ds.length ≤ 100000 then (match pures ds with
  | some ps => some (.p (.lst ps), S)
  | none => none) else none
def fLst : FL := fun ds S => if ds.length ≤ 100000 then (if h : (O.lst ds).lo S.objs.length = true then some (.r S.objs.length, S.new (.lst ds) h) else none) else none
theorem szOk {n : Nat} (h : n ≤ 100000) : n ≤ sizeLine := Nat.le_trans h (by rw [sizeLine_eq]; decide)
/-- what makes a new frozen list | a new list of the store -/
theorem fLstF_new {F : Addr → Prop} {ι : List Addr} {S S' : Store} {H : Hp} {ds : List D} {d' : D} {vs : List V} {Q : VK} (rs : R (gb X) F ι S H) (r : RelDs (gb X) F ι H ds vs) (e : fLstF ds S = some (d', S'))
    (q : ∀ F' ι' H' v, Nxt (gb X) F ι H F' ι' S' H' → RelD (gb X) F' ι' H' d' v → Q v H') : vs.length ≤ sizeLine ∧ ∀ p, H p = none → Q (.ref p) (upd H p (.lst vs)) := by
  unfold fLstF at e
  split at e
  · rename_i hl
    split at e
    · rename_i ps ep
      cases e
      exact ⟨by rw [← relDs_len r]; exact szOk hl, fun p hp => q _ _ _ _ (Nxt.frz rs hp) (rel_frzL hp (pures_rel ep r))⟩
    · cases e
  · cases e
theorem fLst_new {F : Addr → Prop} {ι : List Addr} {S S' : Store} {H : Hp} {ds : List D} {d' : D} {vs : List V} {Q : VK} (rs : R (gb X) F ι S H) (r : RelDs (gb X) F ι H ds vs) (e : fLst ds S = some (d', S'))
    (q : ∀ F' ι' H' v, Nxt (gb X) F ι H F' ι' S' H' → RelD (gb X) F' ι' H' d' v → Q v H') : vs.length ≤ sizeLine ∧ ∀ p, H p = none → Q (.ref p) (upd H p (.lst vs)) := by
  unfold fLst at e
  split at e
  · rename_i hl
    split at e
    · rename_i hw
      cases e
      refine ⟨by rw [← relDs_len r]; exact szOk hl, fun p hp => q _ _ _ _ (Nxt.newL rs hp r hw) ?_⟩
      simp only [RelD]
      exact ⟨p, rfl, by rw [← rs.len]; simp⟩
    · cases e
  · cases e
theorem fTup_new {F : Addr → Prop} {ι : List Addr} {S S' : Store} {H : Hp} {ds : List D} {d' : D} {vs : List V} {Q : VK} (rs : R (gb X) F ι S H) (r : RelDs (gb X) F ι H ds vs) (e : fTup ds S = some (d', S'))
    (q : ∀ F' ι' H' v, Nxt (gb X) F ι H F' ι' S' H' → RelD (gb X) F' ι' H' d' v → Q v H') : vs.length ≤ sizeLine ∧ ∀ p, H p = none → Q (.ref p) (upd H p (.tup vs)) := by
  unfold fTup at e
  split at e
  · rename_i hl
    cases e
    exact ⟨by rw [← relDs_len r]; exact szOk hl, fun p hp => q _ _ _ _ (Nxt.fresh rs hp) (rel_newT hp r)⟩
  · cases e
theorem de_tup {x1} (h : DA X W es mr) : DE X W (.Tuple es x1 pos) (mCallB fTup mr) := PE.imp (pe_tup h) fun σ H Q q => by
  obtain ⟨ρ, S, ι, F, at', t⟩ := q
  refine TL.first at' t fun ds S1 F1 ι1 H1 vs n1 a1 r1 t1 => ?_
  obtain ⟨d', S', e, q⟩ := lift_then t1
  exact fTup_new a1.r r1 e fun F' ι' H' v n r => q F' ι' H' n v r
theorem de_lstF (h : DA X W es mr) : DE X W (.List es pos) (mCallB fLstF mr) := PE.imp (pe_lst h) fun σ H Q q => by
  obtain ⟨ρ, S, ι, F, at', t⟩ := q
  refine TL.first at' t fun ds S1 F1 ι1 H1 vs n1 a1 r1 t1 => ?_
  obtain ⟨d', S', e, q⟩ := lift_then t1
  exact fLstF_new a1.r r1 e fun F' ι' H' v n r => q F' ι' H' n v r
theorem de_lst (h : DA X W es mr) : DE X W (.List es pos) (mCallB fLst mr) := PE.imp (pe_lst h) fun σ H Q q => by
  obtain ⟨ρ, S, ι, F, at', t⟩ := q
  refine TL.first at' t fun ds S1 F1 ι1 H1 vs n1 a1 r1 t1 => ?_
  obtain ⟨d', S', e, q⟩ := lift_then t1
  exact fLst_new a1.r r1 e fun F' ι' H' v n r => q F' ι' H' n v r
end
end DL
set_option maxHeartbeats 2000000
/-! DLStmt: statements, what is walked, comprehensions. -/
namespace DL
open PySem PySem.Spec PyProof.Rows L2
variable [HasT]

/-! ### the same value, by a look -/
mutual
def P.beq : P → P → Bool
  | .non, .non => true
  | .bl a, .bl b => a == b
  | .int a, .int b => a == b
  | .str a, .str b => a == b
  | .tup a, .tup b => P.beqs a b
  | .lst a, .lst b => P.beqs a b
  | .scr a, .scr b => P.beqs a b
  | .ins c a, .ins d b => c == d && P.beqf a b
  | .dic a, .dic b => P.beqk a b
  | .dit a, .dit b => P.beqt a b
  | .glo a, .glo b => a == b
  | .ty a, .ty b => a == b
  | _, _ => false
termination_by structural x => x
def P.beqs : List P → List P → Bool
  | [], [] => true
  | a :: x, b :: y => P.beq a b && P.beqs x y
  | _, _ => false
termination_by structural x => x
def P.beqf : List (Str × P) → List (Str × P) → Bool
  | [], [] => true
  | (f, a) :: x, (g, b) :: y => f == g && P.beq a b && P.beqf x y
  | _, _ => false
termination_by structural x => x
def P.beqk : List (Key × P) → List (Key × P) → Bool
  | [], [] => true
  | (f, a) :: x, (g, b) :: y => decide (f = g) && P.beq a b && P.beqk x y
  | _, _ => false
termination_by structural x => x
def P.beqt : List (List Key × P) → List (List Key × P) → Bool
  | [], [] => true
  | (f, a) :: x, (g, b) :: y => decide (f = g) && P.beq a b && P.beqt x y
  | _, _ => false
termination_by structural x => x
end
mutual
theorem P.beq_eq : ∀ {a b : P}, P.beq a b = true → a = b
  | .non, b, h => by cases b <;> simp_all [P.beq]
  | .bl a, b, h => by cases b <;> simp_all [P.beq]
  | .int a, b, h => by cases b <;> simp_all [P.beq]
  | .str a, b, h => by cases b <;> simp_all [P.beq]
  | .glo a, b, h => by cases b <;> simp_all [P.beq]
  | .ty a, b, h => by cases b <;> simp_all [P.beq]
  | .tup a, b, h => by
    cases b <;> simp only [P.beq, Bool.false_eq_true] at h
    rw [P.beqs_eq h]
  | .lst a, b, h => by
    cases b <;> simp only [P.beq, Bool.false_eq_true] at h
    rw [P.beqs_eq h]
  | .scr a, b, h => by
    cases b <;> simp only [P.beq, Bool.false_eq_true] at h
    rw [P.beqs_eq h]
  | .ins c a, b, h => by
    cases b <;> simp only [P.beq, Bool.false_eq_true, Bool.and_eq_true, beq_iff_eq] at h
    rw [h.1, P.beqf_eq h.2]
  | .dic a, b, h => by
    cases b <;> simp only [P.beq, Bool.false_eq_true] at h
    rw [P.beqk_eq h]
  | .dit a, b, h => by
    cases b <;> simp only [P.beq, Bool.false_eq_true] at h
    rw [P.beqt_eq h]
theorem P.beqs_eq : ∀ {a b : List P}, P.beqs a b = true → a = b
  | [], [], _ => rfl
  | [], _ :: _, h => by simp [P.beqs] at h
  | _ :: _, [], h => by simp [P.beqs] at h
  | a :: x, b :: y, h => by
    simp only [P.beqs, Bool.and_eq_true] at h
    rw [P.beq_eq h.1, P.beqs_eq h.2]
theorem P.beqf_eq : ∀ {a b : List (Str × P)}, P.beqf a b = true → a = b
  | [], [], _ => rfl
  | [], _ :: _, h => by simp [P.beqf] at h
  | _ :: _, [], h => by simp [P.beqf] at h
  | (f, a) :: x, (g, b) :: y, h => by
    simp only [P.beqf, Bool.and_eq_true, beq_iff_eq] at h
    rw [h.1.1, P.beq_eq h.1.2, P.beqf_eq h.2]
theorem P.beqk_eq : ∀ {a b : List (Key × P)}, P.beqk a b = true → a = b
  | [], [], _ => rfl
  | [], _ :: _, h => by simp [P.beqk] at h
  | _ :: _, [], h => by simp [P.beqk] at h
  | (f, a) :: x, (g, b) :: y, h => by
    simp only [P.beqk, Bool.and_eq_true, decide_eq_true_eq] at h
    rw [h.1.1, P.beq_eq h.1.2, P.beqk_eq h.2]
theorem P.beqt_eq : ∀ {a b : List (List Key × P)}, P.beqt a b = true → a = b
  | [], [], _ => rfl
  | [], _ :: _, h => by simp [P.beqt] at h
  | _ :: _, [], h => by simp [P.beqt] at h
  | (f, a) :: x, (g, b) :: y, h => by
    simp only [P.beqt, Bool.and_eq_true, decide_eq_true_eq] at h
    rw [h.1.1, P.beq_eq h.1.2, P.beqt_eq h.2]
end
mutual
def D.beq : D → D → Bool
  | .p a, .p b => P.beq a b
  | .r a, .r b => a == b
  | .t a, .t b => D.beqs a b
  | _, _ => false
def D.beqs : List D → List D → Bool
  | [], [] => true
  | a :: x, b :: y => D.beq a b && D.beqs x y
  | _, _ => false
end
mutual
theorem D.beq_eq : ∀ {a b : D}, D.beq a b = true → a = b
  | .p a, b, h => by
    cases b <;> simp only [D.beq, Bool.false_eq_true] at h
    rw [P.beq_eq h]
  | .r a, b, h => by cases b <;> simp_all [D.beq]
  | .t a, b, h => by
    cases b <;> simp only [D.beq, Bool.false_eq_true] at h
    rw [D.beqs_eq h]
theorem D.beqs_eq : ∀ {a b : List D}, D.beqs a b = true → a = b
  | [], [], _ => rfl
  | [], _ :: _, h => by simp [D.beqs] at h
  | _ :: _, [], h => by simp [D.beqs] at h
  | a :: x, b :: y, h => by
    simp only [D.beqs, Bool.and_eq_true] at h
    rw [D.beq_eq h.1, D.beqs_eq h.2]
end

/-! ### what is walked -/
/-- the items; the lists of the store that must stay as they are meanwhile -/
structure Src where
  xs : List D
  watch : List (Nat × List D)
def watchOk : List (Nat × List D) → Store → Bool
  | [], _ => true
  | (n, ds) :: w, S => (match S.objs[n]? with
    | some (.lst es) => D.beqs ds es
    | _ => false) && watchOk w S
theorem watchOk_at : ∀ {w : List (Nat × List D)} {S : Store} {n : Nat} {ds : List D}, watchOk w S = true → (n, ds) ∈ w → S.objs[n]? = some (.lst ds)
  | (m, es) :: w, S, n, ds, h, hm => by
    simp only [watchOk, Bool.and_eq_true] at h
    rcases List.mem_cons.mp hm with e | hm
    · cases e
      have h1 := h.1
      split at h1
      · rename_i fs q
        rw [q, D.beqs_eq h1]
      · cases h1
    · exact watchOk_at h.2 hm

/-- the walked thing J yields the items of src, in each later state in which they stand -/
def ItOk (G : Gb) (F : Addr → Prop) (ι : List Addr) (H : Hp) (J : It) (src : Src) : Prop :=
  ∀ F' ι' H' S', Nxt G F ι H F' ι' S' H' → watchOk src.watch S' = true → ∀ i, (src.xs.length ≤ i → J.stop i H') ∧
    ∀ d, src.xs[i]? = some d → J.go i H' ∧ ∀ x H'', J.yld i H' x H'' → Nxt G F' ι' H' F' ι' S' H'' ∧ RelD G F' ι' H'' d x
def TIt (G : Gb) (W : WX) (mi : ME Src) : TI := fun σ H Rr => ∃ ρ S ι F, At G F ι H σ ρ S ∧ Then G (fun c d H' => W c d σ H') F ι H (mi ρ S) fun src _ F' ι' H' => ∀ J, ItOk G F' ι' H' J src → Rr J H'
abbrev DI (X : Cx) (W : WX) (tg iter : Expr) (mi : ME Src) : Prop := PI X tg iter (TIt (gb X) W mi)
theorem PI.imp {X : Cx} {tg iter : Expr} {t t' : TI} (h : PI X tg iter t) (i : ∀ σ H Q, t' σ H Q → t σ H Q) : PI X tg iter t' := ⟨fun pins s σ H R I q => h.run pins s σ H R I (i σ H R q)⟩
def watchOf (d : D) (ds : List D) : List (Nat × List D) := match d with
  | .r n => [(n, ds)]
  | _ => []
/-- a list, read as it stands | a tuple -/
def srcSeq (d : D) (S : Store) : Option (Src × Store) := match d.tup? with
  | some ds => some (⟨ds, []⟩, S)
  | none => match d.lst? S with
    | some ds => some (⟨ds, watchOf d ds⟩, S)
    | none => none
def mSrc (f : D → Store → Option (Src × Store)) (m : ME D) : ME Src := fun ρ S => (m ρ S).bind fun d => lift (f d)
def mSrcA (f : List D → Store → Option (Src × Store)) (m : ME (List D)) : ME Src := fun ρ S => (m ρ S).bind fun d => lift (f d)

section
variable {X : Cx} {W : WX} {e a b c tg iter : Expr} {es : List Expr} {pos p : Pos} {ma mb mc : ME D} {mr : ME (List D)}
/-- what a readable list's address holds later on -/
theorem lst_later {G : Gb} {F F' : Addr → Prop} {ι ι' : List Addr} {H H' : Hp} {S S' : Store} {d : D} {ds : List D} {v : V} (r : RelD G F ι H d v) (hl : d.lst? S = some ds) (n : Nxt G F ι H F' ι' S' H') (w : watchOk (watchOf d ds) S' = true) : d.lst? S' = some ds := by
  cases d with
  | p x => cases x <;> first | exact hl | cases hl
  | r m =>
    simp only [D.lst?]
    rw [watchOk_at w (List.mem_singleton.mpr rfl)]
  | t xs => cases hl
theorem itl_ok {G : Gb} {F : Addr → Prop} {ι : List Addr} {H : Hp} {S : Store} {d : D} {ds : List D} {a : Addr} (hl : d.lst? S = some ds) (r : RelD G F ι H d (.ref a)) :
    ItOk G F ι H (Itl G.K a) ⟨ds, watchOf d ds⟩ := fun F' ι' H' S' n w i => by
  obtain ⟨b, vs, e, q, rd⟩ := lst?_rel n.r (lst_later r hl n w) (n.d r)
  cases e
  refine ⟨fun h => ⟨vs, q, by rw [← relDs_len rd]; exact h⟩, fun x hx => ?_⟩
  obtain ⟨v, hv, rv⟩ := relDs_get rd hx
  refine ⟨⟨vs, v, q, hv⟩, fun y H'' ⟨eH, hy⟩ => ?_⟩
  subst eH
  have := hy vs q
  rw [hv] at this
  cases this
  exact ⟨Nxt.refl n.r, rv⟩
theorem itt_ok {G : Gb} {F : Addr → Prop} {ι : List Addr} {H : Hp} {d : D} {ds : List D} {a : Addr} (hl : d.tup? = some ds) (r : RelD G F ι H d (.ref a)) : ItOk G F ι H (Itt G.K a) ⟨ds, []⟩ := fun F' ι' H' S' n w i => by
  obtain ⟨b, vs, e, q, rd⟩ := tup?_rel hl (n.d r)
  cases e
  refine ⟨fun h => ⟨vs, q, by rw [← relDs_len rd]; exact h⟩, fun x hx => ?_⟩
  obtain ⟨v, hv, rv⟩ := relDs_get rd hx
  refine ⟨⟨vs, v, q, hv⟩, fun y H'' ⟨eH, hy⟩ => ?_⟩
  subst eH
  have := hy vs q
  rw [hv] at this
  cases this
  exact ⟨Nxt.refl n.r, rv⟩
theorem src_first {G : Gb} {W : WX} {F : Addr → Prop} {ι : List Addr} {σ : L2.St} {ρ : Env} {S : Store} {H : Hp} {m : ME D} {f : D → Store → Option (Src × Store)} {Rr : It → Hp → Prop}
    (a : At G F ι H σ ρ S) (h : Then G (fun c d H' => W c d σ H') F ι H (mSrc f m ρ S) fun src _ F' ι' H' => ∀ J, ItOk G F' ι' H' J src → Rr J H') {Q' : VK}
    (q : ∀ d S1 F1 ι1 H1 v src S2, At G F1 ι1 H1 σ ρ S1 → RelD G F1 ι1 H1 d v → f d S1 = some (src, S2) → (∀ F' ι' H', Nxt G F1 ι1 H1 F' ι' S2 H' → ∀ J, ItOk G F' ι' H' J src → Rr J H') → Q' v H1) : T G W m σ H Q' :=
  T.first a h fun d S1 F1 ι1 H1 v n1 a1 r1 t1 => by
    obtain ⟨src, S2, e, z⟩ := lift_then t1
    exact q d S1 F1 ι1 H1 v src S2 a1 r1 e z
/-- either, by a look at what came -/
def iSeq (K : PySem.W.Frag) (tl : TE) : TI := fun σ H R => tl σ H fun x H1 => ∃ a, x = .ref a ∧ (((∃ xs, SqL K H1 a xs) ∧ R (Itl K a) H1) ∨ ((∃ xs, SqT K H1 a xs) ∧ R (Itt K a) H1))
theorem pi_seq {tl : TE} (hl : PE X iter tl) : PI X tg iter (iSeq X.K tl) := by
  refine ⟨fun pins s σ H Rr I h => ?_⟩
  have base := hl.run pins s σ H _ I h
  refine thn base fun v s1 ⟨x, H1, I1, r1, a, ex, q⟩ => ?_
  subst ex
  rcases q with ⟨⟨xs, hq⟩, q⟩ | ⟨⟨xs, hq⟩, q⟩
  · obtain ⟨its, r, hp, _⟩ := I1.list hq
    cases r1
    exact wpAny_pyIter_list hp.isList (pi_one I1 _ (turn_list a _) ⟨_, Heap.get?_push_size _ rfl, rfl, rfl⟩ q)
  · obtain ⟨its, r, hp, _⟩ := I1.tuple hq
    cases r1
    exact wpAny_pyIter_tuple hp (pi_one I1 _ (turn_tuple a _) ⟨_, Heap.get?_push_size _ rfl, rfl, rfl⟩ q)
theorem di_seq (h : DE X W iter ma) : DI X W tg iter (mSrc srcSeq ma) := PI.imp (pi_seq h) fun σ H Rr q => by
  obtain ⟨ρ, S, ι, F, at', t⟩ := q
  refine src_first at' t fun d S1 F1 ι1 H1 v src S2 a1 r1 e z => ?_
  unfold srcSeq at e
  split at e
  · rename_i ds el
    cases e
    obtain ⟨a, vs, ev, q, rd⟩ := tup?_rel el r1
    subst ev
    exact ⟨a, rfl, .inr ⟨⟨vs, q⟩, z _ _ _ (Nxt.refl a1.r) _ (itt_ok el r1)⟩⟩
  · split at e
    · rename_i ds el
      cases e
      obtain ⟨a, vs, ev, q, rd⟩ := lst?_rel a1.r el r1
      subst ev
      exact ⟨a, rfl, .inl ⟨⟨vs, q⟩, z _ _ _ (Nxt.refl a1.r) _ (itl_ok el r1)⟩⟩
    · cases e
theorem srcA_first {G : Gb} {W : WX} {F : Addr → Prop} {ι : List Addr} {σ : L2.St} {ρ : Env} {S : Store} {H : Hp} {m : ME (List D)} {f : List D → Store → Option (Src × Store)} {Rr : It → Hp → Prop}
    (a : At G F ι H σ ρ S) (h : Then G (fun c d H' => W c d σ H') F ι H (mSrcA f m ρ S) fun src _ F' ι' H' => ∀ J, ItOk G F' ι' H' J src → Rr J H') {Q' : List V → Hp → Prop}
    (q : ∀ d S1 F1 ι1 H1 v src S2, At G F1 ι1 H1 σ ρ S1 → RelDs G F1 ι1 H1 d v → f d S1 = some (src, S2) → (∀ F' ι' H', Nxt G F1 ι1 H1 F' ι' S2 H' → ∀ J, ItOk G F' ι' H' J src → Rr J H') → Q' v H1) : TL G W m σ H Q' :=
  TL.first a h fun d S1 F1 ι1 H1 v n1 a1 r1 t1 => by
    obtain ⟨src, S2, e, z⟩ := lift_then t1
    exact q d S1 F1 ι1 H1 v src S2 a1 r1 e z
/-! ranges -/
def fitR (i : Int) : Bool := decide (-1000000000000 ≤ i ∧ i ≤ 1000000000000)
theorem fitR_ok {i : Int} (h : fitR i = true) : -(2 ^ 62) ≤ i ∧ i < 2 ^ 62 := by
  simp only [fitR, decide_eq_true_eq] at h
  omega
def rangeD (lo : Int) (n : Nat) : List D := (List.range n).map fun (i : Nat) => D.p (.int (lo + i))
def srcR1 : List D → Store → Option (Src × Store)
  | [.p (.int n)], S => if fitR n = true then some (⟨rangeD 0 n.toNat, []⟩, S) else none
  | _, _ => none
def srcR2 : List D → Store → Option (Src × Store)
  | [.p (.int a), .p (.int b)], S => if (fitR a && fitR b) = true then some (⟨rangeD a (b - a).toNat, []⟩, S) else none
  | _, _ => none
theorem rangeD_get {lo : Int} {n i : Nat} {d : D} (h : (rangeD lo n)[i]? = some d) : i < n ∧ d = .p (.int (lo + i)) := by
  unfold rangeD at h
  rw [List.getElem?_map] at h
  by_cases z : i < n
  · rw [List.getElem?_range z] at h
    cases h
    exact ⟨z, rfl⟩
  · rw [List.getElem?_eq_none (by simp; omega)] at h
    cases h
theorem rangeD_len (lo : Int) (n : Nat) : (rangeD lo n).length = n := by simp [rangeD]
theorem itr_ok {G : Gb} {F : Addr → Prop} {ι : List Addr} {H : Hp} {lo : Int} {n : Nat} : ItOk G F ι H (Itr lo n) ⟨rangeD lo n, []⟩ := fun F' ι' H' S' nx w i => by
  refine ⟨fun h => by rw [rangeD_len] at h; exact h, fun d hd => ?_⟩
  obtain ⟨hi, rfl⟩ := rangeD_get hd
  refine ⟨hi, fun x H'' ⟨e, hx⟩ => ?_⟩
  subst e
  subst hx
  exact ⟨Nxt.refl nx.r, by simp only [RelD, RelP]⟩
theorem relDs1 {G : Gb} {F : Addr → Prop} {ι : List Addr} {H : Hp} {d : D} {vs : List V} (h : RelDs G F ι H [d] vs) : ∃ v, vs = [v] ∧ RelD G F ι H d v := by
  simp only [RelDs] at h
  obtain ⟨v, ws, rfl, r, rfl⟩ := h
  exact ⟨v, rfl, r⟩
theorem relDs2 {G : Gb} {F : Addr → Prop} {ι : List Addr} {H : Hp} {d e : D} {vs : List V} (h : RelDs G F ι H [d, e] vs) : ∃ v w, vs = [v, w] ∧ RelD G F ι H d v ∧ RelD G F ι H e w := by
  simp only [RelDs] at h
  obtain ⟨v, ws, rfl, r, w, us, rfl, r', rfl⟩ := h
  exact ⟨v, w, rfl, r, r'⟩
theorem relDs3 {G : Gb} {F : Addr → Prop} {ι : List Addr} {H : Hp} {d e f : D} {vs : List V} (h : RelDs G F ι H [d, e, f] vs) : ∃ v w u, vs = [v, w, u] ∧ RelD G F ι H d v ∧ RelD G F ι H e w ∧ RelD G F ι H f u := by
  simp only [RelDs] at h
  obtain ⟨v, ws, rfl, r, w, us, rfl, r', u, ts, rfl, r'', rfl⟩ := h
  exact ⟨v, w, u, rfl, r, r', r''⟩
theorem relInt {G : Gb} {F : Addr → Prop} {ι : List Addr} {H : Hp} {i : Int} {v : V} (h : RelD G F ι H (.p (.int i)) v) : v = .int i := by simpa only [RelD, RelP] using h
theorem di_range1 (hm : X.mg "range" = none) (h : DA X W [a] mr) (hg : Gl X "range" := by rfl) (hs : starEach [a] X.env = [(false, eval a X.env)] := by rfl) : DI X W tg (.Call (.Name "range" p) [a] [] pos) (mSrcA srcR1 mr) := PI.imp (pi_range1 hg hm h hs) fun σ H Rr q => by
  obtain ⟨ρ, S, ι, F, at', t⟩ := q
  refine srcA_first at' t fun ds S1 F1 ι1 H1 vs src S2 a1 r1 e z => ?_
  unfold srcR1 at e
  split at e
  · rename_i n
    split at e
    · rename_i hf
      cases e
      obtain ⟨v, rfl, r⟩ := relDs1 r1
      cases relInt r
      exact ⟨n, rfl, (fitR_ok hf).1, (fitR_ok hf).2, z _ _ _ (Nxt.refl a1.r) _ itr_ok⟩
    · cases e
  · cases e
/-! zip -/
/-! ### targets -/
abbrev MG := D → Env → Store → Option Env
def TGt (G : Gb) (vs : List Nat) (mg : MG) : TG := fun v σ H Q => ∃ d ρ S ι F, RelD G F ι H d v ∧ At G F ι H σ ρ S ∧ ∃ ρ', mg d ρ S = some ρ' ∧ ∀ σ', RelE G F ι H ρ' σ' → σ'.length = σ.length → wipe σ' vs = wipe σ vs → Q σ' H
def TGts (G : Gb) (vs : List Nat) (mg : List D → Env → Store → Option Env) : TGs := fun us σ H Q => ∃ ds ρ S ι F, RelDs G F ι H ds us ∧ At G F ι H σ ρ S ∧ ∃ ρ', mg ds ρ S = some ρ' ∧ ∀ σ', RelE G F ι H ρ' σ' → σ'.length = σ.length → wipe σ' vs = wipe σ vs → Q σ' H
theorem PG.imp {X : Cx} {e : Expr} {t t' : TG} (h : PG X e t) (i : ∀ v σ H Q, t' v σ H Q → t v σ H Q) : PG X e t' := ⟨fun pins s σ H v u Q I r q => h.run pins s σ H v u Q I r (i v σ H Q q)⟩
theorem PGs.imp {X : Cx} {e : List Expr} {t t' : TGs} (h : PGs X e t) (i : ∀ v σ H Q, t' v σ H Q → t v σ H Q) : PGs X e t' := ⟨fun pins s σ H v u Q I r q => h.run pins s σ H v u Q I r (i v σ H Q q)⟩
abbrev DG (X : Cx) (vs : List Nat) (e : Expr) (mg : MG) : Prop := PG X e (TGt (gb X) vs mg)
theorem set_comm_none (σ : L2.St) (i j : Nat) (x : Option V) : (σ.set i x).set j none = if i = j then σ.set j none else (σ.set j none).set i x := by
  by_cases h : i = j
  · subst h
    rw [if_pos rfl, List.set_set]
  · rw [if_neg h, List.set_comm _ _ h]
theorem wipe_set (i : Nat) (x : Option V) : ∀ (vs : List Nat) (σ : L2.St), wipe (σ.set i x) vs = if i ∈ vs then wipe σ vs else (wipe σ vs).set i x
  | [], σ => by simp [wipe]
  | v :: vs, σ => by
    simp only [wipe, wipe_set i x vs σ]
    by_cases h : i ∈ vs
    · rw [if_pos h, if_pos (List.mem_cons_of_mem _ h)]
    · rw [if_neg h, set_comm_none]
      by_cases hv : i = v
      · subst hv
        rw [if_pos rfl, if_pos List.mem_cons_self]
      · rw [if_neg hv, if_neg (by simp [hv, h])]
abbrev DGs (X : Cx) (vs : List Nat) (e : List Expr) (mg : List D → Env → Store → Option Env) : Prop := PGs X e (TGts (gb X) vs mg)
variable {ws : List Nat}
def gNm (i : Nat) : MG := fun d ρ _ => some (ρ.set i (some d))
def gsNil : List D → Env → Store → Option Env := fun ds ρ _ => match ds with
  | [] => some ρ
  | _ => none
def gsCons (g : MG) (gs : List D → Env → Store → Option Env) : List D → Env → Store → Option Env := fun ds ρ S => match ds with
  | d :: ds => (g d ρ S).bind fun ρ' => gs ds ρ' S
  | _ => none
def gTp (n : Nat) (gs : List D → Env → Store → Option Env) : MG := fun d ρ S => match d.tup? with
  | some ds => if ds.length = n then gs ds ρ S else none
  | none => none
theorem dg_name (i : Nat) {x : Str} (hN : X.N.Nodup) (hw : i ∈ ws := by decide) (hi : X.N[i]? = some x := by rfl) (hx : Loc X.env.scope x := by first | exact Or.inl rfl | exact Or.inr rfl) (hf : X.fn x = true ∨ X.env.scope.names.lookup x = some .local := by first | exact .inl rfl | exact .inr rfl | assumption) : DG X ws (.Name x pos) (gNm i) :=
  PG.imp (pg_name hN hi hx hf) fun v σ H Q q => by
    obtain ⟨d, ρ, S, ι, F, r, at', ρ', e, q⟩ := q
    cases e
    exact q _ (at'.e.set r i) (by simp) (by rw [wipe_set, if_pos hw])
theorem dgs_nil : DGs X ws [] gsNil := PGs.imp pgs_nil fun v σ H Q q => by
  obtain ⟨ds, ρ, S, ι, F, r, at', ρ', e, q⟩ := q
  unfold gsNil at e
  split at e
  · cases e
    rw [relDs_nil] at r
    exact ⟨r, q _ at'.e rfl rfl⟩
  · cases e
theorem dgs_cons {g : MG} {gs : List D → Env → Store → Option Env} (h1 : DG X ws e g) (h2 : DGs X ws es gs) (hs : (assignEach (e :: es) X.env).map (·.2) = assign e X.env :: (assignEach es X.env).map (·.2) := by rfl) : DGs X ws (e :: es) (gsCons g gs) := PGs.imp (pgs_cons h1 h2 hs) fun v σ H Q q => by
  obtain ⟨ds, ρ, S, ι, F, r, at', ρ', e, q⟩ := q
  unfold gsCons at e
  split at e
  · rename_i d ds
    simp only [RelDs] at r
    obtain ⟨v, ws, rfl, r1, r2⟩ := r
    obtain ⟨ρ1, e1, e2⟩ := Option.bind_eq_some_iff.mp e
    exact ⟨v, ws, rfl, d, ρ, S, ι, F, r1, at', ρ1, e1, fun σ' hσ hl hw => ⟨ds, ρ1, S, ι, F, r2, ⟨hσ, at'.r⟩, ρ', e2, fun σ'' h'' hl' hw' => q σ'' h'' (hl'.trans hl) (hw'.trans hw)⟩⟩
  · cases e
theorem dg_tup {k n : Nat} {gs : List D → Env → Store → Option Env} (hc : X.calm = true) (h : DGs X ws es gs) (hn : (assignEach es X.env).length = n := by rfl) (hst : (assignEach es X.env).findIdx? (·.1) = none := by rfl) : DG X ws (.Tuple es k pos) (gTp n gs) := PG.imp (pg_tup hc h hn hst) fun v σ H Q q => by
  obtain ⟨d, ρ, S, ι, F, r, at', ρ', e, q⟩ := q
  unfold gTp at e
  split at e
  · rename_i ds el
    split at e
    · rename_i hl
      obtain ⟨a, vs, ev, qt, rd⟩ := tup?_rel el r
      exact ⟨a, vs, ev, qt, by rw [← relDs_len rd]; exact hl, ds, ρ, S, ι, F, rd, at', ρ', e, q⟩
    · cases e
  · cases e
end
end DL
set_option maxHeartbeats 2000000
/-! DLBody: statements, loops, comprehensions. -/
namespace DL
open PySem PySem.Spec PyProof.Rows L2
variable [HasT]

/-- how a statement ends -/
inductive Out where
  | nx (ρ : Env) | rt (d : D) | bk (ρ : Env) | ct (ρ : Env)
abbrev MS := Env → M Out
def outOk (G : Gb) (n : Nat) (E : Ends) : Out → Store → (Addr → Prop) → List Addr → Hp → Prop
  | .nx ρ, _, F, ι, H => ∀ σ, σ.length = n → RelE G F ι H ρ σ → E.nx σ H
  | .rt d, _, F, ι, H => ∀ v, RelD G F ι H d v → E.rt v H
  | .bk ρ, _, F, ι, H => ∀ σ, σ.length = n → RelE G F ι H ρ σ → E.bk σ H
  | .ct ρ, _, F, ι, H => ∀ σ, σ.length = n → RelE G F ι H ρ σ → E.ct σ H
/-- a raise may come at any slots -/
abbrev WS (W : WX) : Value → Option Addr → Hp → Prop := fun c d H' => ∀ σ', W c d σ' H'
def TSt (G : Gb) (W : WX) (m : MS) : TS := fun E σ H => ∃ ρ S ι F, At G F ι H σ ρ S ∧ Then G (WS W) F ι H (m ρ S) (outOk G σ.length E)
abbrev DS (X : Cx) (W : WX) (st : Stmt) (m : MS) : Prop := PS X st (TSt (gb X) W m)
abbrev DSs (X : Cx) (W : WX) (st : List Stmt) (m : MS) : Prop := PSs X st (TSt (gb X) W m)
theorem Then.wimp {G : Gb} {W W' : Value → Option Addr → Hp → Prop} {F : Addr → Prop} {ι : List Addr} {H : Hp} {α : Type} {r : Res α} {Q : α → Store → (Addr → Prop) → List Addr → Hp → Prop} (h : Then G W F ι H r Q) (i : ∀ c d H, W c d H → W' c d H) : Then G W' F ι H r Q := by
  cases r with
  | ok a S => exact h
  | err e S => exact fun F' ι' H' c d n x => i _ _ _ (h F' ι' H' c d n x)
  | stuck => exact h
/-- the rest stays at its base -/
theorem Then.bind' {G : Gb} {W : Value → Option Addr → Hp → Prop} {F : Addr → Prop} {ι : List Addr} {H : Hp} {α β : Type} {r : Res α} {k : α → M β} {Q : β → Store → (Addr → Prop) → List Addr → Hp → Prop} (h : Then G W F ι H (r.bind k) Q) :
    Then G W F ι H r (fun a S' _ _ _ => Then G W F ι H (k a S') Q) := by
  cases r with
  | ok a S' => exact fun _ _ _ _ => h
  | err e S' => exact h
  | stuck => exact h

/-! ### what the runs are -/
def mNext : MS := fun ρ S => .ok (.nx ρ) S
def mBreak : MS := fun ρ S => .ok (.bk ρ) S
def mCont : MS := fun ρ S => .ok (.ct ρ) S
def mDrop (m : ME D) : MS := fun ρ S => (m ρ S).bind fun _ S => .ok (.nx ρ) S
def mRet (m : ME D) : MS := fun ρ S => (m ρ S).bind fun d S => .ok (.rt d) S
def mRetN : MS := fun _ S => .ok (.rt (.p .non)) S
def gRun (g : MG) (d : D) (ρ : Env) : M Out := fun S => match g d ρ S with
  | some ρ' => .ok (.nx ρ') S
  | none => .stuck
def mAsg (g : MG) (m : ME D) : MS := fun ρ S => (m ρ S).bind fun d => gRun g d ρ
def mAug (i : Nat) (f : F2) (m : ME D) : MS := fun ρ S => (mVar i ρ S).bind fun x => fun S => (m ρ S).bind fun y => fun S => (lift (f x y) S).bind fun z S => .ok (.nx (ρ.set i (some z))) S
def oSeq (b : MS) : Out → M Out
  | .nx ρ => b ρ
  | o => fun S => .ok o S
def mSeq (a b : MS) : MS := fun ρ S => (a ρ S).bind (oSeq b)
def mIfS (t : ME Bool) (a b : MS) : MS := fun ρ S => (t ρ S).bind fun k => if k = true then a ρ else b ρ
/-- a loop over items -/
def oLoop (k : Env → M Out) : Out → M Out
  | .nx ρ => k ρ
  | .ct ρ => k ρ
  | .bk ρ => fun S => .ok (.nx ρ) S
  | .rt d => fun S => .ok (.rt d) S
def gBind (g : MG) (d : D) (ρ : Env) (k : Env → M Out) : M Out := fun S => match g d ρ S with
  | some ρ' => k ρ' S
  | none => .stuck
def loopI (w : List (Nat × List D)) (g : MG) (b : MS) : List D → MS
  | [] => fun ρ S => if watchOk w S = true then .ok (.nx ρ) S else .stuck
  | x :: xs => fun ρ S => if watchOk w S = true then gBind g x ρ (fun ρ' S => (b ρ' S).bind (oLoop (loopI w g b xs))) S else .stuck
def mFor (mi : ME Src) (g : MG) (b : MS) : MS := fun ρ S => (mi ρ S).bind fun src => loopI src.watch g b src.xs ρ
/-- a while, at most n turns -/
def mWhile (t : ME Bool) (b : MS) : Nat → MS
  | 0 => fun _ _ => .stuck
  | n + 1 => fun ρ S => (t ρ S).bind fun k => if k = true then fun S => (b ρ S).bind (oLoop (mWhile t b n)) else fun S => .ok (.nx ρ) S
/-- a comprehension's items: slots vs are its own -/
def unsetE (ρ : Env) : List Nat → Env
  | [] => ρ
  | v :: vs => (unsetE ρ vs).set v none
def noErr {α : Type} : Res α → Res α
  | .err _ _ => .stuck
  | r => r
def compI (w : List (Nat × List D)) (g : MG) (t : ME Bool) (e : ME D) (ρ : Env) : List D → List D → M (List D)
  | acc, [] => fun S => if watchOk w S = true then .ok acc S else .stuck
  | acc, x :: xs => fun S => if watchOk w S = true then (match g x ρ S with
    | none => .stuck
    | some ρ' => (noErr (t ρ' S)).bind fun k => if k = true then fun S => (noErr (e ρ' S)).bind fun y => fun S => if acc.length < 100000 then compI w g t e ρ (acc ++ [y]) xs S else .stuck
      else compI w g t e ρ acc xs) else .stuck
def mCompL (mi : ME Src) (vs : List Nat) (g : MG) (t : ME Bool) (e : ME D) : ME (List D) := fun ρ S => (mi ρ S).bind fun src => compI src.watch g t e (unsetE ρ vs) [] src.xs
def mYes : ME Bool := fun _ S => .ok true S

section
variable {X : Cx} {W : WX} {e a b c tg iter : Expr} {es : List Expr} {pos p : Pos} {ma mb mc : ME D} {mr : ME (List D)} {st : Stmt} {sts : List Stmt} {m1 m2 : MS} {mt : ME Bool}
theorem T.firstS {G : Gb} {W : WX} {α : Type} {F : Addr → Prop} {ι : List Addr} {σ : L2.St} {ρ : Env} {S : Store} {H : Hp} {m : ME D} {k : D → M α} {Q : α → Store → (Addr → Prop) → List Addr → Hp → Prop} {Q' : VK}
    (a : At G F ι H σ ρ S) (h : Then G (WS W) F ι H ((m ρ S).bind k) Q)
    (q : ∀ d S1 F1 ι1 H1 v, Nxt G F ι H F1 ι1 S1 H1 → At G F1 ι1 H1 σ ρ S1 → RelD G F1 ι1 H1 d v → Then G (WS W) F1 ι1 H1 (k d S1) Q → Q' v H1) : T G W m σ H Q' :=
  ⟨ρ, S, ι, F, a, Then.wimp (h.bind.mono fun d S1 F1 ι1 H1 n t v r => q d S1 F1 ι1 H1 v n (a.next n) r t) fun c d H' w => w σ⟩
theorem TB.firstS {G : Gb} {W : WX} {α : Type} {F : Addr → Prop} {ι : List Addr} {σ : L2.St} {ρ : Env} {S : Store} {H : Hp} {m : ME Bool} {k : Bool → M α} {Q : α → Store → (Addr → Prop) → List Addr → Hp → Prop} {Q' : Bool → Hp → Prop}
    (a : At G F ι H σ ρ S) (h : Then G (WS W) F ι H ((m ρ S).bind k) Q)
    (q : ∀ b S1 F1 ι1 H1, Nxt G F ι H F1 ι1 S1 H1 → At G F1 ι1 H1 σ ρ S1 → Then G (WS W) F1 ι1 H1 (k b S1) Q → Q' b H1) : TB G W m σ H Q' :=
  ⟨ρ, S, ι, F, a, Then.wimp (h.bind.mono fun b S1 F1 ι1 H1 n t => q b S1 F1 ι1 H1 n (a.next n) t) fun c d H' w => w σ⟩

theorem ds_expr (he : DE X W e ma) (hs : swapsWith e none pos.line X.env = pure false := by rfl) : DS X W (.Expr e pos) (mDrop ma) := PS.imp (ps_expr he hs) fun E σ H q => by
  obtain ⟨ρ, S, ι, F, a, t⟩ := q
  refine T.firstS a t fun d S1 F1 ι1 H1 v n a1 r t1 => ?_
  exact t1.now a1.r σ rfl a1.e
theorem ds_ret (he : DE X W e ma) : DS X W (.Return (some e) pos) (mRet ma) := PS.imp (ps_ret he) fun E σ H q => by
  obtain ⟨ρ, S, ι, F, a, t⟩ := q
  refine T.firstS a t fun d S1 F1 ι1 H1 v n a1 r t1 => ?_
  exact t1.now a1.r v r
theorem gRun_then {G : Gb} {W : Value → Option Addr → Hp → Prop} {F : Addr → Prop} {ι : List Addr} {H : Hp} {g : MG} {d : D} {ρ : Env} {S : Store} {Q : Out → Store → (Addr → Prop) → List Addr → Hp → Prop} (h : Then G W F ι H (gRun g d ρ S) Q) (r : R G F ι S H) : ∃ ρ', g d ρ S = some ρ' ∧ Q (.nx ρ') S F ι H := by
  unfold gRun at h
  split at h
  · rename_i ρ' e
    exact ⟨ρ', e, h.now r⟩
  · exact h.elim
theorem ds_set (i : Nat) {x : Str} {pos' : Pos} (hN : X.N.Nodup) (he : DE X W e ma) (hi : X.N[i]? = some x := by rfl) (hx : Loc X.env.scope x := by first | exact Or.inl rfl | exact Or.inr rfl) (hs : swapsWith e (some (.Name x pos')) pos.line X.env = pure false := by rfl)
    (hf : X.fn x = true ∨ X.env.scope.names.lookup x = some .local := by first | exact .inl rfl | exact .inr rfl | assumption) : DS X W (.Assign [.Name x pos'] e pos) (mAsg (gNm i) ma) := PS.imp (ps_set hN hi hx he hs hf) fun E σ H q => by
  obtain ⟨ρ, S, ι, F, a, t⟩ := q
  refine T.firstS a t fun d S1 F1 ι1 H1 v n a1 r t1 => ?_
  obtain ⟨ρ', e', q⟩ := gRun_then t1 a1.r
  cases e'
  exact q _ (by simp) (a1.e.set r i)
theorem dss_nil : DSs X W [] mNext := PSs.imp pss_nil fun E σ H q => by
  obtain ⟨ρ, S, ι, F, a, t⟩ := q
  exact t.now a.r σ rfl a.e
theorem dss_one (h : DS X W st m1) : DSs X W [st] m1 := pss_one h
theorem seq_imp {E : Ends} {σ : L2.St} {H : Hp} (q : TSt (gb X) W (mSeq m1 m2) E σ H) : tSeq (TSt (gb X) W m1) (TSt (gb X) W m2) E σ H := by
  obtain ⟨ρ, S, ι, F, a, t⟩ := q
  refine ⟨ρ, S, ι, F, a, t.bind.mono fun o S1 F1 ι1 H1 n t1 => ?_⟩
  cases o with
  | nx ρ1 => exact fun σ1 hl r1 => ⟨ρ1, S1, ι1, F1, ⟨r1, n.r⟩, by rw [hl]; exact t1⟩
  | rt d => exact t1.now n.r
  | bk ρ1 => exact t1.now n.r
  | ct ρ1 => exact t1.now n.r
theorem dss_cons (h1 : DS X W st m1) (h2 : DSs X W sts m2) : DSs X W (st :: sts) (mSeq m1 m2) := PSs.imp (pss_cons h1 h2) fun E σ H q => seq_imp q
theorem ds_if {sa sb : List Stmt} (hc : DT X W c mt) (ha : DSs X W sa m1) (hb : DSs X W sb m2) : DS X W (.If c sa sb pos) (mIfS mt m1 m2) := PS.imp (ps_if hc ha hb) fun E σ H q => by
  obtain ⟨ρ, S, ι, F, a, t⟩ := q
  refine TB.firstS a t fun k S1 F1 ι1 H1 n a1 t1 => ?_
  cases k with
  | true =>
    rw [if_pos rfl] at t1 ⊢
    exact ⟨ρ, S1, ι1, F1, a1, t1⟩
  | false =>
    rw [if_neg (by decide)] at t1 ⊢
    exact ⟨ρ, S1, ι1, F1, a1, t1⟩

/-! ### for -/
theorem TIt.firstS {G : Gb} {W : WX} {α : Type} {F : Addr → Prop} {ι : List Addr} {σ : L2.St} {ρ : Env} {S : Store} {H : Hp} {m : ME Src} {k : Src → M α} {Q : α → Store → (Addr → Prop) → List Addr → Hp → Prop} {Q' : It → Hp → Prop}
    (a : At G F ι H σ ρ S) (h : Then G (WS W) F ι H ((m ρ S).bind k) Q)
    (q : ∀ src S1 F1 ι1 H1 J, Nxt G F ι H F1 ι1 S1 H1 → At G F1 ι1 H1 σ ρ S1 → ItOk G F1 ι1 H1 J src → Then G (WS W) F1 ι1 H1 (k src S1) Q → Q' J H1) : TIt G W m σ H Q' :=
  ⟨ρ, S, ι, F, a, Then.wimp (h.bind.mono fun src S1 F1 ι1 H1 n t J ok => q src S1 F1 ι1 H1 J n (a.next n) ok t) fun c d H' w => w σ⟩
theorem loop_for {G : Gb} {W : WX} {g : MG} {tg : TG} {ws : List Nat} (hg : ∀ v σ H Q, TGt G ws g v σ H Q → tg v σ H Q) {b : MS} {J : It} {F : Addr → Prop} {ι : List Addr} {H : Hp} {σ : L2.St} {ρ : Env} {S : Store} {src : Src} {E : Ends} (a : At G F ι H σ ρ S) (ok : ItOk G F ι H J src)
    (t : Then G (WS W) F ι H (loopI src.watch g b src.xs ρ S) (outOk G σ.length E)) :
    ∃ Wf : Nat → Nat → L2.St → Hp → Prop, (∃ m, Wf 0 m σ H) ∧ ∀ i m σ H, Wf i m σ H →
      (J.stop i H ∧ E.nx σ H) ∨ (J.go i H ∧ ∃ N : L2.St → Hp → Prop, (∀ σ' H', N σ' H' → ∃ m', m' < m ∧ Wf (i + 1) m' σ' H') ∧ ∀ x H', J.yld i H x H' → tg x σ H' fun σ2 H2 => TSt G W b { E with nx := N, ct := N, bk := E.nx } σ2 H2) := by
  refine ⟨fun i m σ1 H1 => ∃ xs ρ1 S1 F1 ι1, xs = src.xs.drop i ∧ m = xs.length ∧ σ1.length = σ.length ∧ At G F1 ι1 H1 σ1 ρ1 S1 ∧ Nxt G F ι H F1 ι1 S1 H1 ∧ Then G (WS W) F1 ι1 H1 (loopI src.watch g b xs ρ1 S1) (outOk G σ.length E),
    ⟨_, src.xs, ρ, S, F, ι, rfl, rfl, rfl, a, Nxt.refl a.r, t⟩, ?_⟩
  rintro i m σ1 H1 ⟨xs, ρ1, S1, F1, ι1, ex, em, el, a1, n1, t1⟩
  cases xs with
  | nil =>
    unfold loopI at t1
    split at t1
    · rename_i w
      have hl : src.xs.length ≤ i := by
        have := congrArg List.length ex
        simp at this
        omega
      exact .inl ⟨((ok F1 ι1 H1 S1 n1 w) i).1 hl, t1.now a1.r σ1 el a1.e⟩
    · exact t1.elim
  | cons x xs =>
    unfold loopI at t1
    split at t1
    · rename_i w
      have hx : src.xs[i]? = some x := by
        have : (src.xs.drop i)[0]? = some x := by rw [← ex]; rfl
        simpa using this
      have hd : xs = src.xs.drop (i + 1) := by
        have h2 : src.xs.drop (i + 1) = (src.xs.drop i).drop 1 := by rw [List.drop_drop]
        rw [h2, ← ex]
        rfl
      obtain ⟨go, yl⟩ := ((ok F1 ι1 H1 S1 n1 w) i).2 x hx
      refine .inr ⟨go, fun σ2 H2 => ∃ ρ2 S2 F2 ι2, σ2.length = σ.length ∧ At G F2 ι2 H2 σ2 ρ2 S2 ∧ Nxt G F ι H F2 ι2 S2 H2 ∧ Then G (WS W) F2 ι2 H2 (loopI src.watch g b xs ρ2 S2) (outOk G σ.length E), ?_, ?_⟩
      · rintro σ2 H2 ⟨ρ2, S2, F2, ι2, el2, a2, n2, t2⟩
        refine ⟨xs.length, by rw [em]; simp, xs, ρ2, S2, F2, ι2, hd, rfl, el2, a2, n2, t2⟩
      · intro v H2 hy
        obtain ⟨nx, rx⟩ := yl v H2 hy
        refine hg _ _ _ _ ?_
        unfold gBind at t1
        split at t1
        · rename_i ρ' eg
          refine ⟨x, ρ1, S1, ι1, F1, rx, a1.next nx, ρ', eg, fun σ' hr hl _ => ?_⟩
          refine ⟨ρ', S1, ι1, F1, ⟨hr, nx.r⟩, ?_⟩
          refine (Then.later t1 nx).bind.mono fun o S3 F3 ι3 H3 n3 t3 => ?_
          have el' : σ'.length = σ.length := hl.trans el
          cases o with
          | nx ρ3 => exact fun σ3 hl3 r3 => ⟨ρ3, S3, F3, ι3, hl3.trans el', ⟨r3, n3.r⟩, n1.trans (nx.trans n3), t3⟩
          | ct ρ3 => exact fun σ3 hl3 r3 => ⟨ρ3, S3, F3, ι3, hl3.trans el', ⟨r3, n3.r⟩, n1.trans (nx.trans n3), t3⟩
          | bk ρ3 => exact fun σ3 hl3 r3 => t3.now n3.r σ3 (hl3.trans el') r3
          | rt d => exact t3.now n3.r
        · exact t1.elim
    · exact t1.elim
theorem ds_for {mi : ME Src} {g : MG} {ws : List Nat} {body : List Stmt} (hp : PassesOwn (model X.prog X.w) X.A X.env X.xe) (hc : X.calm = true) (hi : DI X W tg iter mi) (hg : DG X ws tg g) (hb : DSs X W body m1)
    (hs : ∀ x, foldedSetIterable iter X.env x = pure x := by intro _; rfl) : DS X W (.For tg iter body [] pos) (mFor mi g m1) := PS.imp (ps_for hp hc hi hg hb hs) fun E σ H q => by
  obtain ⟨ρ, S, ι, F, a, t⟩ := q
  refine TIt.firstS a t fun src S1 F1 ι1 H1 J n a1 ok t1 => ?_
  exact loop_for (fun _ _ _ _ h => h) a1 ok t1

/-! ### while -/
theorem ds_while (n : Nat) {body : List Stmt} (hp : PassesOwn (model X.prog X.w) X.A X.env X.xe) (hc : DT X W c mt) (hb : DSs X W body m1) : DS X W (.While c body [] pos) (mWhile mt m1 n) := PS.imp (ps_while hp hc hb) fun E σ H q => by
  obtain ⟨ρ, S, ι, F, a, t⟩ := q
  refine ⟨fun m σ1 H1 => ∃ ρ1 S1 F1 ι1, σ1.length = σ.length ∧ At (gb X) F1 ι1 H1 σ1 ρ1 S1 ∧ Then (gb X) (WS W) F1 ι1 H1 (mWhile mt m1 m ρ1 S1) (outOk (gb X) σ.length E), ⟨n, ρ, S, F, ι, rfl, a, t⟩, ?_⟩
  rintro m σ1 H1 ⟨ρ1, S1, F1, ι1, el, a1, t1⟩
  cases m with
  | zero => exact t1.elim
  | succ m =>
    refine TB.firstS a1 t1 fun k S2 F2 ι2 H2 n2 a2 t2 => ?_
    cases k with
    | true =>
      rw [if_pos rfl] at t2 ⊢
      refine ⟨fun σ3 H3 => ∃ ρ3 S3 F3 ι3, σ3.length = σ.length ∧ At (gb X) F3 ι3 H3 σ3 ρ3 S3 ∧ Then (gb X) (WS W) F3 ι3 H3 (mWhile mt m1 m ρ3 S3) (outOk (gb X) σ.length E), fun σ' H' h => ⟨m, Nat.lt_succ_self _, h⟩, ?_⟩
      refine ⟨ρ1, S2, ι2, F2, a2, t2.bind.mono fun o S3 F3 ι3 H3 n3 t3 => ?_⟩
      cases o with
      | nx ρ3 => exact fun σ3 hl3 r3 => ⟨ρ3, S3, F3, ι3, hl3.trans el, ⟨r3, n3.r⟩, t3⟩
      | ct ρ3 => exact fun σ3 hl3 r3 => ⟨ρ3, S3, F3, ι3, hl3.trans el, ⟨r3, n3.r⟩, t3⟩
      | bk ρ3 => exact fun σ3 hl3 r3 => t3.now n3.r σ3 (hl3.trans el) r3
      | rt d => exact t3.now n3.r
    | false =>
      rw [if_neg (by decide)] at t2 ⊢
      exact t2.now a2.r σ1 el a2.e

/-! ### comprehensions -/
abbrev W0 : WX := fun _ _ _ _ => False
theorem relE_wipe {G : Gb} {F : Addr → Prop} {ι : List Addr} {H : Hp} {ρ : Env} {σ : L2.St} (h : RelE G F ι H ρ σ) : ∀ vs : List Nat, RelE G F ι H (unsetE ρ vs) (wipe σ vs)
  | [] => h
  | v :: vs => (relE_wipe h vs).unset v
theorem noErr_then {G : Gb} {W W' : Value → Option Addr → Hp → Prop} {F : Addr → Prop} {ι : List Addr} {H : Hp} {α β : Type} {r : Res α} {k : α → M β} {Q : β → Store → (Addr → Prop) → List Addr → Hp → Prop} (h : Then G W F ι H ((noErr r).bind k) Q) :
    Then G W' F ι H r (fun a S' _ _ _ => Then G W F ι H (k a S') Q) := by
  cases r with
  | ok a S' => exact fun _ _ _ _ => h
  | err e S' => exact h.elim
  | stuck => exact h.elim
/-- an untracked object is changed -/
theorem Nxt.own {G : Gb} {F F' : Addr → Prop} {ι ι' : List Addr} {H H' : Hp} {S : Store} {a : Addr} {xs : List V} {o : HO} (n : Nxt G F ι H F' ι' S H') (ha : H a = none) (hi : a ∉ ι') (hf : ¬ F' a) (ho : H' a = some (.lst xs)) : Nxt G F ι H F' ι' S (upd H' a o) := by
  have kw : KeepW F' H' (upd H' a o) := fun b u e h => by
    have hb : b ≠ a := fun z => by
      subst z
      rcases h with h | h
      · exact hf h
      · rw [ho] at e
        cases e
        cases h
    rw [upd_ne hb]
    exact e
  refine ⟨n.sub, fun b u e h => ?_, n.pre, n.nw, n.nF, fun b u e => let ⟨u', e'⟩ := n.old b u e; old_upd b u' e', ⟨n.r.len, n.r.nd, n.r.nf, fun b h => fz_upd n.r hf h, tabs_put ho rfl n.r.tb, fun m b x e q => ?_⟩⟩
  · rw [upd_ne (fun z => by subst z; rw [ha] at e; cases e)]
    exact n.keep b u e h
  · exact RelO.mono kw (fun _ h => h) (List.prefix_refl _) (upd_ne fun z => hi (z ▸ List.mem_of_getElem? e)) (n.r.ob m b x e q)
/-- a list at a that nobody else holds becomes frozen | comes into the store -/
theorem Nxt.own_frz {G : Gb} {F F' : Addr → Prop} {ι ι' : List Addr} {H H' : Hp} {S : Store} {a : Addr} {xs : List V} (n : Nxt G F ι H F' ι' S H') (ha : H a = none) (hi : a ∉ ι') (ho : H' a = some (.lst xs)) : Nxt G F ι H (fun b => F' b ∨ b = a) ι' S H' where
  sub := fun b h => .inl (n.sub b h)
  keep := n.keep
  pre := n.pre
  nw := n.nw
  nF := fun b h z => h.elim (fun h => n.nF b h z) fun h => by rw [h]; exact ha
  old := n.old
  r :=
    { len := n.r.len
      nd := n.r.nd
      nf := fun b h z => z.elim (n.r.nf b h) fun z => hi (z ▸ h)
      fz := fun b h => h.elim (n.r.fz b) fun h => ⟨.lst xs, by rw [h]; exact ho, rfl⟩
      tb := n.r.tb
      ob := fun m b x e q => RelO.mono (F' := fun b => F' b ∨ b = a) (fun b u e _ => e) (fun _ h => Or.inl h) (List.prefix_refl _) rfl (n.r.ob m b x e q) }
theorem Nxt.hole {G : Gb} {F F' : Addr → Prop} {ι ι' : List Addr} {H H' : Hp} {S : Store} {a : Addr} {o : HO} (n : Nxt G F ι H F' ι' S H') (ho : H a = some o) (hi : a ∉ ι) (hf : ¬ F a) (ht : isTbl o = false := by rfl) : H' a = some o ∧ a ∉ ι' ∧ ¬ F' a :=
  ⟨n.keep a o ho (.inr (.inr ⟨hi, ht⟩)), (fun z => by
    have := n.nw a z hi
    rw [ho] at this
    cases this), (fun z => by
    have := n.nF a z hf
    rw [ho] at this
    cases this)⟩
theorem wipe_sub (σ : L2.St) (vs : List Nat) : ∀ us : List Nat, (∀ u ∈ us, u ∈ vs) → wipe (wipe σ us) vs = wipe σ vs
  | [], _ => rfl
  | u :: us, h => by
    show wipe ((wipe σ us).set u none) vs = wipe σ vs
    rw [wipe_set, if_pos (h u List.mem_cons_self)]
    exact wipe_sub σ vs us fun x hx => h x (List.mem_cons_of_mem _ hx)
variable {vs : List Nat} {g : MG} {me : ME D}
/-- the comprehension's turns; fin: what its list becomes -/
theorem comp_imp {G : Gb} {W : WX} {mi : ME Src} {tg : TG} {tt : TT} {te : TE} {fin : FL} (hg : ∀ v σ H Q, TGt G vs g v σ H Q → tg v σ H Q) (ht : ∀ σ H Q, TB G W0 mt σ H Q → tt σ H Q) (he : ∀ σ H Q, T G W0 me σ H Q → te σ H Q)
    (hfin : ∀ {F F' : Addr → Prop} {ι ι' : List Addr} {H H' : Hp} {S S' : Store} {a : Addr} {xs : List V} {ds : List D} {d' : D}, Nxt G F ι H F' ι' S H' → H a = none → a ∉ ι' → ¬ F' a → H' a = some (.lst xs) → RelDs G F' ι' H' ds xs → fin ds S = some (d', S') →
      ∃ F'' ι'', Nxt G F ι H F'' ι'' S' H' ∧ RelD G F'' ι'' H' d' (.ref a)) {σ : L2.St} {H : Hp} {Q : VK} (q : T G W (mCallB fin (mCompL mi vs g mt me)) σ H Q) : tLc (TIt G W mi) tg tt te vs σ H Q := by
  obtain ⟨ρ, S, ι, F, a, t⟩ := q
  have t' : Then G (fun c d H' => W c d σ H') F ι H ((mi ρ S).bind fun src => fun S => (compI src.watch g mt me (unsetE ρ vs) [] src.xs S).bind fun ds => lift (fin ds)) (fun d _ F' ι' H' => ∀ v, RelD G F' ι' H' d v → Q v H') := by
    unfold mCallB mCompL at t
    cases e : mi ρ S with
    | ok src S1 => rw [e] at t; exact t
    | err x S1 => rw [e] at t; exact t
    | stuck => rw [e] at t; exact t
  refine ⟨ρ, S, ι, F, a, t'.bind.mono fun src S1 F1 ι1 H1 n1 t1 J ok L hL => ?_⟩
  have a1 := a.next n1
  refine ⟨fun i m H2 => ∃ xs acc S2 F2 ι2 us, xs = src.xs.drop i ∧ m = xs.length ∧ Nxt G F1 ι1 H1 F2 ι2 S2 H2 ∧ L ∉ ι2 ∧ ¬ F2 L ∧ H2 L = some (.lst us) ∧ RelDs G F2 ι2 H2 acc us ∧
      Then G (fun c d H' => W c d σ H') F1 ι1 H1 ((compI src.watch g mt me (unsetE ρ vs) acc xs S2).bind fun ds => lift (fin ds)) (fun d _ F' ι' H' => ∀ v, RelD G F' ι' H' d v → Q v H'),
    ⟨_, src.xs, [], S1, F1, ι1, [], rfl, rfl, Nxt.fresh n1.r hL, fun z => n1.r.ne hL z rfl, n1.r.nF hL, upd_same, relDs_nil', t1⟩, ?_⟩
  rintro i m H2 ⟨xs, acc, S2, F2, ι2, us, ex, em, n2, hi, hf, hus, racc, t2⟩
  cases xs with
  | nil =>
    unfold compI at t2
    split at t2
    · rename_i w
      have hl : src.xs.length ≤ i := by
        have := congrArg List.length ex
        simp at this
        omega
      refine .inl ⟨((ok F2 ι2 H2 S2 n2 w) i).1 hl, ?_⟩
      obtain ⟨d', S3, e3, q3⟩ := lift_then t2
      obtain ⟨F3, ι3, n3, r3⟩ := hfin n2 hL hi hf hus racc e3
      exact q3 F3 ι3 H2 n3 _ r3
    · exact t2.elim
  | cons x xs =>
    unfold compI at t2
    split at t2
    · rename_i w
      have hx : src.xs[i]? = some x := by
        have : (src.xs.drop i)[0]? = some x := by rw [← ex]; rfl
        simpa using this
      have hd : xs = src.xs.drop (i + 1) := by
        have h2 : src.xs.drop (i + 1) = (src.xs.drop i).drop 1 := by rw [List.drop_drop]
        rw [h2, ← ex]
        rfl
      obtain ⟨go, yl⟩ := ((ok F2 ι2 H2 S2 n2 w) i).2 x hx
      refine .inr ⟨go, fun H3 => ∃ acc S3 F3 ι3 us, Nxt G F1 ι1 H1 F3 ι3 S3 H3 ∧ L ∉ ι3 ∧ ¬ F3 L ∧ H3 L = some (.lst us) ∧ RelDs G F3 ι3 H3 acc us ∧
          Then G (fun c d H' => W c d σ H') F1 ι1 H1 ((compI src.watch g mt me (unsetE ρ vs) acc xs S3).bind fun ds => lift (fin ds)) (fun d _ F' ι' H' => ∀ v, RelD G F' ι' H' d v → Q v H'), ?_, ?_⟩
      · rintro H3 ⟨acc, S3, F3, ι3, us, n3, i3, f3, u3, r3, t3⟩
        exact ⟨xs.length, by rw [em]; simp, xs, acc, S3, F3, ι3, us, hd, rfl, n3, i3, f3, u3, r3, t3⟩
      · intro v H3 hy
        obtain ⟨nx, rx⟩ := yl v H3 hy
        have n23 := n2.trans nx
        have aw : At G F2 ι2 H3 (wipe σ vs) (unsetE ρ vs) S2 := ⟨relE_wipe ((a1.e.mono n23)) vs, nx.r⟩
        refine hg _ _ _ _ ?_
        split at t2
        · exact t2.elim
        · rename_i ρ' eg
          refine ⟨x, unsetE ρ vs, S2, ι2, F2, rx, aw, ρ', eg, fun σ' hr hl hw => ⟨hw.trans (wipe_sub σ vs vs fun _ h => h), ?_⟩⟩
          have t2' : Then G (fun c d H' => W c d σ H') F1 ι1 H1 ((noErr (mt ρ' S2)).bind fun k S => (if k = true then fun S => (noErr (me ρ' S)).bind fun y => fun S => if acc.length < 100000 then compI src.watch g mt me (unsetE ρ vs) (acc ++ [y]) xs S else .stuck else compI src.watch g mt me (unsetE ρ vs) acc xs) S |>.bind fun ds => lift (fin ds)) (fun d _ F' ι' H' => ∀ v, RelD G F' ι' H' d v → Q v H') := by
            cases ek : noErr (mt ρ' S2) with
            | ok k S3 => rw [ek] at t2; exact t2
            | err z S3 => rw [ek] at t2; exact t2
            | stuck => rw [ek] at t2; exact t2
          refine ht _ _ _ ⟨ρ', S2, ι2, F2, ⟨hr, nx.r⟩, (Then.later (noErr_then t2') n23).mono fun k S4 F4 ι4 H4 n4 t4 => ?_⟩
          have h2 := nx.hole hus hi hf
          have h4 := n4.hole h2.1 h2.2.1 h2.2.2
          cases k with
          | true =>
            rw [if_pos rfl] at t4
            show if (true : Bool) = true then _ else _
            rw [if_pos rfl]
            have t4' : Then G (fun c d H' => W c d σ H') F1 ι1 H1 ((noErr (me ρ' S4)).bind fun y S => (if acc.length < 100000 then compI src.watch g mt me (unsetE ρ vs) (acc ++ [y]) xs S else .stuck).bind fun ds => lift (fin ds)) (fun d _ F' ι' H' => ∀ v, RelD G F' ι' H' d v → Q v H') := by
              cases ek : noErr (me ρ' S4) with
              | ok k S3 => rw [ek] at t4; exact t4
              | err z S3 => rw [ek] at t4; exact t4
              | stuck => rw [ek] at t4; exact t4
            refine he _ _ _ ⟨ρ', S4, ι4, F4, ⟨hr.mono n4, n4.r⟩, (Then.later (noErr_then t4') (n23.trans n4)).mono fun y S5 F5 ι5 H5 n5 t5 v5 r5 => ?_⟩
            have h5 := n5.hole h4.1 h4.2.1 h4.2.2
            split at t5
            · rename_i hlen
              have racc5 : RelDs G F5 ι5 H5 acc us := n5.ds (n4.ds (nx.ds racc))
              refine ⟨us, h5.1, ?_, acc ++ [y], S5, F5, ι5, us ++ [v5], Nxt.own ((n23.trans n4).trans n5) hL h5.2.1 h5.2.2 h5.1, h5.2.1, h5.2.2, upd_same, ?_, t5⟩
              · rw [← relDs_len racc5]
                exact Nat.lt_of_lt_of_le hlen (szOk (Nat.le_refl _))
              · refine (relDs_append racc5 (relDs_cons.mpr ⟨r5, relDs_nil'⟩)).mono ?_ (fun _ h => h) (List.prefix_refl _)
                intro b u e h
                have hb : b ≠ L := fun z => by
                  subst z
                  rcases h with h | h
                  · exact h5.2.2 h
                  · rw [h5.1] at e
                    cases e
                    cases h
                rw [upd_ne hb]
                exact e
            · exact t5.elim
          | false =>
            rw [if_neg (by decide)] at t4
            show if (false : Bool) = true then _ else _
            rw [if_neg (by decide)]
            exact ⟨acc, S4, F4, ι4, us, n23.trans n4, h4.2.1, h4.2.2, h4.1, n4.ds (nx.ds racc), t4⟩
    · exact t2.elim
theorem fin_F {G : Gb} {F F' : Addr → Prop} {ι ι' : List Addr} {H H' : Hp} {S S' : Store} {a : Addr} {xs : List V} {ds : List D} {d' : D} (n : Nxt G F ι H F' ι' S H') (ha : H a = none) (hi : a ∉ ι') (hf : ¬ F' a) (ho : H' a = some (.lst xs)) (r : RelDs G F' ι' H' ds xs) (e : fLstF ds S = some (d', S')) :
    ∃ F'' ι'', Nxt G F ι H F'' ι'' S' H' ∧ RelD G F'' ι'' H' d' (.ref a) := by
  unfold fLstF at e
  split at e
  · split at e
    · rename_i ps ep
      cases e
      refine ⟨_, _, n.own_frz ha hi ho, ?_⟩
      simp only [RelD, RelP]
      exact ⟨a, xs, rfl, .inr rfl, ho, (pures_rel ep r).mono (fun b u e _ => e) fun _ h => .inl h⟩
    · cases e
  · cases e
end
end DL
set_option maxHeartbeats 2000000
/-! DLFn: comprehensions as expressions, defs, calls. -/
namespace DL
open PySem PySem.Spec PyProof.Rows L2
variable [HasT]

section
variable {X : Cx} {W : WX} {e a b c tg iter elt : Expr} {es ifs : List Expr} {pos p : Pos} {mt : ME Bool} {me : ME D} {mi : ME Src} {g : MG} {scope : Scope} {own : List (Str × Nat)}
abbrev DTs (X : Cx) (W : WX) (e : List Expr) (m : ME Bool) : Prop := PTs X e (TB (gb X) W m)
theorem PTs.imp {X : Cx} {e : List Expr} {t t' : TT} (h : PTs X e t) (i : ∀ σ H Q, t' σ H Q → t σ H Q) : PTs X e t' := ⟨fun pins s σ H Q I q => h.run pins s σ H Q I (i σ H Q q)⟩
theorem dts_nil : DTs X W [] mYes := PTs.imp pts_nil fun σ H Q q => by
  obtain ⟨ρ, S, ι, F, a, t⟩ := q
  exact t.now a.r
theorem dts_one (h : DT X W c mt) : DTs X W [c] mt := pts_one h
/-- [elt for tg in iter if ..], the list frozen at once | in the store -/
theorem de_lcF (hc : X.calm = true) (hN : X.N.Nodup) (ok : BlkOk X.N X.env.scope scope own) (hi : DI X W tg iter mi)
    (hg : ∀ (s : Shared) (H : Hp) (C : Addr) (cl : List (Str × Addr)) (fp : List Addr), DG (X.blk s H scope (compEnvC scope cl C X.env) fp) (own.map (·.2)) tg g)
    (ht : ∀ (s : Shared) (H : Hp) (C : Addr) (cl : List (Str × Addr)) (fp : List Addr), DTs (X.blk s H scope (compEnvC scope cl C X.env) fp) W0 ifs mt)
    (he : ∀ (s : Shared) (H : Hp) (C : Addr) (cl : List (Str × Addr)) (fp : List Addr), DE (X.blk s H scope (compEnvC scope cl C X.env) fp) W0 elt me) (hs : ∀ x, foldedSetIterable iter X.env x = pure x := by intro _; rfl) :
    DE X W (.ListComp elt [⟨tg, iter, ifs, 0⟩] scope pos) (mCallB fLstF (mCompL mi (own.map (·.2)) g mt me)) :=
  PE.imp (pe_lc hc hN hi ok hg ht he hs) fun σ H Q q => comp_imp (fun _ _ _ _ h => h) (fun _ _ _ h => h) (fun _ _ _ h => h) (fun n ha hi hf ho r e => fin_F n ha hi hf ho r e) q
/-- y = [..] -/
theorem asg_imp {i : Nat} {m : ME D} {t : TE} (hT : ∀ σ H Q, T (gb X) W m σ H Q → t σ H Q) {E : Ends} {σ : L2.St} {H : Hp} (q : TSt (gb X) W (mAsg (gNm i) m) E σ H) : tAsg t (gName i) E σ H := by
  obtain ⟨ρ, S, ι, F, a, t⟩ := q
  refine hT _ _ _ (T.firstS a t fun d S1 F1 ι1 H1 v n a1 r t1 => ?_)
  obtain ⟨ρ', e', q⟩ := gRun_then t1 a1.r
  cases e'
  exact q _ (by simp) (a1.e.set r i)
theorem ds_setLcF (i : Nat) {y : Str} {py spos : Pos} (hc : X.calm = true) (hN : X.N.Nodup) (ok : BlkOk X.N X.env.scope scope own) (hi : DI X W tg iter mi)
    (hg : ∀ (s : Shared) (H : Hp) (C : Addr) (cl : List (Str × Addr)) (fp : List Addr), DG (X.blk s H scope (compEnvC scope cl C X.env) fp) (own.map (·.2)) tg g)
    (ht : ∀ (s : Shared) (H : Hp) (C : Addr) (cl : List (Str × Addr)) (fp : List Addr), DTs (X.blk s H scope (compEnvC scope cl C X.env) fp) W0 ifs mt)
    (he : ∀ (s : Shared) (H : Hp) (C : Addr) (cl : List (Str × Addr)) (fp : List Addr), DE (X.blk s H scope (compEnvC scope cl C X.env) fp) W0 elt me)
    (hsw : swapsWith (.ListComp elt [⟨tg, iter, ifs, 0⟩] scope pos) (some (.Name y py)) spos.line X.env = pure true) (hy : X.N[i]? = some y := by rfl) (hyl : X.env.scope.names.lookup y = some .local := by rfl) (hs : ∀ x, foldedSetIterable iter X.env x = pure x := by intro _; rfl) :
    DS X W (.Assign [.Name y py] (.ListComp elt [⟨tg, iter, ifs, 0⟩] scope pos) spos) (mAsg (gNm i) (mCallB fLstF (mCompL mi (own.map (·.2)) g mt me))) :=
  PS.imp (ps_setLc hc hN hy hyl hsw hi ok hg ht he hs) fun E σ H q => asg_imp (fun σ H Q q => comp_imp (fun _ _ _ _ h => h) (fun _ _ _ h => h) (fun _ _ _ h => h) (fun n ha hi hf ho r e => fin_F n ha hi hf ho r e) q) q
end

/-! ### defs, with nothing that is being shown around them -/
/-- as the layer's FnOk, called where no repr is under way -/
structure FnOkG (P : Program) (w : World) (K : PySem.W.Frag) (mg : Str → Option Value) (base : Heap) (k : Nat) (f : Addr) (fd : FuncData) (ps : List Str) (sp : Sp) : Prop where
  len : ∀ vs H Q E, sp vs H Q E → vs.length = ps.length
  run : ∀ (A : Around) (outer : List PySem.Env) (s : Shared) (H : Hp) (args : PySem.Args) (us : List Value) (vs : List V) (Q : VK) (E : XK), Room k A → A.guards = some [] → Env0 P w K mg base A outer s H → BindsTo s fd args (ps.zip us) → Vals vs us → sp vs H Q E →
    codeAny (model P w) A (.call (.ref f) args) (CR (L2.CX P w) outer P w H s Q E) s
theorem FnOkG.mono {P : Program} {w : World} {K : PySem.W.Frag} {mg : Str → Option Value} {base : Heap} {j k : Nat} {f : Addr} {fd : FuncData} {ps : List Str} {sp : Sp} (F : FnOkG P w K mg base j f fd ps sp) (h : j ≤ k) : FnOkG P w K mg base k f fd ps sp :=
  ⟨F.len, fun A outer s H args us vs Q E hr => F.run A outer s H args us vs Q E (hr.mono h)⟩
theorem fnG_of {P : Program} {w : World} {K : PySem.W.Frag} {mg : Str → Option Value} {base : Heap} {k : Nat} {f : Addr} {name qual : Str} {params : Arguments} {body : List Stmt} {scope : Scope} {dV kV doc pm cdv ct oc : Value} {an od : Option Addr}
    {osl : Array (Option Value)} {N ps : List Str} {sp : Sp} (lk : K.lookup f = some ⟨oc, od, .func (PySem.W.fnOf name qual params body scope dV kV doc pm an cdv ct), osl⟩) (hcd : PySem.W.codeIn K cdv qual = true) (S : FnScope N ps scope)
    (len : ∀ vs H Q E, sp vs H Q E → vs.length = ps.length)
    (hbody : ∀ (A : Around) (outer : List PySem.Env) (s : Shared) (H : Hp) (vs : List V) (Q : VK) (E : XK), Room k (A.deeper (envOfC qual scope s.heap.objs.size f cdv)) → (A.deeper (envOfC qual scope s.heap.objs.size f cdv)).guards = some [] → sp vs H Q E →
      ∃ t, PSs (cxOf (L2.CX P w) P w K mg base N qual scope f cdv A outer s H E) body t ∧ t { nx := fun _ H' => Q .non H', rt := Q } (L2.start N vs) H) :
    FnOkG P w K mg base (k + 1) f (PySem.W.fnOf name qual params body scope dV kV doc pm an cdv ct) ps sp := by
  refine ⟨len, fun A outer s H args us vs Q E hr hgd e0 hb r hsp => ?_⟩
  have KX : K.In s.heap := e0.mod.kin.keeps fun b o e => (e0.bs b o e).1
  have lim : s.heap.NoLimit := e0.mod.nolimit.keeps fun b o e => (e0.bs b o e).1
  have hkind : ∀ y ∈ ps.zip us, scope.names.lookup y.1 = some .local ∨ (scope.names.lookup y.1 = some .cell ∧ ((cellsFrom (s.heap.objs.size + 1) scope.names []).lookup y.1).isSome = true) := fun ⟨n, v⟩ hy => by
    rcases S.par n (List.of_mem_zip hy).1 with q | q
    · exact .inl q
    · exact .inr ⟨q, PySem.W.cellsFrom_some _ _ _ (.inl q)⟩
  refine codeAny_call_function hr.depth (KX _ _ lk) rfl S.co S.gen rfl (PySem.W.codeRec_of KX hcd) (hb _ _ _ _ ?_)
  refine wpAny_newFunctionEnv_cells S.kind hkind fun env he s1 x => ?_
  subst he
  refine ⟨lim.keeps x.toInCall.keep, codeAny_func ?_⟩
  obtain ⟨t, ht, hq⟩ := hbody A outer s H vs Q E (hr.deeper _) hgd hsp
  have I : Inv (cxOf (L2.CX P w) P w K mg base N qual scope f cdv A outer s H E) [] (L2.start N vs) H s1 := inv_start S hr.hd e0 (len _ _ _ _ hsp) r x
  refine wpAny_mono (ht.run [] s1 (L2.start N vs) H _ I hq) (fun fl s' hs => ?_) fun e s' hs => hs
  have done : ∀ {σ' : L2.St} {H' : Hp} {v : V} {u : Value}, Inv (cxOf (L2.CX P w) P w K mg base N qual scope f cdv A outer s H E) [] σ' H' s' → RelV v u → Q v H' → CE outer P w H s Q u s' :=
    fun {σ' H' v u} J rv q => ⟨v, H', J.os, J.bare, J.base, J.hok, rv, q⟩
  cases fl with
  | ret u =>
    obtain ⟨v, σ', H', J, rv, q⟩ := hs
    exact done J rv q
  | next =>
    obtain ⟨σ', H', J, q⟩ := hs
    exact done (v := V.non) (u := Value.none) J rfl q
  | brk =>
    obtain ⟨_, _, _, q⟩ := hs
    exact False.elim q
  | cont =>
    obtain ⟨_, _, _, q⟩ := hs
    exact False.elim q
section
variable {X : Cx} {k : Nat} {f : Addr} {fd : FuncData} {ps : List Str} {sp : Sp} {E : L2.St → XK} {x : Str} {p pos : Pos} {e : Expr} {es : List Expr} {t : TA}
theorem run_fnG {pins : List (Addr × Obj)} {σ : L2.St} {H : Hp} {s : Shared} {Q : VK} {us : List Value} {vs : List V} (F : FnOkG X.prog X.w X.K X.mg X.base k f fd ps sp) (hr : Room k X.A) (hgd : X.A.guards = some []) (hb : Binds X.K fd ps []) (hx : PassesAt (L2.CX X.prog X.w) X σ (E σ))
    (I : Inv X pins σ H s) (r : Vals vs us) (h : sp vs H Q (E σ)) : wpAny (model X.prog X.w) X.A (call (.ref f) us) (EP X pins σ Q) X.xe s := by
  have hl : us.length = ps.length := by rw [← r.length]; exact F.len _ _ _ _ h
  have b := hb s us I.kIn (by rw [List.append_nil]; exact hl)
  rw [List.append_nil] at b
  refine wpAny_call (codeAny_mono (F.run X.A X.stack s H ⟨us, []⟩ us vs Q (E σ) hr hgd I.env0 b r h) fun r s' hq => ?_)
  cases r with
  | error e => exact hx pins H s e s' I hq
  | ok fl =>
    cases fl with
    | ret u => exact I.after hq
    | next => exact False.elim hq
    | brk => exact False.elim hq
    | cont => exact False.elim hq
theorem pe_callG (F : FnOkG X.prog X.w X.K X.mg X.base k f fd ps sp) (hr : Room k X.A) (hgd : X.A.guards = some []) (hg : Gl X x) (hm : X.mg x = some (.ref f)) (hk : PySem.W.keepIn X.K (.ref f) = true) (hb : Binds X.K fd ps []) (hx : ∀ σ, PassesAt (L2.CX X.prog X.w) X σ (E σ))
    (ha : PA X (e :: es) t) (hdb : (x == ("__debug__" : Str)) = false := by decide) (he : starEach (e :: es) X.env = (false, eval e X.env) :: starEach es X.env := by rfl) (hpl : (backTo pos (starEach es X.env)).any (·.1) = false := by rfl) :
    PE X (.Call (.Name x p) (e :: es) [] pos) (tCallS sp E t) := by
  refine ⟨fun pins s σ H Q I h => ?_⟩
  refine wpAny_Call_Name_kw (ld_glob I hg hm ?_ hdb)
  refine PySem.W.callWith_K (h₀ := X.base) I.ok.mod.kin hk (thn (ha.run pos pins s σ H _ I h) fun us s1 ⟨vs, H1, I1, r, q⟩ => ⟨I1.kIn, ?_⟩) he hpl
  exact run_fnG F hr hgd hb (hx σ) I1 r q
end

/-! ### defs -/
def spD (G : Gb) (n : Nat) (mf : List D → M D) : Sp := fun vs H Q E => vs.length = n ∧ ∃ ds S ι F, R G F ι S H ∧ RelDs G F ι H ds vs ∧ Then G E F ι H (mf ds S) fun d _ F' ι' H' => ∀ v, RelD G F' ι' H' d v → Q v H'
/-- a def of the module: by at most level k, of n parameters, its run mf -/
def FnD (P : Program) (w : World) (K : PySem.W.Frag) (mg : Str → Option Value) (base : Heap) (x : Str) (k n : Nat) (mf : List D → M D) : Prop :=
  ∃ f fd ps, mg x = some (.ref f) ∧ PySem.W.keepIn K (.ref f) = true ∧ Binds K fd ps [] ∧ ps.length = n ∧ FnOkG P w K mg base k f fd ps (spD ⟨K, mg⟩ n mf)
theorem FnD.mono {P : Program} {w : World} {K : PySem.W.Frag} {mg : Str → Option Value} {base : Heap} {x : Str} {j k n : Nat} {mf : List D → M D} (h : FnD P w K mg base x j n mf) (hj : j ≤ k) : FnD P w K mg base x k n mf := by
  obtain ⟨f, fd, ps, a, b, c, d, e⟩ := h
  exact ⟨f, fd, ps, a, b, c, d, e.mono hj⟩
def asRet : Out → M D
  | .nx _ => fun S => .ok (.p .non) S
  | .rt d => fun S => .ok d S
  | _ => fun _ => .stuck
/-! what is thrown away behind a call -/
/-- the first k things alone -/
def Store.cut (k : Nat) (S : Store) : Option Store := if h : (decide (k ≤ S.objs.length) && allBelow k (S.objs.take k)) = true then some ⟨S.objs.take k, by
    simp only [Bool.and_eq_true, decide_eq_true_eq] at h
    rw [List.length_take, Nat.min_eq_left h.1]
    exact h.2⟩ else none
/-- of each one, if of all -/
def frzAll (g : D → Option P) : List D → Option (List P)
  | [] => some []
  | d :: ds => match g d, frzAll g ds with
    | some p, some ps => some (p :: ps)
    | _, _ => none
/-- data of a value whose lists were all made behind the first k things -/
def frzD (k : Nat) (S : Store) : Nat → D → Option P
  | 0, .p x => some x
  | 0, .r _ => none
  | 0, .t _ => none
  | _ + 1, .p x => some x
  | f + 1, .r n => if k ≤ n then (match S.objs[n]? with
    | some (.lst ds) => (frzAll (fun d => frzD k S f d) ds).map P.lst
    | some (.ins c fs) => (frzAll (fun d => frzD k S f d) (fs.map (·.2))).map fun ps => P.ins c ((fs.map (·.1)).zip ps)
    | some (.dct fs) => (frzAll (fun d => frzD k S f d) (fs.map (·.2))).map fun ps => P.dic ((fs.map (·.1)).zip ps)
    | _ => none) else none
  | f + 1, .t ds => (frzAll (fun d => frzD k S f d) ds).map P.tup
def frzDs (k : Nat) (S : Store) (f : Nat) (ds : List D) : Option (List P) := frzAll (fun d => frzD k S f d) ds
theorem frzD_p {k : Nat} {S : Store} {f : Nat} {x : P} : frzD k S f (.p x) = some x := by cases f <;> rfl
abbrev Fin := Nat → D → Store → D × Store
/-- the answer is data -/
def finP : Fin := fun k d S => match Store.cut k S with
  | some S' => (match frzD k S 8 d with
    | some p => (.p p, S')
    | none => (d, S))
  | none => (d, S)
/-- the answer is a new list of the store, or data, or a thing from before -/
def finN : Fin := fun k d S => match Store.cut k S with
  | some S' => (match d with
    | .r n => if k ≤ n then (match S.objs[n]? with
      | some o => if h : o.lo S'.objs.length = true then (.r S'.objs.length, S'.new o h) else (d, S)
      | none => (d, S)) else (d, S')
    | .p x => (.p x, S')
    | .t _ => (d, S))
  | none => (d, S)
def FinOk (fin : Fin) : Prop := ∀ {G : Gb} {F F' : Addr → Prop} {ι ι' : List Addr} {H H' : Hp} {S S' : Store} {d : D} {v : V}, R G F ι S H → Nxt G F ι H F' ι' S' H' → RelD G F' ι' H' d v →
  ∃ F'' ι'', Nxt G F ι H F'' ι'' (fin S.objs.length d S').2 H' ∧ RelD G F'' ι'' H' (fin S.objs.length d S').1 v
mutual
theorem RelD.lo {G : Gb} {F : Addr → Prop} {ι ι' : List Addr} {H : Hp} (p : ι <+: ι') : ∀ {d : D} {v : V}, d.lo ι.length = true → RelD G F ι' H d v → RelD G F ι H d v
  | .p x, _, _, h => by simpa only [RelD] using h
  | .r n, _, e, h => by
    simp only [RelD, D.lo, decide_eq_true_eq] at h e ⊢
    obtain ⟨a, ev, q⟩ := h
    obtain ⟨t, rfl⟩ := p
    rw [List.getElem?_append_left e] at q
    exact ⟨a, ev, q⟩
  | .t xs, _, e, h => by
    simp only [RelD, D.lo] at h e ⊢
    obtain ⟨a, vs, ev, q, r⟩ := h
    exact ⟨a, vs, ev, q, RelDs.lo p e r⟩
theorem RelDs.lo {G : Gb} {F : Addr → Prop} {ι ι' : List Addr} {H : Hp} (p : ι <+: ι') : ∀ {ds : List D} {vs : List V}, D.los ι.length ds = true → RelDs G F ι' H ds vs → RelDs G F ι H ds vs
  | [], _, _, h => by simpa only [RelDs] using h
  | d :: ds, _, e, h => by
    simp only [RelDs, D.los, Bool.and_eq_true] at h e ⊢
    obtain ⟨v, ws, ev, a, b⟩ := h
    exact ⟨v, ws, ev, RelD.lo p e.1 a, RelDs.lo p e.2 b⟩
end
theorem relDf_lo {G : Gb} {F : Addr → Prop} {ι ι' : List Addr} {H : Hp} (p : ι <+: ι') : ∀ {fs : List (Str × D)} {vs : List (Str × V)}, D.los ι.length (fs.map (·.2)) = true → RelDf G F ι' H fs vs → RelDf G F ι H fs vs
  | [], _, _, h => h
  | (f, d) :: fs, _, e, h => by
    obtain ⟨v, ws, ev, a, b⟩ := h
    simp only [List.map, D.los, Bool.and_eq_true] at e
    exact ⟨v, ws, ev, RelD.lo p e.1 a, relDf_lo p e.2 b⟩
theorem relDk_lo {α : Type} {G : Gb} {F : Addr → Prop} {ι ι' : List Addr} {H : Hp} (p : ι <+: ι') : ∀ {fs : List (α × D)} {vs : List (α × V)}, D.los ι.length (fs.map (·.2)) = true → RelDk G F ι' H fs vs → RelDk G F ι H fs vs
  | [], _, _, h => h
  | (f, d) :: fs, _, e, h => by
    obtain ⟨v, ws, ev, a, b⟩ := h
    simp only [List.map, D.los, Bool.and_eq_true] at e
    exact ⟨v, ws, ev, RelD.lo p e.1 a, relDk_lo p e.2 b⟩
theorem RelO.lo {G : Gb} {F : Addr → Prop} {ι ι' : List Addr} {H : Hp} {a : Addr} {o : O} (p : ι <+: ι') (e : o.lo ι.length = true) (h : RelO G F ι' H a o) : RelO G F ι H a o := by
  cases o with
  | lst ds =>
    obtain ⟨vs, q, r⟩ := h
    exact ⟨vs, q, r.lo p e⟩
  | ins c fs =>
    obtain ⟨C, dx, fvs, m, q, r⟩ := h
    exact ⟨C, dx, fvs, m, q, relDf_lo p e r⟩
  | dct fs =>
    obtain ⟨fvs, q, r⟩ := h
    exact ⟨fvs, q, relDk_lo p e r⟩
  | dit fs =>
    obtain ⟨fvs, q, r⟩ := h
    exact ⟨fvs, q, relDk_lo p e r⟩
theorem allBelow_get {k : Nat} : ∀ {os : List O} {n : Nat} {o : O}, allBelow k os = true → os[n]? = some o → o.lo k = true
  | [], _, _, _, h => by simp at h
  | x :: os, 0, o, e, h => by
    simp only [allBelow, Bool.and_eq_true] at e
    simp at h
    rw [← h]
    exact e.1
  | x :: os, n + 1, o, e, h => by
    simp only [allBelow, Bool.and_eq_true] at e
    exact allBelow_get (n := n) e.2 (by simpa using h)
/-- all that is new in the store is thrown away; it counts as frozen -/
theorem Nxt.cut {G : Gb} {F F' : Addr → Prop} {ι ι' : List Addr} {H H' : Hp} {S S' S'' : Store} (rs : R G F ι S H) (n : Nxt G F ι H F' ι' S' H') (e : Store.cut S.objs.length S' = some S'') :
    Nxt G F ι H (fun a => F' a ∨ (a ∈ ι' ∧ a ∉ ι)) ι S'' H' ∧ S''.objs = S'.objs.take S.objs.length ∧ S''.objs.length = S.objs.length := by
  unfold Store.cut at e
  split at e
  · rename_i h
    simp only [Bool.and_eq_true, decide_eq_true_eq] at h
    cases e
    have hl : (S'.objs.take S.objs.length).length = S.objs.length := by rw [List.length_take, Nat.min_eq_left h.1]
    refine ⟨⟨fun a z => .inl (n.sub a z), n.keep, List.prefix_refl _, fun x a b => absurd a b, fun x a b => ?_, n.old, ⟨?_, rs.nd, fun a ha z => ?_, fun a z => ?_, n.r.tb, fun m a o ea eo => ?_⟩⟩, rfl, hl⟩
    · rcases a with a | a
      · exact n.nF x a b
      · exact n.nw x a.1 a.2
    · rw [rs.len]
      exact hl.symm
    · rcases z with z | z
      · obtain ⟨t, ht⟩ := n.pre
        exact n.r.nf a (ht ▸ List.mem_append_left _ ha) z
      · exact z.2 ha
    · rcases z with z | z
      · exact n.r.fz a z
      · exact n.r.thing z.1
    · have hm : m < S.objs.length := by
        rw [← rs.len]
        exact (List.getElem?_eq_some_iff.mp ea).1
      have eo' : S'.objs[m]? = some o := by
        have : (S'.objs.take S.objs.length)[m]? = some o := eo
        rwa [List.getElem?_take_of_lt hm] at this
      have ea' : ι'[m]? = some a := pre_get n.pre ea
      have q := n.r.ob m a o ea' eo'
      refine RelO.mono (F' := fun a => F' a ∨ (a ∈ ι' ∧ a ∉ ι)) (fun b u e _ => e) (fun _ h => Or.inl h) (List.prefix_refl _) rfl (RelO.lo n.pre ?_ q)
      rw [rs.len]
      exact allBelow_get h.2 eo
  · cases e
theorem relDf_split {G : Gb} {F : Addr → Prop} {ι : List Addr} {H : Hp} : ∀ {fs : List (Str × D)} {fvs : List (Str × V)}, RelDf G F ι H fs fvs → ∃ vs, RelDs G F ι H (fs.map (·.2)) vs ∧ fvs = (fs.map (·.1)).zip vs
  | [], _, h => ⟨[], by simp [RelDs], h⟩
  | (f, d) :: fs, _, h => by
    obtain ⟨v, ws, ev, a, b⟩ := h
    obtain ⟨vs, r, e⟩ := relDf_split b
    exact ⟨v :: vs, by simp only [List.map_cons, RelDs]; exact ⟨v, vs, rfl, a, r⟩, by rw [ev, e]; rfl⟩
theorem relDk_split {α : Type} {G : Gb} {F : Addr → Prop} {ι : List Addr} {H : Hp} : ∀ {fs : List (α × D)} {fvs : List (α × V)}, RelDk G F ι H fs fvs → ∃ vs, RelDs G F ι H (fs.map (·.2)) vs ∧ fvs = (fs.map (·.1)).zip vs
  | [], _, h => ⟨[], by simp [RelDs], h⟩
  | (f, d) :: fs, _, h => by
    obtain ⟨v, ws, ev, a, b⟩ := h
    obtain ⟨vs, r, e⟩ := relDk_split b
    exact ⟨v :: vs, by simp only [List.map_cons, RelDs]; exact ⟨v, vs, rfl, a, r⟩, by rw [ev, e]; rfl⟩
theorem relPf_join {G : Gb} {F : Addr → Prop} {H : Hp} : ∀ {ks : List Str} {ps : List P} {vs : List V}, RelPs G F H ps vs → RelPf G F H (ks.zip ps) (ks.zip vs)
  | [], _, _, _ => by simp [RelPf]
  | _ :: _, [], vs, h => by
    simp only [RelPs] at h
    subst h
    simp [RelPf]
  | k :: ks, p :: ps, vs, h => by
    simp only [RelPs] at h
    obtain ⟨v, ws, rfl, a, b⟩ := h
    simp only [List.zip_cons_cons, RelPf]
    exact ⟨v, _, rfl, a, relPf_join b⟩
theorem relPk_join {G : Gb} {F : Addr → Prop} {H : Hp} : ∀ {ks : List Key} {ps : List P} {vs : List V}, RelPs G F H ps vs → RelPk G F H (ks.zip ps) (ks.zip vs)
  | [], _, _, _ => by simp [RelPk]
  | _ :: _, [], vs, h => by
    simp only [RelPs] at h
    subst h
    simp [RelPk]
  | k :: ks, p :: ps, vs, h => by
    simp only [RelPs] at h
    obtain ⟨v, ws, rfl, a, b⟩ := h
    simp only [List.zip_cons_cons, RelPk]
    exact ⟨v, _, rfl, a, relPk_join b⟩
theorem relPt_join {G : Gb} {F : Addr → Prop} {H : Hp} : ∀ {ks : List (List Key)} {ps : List P} {vs : List V}, RelPs G F H ps vs → RelPt G F H (ks.zip ps) (ks.zip vs)
  | [], _, _, _ => by simp [RelPt]
  | _ :: _, [], vs, h => by
    simp only [RelPs] at h
    subst h
    simp [RelPt]
  | k :: ks, p :: ps, vs, h => by
    simp only [RelPs] at h
    obtain ⟨v, ws, rfl, a, b⟩ := h
    simp only [List.zip_cons_cons, RelPt]
    exact ⟨v, _, rfl, a, relPt_join b⟩
theorem new_thing {G : Gb} {F F' : Addr → Prop} {ι ι' : List Addr} {H H' : Hp} {S S' : Store} (rs : R G F ι S H) (n : Nxt G F ι H F' ι' S' H') {m : Nat} {a : Addr} (ea : ι'[m]? = some a) (hk : S.objs.length ≤ m) : a ∈ ι' ∧ a ∉ ι := by
  refine ⟨List.mem_of_getElem? ea, fun z => ?_⟩
  obtain ⟨j, hj, ej⟩ := List.getElem_of_mem z
  have ej' : ι'[j]? = some a := pre_get n.pre (by rw [List.getElem?_eq_getElem hj, ej])
  obtain ⟨h1, e1⟩ := List.getElem?_eq_some_iff.mp ea
  obtain ⟨h2, e2⟩ := List.getElem?_eq_some_iff.mp ej'
  have := (List.getElem_inj n.r.nd).mp (e1.trans e2.symm)
  rw [rs.len] at hj
  omega
mutual
theorem frzD_rel {G : Gb} {F F' : Addr → Prop} {ι ι' : List Addr} {H H' : Hp} {S S' : Store} (rs : R G F ι S H) (n : Nxt G F ι H F' ι' S' H') : ∀ {f : Nat} {d : D} {v : V} {p : P}, frzD S.objs.length S' f d = some p → RelD G F' ι' H' d v → RelP G (fun a => F' a ∨ (a ∈ ι' ∧ a ∉ ι)) H' p v
  | f, .p x, v, p, e, r => by
    have e' : x = p := by
      rw [frzD_p] at e
      exact Option.some.inj e
    subst e'
    simp only [RelD] at r
    exact r.mono (fun b u e _ => e) fun _ h => .inl h
  | 0, .r n, v, p, e, r => by simp [frzD] at e
  | 0, .t ds, v, p, e, r => by simp [frzD] at e
  | f + 1, .r m, v, p, e, r => by
    simp only [frzD] at e
    split at e
    · rename_i hk
      split at e
      · rename_i ds eo
        obtain ⟨ps, ep, rfl⟩ := Option.map_eq_some_iff.mp e
        simp only [RelD] at r
        obtain ⟨a, rfl, ea⟩ := r
        obtain ⟨vs, hv, rv⟩ := n.r.ob m a _ ea eo
        simp only [RelP]
        exact ⟨a, vs, rfl, .inr (new_thing rs n ea hk), hv, frzDs_rel rs n ep rv⟩
      · rename_i c fs eo
        obtain ⟨ps, ep, rfl⟩ := Option.map_eq_some_iff.mp e
        simp only [RelD] at r
        obtain ⟨a, rfl, ea⟩ := r
        obtain ⟨C, dx, fvs, hm, hv, rv⟩ := n.r.ob m a _ ea eo
        obtain ⟨vs, rdv, rfl⟩ := relDf_split rv
        simp only [RelP]
        exact ⟨a, C, dx, _, rfl, .inr (new_thing rs n ea hk), hm, hv, relPf_join (frzDs_rel rs n ep rdv)⟩
      · rename_i fs eo
        obtain ⟨ps, ep, rfl⟩ := Option.map_eq_some_iff.mp e
        simp only [RelD] at r
        obtain ⟨a, rfl, ea⟩ := r
        obtain ⟨fvs, hv, rv⟩ := n.r.ob m a _ ea eo
        obtain ⟨vs, rdv, rfl⟩ := relDk_split rv
        simp only [RelP]
        exact ⟨a, _, rfl, .inr (new_thing rs n ea hk), hv, relPk_join (frzDs_rel rs n ep rdv)⟩
      · cases e
    · cases e
  | f + 1, .t ds, v, p, e, r => by
    simp only [frzD] at e
    obtain ⟨ps, ep, rfl⟩ := Option.map_eq_some_iff.mp e
    simp only [RelD] at r
    obtain ⟨a, vs, rfl, q, rv⟩ := r
    simp only [RelP]
    exact ⟨a, vs, rfl, q, frzDs_rel rs n ep rv⟩
theorem frzDs_rel {G : Gb} {F F' : Addr → Prop} {ι ι' : List Addr} {H H' : Hp} {S S' : Store} (rs : R G F ι S H) (n : Nxt G F ι H F' ι' S' H') : ∀ {f : Nat} {ds : List D} {vs : List V} {ps : List P}, frzDs S.objs.length S' f ds = some ps → RelDs G F' ι' H' ds vs → RelPs G (fun a => F' a ∨ (a ∈ ι' ∧ a ∉ ι)) H' ps vs
  | f, [], vs, ps, e, r => by
    have e' : ps = [] := (Option.some.inj (show some [] = some ps from e)).symm
    subst e'
    simpa only [RelDs, RelPs] using r
  | f, d :: ds, vs, ps, e, r => by
    have e' : (match frzD S.objs.length S' f d, frzDs S.objs.length S' f ds with
      | some p, some ps => some (p :: ps)
      | _, _ => none) = some ps := e
    split at e'
    · rename_i q qs e1 e2
      cases e'
      simp only [RelDs] at r
      obtain ⟨v, ws, rfl, a, b⟩ := r
      simp only [RelPs]
      exact ⟨v, ws, rfl, frzD_rel rs n e1 a, frzDs_rel rs n e2 b⟩
    · cases e'
end
theorem finP_ok : FinOk finP := fun {G F F' ι ι' H H' S S' d v} rs n r => by
  unfold finP
  split
  · rename_i S2 e
    split
    · rename_i q eq
      exact ⟨_, _, (n.cut rs e).1, by simp only [RelD]; exact frzD_rel rs n eq r⟩
    · exact ⟨_, _, n, r⟩
  · exact ⟨_, _, n, r⟩
theorem finN_ok : FinOk finN := fun {G F F' ι ι' H H' S S' d v} rs n r => by
  unfold finN
  split
  · rename_i S2 e
    obtain ⟨n2, eo, el⟩ := n.cut rs e
    split
    · rename_i m
      split
      · rename_i hk
        split
        · rename_i o em
          split
          · rename_i hw
            -- a new thing, put behind the old ones
            simp only [RelD] at r
            obtain ⟨a, rfl, ea⟩ := r
            have hnot : a ∉ ι := fun z => by
              obtain ⟨j, hj, ej⟩ := List.getElem_of_mem z
              have ej' : ι'[j]? = some a := pre_get n.pre (by rw [List.getElem?_eq_getElem hj, ej])
              obtain ⟨h1, e1⟩ := List.getElem?_eq_some_iff.mp ea
              obtain ⟨h2, e2⟩ := List.getElem?_eq_some_iff.mp ej'
              have := (List.getElem_inj n.r.nd).mp (e1.trans e2.symm)
              rw [rs.len] at hj
              omega
            have ha' : a ∈ ι' := List.mem_of_getElem? ea
            have hlen : ι.length = S2.objs.length := n2.r.len
            have ro : RelO G F' ι H' a o := by
              refine RelO.lo n.pre ?_ (n.r.ob m a o ea em)
              rw [hlen]
              exact hw
            refine ⟨F', ι ++ [a], ⟨n.sub, n.keep, List.prefix_append _ _, fun x h z => ?_, n.nF, n.old, ⟨by simp [Store.new, hlen], ?_, fun b h => ?_, n.r.fz, n.r.tb, fun j b x eb ex => ?_⟩⟩, ?_⟩
            · rcases List.mem_append.mp h with h | h
              · exact absurd h z
              · have e3 : x = a := by simpa using h
                rw [e3]
                exact n.nw a ha' hnot
            · rw [List.nodup_append]
              refine ⟨rs.nd, by simp, fun b hb c hc => ?_⟩
              have e3 : c = a := by simpa using hc
              rw [e3]
              exact fun z => hnot (z ▸ hb)
            · rcases List.mem_append.mp h with h | h
              · obtain ⟨t, ht⟩ := n.pre
                exact n.r.nf b (ht ▸ List.mem_append_left _ h)
              · have e3 : b = a := by simpa using h
                rw [e3]
                exact n.r.nf a ha'
            · by_cases hj : j < ι.length
              · rw [List.getElem?_append_left hj] at eb
                have ex' : S2.objs[j]? = some x := by
                  have hj' : j < S2.objs.length := by rw [← hlen]; exact hj
                  simpa [Store.new, List.getElem?_append_left hj'] using ex
                have ex2 : S'.objs[j]? = some x := by
                  rw [eo] at ex'
                  rwa [List.getElem?_take_of_lt (by rw [← rs.len]; exact hj)] at ex'
                refine RelO.mono (fun b u e _ => e) (fun _ h => h) (List.prefix_append ι [a]) rfl (RelO.lo n.pre ?_ (n.r.ob j b x (pre_get n.pre eb) ex2))
                rw [hlen]
                exact allBelow_get S2.wf ex'
              · have hj2 : j = ι.length := by
                  have := (List.getElem?_eq_some_iff.mp eb).1
                  simp at this
                  omega
                subst hj2
                simp at eb
                subst eb
                have ex' : x = o := by
                  have : (S2.objs ++ [o])[ι.length]? = some x := ex
                  rw [hlen] at this
                  simp at this
                  exact this.symm
                subst ex'
                exact RelO.mono (fun b u e _ => e) (fun _ h => h) (List.prefix_append _ _) rfl ro
            · simp only [RelD]
              exact ⟨a, rfl, by rw [← hlen]; simp⟩
          · exact ⟨_, _, n, r⟩
        · exact ⟨_, _, n, r⟩
      · rename_i hk
        refine ⟨_, _, n2, ?_⟩
        have r' := r.mono (F' := fun a => F' a ∨ (a ∈ ι' ∧ a ∉ ι)) (fun b u e _ => e) (fun _ h => Or.inl h) (List.prefix_refl _)
        refine RelD.lo n.pre ?_ r'
        simp only [D.lo, decide_eq_true_eq]
        rw [rs.len]
        omega
    · refine ⟨_, _, n2, ?_⟩
      simp only [RelD] at r ⊢
      exact r.mono (fun b u e _ => e) fun _ h => .inl h
    · exact ⟨_, _, n, r⟩
  · exact ⟨_, _, n, r⟩

/-- an error's data; what is new in the store is thrown away -/
def pureFs : List (Str × D) → Bool
  | [] => true
  | (_, .p _) :: fs => pureFs fs
  | _ => false
def finE (k : Nat) (e : Exc) (S : Store) : Res D := if pureFs e.fs = true then (match Store.cut k S with
  | some S' => .err e S'
  | none => .err e S) else .err e S
def finR (fin : Fin) (k : Nat) : Res D → Res D
  | .ok d S => .ok (fin k d S).1 (fin k d S).2
  | .err e S => finE k e S
  | .stuck => .stuck
def env0 (N : Nat) (ds : List D) : Env := ds.map some ++ List.replicate (N - ds.length) none
def mFn (N : Nat) (fin : Fin) (body : MS) : List D → M D := fun ds S => finR fin S.objs.length ((body (env0 N ds) S).bind asRet)
theorem pureFs_rel {G : Gb} {F F' : Addr → Prop} {ι ι' : List Addr} {H : Hp} (s : ∀ a, F a → F' a) : ∀ {fs : List (Str × D)} {vs : List (Str × V)}, pureFs fs = true → RelDf G F ι H fs vs → RelDf G F' ι' H fs vs
  | [], _, _, h => h
  | (f, .p x) :: fs, _, e, h => by
    obtain ⟨v, ws, ev, a, b⟩ := h
    refine ⟨v, ws, ev, ?_, pureFs_rel s e b⟩
    simp only [RelD] at a ⊢
    exact a.mono (fun b u e _ => e) s
  | (f, .r _) :: fs, _, e, h => by simp [pureFs] at e
  | (f, .t _) :: fs, _, e, h => by simp [pureFs] at e
theorem finR_then {G : Gb} {W : Value → Option Addr → Hp → Prop} {F : Addr → Prop} {ι : List Addr} {H : Hp} {S : Store} {fin : Fin} {r : Res D} {Q : VK} (rs : R G F ι S H) (fo : FinOk fin) (h : Then G W F ι H (finR fin S.objs.length r) fun d _ F' ι' H' => ∀ v, RelD G F' ι' H' d v → Q v H') :
    Then G W F ι H r fun d _ F' ι' H' => ∀ v, RelD G F' ι' H' d v → Q v H' := by
  cases r with
  | ok d S' =>
    intro F' ι' H' n v rv
    obtain ⟨F'', ι'', n2, r2⟩ := fo rs n rv
    exact h F'' ι'' H' n2 v r2
  | err e S' =>
    intro F' ι' H' c d n x
    have h : Then G W F ι H (finE S.objs.length e S') fun d _ F' ι' H' => ∀ v, RelD G F' ι' H' d v → Q v H' := h
    unfold finE at h
    split at h
    · rename_i hp
      split at h
      · rename_i S2 e2
        obtain ⟨n2, _, _⟩ := n.cut rs e2
        refine h _ _ H' c d n2 ?_
        obtain ⟨C, m, ec, ef⟩ := x
        refine ⟨C, m, ec, ?_⟩
        revert ef hp
        generalize e.fs = fs
        cases fs with
        | nil => exact fun _ ef => ef
        | cons y ys =>
          intro hp ef
          obtain ⟨dd, fvs, ed, hd, rf⟩ := ef
          exact ⟨dd, fvs, ed, hd, pureFs_rel (fun _ h => .inl h) hp rf⟩
      · exact h F' ι' H' c d n x
    · exact h F' ι' H' c d n x
  | stuck => exact h
theorem relE_none {G : Gb} {F : Addr → Prop} {ι : List Addr} {H : Hp} : ∀ n : Nat, RelE G F ι H (List.replicate n none) (List.replicate n none)
  | 0 => rfl
  | n + 1 => ⟨none, _, rfl, relE_none n⟩
theorem relE_start {G : Gb} {F : Addr → Prop} {ι : List Addr} {H : Hp} (m : Nat) : ∀ {ds : List D} {vs : List V}, RelDs G F ι H ds vs → RelE G F ι H (ds.map some ++ List.replicate m none) (vs.map some ++ List.replicate m none)
  | [], _, h => by
    rw [relDs_nil] at h
    subst h
    exact relE_none m
  | d :: ds, _, h => by
    simp only [RelDs] at h
    obtain ⟨v, ws, rfl, a, b⟩ := h
    exact ⟨v, _, rfl, a, relE_start m b⟩
abbrev WfE (E : XK) : WX := fun c d _ H => E c d H
/-- a def's promise by its body's run -/
theorem fn_body {P : Program} {w : World} {K : PySem.W.Frag} {mg : Str → Option Value} {base : Heap} {x qual : Str} {params : Arguments} {body : List Stmt} {scope : Scope} {f : Addr} {fd : FuncData} {N ps : List Str} {dvs : List V} {kws : List (Str × V)} {k n m : Nat} {fin : Fin} {ms : MS}
    (Fd : FunD K x qual params body scope dvs kws f fd) (S : FnScope N ps scope) (hn : ps.length = n) (hm : N.length = m) (fo : FinOk fin)
    (hb : ∀ (cdv : Value) (A : Around) (outer : List PySem.Env) (s : Shared) (H : Hp) (E : XK), Room k (A.deeper (envOfC qual scope s.heap.objs.size f cdv)) → (A.deeper (envOfC qual scope s.heap.objs.size f cdv)).guards = some [] → DSs (cxOf (L2.CX P w) P w K mg base N qual scope f cdv A outer s H E) (WfE E) body ms) :
    FnOkG P w K mg base (k + 1) f fd ps (spD ⟨K, mg⟩ n (mFn m fin ms)) := by
  obtain ⟨oc, od, dV, kV, doc, pm, an, cdv, ct, osl, rfl, lk, hcd, _, _⟩ := Fd.ex
  refine fnG_of lk hcd S (fun vs H Q E h => by rw [hn]; exact h.1) fun A outer s H vs Q E hr hgd h => ⟨_, hb cdv A outer s H E hr hgd, ?_⟩
  obtain ⟨hl, ds, St, ι, F, rs, rd, t⟩ := h
  have t1 := finR_then rs fo t
  refine ⟨env0 m ds, St, ι, F, ⟨?_, rs⟩, ?_⟩
  · unfold env0 L2.start
    rw [hm, relDs_len rd]
    exact relE_start _ rd
  · refine Then.wimp (W := E) ?_ fun c d H z _ => z
    refine (Then.bind' t1).mono fun o S1 F1 ι1 H1 n1 t2 => ?_
    cases o with
    | nx ρ => exact fun σ _ _ => (Then.later t2 n1).now n1.r .non (by simp only [RelD, RelP])
    | rt d => exact fun v rv => (Then.later t2 n1).now n1.r v rv
    | bk ρ => exact t2.elim
    | ct ρ => exact t2.elim
/-- .. as a def of the module -/
theorem fn_mkD {P : Program} {w : World} {K : PySem.W.Frag} {mg : Str → Option Value} {base : Heap} {x qual : Str} {params : Arguments} {body : List Stmt} {scope : Scope} {f : Addr} {fd : FuncData} {N ps : List Str} {k n m : Nat} {fin : Fin} {ms : MS}
    (hg : mg x = some (.ref f)) (Fd : FunD K x qual params body scope [] [] f fd) (S : FnScope N ps scope) (hn : ps.length = n) (hm : N.length = m) (fo : FinOk fin)
    (hbind : ∀ (kV doc pm : Value) (an : Option Addr) (cdv ct : Value) (us : List Value), us.length = ps.length → bindArgs (PySem.W.fnOf x qual params body scope .none kV doc pm an cdv ct) ⟨us, []⟩ = pure (ps.zip us))
    (hb : ∀ (cdv : Value) (A : Around) (outer : List PySem.Env) (s : Shared) (H : Hp) (E : XK), Room k (A.deeper (envOfC qual scope s.heap.objs.size f cdv)) → (A.deeper (envOfC qual scope s.heap.objs.size f cdv)).guards = some [] → DSs (cxOf (L2.CX P w) P w K mg base N qual scope f cdv A outer s H E) (WfE E) body ms) :
    FnD P w K mg base x (k + 1) n (mFn m fin ms) := ⟨f, fd, ps, hg, Fd.kp, Fd.bindsN hbind, hn, fn_body Fd S hn hm fo hb⟩

/-- the length of an argument list -/
class Args (m : ME (List D)) (n : outParam Nat) : Prop where
  len : ∀ ρ S ds S', m ρ S = .ok ds S' → ds.length = n
instance : Args mNil 0 := ⟨fun ρ S ds S' h => by cases h; rfl⟩
instance {ma : ME D} {mr : ME (List D)} {n : Nat} [i : Args mr n] : Args (mCons ma mr) (n + 1) := ⟨fun ρ S ds S' h => by
  unfold mCons at h
  cases e1 : ma ρ S with
  | ok d S1 =>
    rw [e1] at h
    simp only [Res.bind] at h
    cases e2 : mr ρ S1 with
    | ok ds2 S3 =>
      rw [e2] at h
      cases h
      rw [List.length_cons, i.len ρ S1 ds2 _ e2]
    | err x S2 => rw [e2] at h; cases h
    | stuck => rw [e2] at h; cases h
  | err x S1 => rw [e1] at h; cases h
  | stuck => rw [e1] at h; cases h⟩
/-! ### calls -/
def mCall (mf : List D → M D) (m : ME (List D)) : ME D := fun ρ S => (m ρ S).bind mf
section
variable {X : Cx} {W : WX} {e : Expr} {es : List Expr} {pos p : Pos} {mr : ME (List D)}
theorem de_call {x : Str} {k n : Nat} {mf : List D → M D} (F : FnD X.prog X.w X.K X.mg X.base x k n mf) (hr : Room k X.A) (hgd : X.A.guards = some []) (tk : Takes X W) (ha : DA X W (e :: es) mr) [ar : Args mr n] (hg : Gl X x := by rfl)
    (hdb : (x == ("__debug__" : Str)) = false := by decide) (he : starEach (e :: es) X.env = (false, eval e X.env) :: starEach es X.env := by rfl) (hpl : (backTo pos (starEach es X.env)).any (·.1) = false := by rfl) :
    DE X W (.Call (.Name x p) (e :: es) [] pos) (mCall mf mr) := by
  obtain ⟨f, fd, ps, hm, hk, hb, hn, Fo⟩ := F
  refine PE.imp (pe_callG Fo hr hgd hg hm hk hb (fun σ => passAt tk σ) ha hdb he hpl) fun σ H Q q => ?_
  obtain ⟨ρ, S, ι, F, a, t⟩ := q
  refine ⟨ρ, S, ι, F, a, ?_⟩
  have t1 := Then.bind t
  revert t1
  generalize em : mr ρ S = r
  intro t1
  cases r with
  | ok ds S' =>
    intro F' ι' H' nx vs rv
    exact ⟨by rw [← relDs_len rv]; exact ar.len ρ S ds S' em, ds, S', ι', F', nx.r, rv, t1 F' ι' H' nx⟩
  | err x S' => exact t1
  | stuck => exact t1.elim
end
end DL
set_option maxHeartbeats 2000000
/-! DLLib: operators and built-in functions over the data layer. -/
namespace DL
open PySem PySem.Spec PyProof.Rows L2
variable [HasT]
section
variable {X : Cx}

/-! ### relation by cases -/
theorem relBl {G : Gb} {F : Addr → Prop} {ι : List Addr} {H : Hp} {b : Bool} {v : V} (h : RelD G F ι H (.p (.bl b)) v) : v = .bl b := by simpa only [RelD, RelP] using h
theorem relStr {G : Gb} {F : Addr → Prop} {ι : List Addr} {H : Hp} {b : Str} {v : V} (h : RelD G F ι H (.p (.str b)) v) : v = .str b := by simpa only [RelD, RelP] using h
theorem relTy {G : Gb} {F : Addr → Prop} {ι : List Addr} {H : Hp} {n : String} {v : V} (h : RelD G F ι H (.p (.ty n)) v) : v = .ty n := by simpa only [RelD, RelP] using h
theorem mkInt {G : Gb} {F : Addr → Prop} {ι : List Addr} {H : Hp} {i : Int} : RelD G F ι H (.p (.int i)) (.int i) := by simp only [RelD, RelP]
theorem mkBl {G : Gb} {F : Addr → Prop} {ι : List Addr} {H : Hp} {i : Bool} : RelD G F ι H (.p (.bl i)) (.bl i) := by simp only [RelD, RelP]
theorem mkStr {G : Gb} {F : Addr → Prop} {ι : List Addr} {H : Hp} {i : Str} : RelD G F ι H (.p (.str i)) (.str i) := by simp only [RelD, RelP]
theorem mkNon {G : Gb} {F : Addr → Prop} {ι : List Addr} {H : Hp} : RelD G F ι H (.p .non) .non := by simp only [RelD, RelP]

/-! ### ints -/
/-- an operator on two ints, where C holds -/
def fII (C : Int → Int → Bool) (g : Int → Int → P) : F2 := fun x y S => match x, y with
  | .p (.int i), .p (.int j) => if C i j = true then some (.p (g i j), S) else none
  | _, _ => none
theorem opd_II {g : Value → Value → Sem Value} {C : Int → Int → Bool} {C' : Int → Int → Prop} {f : Int → Int → P} {v : Int → Int → V} (o : OpR X g (rI C' v)) (hc : ∀ i j, C i j = true → C' i j) (hv : ∀ i j F H, RelP (gb X) F H (f i j) (v i j)) : OpD X g (fII C f) :=
  ⟨_, o, fun {F ι S S' H d1 d2 d' v1 v2 Q} rs r1 r2 e q => by
    unfold fII at e
    split at e
    · rename_i i j
      split at e
      · rename_i h
        cases e
        cases relInt r1
        cases relInt r2
        exact ⟨i, j, rfl, rfl, hc i j h, q F ι H _ (Nxt.refl rs) (by simp only [RelD]; exact hv i j F H)⟩
      · cases e
    · cases e⟩
theorem opd_II0 {g : Value → Value → Sem Value} {f : Int → Int → P} {v : Int → Int → V} (o : OpR X g (rI0 v)) (hv : ∀ i j F H, RelP (gb X) F H (f i j) (v i j)) : OpD X g (fII (fun _ _ => true) f) :=
  ⟨_, o, fun {F ι S S' H d1 d2 d' v1 v2 Q} rs r1 r2 e q => by
    unfold fII at e
    split at e
    · rename_i i j
      rw [if_pos rfl] at e
      cases e
      cases relInt r1
      cases relInt r2
      exact ⟨i, j, rfl, rfl, q F ι H _ (Nxt.refl rs) (by simp only [RelD]; exact hv i j F H)⟩
    · cases e⟩
def fAddI : F2 := fII (fun _ _ => true) fun i j => .int (i + j)
def fSub : F2 := fII (fun _ _ => true) fun i j => .int (i - j)
/-- bits of an int, a bound -/
def bitsB (n : Nat) (i : Int) : Bool := decide (i.natAbs.log2 < n)
def fMulI : F2 := fII (fun i j => bitsB 400000 i && bitsB 400000 j) fun i j => .int (i * j)
def fDiv : F2 := fII (fun _ j => decide (0 < j) && bitsB 9000 j) fun i j => .int (i / j)
def fMod : F2 := fII (fun _ j => decide (0 < j)) fun i j => .int (i % j)
def fPow : F2 := fII (fun i j => decide (0 ≤ j) && decide ((i.natAbs.log2 + 1 : Int) * j ≤ 1000000)) fun i j => .int (i ^ j.toNat)
def fLt : F2 := fII (fun _ _ => true) fun i j => .bl (decide (i < j))
def fLe : F2 := fII (fun _ _ => true) fun i j => .bl (decide (i ≤ j))
def fGt : F2 := fII (fun _ _ => true) fun i j => .bl (decide (j < i))
def fGe : F2 := fII (fun _ _ => true) fun i j => .bl (decide (j ≤ i))
theorem od_addI : OpD X (binaryOp .Add) fAddI := opd_II0 op_add fun _ _ _ _ => by simp only [RelP]
theorem od_sub : OpD X (binaryOp .Sub) fSub := opd_II0 op_sub fun _ _ _ _ => by simp only [RelP]
theorem od_mulI : OpD X (binaryOp .Mult) fMulI := opd_II op_mulW (fun i j h => by
  simp only [Bool.and_eq_true, bitsB, decide_eq_true_eq] at h
  unfold CMulW
  omega) fun _ _ _ _ => by simp only [RelP]
theorem od_div : OpD X (binaryOp .FloorDiv) fDiv := opd_II op_fdivW (fun i j h => by
  simp only [Bool.and_eq_true, bitsB, decide_eq_true_eq] at h
  exact h) fun _ _ _ _ => by simp only [RelP]
theorem od_mod : OpD X (binaryOp .Mod) fMod := opd_II op_mod (fun i j h => by simpa using h) fun _ _ _ _ => by simp only [RelP]
def CPowG (i j : Int) : Prop := 0 ≤ j ∧ (Builtin.Int.intBits i : Int) * j ≤ 2 ^ 27
theorem op_powG : OpR X (binaryOp .Pow) (rI CPowG fun i j => .int (i ^ j.toNat)) := opI fun _ _ _ _ _ _ _ hc q => pow_int hc.1 hc.2 q
theorem bits_le (x : Int) : Builtin.Int.intBits x ≤ x.natAbs.log2 + 1 := by
  unfold Builtin.Int.intBits
  split <;> omega
theorem od_pow : OpD X (binaryOp .Pow) fPow := opd_II op_powG (fun i j h => by
  simp only [Bool.and_eq_true, decide_eq_true_eq] at h
  refine ⟨h.1, Int.le_trans (Int.le_trans (Int.mul_le_mul_of_nonneg_right ?_ h.1) h.2) (by decide)⟩
  have := bits_le i
  omega) fun _ _ _ _ => by simp only [RelP]
theorem od_lt : OpD X (compareOp .Lt) fLt := opd_II0 op_lt fun _ _ _ _ => by simp only [RelP]
theorem od_le : OpD X (compareOp .LtE) fLe := opd_II0 op_le fun _ _ _ _ => by simp only [RelP]
theorem od_gt : OpD X (compareOp .Gt) fGt := opd_II0 op_gt fun _ _ _ _ => by simp only [RelP]
def fNeg : F1 := fun x S => match x with
  | .p (.int i) => some (.p (.int (-i)), S)
  | _ => none
/-! a op= b of ints -/
/-! ### lists and tuples joined, repeated -/
def fAddS : F2 := fun x y S => match x, y with
  | .p (.str a), .p (.str b) => if a.length + b.length ≤ 100000 then some (.p (.str (a ++ b)), S) else none
  | _, _ => none
theorem od_addS : OpD X (binaryOp .Add) fAddS := ⟨_, op_add_str, fun {F ι S S' H d1 d2 d' v1 v2 Q} rs r1 r2 e q => by
  unfold fAddS at e
  split at e
  · split at e
    · rename_i h
      cases e
      cases relStr r1
      cases relStr r2
      exact ⟨_, _, rfl, rfl, szOk h, q F ι H _ (Nxt.refl rs) mkStr⟩
    · cases e
  · cases e⟩
def fAddT : F2 := fun x y S => match x.tup?, y.tup? with
  | some a, some b => if a.length + b.length ≤ 100000 then some (mkTup (a ++ b), S) else none
  | _, _ => none
theorem od_addT : OpD X (binaryOp .Add) fAddT := ⟨_, op_catA, fun {F ι S S' H d1 d2 d' v1 v2 Q} rs r1 r2 e q => by
  unfold fAddT at e
  split at e
  · rename_i a b ea eb
    split at e
    · rename_i h
      cases e
      obtain ⟨p1, vs, rfl, q1, rd1⟩ := tup?_relH ea r1
      obtain ⟨p2, ws, rfl, q2, rd2⟩ := tup?_relH eb r2
      refine ⟨p1, p2, vs, ws, rfl, rfl, SqT.of q1, SqT.of q2, by rw [← relDs_len rd1, ← relDs_len rd2]; exact szOk h, fun z => ?_, fun z z2 => ?_, fun z z2 p hp => ?_⟩
      · subst z
        have : a = [] := by
          have := relDs_len rd1
          simpa using this
        subst this
        exact q F ι H _ (Nxt.refl rs) (mkTup_rel q2 rd2)
      · subst z2
        have : b = [] := by
          have := relDs_len rd2
          simpa using this
        subst this
        rw [List.append_nil] at q
        exact q F ι H _ (Nxt.refl rs) (mkTup_rel q1 rd1)
      · exact q F ι _ _ (Nxt.fresh rs hp) (rel_newT hp (relDs_append rd1 rd2))
    · cases e
  · cases e⟩
/-- two lists joined, the answer frozen | of the store -/
def fAddL (fin : FL) : F2 := fun x y S => match x.own? S, y.own? S with
  | some a, some b => if a.length + b.length ≤ 100000 then fin (a ++ b) S else none
  | _, _ => none
def NewL (X : Cx) (fin : FL) : Prop := ∀ {F : Addr → Prop} {ι : List Addr} {S S' : Store} {H : Hp} {ds : List D} {d' : D} {vs : List V} {Q : VK}, R (gb X) F ι S H → RelDs (gb X) F ι H ds vs → fin ds S = some (d', S') →
    (∀ F' ι' H' v, Nxt (gb X) F ι H F' ι' S' H' → RelD (gb X) F' ι' H' d' v → Q v H') → vs.length ≤ sizeLine ∧ ∀ p, H p = none → Q (.ref p) (upd H p (.lst vs))
theorem newL_F : NewL X fLstF := fun rs r e q => fLstF_new rs r e q
theorem newL_N : NewL X fLst := fun rs r e q => fLst_new rs r e q
theorem od_addL {fin : FL} (n : NewL X fin) : OpD X (binaryOp .Add) (fAddL fin) := ⟨_, op_cat, fun {F ι S S' H d1 d2 d' v1 v2 Q} rs r1 r2 e q => by
  unfold fAddL at e
  split at e
  · rename_i a b ea eb
    split at e
    · rename_i h
      obtain ⟨p1, vs, rfl, q1, rd1⟩ := own?_rel rs ea r1
      obtain ⟨p2, ws, rfl, q2, rd2⟩ := own?_rel rs eb r2
      exact ⟨p1, p2, vs, ws, rfl, rfl, q1, q2, by rw [← relDs_len rd1, ← relDs_len rd2]; exact szOk h, (n rs (relDs_append rd1 rd2) e q).2⟩
    · cases e
  · cases e⟩
/-- a + b: ints, texts, tuples, lists -/
def fAddG (fin : FL) : F2 := fun x y S => match fAddI x y S with
  | some z => some z
  | none => match fAddS x y S with
    | some z => some z
    | none => match fAddT x y S with
      | some z => some z
      | none => fAddL fin x y S
theorem od_addG {fin : FL} (n : NewL X fin) : OpD X (binaryOp .Add) (fAddG fin) := od_addI.or (od_addS.or (od_addT.or (od_addL n)))
def fRepT : F2 := fun x y S => match x.tup?, y with
  | some a, .p (.int k) => if (decide (a ≠ []) && decide (2 ≤ k) && decide (k ≤ 1000) && decide (a.length ≤ 1000)) = true then some (mkTup (List.replicate k.toNat a).flatten, S) else none
  | _, _ => none
theorem od_repT : OpD X (binaryOp .Mult) fRepT := ⟨_, op_repT, fun {F ι S S' H d1 d2 d' v1 v2 Q} rs r1 r2 e q => by
  unfold fRepT at e
  split at e
  · rename_i a k ea
    split at e
    · rename_i h
      cases e
      simp only [Bool.and_eq_true, decide_eq_true_eq] at h
      obtain ⟨p1, vs, rfl, q1, rd1⟩ := tup?_rel ea r1
      cases relInt r2
      have hl := relDs_len rd1
      refine ⟨p1, k, vs, rfl, rfl, q1, fun z => h.1.1.1 ?_, h.1.1.2, h.1.2, by omega, fun p hp => q F ι _ _ (Nxt.fresh rs hp) (rel_newT hp (relDs_flat rd1 _))⟩
      subst z
      simpa using hl
    · cases e
  · cases e⟩
def fRepL (fin : FL) : F2 := fun x y S => match x.own? S, y with
  | some a, .p (.int k) => if (decide (-1000 ≤ k) && decide (k ≤ 100000) && decide (a.length * k.toNat ≤ 100000)) = true then fin (List.replicate k.toNat a).flatten S else none
  | _, _ => none
theorem od_repL {fin : FL} (n : NewL X fin) : OpD X (binaryOp .Mult) (fRepL fin) := ⟨_, op_rep, fun {F ι S S' H d1 d2 d' v1 v2 Q} rs r1 r2 e q => by
  unfold fRepL at e
  split at e
  · rename_i a k ea
    split at e
    · rename_i h
      simp only [Bool.and_eq_true, decide_eq_true_eq] at h
      obtain ⟨p1, vs, rfl, q1, rd1⟩ := own?_rel rs ea r1
      cases relInt r2
      exact ⟨p1, k, vs, rfl, rfl, q1, by omega, by omega, by rw [← relDs_len rd1]; exact szOk h.2, (n rs (relDs_flat rd1 _) e q).2⟩
    · cases e
  · cases e⟩
def fMulG (fin : FL) : F2 := fun x y S => match fMulI x y S with
  | some z => some z
  | none => match fRepT x y S with
    | some z => some z
    | none => fRepL fin x y S
/-! ### equality of data -/
mutual
def P.py : P → Option PyData
  | .non => some .none
  | .bl b => some (.bool b)
  | .int i => some (.int i)
  | .str s => some (.str s)
  | .tup xs => match P.pys xs with
    | some ds => some (.tuple ds)
    | none => none
  | .lst xs => match P.pys xs with
    | some ds => some (.list ds)
    | none => none
  | .scr xs => match P.pys xs with
    | some ds => some (.list ds)
    | none => none
  | _ => none
def P.pys : List P → Option (List PyData)
  | [] => some []
  | x :: xs => match P.py x, P.pys xs with
    | some d, some ds => some (d :: ds)
    | _, _ => none
end
mutual
theorem P.py_dp {G : Gb} {F : Addr → Prop} {H : Hp} : ∀ {x : P} {d : PyData} {v : V}, x.py = some d → RelP G F H x v → Dp G.K H v d
  | .non, d, v, e, r => by
    simp only [P.py, Option.some.injEq, RelP] at e r
    subst e
    subst r
    exact .non
  | .bl b, d, v, e, r => by
    simp only [P.py, Option.some.injEq, RelP] at e r
    subst e
    subst r
    exact .bl b
  | .int i, d, v, e, r => by
    simp only [P.py, Option.some.injEq, RelP] at e r
    subst e
    subst r
    exact .int i
  | .str s, d, v, e, r => by
    simp only [P.py, Option.some.injEq, RelP] at e r
    subst e
    subst r
    exact .str s
  | .tup xs, d, v, e, r => by
    simp only [P.py, RelP] at e r
    split at e
    · rename_i ds eds
      cases e
      obtain ⟨a, vs, rfl, q, rv⟩ := r
      exact .tup (SqT.of q) (P.pys_dp eds rv)
    · cases e
  | .lst xs, d, v, e, r => by
    simp only [P.py, RelP] at e r
    split at e
    · rename_i ds eds
      cases e
      obtain ⟨a, vs, rfl, _, q, rv⟩ := r
      exact .lst (SqL.of q) (P.pys_dp eds rv)
    · cases e
  | .scr xs, d, v, e, r => by
    simp only [P.py, RelP] at e r
    split at e
    · rename_i ds eds
      cases e
      obtain ⟨a, vs, rfl, q, rv⟩ := r
      exact .lst q.sq (P.pys_dp eds rv)
    · cases e
  | .ins c fs, d, v, e, r => by simp [P.py] at e
  | .dic fs, d, v, e, r => by simp [P.py] at e
  | .dit fs, d, v, e, r => by simp [P.py] at e
  | .glo x, d, v, e, r => by simp [P.py] at e
  | .ty n, d, v, e, r => by simp [P.py] at e
theorem P.pys_dp {G : Gb} {F : Addr → Prop} {H : Hp} : ∀ {xs : List P} {ds : List PyData} {vs : List V}, P.pys xs = some ds → RelPs G F H xs vs → DpAll G.K H vs ds
  | [], ds, vs, e, r => by
    simp only [P.pys, Option.some.injEq, RelPs] at e r
    subst e
    subst r
    exact .nil
  | x :: xs, ds, vs, e, r => by
    simp only [P.pys, RelPs] at e r
    split at e
    · rename_i d es e1 e2
      cases e
      obtain ⟨v, ws, rfl, a, b⟩ := r
      exact .cons (P.py_dp e1 a) (P.pys_dp e2 b)
    · cases e
end
/-- data of a value as the layer's equality wants it -/
def D.py? (d : D) (S : Store) : Option PyData := match d with
  | .p x => x.py
  | .r n => match S.objs[n]? with
    | some (.lst ds) => (match pures ds with
      | some ps => (match P.pys ps with
        | some es => some (.list es)
        | none => none)
      | none => none)
    | _ => none
  | .t _ => none
theorem D.py?_dp {G : Gb} {F : Addr → Prop} {ι : List Addr} {S : Store} {H : Hp} {d : D} {z : PyData} {v : V} (rs : R G F ι S H) (e : d.py? S = some z) (r : RelD G F ι H d v) : Dp G.K H v z := by
  cases d with
  | p x =>
    simp only [RelD] at r
    exact P.py_dp e r
  | r n =>
    simp only [D.py?] at e
    split at e
    · rename_i ds eo
      split at e
      · rename_i ps ep
        split at e
        · rename_i es ee
          cases e
          simp only [RelD] at r
          obtain ⟨a, rfl, ea⟩ := r
          obtain ⟨vs, hv, rv⟩ := rs.ob n a _ ea eo
          exact .lst (SqL.of hv) (P.pys_dp ee (pures_rel ep rv))
        · cases e
      · cases e
    · cases e
  | t xs => cases e
def fEq : F2 := fun x y S => match x.py? S, y.py? S with
  | some a, some b => if (SeqAt.shaped a && SeqAt.shaped b) = true then some (.p (.bl (PyData.eqv a b)), S) else none
  | _, _ => none
def fNe : F2 := fun x y S => match x.py? S, y.py? S with
  | some a, some b => if (SeqAt.shaped a && SeqAt.shaped b) = true then some (.p (.bl (!PyData.eqv a b)), S) else none
  | _, _ => none
theorem od_eq (hu : X.A.units + 65 < cLine) : OpD X (compareOp .Eq) fEq := ⟨_, op_eqD (by omega), fun {F ι S S' H d1 d2 d' v1 v2 Q} rs r1 r2 e q => by
  unfold fEq at e
  split at e
  · rename_i a b ea eb
    split at e
    · rename_i h
      cases e
      simp only [Bool.and_eq_true] at h
      exact ⟨a, b, D.py?_dp rs ea r1, D.py?_dp rs eb r2, h.1, h.2, q F ι H _ (Nxt.refl rs) mkBl⟩
    · cases e
  · cases e⟩
theorem od_ne (hu : X.A.units + 65 < cLine) : OpD X (compareOp .NotEq) fNe := ⟨_, op_neD (by omega), fun {F ι S S' H d1 d2 d' v1 v2 Q} rs r1 r2 e q => by
  unfold fNe at e
  split at e
  · rename_i a b ea eb
    split at e
    · rename_i h
      cases e
      simp only [Bool.and_eq_true] at h
      exact ⟨a, b, D.py?_dp rs ea r1, D.py?_dp rs eb r2, h.1, h.2, q F ι H _ (Nxt.refl rs) mkBl⟩
    · cases e
  · cases e⟩
/-! is None, is True -/
end
end DL
set_option maxHeartbeats 2000000
/-! DLSort: rules over the layer for tuples: sorted, sum, all, any; what sorted ints are. -/
namespace DL
open PySem PySem.Spec PyProof.Rows L2

/-! ### a tuple's items, collected -/
section
variable {prog : Program} {w : World} {A : Around} {E : Value → Shared → Prop} {s : Shared}
def colHeap (h : Heap) (vs : List Value) : Heap := (h.push (seqObj "list" #[] 0)).update h.objs.size (Obj.mapSeq (· ++ vs.toArray))
/-- l is collected as vs, without a walk -/
def Coll (s : Shared) (l : Addr) (vs : List Value) : Prop := s.heap.IsList l vs.toArray ∨ s.heap.IsTuple l vs.toArray
theorem coll_run {l : Addr} {vs : List Value} {Q : List Value → Shared → Prop} (hl : Coll s l vs) (hsz : vs.length ≤ sizeLine) (h : Q vs { s with heap := colHeap s.heap vs }) : wpAny (model prog w) A (collect (.ref l)) Q E s := by
  rcases hl with hl | hl
  · exact collect_list hl h hsz
  · obtain ⟨o, ho, hc, n, hd⟩ := id hl
    unfold collect
    refine wpAny_bind (wpAny_runValue (codeAny_builtin entry_proto_collect' ?_))
    show wpAny _ _ (do again (.builtin "list.__iadd__" ⟨[← newList [], .ref l], []⟩)) _ _ s
    refine wpAny_bind (wpAny_newList (wpAny_pure ⟨Code.quiet_builtin _ (by decide +kernel), codeAny_builtin entry_list_iadd' ?_⟩))
    show wpAny _ _ (Builtin.List.listExtendWith (.ref s.heap.objs.size) (.ref l) (.ref s.heap.objs.size)) _ _ { s with heap := s.heap.push (seqObj "list" #[] 0) }
    unfold Builtin.List.listExtendWith
    have ho' : (s.heap.push (seqObj "list" #[] 0)).get? l = some o := Heap.get?_push_of_some _ ho
    refine wpAny_bind (wpAny_typeOf (T := "tuple") ⟨o, ho', hc⟩ ?_)
    have ht : (Value.type "tuple" == Value.type "tuple") = true := by rfl
    rw [if_pos (by rw [ht]; simp)]
    refine wpAny_bind (listItems_at ho' hd ?_)
    refine wpAny_bind (listItems_at (xs := #[]) (n := 0) (Heap.get?_push_size _ rfl) rfl ?_)
    rw [if_neg (by simp)]
    refine wpAny_bind (listUpdate_at (xs := #[]) (n := 0) (Heap.get?_push_size _ rfl) rfl ?_ (Nat.zero_le _) (by show (#[] ++ vs.toArray).size ≤ sizeLine + 1; simp only [Array.size_append, List.size_toArray, List.length_nil]; omega))
    refine wpAny_pure ?_
    show wpAny (model prog w) A (do
        let o ← load s.heap.objs.size
        match o.data with
        | .seq xs _ => pure xs.toList
        | _ => unsupported "internal:collect") Q E { s with heap := (s.heap.push (seqObj "list" #[] 0)).update s.heap.objs.size (Obj.mapSeq (· ++ vs.toArray)) }
    refine wpAny_bind (wpAny_load (get?_update_seq (Heap.get?_push_size _ rfl) _) ?_)
    show wpAny _ _ (pure ((#[] : Array Value) ++ vs.toArray).toList) Q E _
    rw [show ((#[] : Array Value) ++ vs.toArray).toList = vs by simp]
    exact wpAny_pure h
theorem col_size (h : Heap) (vs : List Value) : (colHeap h vs).objs.size = h.objs.size + 1 := by
  unfold colHeap
  rw [Heap.size_update, size_push']
theorem col_new (h : Heap) (vs : List Value) : ((colHeap h vs).push (seqObj "list" vs.toArray 0)).get? (h.objs.size + 1) = some (seqObj "list" vs.toArray 0) := by
  rw [← col_size h vs]
  exact Heap.get?_push_size _ rfl
/-- sorted of ints, a list or a tuple, up or down -/
theorem sorted_coll {l : Addr} {vs : List Value} {ns : List Int} {b : Bool} {kw : List (Str × Value)} {Q : Value → Shared → Prop} (hk : (kw = [] ∧ b = false) ∨ kw = [(Str.ofString "reverse", .bool b)])
    (hl : Coll s l vs) (hi : IntsAre vs ns) (hz : vs.length ≤ sizeLine)
    (h : ∀ (out : Array Value) (ns' : List Int), IntsAre out.toList ns' → ns'.Perm ns → Ordered b ns' → Q (.ref (s.heap.objs.size + 1)) { s with heap := sortedAll s.heap vs out }) :
    wpAny (model prog w) A (call (.builtin "sorted") [.ref l] kw) Q E s := by
  have go : ∀ {out : List Value}, SrtO.Srtd SrtO.ltIv out → SrtO.Stb SrtO.ltIv out (if b = true then vs.reverse else vs) → Q (.ref (s.heap.objs.size + 1)) { s with heap := sortedAll s.heap vs (if b = true then out.toArray.reverse else out.toArray) } := fun h1 h2 => by
    obtain ⟨ns', k1, k2, k3⟩ := SrtR.ints_outR hi h1 h2
    exact h _ ns' k1 k2 k3
  have hS : ∀ (h₁ : Heap) (a : Addr), 2 ≤ vs.length → SrtO.SortableO prog w A.in1.in1 { s with heap := h₁ } a vs SrtO.ltIv := fun h₁ a h2 => SrtO.ints_sortable hi h2
  rcases hk with ⟨rfl, rfl⟩ | rfl
  · refine Calls.call_function_entry kind_sorted plain_sorted entry_sorted (args_sorted1 _) ?_
    unfold Builtin.«sorted»
    refine wpAny_bind (m := checkCount "sorted" 1 1 _) (wpAny_pure ?_)
    refine wpAny_bind (coll_run hl hz ?_)
    refine wpAny_bind (wpAny_newList ?_ hz)
    show wpAny _ _ _ _ _ { s with heap := (colHeap s.heap vs).push (seqObj "list" vs.toArray 0) }
    simp only [col_size]
    refine wpAny_bind (wpAny_holding (wpAny_call_entry slot_list_sort ⟨_, col_new s.heap vs, rfl⟩ entry_list_sort (SrtO.list_sort_ord SrtO.swo_int (col_new s.heap vs) hz (fun h2 => hS _ _ h2) fun out hs hb => ⟨_, rfl, ?_⟩) (args_list_sort _)))
    exact wpAny_pure ⟨_, rfl, go hs (by simpa using hb)⟩
  · refine call_function_entry_kw kind_sorted plain_sorted entry_sorted (PyProof.Rows.args_sorted_rev _ _) ?_
    unfold Builtin.«sorted»
    refine wpAny_bind (m := checkCount "sorted" 1 1 _) (wpAny_pure ?_)
    refine wpAny_bind (coll_run hl hz ?_)
    refine wpAny_bind (wpAny_newList ?_ hz)
    show wpAny _ _ _ _ _ { s with heap := (colHeap s.heap vs).push (seqObj "list" vs.toArray 0) }
    simp only [col_size]
    refine wpAny_bind (wpAny_holding (wpAny_call_entry_kw slot_list_sort ⟨_, col_new s.heap vs, rfl⟩ entry_list_sort ?_ (PyProof.Rows.args_list_sort_rev _ _)))
    refine SrtR.list_sort_ordR SrtO.swo_int (col_new s.heap vs) hz (fun h2 => hS _ _ h2) fun out hs hb => ⟨_, rfl, ?_⟩
    exact wpAny_pure ⟨_, rfl, go hs hb⟩
end

/-! ### the rules -/
/-- x among ascending ones (structural: the kernel can run it) -/
def insUp (x : Int) : List Int → List Int
  | [] => [x]
  | y :: r => if x ≤ y then x :: y :: r else y :: insUp x r
def sortUp : List Int → List Int
  | [] => []
  | x :: r => insUp x (sortUp r)
theorem insUp_perm (x : Int) : ∀ r : List Int, (insUp x r).Perm (x :: r)
  | [] => List.Perm.refl _
  | y :: r => by
    unfold insUp
    by_cases h : x ≤ y
    · rw [if_pos h]
    · rw [if_neg h]
      exact ((insUp_perm x r).cons y).trans (List.Perm.swap x y r)
theorem insUp_up (x : Int) : ∀ {r : List Int}, r.Pairwise (· ≤ ·) → (insUp x r).Pairwise (· ≤ ·)
  | [], _ => List.pairwise_singleton _ _
  | y :: r, h => by
    obtain ⟨h1, h2⟩ := List.pairwise_cons.mp h
    unfold insUp
    by_cases c : x ≤ y
    · rw [if_pos c]
      refine List.pairwise_cons.mpr ⟨fun z hz => ?_, h⟩
      rcases List.mem_cons.mp hz with e | e
      · rw [e]; exact c
      · have := h1 z e
        omega
    · rw [if_neg c]
      refine List.pairwise_cons.mpr ⟨fun z hz => ?_, insUp_up x h2⟩
      rcases List.mem_cons.mp ((insUp_perm x r).mem_iff.mp hz) with e | e
      · rw [e]; omega
      · exact h1 z e
theorem srtUp_perm : ∀ ns : List Int, (sortUp ns).Perm ns
  | [] => List.Perm.refl _
  | x :: r => (insUp_perm x (sortUp r)).trans ((srtUp_perm r).cons x)
theorem srtUp_up : ∀ ns : List Int, (sortUp ns).Pairwise (· ≤ ·)
  | [] => List.Pairwise.nil
  | x :: r => insUp_up x (srtUp_up r)
theorem srtUp_eq {a ns : List Int} (h : a.Perm ns) (o : a.Pairwise (· ≤ ·)) : a = sortUp ns :=
  (PySem.W.os_sorted_mergeSort h o).trans (PySem.W.os_sorted_mergeSort (srtUp_perm ns) (srtUp_up ns)).symm
def sortDn (ns : List Int) : List Int := (sortUp ns).reverse
def sortBy (b : Bool) (ns : List Int) : List Int := if b = true then sortDn ns else sortUp ns
theorem sortBy_eq {b : Bool} {a ns : List Int} (h : a.Perm ns) (o : Ordered b a) : a = sortBy b ns := by
  cases b with
  | false => exact srtUp_eq h o
  | true =>
    have h1 : a.reverse = sortUp ns := srtUp_eq ((List.reverse_perm a).trans h) (by
      rw [List.pairwise_reverse]
      exact o)
    show a = (sortUp ns).reverse
    rw [← h1, List.reverse_reverse]
section
variable {X : Cx}
/-- a list or a tuple of the layer's heap, its values in the machine's -/
theorem seq_coll {pins : List (Addr × Obj)} {σ : L2.St} {H : Hp} {s : Shared} {a : Addr} {xs : List V} (I : Inv X pins σ H s) (h : SqL X.K H a xs ∨ SqT X.K H a xs) : ∃ its : List Value, Vals xs its ∧ Coll s a its ∧ xs.length ≤ sizeLine := by
  rcases h with h | h
  · obtain ⟨its, rv, hl, hz⟩ := I.list h
    exact ⟨its, rv, .inl hl.isList, hz⟩
  · obtain ⟨its, rv, hl, hz⟩ := I.tuple h
    exact ⟨its, rv, .inr hl, hz⟩
def rSrt (K : PySem.W.Frag) (b : Bool) : List V → Hp → VK → Prop := fun vs H Q => ∃ (a : Addr) (ns : List Int), vs = [V.ref a] ∧ (SqL K H a (ns.map V.int) ∨ SqT K H a (ns.map V.int)) ∧
  ∀ p, H p = none → Q (.ref p) (upd H p (.lst ((sortBy b ns).map V.int)))
theorem srt_run {b : Bool} {kw : List (Str × Value)} {pins : List (Addr × Obj)} {s : Shared} {σ : L2.St} {H : Hp} {a : Addr} {ns : List Int} {Q : VK} (hk : (kw = [] ∧ b = false) ∨ kw = [(Str.ofString "reverse", .bool b)]) (I : Inv X pins σ H s)
    (hs : SqL X.K H a (ns.map V.int) ∨ SqT X.K H a (ns.map V.int)) (q : ∀ p, H p = none → Q (.ref p) (upd H p (.lst ((sortBy b ns).map V.int)))) : wpAny (model X.prog X.w) X.A (call (.builtin "sorted") [.ref a] kw) (EP X pins σ Q) X.xe s := by
  obtain ⟨its, rv, hl, hz⟩ := seq_coll I hs
  have hi := rv.ints
  refine sorted_coll hk hl hi (by rw [← rv.length]; exact hz) fun out ns' h1 h2 h3 => ?_
  have e := sortBy_eq h2 h3
  subst e
  obtain ⟨ep, he'⟩ := PyProof.Rows.sortedAll_at s.heap its out
  have hlen : ((sortBy b ns).map V.int).length ≤ sizeLine := by
    rw [List.length_map, h2.length_eq]
    rw [List.length_map] at hz
    exact hz
  exact ⟨.ref _, upd H (s.heap.objs.size + 1) (.lst ((sortBy b ns).map V.int)), I.laid (t' := s.toks) (fun _ _ => PyProof.Rows.sortedAll_old) (Nat.le_succ _) ⟨hlen, out.toList, ep, vals_of_ints h1, he'⟩, rfl, q _ (I.hok.fresh (Nat.le_succ _))⟩
theorem cr_srt : CallR X (.builtin "sorted") (rSrt X.K false) := by
  intro pins s σ H vs us Q I r h
  obtain ⟨a, ns, rfl, hs, q⟩ := h
  rw [Vals.ref1 r]
  exact srt_run (.inl ⟨rfl, rfl⟩) I hs q
theorem cr_srtR {b : Bool} : CallRK X (.builtin "sorted") [Str.ofString "reverse"] (fun vs zs H Q => zs = [.bl b] ∧ rSrt X.K b vs H Q) := by
  intro pins s σ H vs zs us ws Q I r rz h
  obtain ⟨rfl, a, ns, rfl, hs, q⟩ := h
  obtain rfl := Vals.ref1 r
  obtain ⟨w1, rfl, e1⟩ := vals1 rz
  obtain rfl : w1 = Value.bool b := e1
  exact srt_run (.inr rfl) I hs q
theorem cr_sumT (hc : X.calm = true) : CallR X (.builtin "sum") (fun vs H Q => ∃ (a : Addr) (ns : List Int), vs = [V.ref a] ∧ SqT X.K H a (ns.map V.int) ∧ Q (.int ns.sum) H) := by
  intro pins s σ H vs us Q I r h
  obtain ⟨a, ns, rfl, hs, q⟩ := h
  obtain ⟨its, rv, hl, _⟩ := I.tuple hs
  rw [Vals.ref1 r]
  have hi := rv.ints
  obtain ⟨xs, hx⟩ := hi.allInts.items
  have hn : numsOf its.toArray.toList = ns := by rw [show its.toArray.toList = its from rfl, hi.numsOf]
  rw [hx] at hl hn
  rw [nums_intItems] at hn
  refine PySem.W.ktm_sumG (I.ok.hd hc) hl fun h' tk t' hk => ⟨.int _, H, I.kept hk, ⟨_, rfl⟩, ?_⟩
  rw [preSum_eq, List.take_of_length_le (by simp), hn]
  exact q
end
end DL
set_option maxHeartbeats 2000000
/-! DLSeq: subscripts, slices, stores, methods of lists, built-in functions over data. -/
namespace DL
open PySem PySem.Spec PyProof.Rows L2
variable [HasT]
section
variable {X : Cx} {W : WX} {e a b o i : Expr} {es : List Expr} {pos p p2 : Pos} {ma mb mo mi me : ME D} {mr : ME (List D)}

/-! ### views -/
def intsD : List D → Option (List Int)
  | [] => some []
  | .p (.int i) :: r => match intsD r with
    | some ns => some (i :: ns)
    | none => none
  | _ => none
def bools : List D → Option (List Bool)
  | [] => some []
  | .p (.bl i) :: r => match bools r with
    | some ns => some (i :: ns)
    | none => none
  | _ => none
def dInts (ns : List Int) : List D := ns.map fun i => .p (.int i)
theorem ints_eq : ∀ {ds : List D} {ns : List Int}, intsD ds = some ns → ds = dInts ns
  | [], _, h => by cases h; rfl
  | .p (.int i) :: r, ns, h => by
    simp only [intsD] at h
    split at h
    · rename_i ms e
      cases h
      rw [ints_eq e]
      rfl
    · cases h
  | .p .non :: _, _, h => by cases h
  | .p (.bl _) :: _, _, h => by cases h
  | .p (.str _) :: _, _, h => by cases h
  | .p (.tup _) :: _, _, h => by cases h
  | .p (.lst _) :: _, _, h => by cases h
  | .p (.scr _) :: _, _, h => by cases h
  | .p (.ins _ _) :: _, _, h => by cases h
  | .p (.dic _) :: _, _, h => by cases h
  | .p (.glo _) :: _, _, h => by cases h
  | .p (.ty _) :: _, _, h => by cases h
  | .r _ :: _, _, h => by cases h
  | .t _ :: _, _, h => by cases h
theorem relInts {G : Gb} {F : Addr → Prop} {ι : List Addr} {H : Hp} : ∀ {ns : List Int} {vs : List V}, RelDs G F ι H (dInts ns) vs → vs = ns.map V.int
  | [], _, h => by simpa only [RelDs, dInts, List.map] using h
  | n :: ns, _, h => by
    have h' : RelDs G F ι H (D.p (.int n) :: dInts ns) _ := h
    simp only [RelDs] at h'
    obtain ⟨v, ws, rfl, a, b⟩ := h'
    rw [relInt a, relInts b]
    rfl
theorem mkInts {G : Gb} {F : Addr → Prop} {ι : List Addr} {H : Hp} : ∀ ns : List Int, RelDs G F ι H (dInts ns) (ns.map V.int)
  | [] => relDs_nil'
  | n :: ns => relDs_cons.mpr ⟨mkInt, mkInts ns⟩
theorem relBools {G : Gb} {F : Addr → Prop} {ι : List Addr} {H : Hp} : ∀ {ds : List D} {bs : List Bool} {vs : List V}, bools ds = some bs → RelDs G F ι H ds vs → vs = bs.map V.bl
  | [], _, _, h, r => by
    cases h
    simpa only [RelDs, List.map] using r
  | .p (.bl i) :: ds, bs, _, h, r => by
    simp only [bools] at h
    split at h
    · rename_i ms e
      cases h
      simp only [RelDs] at r
      obtain ⟨v, ws, rfl, a, b⟩ := r
      rw [relBl a, relBools e b]
      rfl
    · cases h
  | .p .non :: _, _, _, h, _ => by cases h
  | .p (.int _) :: _, _, _, h, _ => by cases h
  | .p (.str _) :: _, _, _, h, _ => by cases h
  | .p (.tup _) :: _, _, _, h, _ => by cases h
  | .p (.lst _) :: _, _, _, h, _ => by cases h
  | .p (.scr _) :: _, _, _, h, _ => by cases h
  | .p (.ins _ _) :: _, _, _, h, _ => by cases h
  | .p (.dic _) :: _, _, _, h, _ => by cases h
  | .p (.glo _) :: _, _, _, h, _ => by cases h
  | .p (.ty _) :: _, _, _, h, _ => by cases h
  | .r _ :: _, _, _, h, _ => by cases h
  | .t _ :: _, _, _, h, _ => by cases h

/-! ### a[i] -/
def IxD (X : Cx) (f : F2) : Prop :=
  ∃ r : R2, IxR X r ∧ ∀ {F : Addr → Prop} {ι : List Addr} {S S' : Store} {H : Hp} {d1 d2 d' : D} {v1 v2 : V} {Q : VK}, R (gb X) F ι S H → RelD (gb X) F ι H d1 v1 → RelD (gb X) F ι H d2 v2 → f d1 d2 S = some (d', S') →
    (∀ F' ι' H' v, Nxt (gb X) F ι H F' ι' S' H' → RelD (gb X) F' ι' H' d' v → Q v H') → r v1 v2 H Q
theorem de_ix {f : F2} (ho : IxD X f) (ha : DE X W a ma) (hb : DE X W b mb) (hs : PlainIx b := by intro _ _; rfl) : DE X W (.Subscript a b pos) (mOp2 f ma mb) := by
  obtain ⟨r, o, k⟩ := ho
  exact PE.imp (pe_ix o ha hb hs) (op2_imp k)
def fIx : F2 := fun x y S => match y with
  | .p (.int i) => (match x.tup? with
    | some xs => (match atI xs i with
      | some d => some (d, S)
      | none => none)
    | none => (match x.lst? S with
      | some xs => (match atI xs i with
        | some d => some (d, S)
        | none => none)
      | none => (match x with
        | .p (.str z) => if z.length ≤ 100000 then (match atI z.cps.toList i with
          | some c => some (.p (.str ⟨#[c]⟩), S)
          | none => none) else none
        | _ => none)))
  | _ => none
theorem atI_rel {G : Gb} {F : Addr → Prop} {ι : List Addr} {H : Hp} {xs : List D} {vs : List V} {i : Int} {d : D} (r : RelDs G F ι H xs vs) (h : atI xs i = some d) : ∃ v, atI vs i = some v ∧ RelD G F ι H d v := by
  unfold atI at h ⊢
  rw [← relDs_len r]
  cases e : ixN xs.length i with
  | none => rw [e] at h; cases h
  | some j =>
    rw [e] at h
    exact relDs_get r h
theorem ixd : IxD X fIx := ⟨_, ix_seq, fun {F ι S S' H d1 d2 d' v1 v2 Q} rs r1 r2 e q => by
  unfold fIx at e
  split at e
  · rename_i i
    cases relInt r2
    split at e
    · rename_i xs ex
      split at e
      · rename_i d ed
        cases e
        obtain ⟨p, vs, rfl, q1, rd⟩ := tup?_rel ex r1
        obtain ⟨v, hv, rv⟩ := atI_rel rd ed
        exact .inr (.inl ⟨p, vs, i, v, rfl, rfl, q1, hv, q F ι H v (Nxt.refl rs) rv⟩)
      · cases e
    · split at e
      · rename_i xs ex
        split at e
        · rename_i d ed
          cases e
          obtain ⟨p, vs, rfl, q1, rd⟩ := lst?_rel rs ex r1
          obtain ⟨v, hv, rv⟩ := atI_rel rd ed
          exact .inl ⟨p, vs, i, v, rfl, rfl, q1, hv, q F ι H v (Nxt.refl rs) rv⟩
        · cases e
      · split at e
        · split at e
          · rename_i hz
            split at e
            · rename_i c ec
              cases e
              cases relStr r1
              exact .inr (.inr ⟨_, i, c, rfl, rfl, szOk hz, ec, q F ι H _ (Nxt.refl rs) mkStr⟩)
            · cases e
          · cases e
        · cases e
  · cases e⟩

/-! ### a[lo:hi] -/
def mNoPart : ME (Option Int) := fun _ S => .ok none S
def asInt : D → M Int
  | .p (.int i) => fun S => .ok i S
  | _ => fun _ => .stuck
def mPart (m : ME D) : ME (Option Int) := fun ρ S => (m ρ S).bind fun x => fun S => (asInt x S).bind fun i S => .ok (some i) S
def TOp (G : Gb) (W : WX) (m : ME (Option Int)) : TO := fun σ H Q => ∃ ρ S ι F, At G F ι H σ ρ S ∧ Then G (fun c d H' => W c d σ H') F ι H (m ρ S) fun o _ F' ι' H' => Q o H'
abbrev DO (X : Cx) (W : WX) (e : Option Expr) (m : ME (Option Int)) : Prop := PO X e (TOp (gb X) W m)
theorem PO.imp {X : Cx} {e : Option Expr} {t t' : TO} (h : PO X e t) (i : ∀ σ H Q, t' σ H Q → t σ H Q) : PO X e t' := ⟨fun pins s σ H Q I q => h.run pins s σ H Q I (i σ H Q q)⟩
theorem do_none : DO X W none mNoPart := PO.imp po_none fun σ H Q q => by
  obtain ⟨ρ, S, ι, F, at', t⟩ := q
  exact t.now at'.r
theorem asInt_then {G : Gb} {W : Value → Option Addr → Hp → Prop} {F : Addr → Prop} {ι : List Addr} {H : Hp} {α : Type} {d : D} {S : Store} {k : Int → M α} {v : V} {Q : α → Store → (Addr → Prop) → List Addr → Hp → Prop}
    (h : Then G W F ι H ((asInt d S).bind k) Q) (r : RelD G F ι H d v) : ∃ b, v = .int b ∧ Then G W F ι H (k b S) Q := by
  unfold asInt at h
  split at h
  · rename_i b
    exact ⟨b, relInt r, h⟩
  · exact h.elim
theorem do_some (h : DE X W e me) : DO X W (some e) (mPart me) := PO.imp (po_some h) fun σ H Q q => by
  obtain ⟨ρ, S, ι, F, at', t⟩ := q
  refine T.first at' t fun d1 S1 F1 ι1 H1 v1 n1 a1 r1 t1 => ?_
  obtain ⟨b, eb, t2⟩ := asInt_then t1 r1
  exact ⟨b, eb, t2.now a1.r⟩
def cutD (xs : List D) (lo hi : Option Int) : List D := (xs.drop (HT.sIx xs.length 0 lo)).take (HT.sIx xs.length xs.length hi - HT.sIx xs.length 0 lo)
theorem cut_rel {G : Gb} {F : Addr → Prop} {ι : List Addr} {H : Hp} {xs : List D} {vs : List V} (r : RelDs G F ι H xs vs) (lo hi : Option Int) : RelDs G F ι H (cutD xs lo hi) (cutV vs lo hi) := by
  unfold cutD cutV
  rw [← relDs_len r]
  exact relDs_take _ (relDs_drop _ r)
abbrev FS := D → Option Int → Option Int → Store → Option (D × Store)
/-- a slice of a list (the answer by fin) or of a tuple, not the whole of it -/
def fCut (fin : FL) : FS := fun x lo hi S => match x.tup? with
  | some xs => if HT.sIx xs.length 0 lo = 0 ∧ HT.sIx xs.length xs.length hi = xs.length then none else some (mkTup (cutD xs lo hi), S)
  | none => match x.lst? S with
    | some xs => fin (cutD xs lo hi) S
    | none => none
def mSl (f : FS) (ma : ME D) (ml mh : ME (Option Int)) : ME D := fun ρ S => (ma ρ S).bind fun x => fun S => (ml ρ S).bind fun l => fun S => (mh ρ S).bind fun h => lift (f x l h)
theorem TO.first {G : Gb} {W : WX} {α : Type} {F : Addr → Prop} {ι : List Addr} {σ : L2.St} {ρ : Env} {S : Store} {H : Hp} {m : ME (Option Int)} {k : Option Int → M α} {Q : α → Store → (Addr → Prop) → List Addr → Hp → Prop} {Q' : Option Int → Hp → Prop}
    (a : At G F ι H σ ρ S) (h : Then G (fun c d H' => W c d σ H') F ι H ((m ρ S).bind k) Q)
    (q : ∀ d S1 F1 ι1 H1, Nxt G F ι H F1 ι1 S1 H1 → At G F1 ι1 H1 σ ρ S1 → Then G (fun c d H' => W c d σ H') F1 ι1 H1 (k d S1) Q → Q' d H1) : TOp G W m σ H Q' :=
  ⟨ρ, S, ι, F, a, h.bind.mono fun d S1 F1 ι1 H1 n t => q d S1 F1 ι1 H1 n (a.next n) t⟩
theorem de_cut {fin : FL} {lo hi : Option Expr} {ml mh : ME (Option Int)} (n : NewL X fin) (ha : DE X W a ma) (hl : DO X W lo ml) (hh : DO X W hi mh) : DE X W (.Subscript a (.Slice lo hi none p2) pos) (mSl (fCut fin) ma ml mh) :=
  PE.imp (pe_slice (SlR.or sl_tup sl_list) ha hl hh) fun σ H Q q => by
    obtain ⟨ρ, S, ι, F, at', t⟩ := q
    refine T.first at' t fun d1 S1 F1 ι1 H1 v1 n1 a1 r1 t1 => ?_
    refine TO.first a1 t1 fun l S2 F2 ι2 H2 n2 a2 t2 => ?_
    refine TO.first a2 t2 fun h S3 F3 ι3 H3 n3 a3 t3 => ?_
    obtain ⟨d', S', e, q⟩ := lift_then t3
    have r3 := n3.d (n2.d r1)
    unfold fCut at e
    split at e
    · rename_i xs ex
      split at e
      · cases e
      · rename_i hw
        cases e
        obtain ⟨p, vs, rfl, q1, rd⟩ := tup?_rel ex r3
        refine .inl ⟨p, vs, rfl, q1, by rw [← relDs_len rd]; exact hw, fun p hp => ?_⟩
        exact q _ _ _ (Nxt.fresh a3.r hp) _ (rel_newT hp (cut_rel rd l h))
    · split at e
      · rename_i xs ex
        obtain ⟨p, vs, rfl, q1, rd⟩ := lst?_rel a3.r ex r3
        exact .inr ⟨p, vs, rfl, q1, (n a3.r (cut_rel rd l h) e fun F' ι' H' v n r => q F' ι' H' n v r).2⟩
      · cases e
/-- xs[::-1] -/
def fRevL (fin : FL) : F1 := fun x S => match x.lst? S with
  | some xs => fin xs.reverse S
  | none => none
theorem de_revL {fin : FL} {k : Nat} {p1 p3 p4 : Pos} (n : NewL X fin) (ha : DE X W a ma) : DE X W (.Subscript a (.Slice none none (some (.UnaryOp .USub (.Constant (.int 1) k p1) p3)) p4) pos) (mOp1 (fRevL fin) ma) :=
  PE.imp (pe_revL ha) fun σ H Q q => by
    obtain ⟨ρ, S, ι, F, at', t⟩ := q
    refine T.first at' t fun d1 S1 F1 ι1 H1 v1 n1 a1 r1 t1 => ?_
    obtain ⟨d', S', e, q⟩ := lift_then t1
    unfold fRevL at e
    split at e
    · rename_i xs ex
      obtain ⟨p, vs, rfl, q1, rd⟩ := lst?_rel a1.r ex r1
      exact ⟨p, vs, rfl, q1, (n a1.r (relDs_reverse rd) e fun F' ι' H' v n r => q F' ι' H' n v r).2⟩
    · cases e

/-! ### a[i] = e -/
def putL (n : Nat) (xs : List D) (S : Store) : Option Store := if h : (O.lst xs).lo S.objs.length = true then some (S.put n (.lst xs) h) else none
/-- a list of the store, at its place -/
def D.mut? (d : D) (S : Store) : Option (Nat × List D) := match d with
  | .r n => match S.objs[n]? with
    | some (.lst xs) => some (n, xs)
    | _ => none
  | _ => none
theorem mut?_rel {G : Gb} {F : Addr → Prop} {ι : List Addr} {S : Store} {H : Hp} {d : D} {n : Nat} {xs : List D} {v : V} (rs : R G F ι S H) (h : d.mut? S = some (n, xs)) (r : RelD G F ι H d v) : ∃ a vs, v = .ref a ∧ ι[n]? = some a ∧ H a = some (.lst vs) ∧ RelDs G F ι H xs vs := by
  unfold D.mut? at h
  split at h
  · rename_i m
    split at h
    · rename_i ys e
      cases h
      simp only [RelD] at r
      obtain ⟨a, rfl, q⟩ := r
      obtain ⟨b, qb, ro⟩ := rs.obj e
      rw [q] at qb
      cases qb
      obtain ⟨vs, hv, rv⟩ := ro
      exact ⟨a, vs, rfl, q, hv, rv⟩
    · cases h
  · cases h
/-- a list of the store is changed -/
theorem putL_nxt {G : Gb} {F : Addr → Prop} {ι : List Addr} {S S' : Store} {H : Hp} {n : Nat} {a : Addr} {us vs : List V} {es : List D} (rs : R G F ι S H) (hi : ι[n]? = some a) (hu : H a = some (.lst us)) (rd : RelDs G F ι H es vs) (e : putL n es S = some S') : Nxt G F ι H F ι S' (upd H a (.lst vs)) := by
  unfold putL at e
  split at e
  · rename_i hw
    cases e
    exact Nxt.putL rs hi hu rd hw
  · cases e
def fPut : D → D → D → Store → Option Store := fun x i y S => match x.mut? S, i with
  | some (n, xs), .p (.int k) => (match ixN xs.length k with
    | some j => putL n (xs.set j y) S
    | none => none)
  | _, _ => none
def liftS (f : Store → Option Store) (ρ : Env) : M Out := fun S => match f S with
  | some S' => .ok (.nx ρ) S'
  | none => .stuck
def mPut (me mo mi : ME D) : MS := fun ρ S => (me ρ S).bind fun y => fun S => (mo ρ S).bind fun x => fun S => (mi ρ S).bind fun i => liftS (fPut x i y) ρ
theorem liftS_then {G : Gb} {W : Value → Option Addr → Hp → Prop} {F : Addr → Prop} {ι : List Addr} {H : Hp} {f : Store → Option Store} {ρ : Env} {S : Store} {Q : Out → Store → (Addr → Prop) → List Addr → Hp → Prop}
    (h : Then G W F ι H (liftS f ρ S) Q) : ∃ S', f S = some S' ∧ ∀ F' ι' H', Nxt G F ι H F' ι' S' H' → Q (.nx ρ) S' F' ι' H' := by
  unfold liftS at h
  split at h
  · rename_i S' e
    exact ⟨S', e, h⟩
  · exact h.elim
theorem ds_put (he : DE X W e me) (ho : DE X W o mo) (hi : DE X W i mi)
    (ha : ∀ v, assign (.Subscript o i p) X.env v = (do
      let ov ← holding [v] (eval o X.env)
      let iv ← holding [v, ov] (eval i X.env)
      standAt p
      holding [v, ov, iv] (setItem ov iv v)
      release [v, ov, iv] []) := by intro _; rfl)
    (hs : swapsWithSole [.Subscript o i p] e pos.line X.env = pure false := by rfl) (hw : swappedStores [.Subscript o i p] e X.env = pure none := by rfl) (h1 : (assignEach [.Subscript o i p] X.env).map (·.2) = [assign (.Subscript o i p) X.env] := by rfl) :
    DS X W (.Assign [.Subscript o i p] e pos) (mPut me mo mi) := PS.imp (ps_asg he (pg_sub ho hi set_list ha) hs hw h1) fun E σ H q => by
  obtain ⟨ρ, S, ι, F, a, t⟩ := q
  refine T.firstS a t fun d S1 F1 ι1 H1 v n a1 r t1 => ?_
  refine T.firstS a1 t1 fun d2 S2 F2 ι2 H2 v2 n2 a2 r2 t2 => ?_
  refine T.firstS a2 t2 fun d3 S3 F3 ι3 H3 v3 n3 a3 r3 t3 => ?_
  obtain ⟨S', e', q⟩ := liftS_then t3
  unfold fPut at e'
  split at e'
  · rename_i n xs k em
    split at e'
    · rename_i j ej
      obtain ⟨a4, vs, rfl, q4, h4, rd⟩ := mut?_rel a3.r em (n3.d r2)
      cases relInt r3
      refine ⟨a4, vs, k, j, rfl, rfl, h4, by rw [← relDs_len rd]; exact ej, ?_⟩
      have nx := putL_nxt a3.r q4 h4 (relDs_set (n3.d (n2.d r)) j rd) e'
      exact q _ _ _ nx σ rfl (a3.e.mono nx)
    · cases e'
  · cases e'

/-! ### methods -/
abbrev FM := D → List D → Store → Option (D × Store)
def MtD (X : Cx) (id : String) (f : FM) : Prop :=
  ∃ r : V → List V → Hp → VK → Prop, MtR X id r ∧ ∀ {F : Addr → Prop} {ι : List Addr} {S S' : Store} {H : Hp} {d d' : D} {ds : List D} {v : V} {vs : List V} {Q : VK}, R (gb X) F ι S H → RelD (gb X) F ι H d v → RelDs (gb X) F ι H ds vs → f d ds S = some (d', S') →
    (∀ F' ι' H' v, Nxt (gb X) F ι H F' ι' S' H' → RelD (gb X) F' ι' H' d' v → Q v H') → r v vs H Q
/-- the receiver is a list -/
def mMeth (f : FM) (mo : ME D) (mr : ME (List D)) : ME D := fun ρ S => (mo ρ S).bind fun x => fun S => (lift (fun S => match x.lst? S with
  | some _ => some ((), S)
  | none => none) S).bind fun _ S => (mr ρ S).bind fun ys => lift (f x ys)
theorem lst_ty {F : Addr → Prop} {ι : List Addr} {S : Store} {H : Hp} {d : D} {xs : List D} {v : V} (rs : R (gb X) F ι S H) (h : d.lst? S = some xs) (r : RelD (gb X) F ι H d v) : tyV X.K "list" v H := by
  obtain ⟨a, vs, rfl, q, _⟩ := lst?_rel rs h r
  exact .inl ⟨rfl, vs, q⟩
theorem de_meth {name : Str} {apos cpos : Pos} {id : String} {f : FM} (hm : MtD X id f) (slot : Slot "list" name id) (hty : typeOf (.builtin id) = pure (.type "method_descriptor")) (ho : DE X W o mo) (ha : DA X W (e :: es) mr)
    (hbase : attributeBase o name X.env (eval o X.env) = eval o X.env := by rfl)
    (hfew : ((backTo cpos (starEach (e :: es) X.env)).all (fun x => !x.1) && (backToKw cpos (keywordEach [] X.env)).all (fun x => x.1.isSome)
      && decide ((e :: es).length + ([] : List Keyword).length + (if ([] : List Keyword).isEmpty then 0 else 1) < 30)) = true := by rfl)
    (hline : (apos.endLine == cpos.line) = true := by rfl) (hs : starEach (e :: es) X.env = (false, eval e X.env) :: starEach es X.env := by rfl) (hplain : (backTo cpos (starEach es X.env)).any (·.1) = false := by rfl) :
    DE X W (.Call (.Attribute o name apos) (e :: es) [] cpos) (mMeth f mo mr) := by
  obtain ⟨r, hr, k⟩ := hm
  refine PE.imp (pe_bm PySem.F.plainAttrs_list slot hty hr ho ha hbase hfew hline hs hplain) fun σ H Q q => ?_
  obtain ⟨ρ, S, ι, F, at', t⟩ := q
  refine T.first at' t fun d1 S1 F1 ι1 H1 v1 n1 a1 r1 t1 => ?_
  obtain ⟨u, S2, e2, q2⟩ := lift_then t1.bind
  split at e2
  · rename_i xs ex
    cases e2
    refine ⟨lst_ty a1.r ex r1, ?_⟩
    refine TL.first a1 (q2 _ _ _ (Nxt.refl a1.r)) fun ds S2 F2 ι2 H2 vs n2 a2 r2 t2 => ?_
    obtain ⟨d', S', e, q⟩ := lift_then t2
    exact k a2.r (n2.d r1) r2 e fun F' ι' H' v n r => q F' ι' H' n v r
  · cases e2
def fAppend : FM := fun x ys S => match x.mut? S, ys with
  | some (n, xs), [y] => if xs.length < 100000 then (match putL n (xs ++ [y]) S with
    | some S' => some (.p .non, S')
    | none => none) else none
  | _, _ => none
theorem md_append : MtD X "list.append" fAppend := ⟨_, mt_append, fun {F ι S S' H d d' ds v vs Q} rs r1 r2 e q => by
  unfold fAppend at e
  split at e
  · rename_i n xs y em
    split at e
    · rename_i hl
      split at e
      · rename_i S2 e2
        cases e
        obtain ⟨a, us, rfl, hi, hu, rd⟩ := mut?_rel rs em r1
        obtain ⟨w, rfl, ry⟩ := relDs1 r2
        exact ⟨a, us, w, rfl, rfl, hu, by rw [← relDs_len rd]; rw [sizeLine_eq]; omega, q _ _ _ _ (putL_nxt rs hi hu (relDs_append rd (relDs_cons.mpr ⟨ry, relDs_nil'⟩)) e2) mkNon⟩
      · cases e
    · cases e
  · cases e⟩
def fPopAt : FM := fun x ys S => match x.mut? S, ys with
  | some (n, xs), [.p (.int i)] => (match seqIndex? i xs.length with
    | some k => if fitR i = true then (match xs[k]? with
      | some y => (match putL n (xs.eraseIdx k) S with
        | some S' => some (y, S')
        | none => none)
      | none => none) else none
    | none => none)
  | _, _ => none
theorem md_popAt : MtD X "list.pop" fPopAt := ⟨_, mt_popAt, fun {F ι S S' H d d' ds v vs Q} rs r1 r2 e q => by
  unfold fPopAt at e
  split at e
  · rename_i n xs i em
    split at e
    · rename_i k ek
      split at e
      · rename_i hf
        split at e
        · rename_i y ey
          split at e
          · rename_i S2 e2
            cases e
            obtain ⟨a, us, rfl, hi, hu, rd⟩ := mut?_rel rs em r1
            obtain ⟨w, rfl, ry⟩ := relDs1 r2
            cases relInt ry
            obtain ⟨v, hv, rv⟩ := relDs_get rd ey
            have nx := putL_nxt rs hi hu (relDs_erase k rd) e2
            have := fitR_ok hf
            exact ⟨a, us, i, k, v, rfl, rfl, hu, by omega, by omega, by rw [← relDs_len rd]; exact ek, hv, q _ _ _ _ nx (nx.d rv)⟩
          · cases e
        · cases e
      · cases e
    · cases e
  · cases e⟩
/-! ### built-in functions -/
def fLen : FL := fun ds S => match ds with
  | [x] => (match x.seq? S with
    | some xs => some (.p (.int xs.length), S)
    | none => (match x with
      | .p (.str z) => if z.length ≤ 100000 then some (.p (.int z.length), S) else none
      | _ => none))
  | _ => none
theorem cd_len : CallD X (.builtin "len") fLen := ⟨_, call_len_seq.or call_len_str, fun {F ι S S' H ds d' vs Q} rs r e q => by
  unfold fLen at e
  split at e
  · obtain ⟨v, rfl, r1⟩ := relDs1 r
    split at e
    · rename_i xs ex
      cases e
      obtain ⟨p, us, rfl, q1, rd⟩ := seq?_rel rs ex r1
      exact .inl ⟨p, us, rfl, q1, by rw [← relDs_len rd]; exact q F ι H _ (Nxt.refl rs) mkInt⟩
    · split at e
      · split at e
        · rename_i hz
          cases e
          cases relStr r1
          exact .inr ⟨_, rfl, szOk hz, q F ι H _ (Nxt.refl rs) mkInt⟩
        · cases e
      · cases e
  · cases e⟩
def fAbs : FL := fun ds S => match ds with
  | [.p (.int i)] => some (.p (.int (if i < 0 then -i else i)), S)
  | _ => none
theorem cd_abs : CallD X (.builtin "abs") fAbs := ⟨_, call_abs, fun {F ι S S' H ds d' vs Q} rs r e q => by
  unfold fAbs at e
  split at e
  · cases e
    obtain ⟨v, rfl, r1⟩ := relDs1 r
    cases relInt r1
    exact ⟨_, rfl, q F ι H _ (Nxt.refl rs) mkInt⟩
  · cases e⟩
def fInt : FL := fun ds S => match ds with
  | [.p (.int i)] => some (.p (.int i), S)
  | [.p (.bl k)] => some (.p (.int (if k then 1 else 0)), S)
  | _ => none
theorem cd_int : CallD X (.type "int") fInt := ⟨_, call_int1, fun {F ι S S' H ds d' vs Q} rs r e q => by
  unfold fInt at e
  split at e
  · cases e
    obtain ⟨v, rfl, r1⟩ := relDs1 r
    cases relInt r1
    exact .inl ⟨_, rfl, q F ι H _ (Nxt.refl rs) mkInt⟩
  · cases e
    obtain ⟨v, rfl, r1⟩ := relDs1 r
    cases relBl r1
    exact .inr ⟨_, rfl, q F ι H _ (Nxt.refl rs) mkInt⟩
  · cases e⟩
/-! list(x), tuple(x) -/
def fToL (fin : FL) : FL := fun ds S => match ds with
  | [x] => (match x.seq? S with
    | some xs => fin xs S
    | none => none)
  | _ => none
theorem cd_toL {fin : FL} (n : NewL X fin) : CallD X (.type "list") (fToL fin) := ⟨_, call_list_of, fun {F ι S S' H ds d' vs Q} rs r e q => by
  unfold fToL at e
  split at e
  · obtain ⟨v, rfl, r1⟩ := relDs1 r
    split at e
    · rename_i xs ex
      obtain ⟨p, us, rfl, q1, rd⟩ := seq?_rel rs ex r1
      exact ⟨p, us, rfl, q1, (n rs rd e q).2⟩
    · cases e
  · cases e⟩
def fToT : FL := fun ds S => match ds with
  | [x] => (match x.seq? S with
    | some xs => some (mkTup xs, S)
    | none => none)
  | _ => none
theorem cd_toT : CallD X (.type "tuple") fToT := ⟨_, call_tuple_of, fun {F ι S S' H ds d' vs Q} rs r e q => by
  unfold fToT at e
  split at e
  · obtain ⟨v, rfl, r1⟩ := relDs1 r
    split at e
    · rename_i xs ex
      cases e
      obtain ⟨p, us, rfl, q1, rd⟩ := seq?_relH rs ex r1
      rcases q1 with q1 | q1
      · exact ⟨p, us, rfl, .inl ⟨q1, fun l hl => q _ _ _ _ (Nxt.fresh rs hl) (rel_newT hl rd)⟩⟩
      · exact ⟨p, us, rfl, .inr ⟨SqT.of q1, q _ _ _ _ (Nxt.refl rs) (mkTup_rel q1 rd)⟩⟩
    · cases e
  · cases e⟩
/-! sum, all, any -/
def fSum : FL := fun ds S => match ds with
  | [x] => (match x.seq? S with
    | some xs => (match intsD xs with
      | some ns => some (.p (.int ns.sum), S)
      | none => none)
    | none => none)
  | _ => none
theorem cd_sum (hc : X.calm = true) : CallD X (.builtin "sum") fSum := ⟨_, (cr_sum hc).or (cr_sumT hc), fun {F ι S S' H ds d' vs Q} rs r e q => by
  unfold fSum at e
  split at e
  · obtain ⟨v, rfl, r1⟩ := relDs1 r
    split at e
    · rename_i xs ex
      split at e
      · rename_i ns en
        cases e
        obtain ⟨p, us, rfl, q1, rd⟩ := seq?_rel rs ex r1
        rw [ints_eq en] at rd
        rw [relInts rd] at q1
        rcases q1 with q1 | q1
        · exact .inl ⟨p, ns, rfl, q1, q _ _ _ _ (Nxt.refl rs) mkInt⟩
        · exact .inr ⟨p, ns, rfl, q1, q _ _ _ _ (Nxt.refl rs) mkInt⟩
      · cases e
    · cases e
  · cases e⟩
def fAll : FL := fun ds S => match ds with
  | [x] => (match x.lst? S with
    | some xs => (match bools xs with
      | some ns => some (.p (.bl (ns.all id)), S)
      | none => none)
    | none => none)
  | _ => none
theorem cd_all (hc : X.calm = true) : CallD X (.builtin "all") fAll := ⟨_, cr_all hc, fun {F ι S S' H ds d' vs Q} rs r e q => by
  unfold fAll at e
  split at e
  · obtain ⟨v, rfl, r1⟩ := relDs1 r
    split at e
    · rename_i xs ex
      split at e
      · rename_i ns en
        cases e
        obtain ⟨p, us, rfl, q1, rd⟩ := lst?_rel rs ex r1
        rw [relBools en rd] at q1
        exact ⟨p, ns, rfl, q1, q _ _ _ _ (Nxt.refl rs) mkBl⟩
      · cases e
    · cases e
  · cases e⟩
/-! sorted -/
def fSrt (b : Bool) (fin : FL) : FL := fun ds S => match ds with
  | [x] => (match x.seq? S with
    | some xs => (match intsD xs with
      | some ns => fin (dInts (sortBy b ns)) S
      | none => none)
    | none => none)
  | _ => none
theorem srt_imp {b : Bool} {fin : FL} (n : NewL X fin) {F : Addr → Prop} {ι : List Addr} {S S' : Store} {H : Hp} {ds : List D} {d' : D} {vs : List V} {Q : VK} (rs : R (gb X) F ι S H) (r : RelDs (gb X) F ι H ds vs) (e : fSrt b fin ds S = some (d', S'))
    (q : ∀ F' ι' H' v, Nxt (gb X) F ι H F' ι' S' H' → RelD (gb X) F' ι' H' d' v → Q v H') : rSrt X.K b vs H Q := by
  unfold fSrt at e
  split at e
  · obtain ⟨v, rfl, r1⟩ := relDs1 r
    split at e
    · rename_i xs ex
      split at e
      · rename_i ns en
        obtain ⟨p, us, rfl, q1, rd⟩ := seq?_rel rs ex r1
        rw [ints_eq en] at rd
        rw [relInts rd] at q1
        exact ⟨p, ns, rfl, q1, (n rs (mkInts _) e q).2⟩
      · cases e
    · cases e
  · cases e
theorem cd_srt {fin : FL} (n : NewL X fin) : CallD X (.builtin "sorted") (fSrt false fin) := ⟨_, cr_srt, fun rs r e q => srt_imp n rs r e q⟩
end
end DL
set_option maxHeartbeats 2000000
/-! DLEnum: for i, x in enumerate(xs), a list or a tuple. -/
namespace DL
open PySem PySem.Spec PyProof.Rows L2

theorem enum1_new {v : Value} {o : Obj} {H : Heap → Prop} (B : Begins v o H) :
    Meets (Builtin.«enumerate.__new__» ⟨[.type "enumerate", v], []⟩) (fun _ R s => H s.heap ∧
      R (.ok (.ret (.ref (s.heap.push o).objs.size))) { s with heap := (s.heap.push o).push { cls := .type "enumerate", data := .fields #[.none, .bool false, .ref s.heap.objs.size, rawInt 0, .none, .none] } }) :=
  .of_wp fun prog w A R s h => by
    obtain ⟨hp, g, d, tk, os⟩ := s
    obtain ⟨h1, h⟩ := h
    have hsub := sub_enumerate
    have q1 : ∀ {A' : Around} {E : Value → Shared → Prop} {Q : Value → Shared → Prop}, Q (.ref hp.objs.size) ⟨hp.push o, g, d, tk, os⟩ → wpAny (model prog w) A' (pyIter v) Q E ⟨hp, g, d, tk, os⟩ :=
      fun q => B.iter prog w _ _ ⟨hp, g, d, tk, os⟩ _ h1 q
    wp_walk using q1
    refine wpAny_stack_any fun st => wpAny_pure ?_
    split
    · rename_i c _ _ _ _ _
      cases (c == Value.type "enumerate")
      · wp_walk using q1
        exact ⟨_, rfl, h⟩
      · wp_walk using q1
        exact ⟨_, rfl, h⟩
    · wp_walk using q1
      exact ⟨_, rfl, h⟩
section
variable {prog : Program} {w : World} {A : Around} {E : Value → Shared → Prop} {s : Shared}
theorem enum1_call {v : Value} {o : Obj} {H : Heap → Prop} {Q : Value → Shared → Prop} (B : Begins v o H) (h1 : H s.heap)
    (h : ∀ h', IsEnum h' (s.heap.objs.size + 1) s.heap.objs.size ((0 : Nat) : Int) .none → h'.get? s.heap.objs.size = some o → h'.objs.size = s.heap.objs.size + 2 →
      (∀ b o, s.heap.get? b = some o → h'.get? b = some o) → Q (.ref (s.heap.objs.size + 1)) { s with heap := h' }) :
    wpAny (model prog w) A (call (.type "enumerate") [v]) Q E s := by
  refine callType_new F.called_enumerate (by decide) (F.typeCall_enumerate_1 _) (F.newCall_enumerate_1 _) (fun obj => F.args_object_init_2 obj _) F.entry_enumerate_new (enum1_new B) ⟨h1, ?_⟩
  have hz : (s.heap.push o).objs.size = s.heap.objs.size + 1 := Heap.size_push ..
  show _ ∧ _
  rw [hz]
  have he : IsEnum ((s.heap.push o).push { cls := .type "enumerate", data := .fields #[.none, .bool false, .ref s.heap.objs.size, rawInt 0, .none, .none] }) (s.heap.objs.size + 1) s.heap.objs.size ((0 : Nat) : Int) .none := by
    have := Heap.get?_push_size (s.heap.push o) (o := { cls := .type "enumerate", data := .fields #[.none, .bool false, .ref s.heap.objs.size, rawInt 0, .none, .none] }) rfl
    rw [hz] at this
    exact this
  refine ⟨⟨_, he, rfl⟩, h _ he (Heap.get?_push_of_some _ (Heap.get?_push_size _ B.free)) (by rw [Heap.size_push, hz]) fun b o x => Heap.get?_push_of_some _ (Heap.get?_push_of_some _ x)⟩
end
/-- the tuple at a, its items in new pairs -/
def IteT (K : PySem.W.Frag) (a : Addr) : It :=
  ⟨fun i H => ∃ (xs : List V) (x : V), SqT K H a xs ∧ xs[i]? = some x, fun i H v H' => ∃ T x, v = .ref T ∧ H T = none ∧ H' = upd H T (.tup [.int (i : Nat), x]) ∧ ∀ xs, SqT K H a xs → xs[i]? = some x, fun i H => ∃ xs : List V, SqT K H a xs ∧ xs.length ≤ i⟩
theorem tup_ne_enum {h : Heap} {a e it : Addr} {i : Int} {old : Value} {its : Array Value} (p : h.IsTuple a its) (q : IsEnum h e it i old) : a ≠ e := fun z => by
  obtain ⟨o, ho, hc, _⟩ := p
  have q' : h.get? e = some _ := q
  rw [z, q'] at ho
  cases ho
  injection (show Value.type "enumerate" = Value.type "tuple" from hc) with hc
  exact absurd hc (by decide)
theorem tup_ne_iter {h : Heap} {a b it : Addr} {i : Nat} {its : Array Value} (p : h.IsTuple a its) (q : h.IsTupleIter it b i) : a ≠ it := fun z => by
  obtain ⟨o, ho, hc, _⟩ := p
  obtain ⟨o2, ho2, hc2, _⟩ := q
  rw [z, ho2] at ho
  cases ho
  rw [hc2] at hc
  exact absurd hc (by decide)
theorem turn_enumT {P : Program} {w : World} {K : PySem.W.Frag} {elts : List Expr} {kk : Nat} {tpos : Pos} (a e it : Addr) :
    Turn P w K (.Tuple elts kk tpos) (IteT K a) [e, it] e (fun i h => (∃ old, IsEnum h e it ((i : Nat) : Int) old) ∧ h.IsTupleIter it a i ∧ e ≠ it) where
  mem := by simp
  obj := fun i h st b hb => by
    obtain ⟨⟨old, he⟩, ⟨o, ho, hc, hd⟩, _⟩ := st
    have e' : b = e ∨ b = it := by simpa using hb
    rcases e' with z | z
    · rw [z]; exact ⟨_, he, fun v q => nomatch q⟩
    · rw [z]; exact ⟨o, ho, fun v q => by rw [hd] at q; cases q⟩
  keep := fun i h h' st k => let ⟨⟨old, he⟩, hi, hne⟩ := st; ⟨⟨old, k e (by simp) _ he⟩, hi.at fun o q => k it (by simp) o q, hne⟩
  item := by
    intro X hP hw hK hc i pins s σ H E I hf st hg
    subst hP hw hK
    obtain ⟨⟨old, he⟩, hit, hne⟩ := st
    obtain ⟨xs, x, hq, hx⟩ := hg
    obtain ⟨its, rv, p, hz⟩ := I.tuple hq
    obtain ⟨u, hu, ru⟩ := rv.get hx
    have hel : e < s.heap.objs.size := Heap.lt_size he
    have hil : it < s.heap.objs.size := by obtain ⟨_, q, _⟩ := hit; exact Heap.lt_size q
    have hi : i < its.toArray.size := by
      have := (List.getElem?_eq_some_iff.mp hu).1
      simpa using this
    have n1 := tup_ne_iter p hit
    have n2 := tup_ne_enum p he
    refine wpAny_pyNext_enum_itemD (Draws.tuple (A := X.A.in1) (I.ok.hd hc) it a n1 its.toArray) he ⟨hit, p⟩ hi hne (by simp [hne, Ne.symm n2]) fun x' h' tk hPx ho hst hT hsz hk => ?_
    have ex : x' = u := by
      have : its.toArray[i]? = some x' := hPx
      rw [List.getElem?_toArray, hu] at this
      exact (Option.some.inj this).symm
    subst ex
    refine ⟨_, rfl, wpAny_letOwnedTupleGo_enum (s := { s with heap := h', toks := tk + 1 }) ho fun h'' he' sb => ?_⟩
    have hT2 : h''.get? s.heap.objs.size = some { cls := .type "tuple", data := .seq #[.int i tk, x'] } := (sb.2 _ (Nat.ne_of_gt hel)).trans hT
    have new : ObjOk X.prog X.w (upd H s.heap.objs.size (.tup [.int (i : Nat), x])) h'' s.heap.objs.size (.tup [.int (i : Nat), x]) :=
      ⟨by show 2 ≤ sizeLine; decide, [.int i tk, x'], .cons ⟨_, rfl⟩ (.cons ru .nil), ⟨_, hT2, rfl, _, rfl⟩⟩
    have I1 : Inv X pins σ (upd H s.heap.objs.size (.tup [.int (i : Nat), x])) { s with heap := h'', toks := tk + 1 } :=
      I.turnedNew (ch := [e, it]) (fun b ob hb q => (sb.2 b (fun z => hb (by simp [z]))).trans (hk b ob (fun z => hb (by simp [z])) (fun z => hb (by simp [z])) q)) hf (Nat.le_refl _) new
    refine ⟨.ref s.heap.objs.size, _, I1, rfl, ⟨_, x, rfl, I.hok.fresh (Nat.le_refl _), rfl, fun ys hy => by rw [I.tuple_inj hy hq]; exact hx⟩, ⟨⟨x', ?_⟩, hst.1.at fun o q => (sb.2 it (Ne.symm hne)).trans q, hne⟩, fun b hb => ?_⟩
    · have e1 : ((i + 1 : Nat) : Int) = (i : Int) + 1 := by omega
      rw [e1]
      exact he'
    · have hb' : b < s.heap.objs.size := by
        have e' : b = e ∨ b = it := by simpa using hb
        rcases e' with z | z
        · rw [z]; exact hel
        · rw [z]; exact hil
      rw [upd_ne (Nat.ne_of_lt hb')]
      exact (hf b hb).1
  done := by
    intro X hP hw hK hc i pins s σ H E I hf st hg
    subst hP hw hK
    obtain ⟨⟨old, he⟩, hit, hne⟩ := st
    obtain ⟨xs, hq, hx⟩ := hg
    obtain ⟨its, rv, p, hz⟩ := I.tuple hq
    obtain ⟨f0, f1, f2, f3, f4, f5⟩ := hf it (by simp)
    have hl := rv.length
    have n1 := tup_ne_iter p hit
    have hT : s.TypeIs (.ref e) "enumerate" := ⟨_, he, rfl⟩
    unfold pyNext
    refine wpAny_bind (wpAny_attempt (wpAny_callSpecial?_slot (name := Str.ofString "__next__") hT F.slot_enumerate_next
      (wpAny_call_entry F.slot_enumerate_next hT F.entry_enumerate_next ?_ (F.args_enumerate_next_1 _))))
    show wpAny _ _ (field (.ref e) 2 >>= _) _ _ _
    refine wpAny_bind (wpAny_field he rfl (x := .ref it) rfl ?_)
    refine wpAny_bind (wpAny_nextOf_tuple_end (items := its.toArray) (I.ok.hd hc) hit p ?_ fun h' x he' hx' => ?_)
    · rw [List.getElem?_toArray, List.getElem?_eq_none_iff]
      omega
    · obtain ⟨o, ho, hcx⟩ := hx'
      refine wpAny_bind (wpAny_isInstance (T := "StopIteration") (b := true) ⟨o, ho, hcx⟩ isSubtype_stop ?_)
      exact wpAny_pure ⟨rfl, I.turned (t' := s.toks) (fun b o hb q => he' b o hb q) f0 f1 f3 f4 f5⟩
  self := fun A i s Q E st h => let ⟨⟨_, he⟩, _⟩ := st; wpAny_pyIter_enum he h

def iEnumA (K : PySem.W.Frag) (ta : TA) : TI := fun σ H R => ta σ H fun vs H1 => ∃ a xs, vs = [.ref a] ∧ ((SqL K H1 a xs ∧ R (Ite K a) H1) ∨ (SqT K H1 a xs ∧ R (IteT K a) H1))
theorem pi_enumA {X : Cx} {e : Expr} {ta : TA} {p pos tpos : Pos} {elts : List Expr} {kk : Nat} (hg : Gl X "enumerate") (hm : X.mg "enumerate" = none) (ha : PA X [e] ta) (hs : starEach [e] X.env = [(false, eval e X.env)] := by rfl) :
    PI X (.Tuple elts kk tpos) (.Call (.Name "enumerate" p) [e] [] pos) (iEnumA X.K ta) := by
  refine ⟨fun pins s σ H R I h => ?_⟩
  refine Call_ (ld_blt I hg hm boot_enumerate (PyProof.Rows.callWith_type1 (thn (ha.run pos pins s σ H _ I h) fun us s1 ⟨vs, H1, I1, r1, q1⟩ => ?_) hs rfl))
  obtain ⟨a, xs, ex, q1⟩ := q1
  subst ex
  cases r1 with
  | cons r rr =>
    cases rr
    cases r
    have fp : ∀ b ∈ [s1.heap.objs.size + 1, s1.heap.objs.size], s1.heap.objs.size ≤ b := fun b hb => by
      have e' : b = s1.heap.objs.size + 1 ∨ b = s1.heap.objs.size := by simpa using hb
      rcases e' with z | z
      · rw [z]; exact Nat.le_add_right _ _
      · rw [z]; exact Nat.le_refl _
    rcases q1 with ⟨hq, q⟩ | ⟨hq, q⟩
    · obtain ⟨its, rv, p', hz⟩ := I1.list hq
      refine enum1_call (begins_list a its.toArray) p'.isList fun h' he hit hsz hk => wpAny_pyIter_enum he ?_
      have I2 : Inv X pins σ H1 { s1 with heap := h' } := I1.kept (t' := s1.toks) hk
      exact ⟨s1.heap.objs.size + 1, [s1.heap.objs.size + 1, s1.heap.objs.size], _, _, H1, rfl, I2, turn_enum a (s1.heap.objs.size + 1) s1.heap.objs.size, ⟨⟨.none, he⟩, ⟨_, hit, rfl, rfl⟩, Nat.succ_ne_self _⟩, fun b hb => I1.fpOk (fp b hb) (I1.hok.fresh (fp b hb)), q⟩
    · obtain ⟨its, rv, p', hz⟩ := I1.tuple hq
      refine enum1_call (begins_tuple a its.toArray) p' fun h' he hit hsz hk => wpAny_pyIter_enum he ?_
      have I2 : Inv X pins σ H1 { s1 with heap := h' } := I1.kept (t' := s1.toks) hk
      exact ⟨s1.heap.objs.size + 1, [s1.heap.objs.size + 1, s1.heap.objs.size], _, _, H1, rfl, I2, turn_enumT a (s1.heap.objs.size + 1) s1.heap.objs.size, ⟨⟨.none, he⟩, ⟨_, hit, rfl, rfl⟩, Nat.succ_ne_self _⟩, fun b hb => I1.fpOk (fp b hb) (I1.hok.fresh (fp b hb)), q⟩

/-! ### over the data layer -/
variable [HasT]
section
variable {X : Cx} {W : WX} {e : Expr} {es : List Expr} {pos p : Pos} {mr : ME (List D)}
def enumD (xs : List D) : List D := (List.range xs.length).zip xs |>.map fun q => mkTup [.p (.int q.1), q.2]
theorem enumD_get {xs : List D} {i : Nat} {d : D} (h : (enumD xs)[i]? = some d) : ∃ x, xs[i]? = some x ∧ d = mkTup [.p (.int i), x] := by
  unfold enumD at h
  rw [List.getElem?_map] at h
  cases e : ((List.range xs.length).zip xs)[i]? with
  | none => rw [e] at h; cases h
  | some q =>
    rw [e] at h
    cases h
    obtain ⟨k, x⟩ := q
    rw [List.getElem?_zip_eq_some] at e
    obtain ⟨e1, e2⟩ := e
    have hi : i < (List.range xs.length).length := (List.getElem?_eq_some_iff.mp e1).1
    rw [List.getElem?_range (by simpa using hi)] at e1
    cases e1
    exact ⟨x, e2, rfl⟩
theorem enumD_len (xs : List D) : (enumD xs).length = xs.length := by simp [enumD]
def srcEnum : List D → Store → Option (Src × Store)
  | [x], S => match x.tup? with
    | some xs => some (⟨enumD xs, []⟩, S)
    | none => match x.lst? S with
      | some xs => some (⟨enumD xs, watchOf x xs⟩, S)
      | none => none
  | _, _ => none
theorem ite_ok {G : Gb} {F : Addr → Prop} {ι : List Addr} {H : Hp} {S : Store} {d : D} {ds : List D} {a : Addr} (hl : d.lst? S = some ds) (r : RelD G F ι H d (.ref a)) : ItOk G F ι H (Ite G.K a) ⟨enumD ds, watchOf d ds⟩ := fun F' ι' H' S' n w i => by
  obtain ⟨a', vs, e, q, rd⟩ := lst?_rel n.r (lst_later r hl n w) (n.d r)
  cases e
  refine ⟨fun h => ⟨vs, q, ?_⟩, fun x hx => ?_⟩
  · have h' : (enumD ds).length ≤ i := h
    rw [enumD_len, relDs_len rd] at h'
    exact h'
  · obtain ⟨x1, e1, rfl⟩ := enumD_get hx
    obtain ⟨v, hv, rv⟩ := relDs_get rd e1
    refine ⟨⟨vs, v, q, hv⟩, fun y H'' ⟨T, y1, ey, hT, eH, g1⟩ => ?_⟩
    have k1 := g1 vs q
    rw [hv] at k1
    cases k1
    subst ey
    subst eH
    exact ⟨Nxt.fresh n.r hT, rel_newT hT (relDs_cons.mpr ⟨mkInt, relDs_cons.mpr ⟨rv, relDs_nil'⟩⟩)⟩
theorem iteT_ok {G : Gb} {F : Addr → Prop} {ι : List Addr} {H : Hp} {d : D} {ds : List D} {a : Addr} (hl : d.tup? = some ds) (r : RelD G F ι H d (.ref a)) : ItOk G F ι H (IteT G.K a) ⟨enumD ds, []⟩ := fun F' ι' H' S' n w i => by
  obtain ⟨a', vs, e, q, rd⟩ := tup?_rel hl (n.d r)
  cases e
  refine ⟨fun h => ⟨vs, q, ?_⟩, fun x hx => ?_⟩
  · have h' : (enumD ds).length ≤ i := h
    rw [enumD_len, relDs_len rd] at h'
    exact h'
  · obtain ⟨x1, e1, rfl⟩ := enumD_get hx
    obtain ⟨v, hv, rv⟩ := relDs_get rd e1
    refine ⟨⟨vs, v, q, hv⟩, fun y H'' ⟨T, y1, ey, hT, eH, g1⟩ => ?_⟩
    have k1 := g1 vs q
    rw [hv] at k1
    cases k1
    subst ey
    subst eH
    exact ⟨Nxt.fresh n.r hT, rel_newT hT (relDs_cons.mpr ⟨mkInt, relDs_cons.mpr ⟨rv, relDs_nil'⟩⟩)⟩
theorem di_enum {elts : List Expr} {kk : Nat} {tpos : Pos} (hm : X.mg "enumerate" = none) (h : DA X W [e] mr) (hg : Gl X "enumerate" := by rfl) (hs : starEach [e] X.env = [(false, eval e X.env)] := by rfl) :
    DI X W (.Tuple elts kk tpos) (.Call (.Name "enumerate" p) [e] [] pos) (mSrcA srcEnum mr) := PI.imp (pi_enumA hg hm h hs) fun σ H Rr q => by
  obtain ⟨ρ, S, ι, F, at', t⟩ := q
  refine srcA_first at' t fun ds S1 F1 ι1 H1 vs src S2 a1 r1 e z => ?_
  unfold srcEnum at e
  split at e
  · obtain ⟨v, rfl, r⟩ := relDs1 r1
    split at e
    · rename_i xs ex
      cases e
      obtain ⟨a', us, ev, q, rd⟩ := tup?_rel ex r
      subst ev
      exact ⟨a', us, rfl, .inr ⟨q, z _ _ _ (Nxt.refl a1.r) _ (iteT_ok ex r)⟩⟩
    · split at e
      · rename_i xs ex
        cases e
        obtain ⟨a', us, ev, q, rd⟩ := lst?_rel a1.r ex r
        subst ev
        exact ⟨a', us, rfl, .inl ⟨q, z _ _ _ (Nxt.refl a1.r) _ (ite_ok ex r)⟩⟩
      · cases e
  · cases e
end
end DL
set_option maxHeartbeats 2000000
/-! DLMore: max and min of sequences, isinstance, in, index, extend, parallel assignments. -/
namespace DL
open PySem PySem.Spec PyProof.Rows L2

/-! ### max, min of a tuple of ints -/
section
variable {prog : Program} {w : World} {A : Around} {E : Value → Shared → Prop} {s : Shared}
theorem ints_reads {h : Heap} : ∀ {vs : List Value} {ns : List Int}, IntsAre vs ns → ReadsAll h vs (ns.map PyData.int) []
  | _, _, .nil => .nil
  | _, _, .cons n t i => .cons (as := []) (bs := []) (Reads.int n t) (ints_reads i)
theorem ints_alike (n : Int) (ns : List Int) : PySem.W.AlikeAll (.int n :: ns.map .int) := by
  have k : ∀ x ∈ (PyData.int n :: ns.map .int), ∃ i, x = .int i := fun x hx => by
    rcases List.mem_cons.mp hx with rfl | hx
    · exact ⟨n, rfl⟩
    · obtain ⟨i, _, rfl⟩ := List.mem_map.mp hx
      exact ⟨i, rfl⟩
  refine ⟨fun x hx y hy => ?_, fun x hx z => ?_⟩
  · obtain ⟨i, rfl⟩ := k x hx
    obtain ⟨j, rfl⟩ := k y hy
    simp [PySem.W.alike]
  · obtain ⟨i, rfl⟩ := k x hx
    cases z
theorem ints_depth : ∀ (ns : List Int), PyData.depthAll (ns.map .int) = 0
  | [] => by simp [PyData.depthAll]
  | n :: ns => by
    rw [List.map_cons, PyData.depthAll, ints_depth ns]
    simp [PyData.depth]
end
variable [HasT]
section
variable {X : Cx}
def rMxT (K : PySem.W.Frag) : List V → Hp → VK → Prop := fun vs H Q => ∃ (a : Addr) (n : Int) (ns : List Int), vs = [V.ref a] ∧ SqT K H a ((n :: ns).map V.int) ∧ Q (.int (ns.foldl max n)) H
def rMnT (K : PySem.W.Frag) : List V → Hp → VK → Prop := fun vs H Q => ∃ (a : Addr) (n : Int) (ns : List Int), vs = [V.ref a] ∧ SqT K H a ((n :: ns).map V.int) ∧ Q (.int (ns.foldl min n)) H
theorem cr_maxT (hc : X.calm = true) (hu : X.A.units + 65 < cLine) : CallR X (.builtin "max") (rMxT X.K) := by
  intro pins s σ H vs us Q I r h
  obtain ⟨a, n, ns, rfl, hs, q⟩ := h
  obtain ⟨its, rv, hl, _⟩ := I.tuple hs
  rw [Vals.ref1 r]
  have hi := rv.ints
  refine PySem.W.max_tuple_data (x := .int n) (xs := ns.map .int) (I.ok.hd hc) hl (ints_reads hi) (ints_alike n ns) (by rw [show PyData.int n :: ns.map PyData.int = (n :: ns).map PyData.int from rfl, ints_depth]; omega) fun i v h' tk bs hv hr hk => ?_
  rw [PySem.W.maxD_ints] at hr
  cases hr
  exact ⟨.int _, H, I.kept hk, ⟨_, rfl⟩, q⟩
theorem cr_minT (hc : X.calm = true) (hu : X.A.units + 65 < cLine) : CallR X (.builtin "min") (rMnT X.K) := by
  intro pins s σ H vs us Q I r h
  obtain ⟨a, n, ns, rfl, hs, q⟩ := h
  obtain ⟨its, rv, hl, _⟩ := I.tuple hs
  rw [Vals.ref1 r]
  have hi := rv.ints
  refine PySem.W.min_tuple_data (x := .int n) (xs := ns.map .int) (I.ok.hd hc) hl (ints_reads hi) (ints_alike n ns) (by rw [show PyData.int n :: ns.map PyData.int = (n :: ns).map PyData.int from rfl, ints_depth]; omega) fun i v h' tk bs hv hr hk => ?_
  rw [PySem.W.minD_ints] at hr
  cases hr
  exact ⟨.int _, H, I.kept hk, ⟨_, rfl⟩, q⟩
theorem max_uniq {n : Int} {ns : List Int} {m : Int} (h1 : m ∈ n :: ns) (h2 : ∀ y, y ∈ n :: ns → y ≤ m) : m = ns.foldl max n := by
  have a1 : ∀ (ns : List Int) (n : Int), n ≤ ns.foldl max n ∧ (∀ y ∈ ns, y ≤ ns.foldl max n) ∧ (ns.foldl max n = n ∨ ns.foldl max n ∈ ns) := by
    intro ns
    induction ns with
    | nil => intro n; simp
    | cons k ns ih =>
      intro n
      obtain ⟨b1, b2, b3⟩ := ih (max n k)
      have e : (k :: ns).foldl max n = ns.foldl max (max n k) := rfl
      rw [e]
      have c1 : n ≤ max n k := Int.le_max_left _ _
      have c2 : k ≤ max n k := Int.le_max_right _ _
      refine ⟨Int.le_trans c1 b1, fun y hy => ?_, ?_⟩
      · rcases List.mem_cons.mp hy with rfl | hy
        · exact Int.le_trans c2 b1
        · exact b2 y hy
      · rcases b3 with b3 | b3
        · rw [b3]
          by_cases h : n ≤ k
          · exact .inr (by rw [Int.max_eq_right h]; exact List.mem_cons_self)
          · exact .inl (Int.max_eq_left (by omega))
        · exact .inr (List.mem_cons_of_mem _ b3)
  obtain ⟨b1, b2, b3⟩ := a1 ns n
  have hm : ns.foldl max n ∈ n :: ns := by
    rcases b3 with b3 | b3
    · rw [b3]; exact List.mem_cons_self
    · exact List.mem_cons_of_mem _ b3
  have le1 := h2 _ hm
  have le2 : m ≤ ns.foldl max n := by
    rcases List.mem_cons.mp h1 with rfl | h1
    · exact b1
    · exact b2 m h1
  omega
theorem min_uniq {n : Int} {ns : List Int} {m : Int} (h1 : m ∈ n :: ns) (h2 : ∀ y, y ∈ n :: ns → m ≤ y) : m = ns.foldl min n := by
  have a1 : ∀ (ns : List Int) (n : Int), ns.foldl min n ≤ n ∧ (∀ y ∈ ns, ns.foldl min n ≤ y) ∧ (ns.foldl min n = n ∨ ns.foldl min n ∈ ns) := by
    intro ns
    induction ns with
    | nil => intro n; simp
    | cons k ns ih =>
      intro n
      obtain ⟨b1, b2, b3⟩ := ih (min n k)
      have e : (k :: ns).foldl min n = ns.foldl min (min n k) := rfl
      rw [e]
      have c1 : min n k ≤ n := Int.min_le_left _ _
      have c2 : min n k ≤ k := Int.min_le_right _ _
      refine ⟨Int.le_trans b1 c1, fun y hy => ?_, ?_⟩
      · rcases List.mem_cons.mp hy with rfl | hy
        · exact Int.le_trans b1 c2
        · exact b2 y hy
      · rcases b3 with b3 | b3
        · rw [b3]
          by_cases h : n ≤ k
          · exact .inl (Int.min_eq_left h)
          · exact .inr (by rw [Int.min_eq_right (by omega)]; exact List.mem_cons_self)
        · exact .inr (List.mem_cons_of_mem _ b3)
  obtain ⟨b1, b2, b3⟩ := a1 ns n
  have hm : ns.foldl min n ∈ n :: ns := by
    rcases b3 with b3 | b3
    · rw [b3]; exact List.mem_cons_self
    · exact List.mem_cons_of_mem _ b3
  have le1 := h2 _ hm
  have le2 : ns.foldl min n ≤ m := by
    rcases List.mem_cons.mp h1 with rfl | h1
    · exact b1
    · exact b2 m h1
  omega
/-- max(a, b); max(xs) of ints -/
def fMax : FL := fun ds S => match ds with
  | [.p (.int i), .p (.int j)] => some (.p (.int (if j > i then j else i)), S)
  | [x] => (match x.seq? S with
    | some xs => (match intsD xs with
      | some (n :: ns) => some (.p (.int (ns.foldl max n)), S)
      | _ => none)
    | none => none)
  | _ => none
def fMin : FL := fun ds S => match ds with
  | [.p (.int i), .p (.int j)] => some (.p (.int (if j < i then j else i)), S)
  | [x] => (match x.seq? S with
    | some xs => (match intsD xs with
      | some (n :: ns) => some (.p (.int (ns.foldl min n)), S)
      | _ => none)
    | none => none)
  | _ => none
theorem cd_max (hc : X.calm = true) (hu : X.A.units + 65 < cLine) : CallD X (.builtin "max") fMax := ⟨_, (call_max2 hc).or ((cr_max hc).or (cr_maxT hc hu)), fun {F ι S S' H ds d' vs Q} rs r e q => by
  unfold fMax at e
  split at e
  · cases e
    obtain ⟨v, w, rfl, r1, r2⟩ := relDs2 r
    cases relInt r1
    cases relInt r2
    exact .inl ⟨_, _, rfl, q F ι H _ (Nxt.refl rs) mkInt⟩
  · obtain ⟨v, rfl, r1⟩ := relDs1 r
    split at e
    · rename_i xs ex
      split at e
      · rename_i n ns en
        cases e
        obtain ⟨p, us, rfl, q1, rd⟩ := seq?_rel rs ex r1
        rw [ints_eq en] at rd
        rw [relInts rd] at q1
        rcases q1 with q1 | q1
        · refine .inr (.inl ⟨p, _, rfl, q1, by simp, fun m h1 h2 => ?_⟩)
          rw [max_uniq h1 h2]
          exact q F ι H _ (Nxt.refl rs) mkInt
        · exact .inr (.inr ⟨p, n, ns, rfl, q1, q F ι H _ (Nxt.refl rs) mkInt⟩)
      · cases e
    · cases e
  · cases e⟩
theorem cd_min (hc : X.calm = true) (hu : X.A.units + 65 < cLine) : CallD X (.builtin "min") fMin := ⟨_, (call_min2 hc).or ((cr_min hc).or (cr_minT hc hu)), fun {F ι S S' H ds d' vs Q} rs r e q => by
  unfold fMin at e
  split at e
  · cases e
    obtain ⟨v, w, rfl, r1, r2⟩ := relDs2 r
    cases relInt r1
    cases relInt r2
    exact .inl ⟨_, _, rfl, q F ι H _ (Nxt.refl rs) mkInt⟩
  · obtain ⟨v, rfl, r1⟩ := relDs1 r
    split at e
    · rename_i xs ex
      split at e
      · rename_i n ns en
        cases e
        obtain ⟨p, us, rfl, q1, rd⟩ := seq?_rel rs ex r1
        rw [ints_eq en] at rd
        rw [relInts rd] at q1
        rcases q1 with q1 | q1
        · refine .inr (.inl ⟨p, _, rfl, q1, by simp, fun m h1 h2 => ?_⟩)
          rw [min_uniq h1 h2]
          exact q F ι H _ (Nxt.refl rs) mkInt
        · exact .inr (.inr ⟨p, n, ns, rfl, q1, q F ι H _ (Nxt.refl rs) mkInt⟩)
      · cases e
    · cases e
  · cases e⟩

/-! ### x in xs, x not in xs -/
/-! ### xs.index(i), ints; xs.extend(ys) -/
def fExtend : FM := fun x ys S => match x.mut? S, ys with
  | some (n, xs), [y] => (match y.own? S with
    | some zs => if xs.length + zs.length ≤ 100000 then (match putL n (xs ++ zs) S with
      | some S' => some (.p .non, S')
      | none => none) else none
    | none => none)
  | _, _ => none
/-! ### isinstance with a built-in class -/
def D.tyOf? (d : D) (S : Store) : Option String := match d with
  | .p .non => some "NoneType"
  | .p (.bl _) => some "bool"
  | .p (.int _) => some "int"
  | .p (.str _) => some "str"
  | .p (.tup _) => some "tuple"
  | .t _ => some "tuple"
  | .p (.lst _) => some "list"
  | .p (.scr _) => some "list"
  | .p (.dic _) => some "dict"
  | .r n => (match S.objs[n]? with
    | some (.lst _) => some "list"
    | some (.dct _) => some "dict"
    | some (.dit _) => some "dict"
    | _ => none)
  | _ => none
theorem sqT_ty {K : PySem.W.Frag} {H : Hp} {a : Addr} {vs : List V} (h : SqT K H a vs) : TyX K H (.ref a) (.type "tuple") := by
  rcases h with h | ⟨o, its, n, hk, hc, _⟩
  · rcases h with h | ⟨o, h⟩
    · exact .base (.tup h)
    · exact .fTuple h
  · exact .kTuple hk hc
theorem sqC_ty {K : PySem.W.Frag} {H : Hp} {a : Addr} {vs : List V} (h : SqC K H a vs) : TyX K H (.ref a) (.type "list") := by
  rcases h with ⟨o, h⟩ | ⟨o, its, n, hk, hc, _⟩
  · exact .base (.frz h)
  · exact .kList hk hc
theorem tyOf_rel {G : Gb} {F : Addr → Prop} {ι : List Addr} {S : Store} {H : Hp} {d : D} {t : String} {v : V} (rs : R G F ι S H) (e : d.tyOf? S = some t) (r : RelD G F ι H d v) : TyX G.K H v (.type t) := by
  cases d with
  | p x =>
    simp only [RelD] at r
    cases x with
    | non => simp only [RelP] at r; subst r; cases e; exact .base .non
    | bl b => simp only [RelP] at r; subst r; cases e; exact .base (.bl b)
    | int b => simp only [RelP] at r; subst r; cases e; exact .base (.int b)
    | str b => simp only [RelP] at r; subst r; cases e; exact .base (.str b)
    | tup xs => simp only [RelP] at r; obtain ⟨a, vs, rfl, q, _⟩ := r; cases e; exact sqT_ty (SqT.of q)
    | lst xs => simp only [RelP] at r; obtain ⟨a, vs, rfl, _, q, _⟩ := r; cases e; exact .base (.lst q)
    | scr xs => simp only [RelP] at r; obtain ⟨a, vs, rfl, q, _⟩ := r; cases e; exact sqC_ty q
    | dic xs => simp only [RelP] at r; obtain ⟨a, vs, rfl, _, q, _⟩ := r; cases e; exact .base (.dK q)
    | dit xs => cases e
    | ins c xs => cases e
    | glo x => cases e
    | ty x => cases e
  | t xs => simp only [RelD] at r; obtain ⟨a, vs, rfl, q, _⟩ := r; cases e; exact sqT_ty (SqT.of q)
  | r n =>
    simp only [D.tyOf?] at e
    split at e
    · rename_i ds eo
      cases e
      simp only [RelD] at r
      obtain ⟨a, rfl, ea⟩ := r
      obtain ⟨vs, hv, rv⟩ := rs.ob n a _ ea eo
      exact .base (.lst hv)
    · rename_i ds eo
      cases e
      simp only [RelD] at r
      obtain ⟨a, rfl, ea⟩ := r
      obtain ⟨vs, hv, rv⟩ := rs.ob n a _ ea eo
      exact .base (.dK hv)
    · rename_i ds eo
      cases e
      simp only [RelD] at r
      obtain ⟨a, rfl, ea⟩ := r
      obtain ⟨vs, hv, rv⟩ := rs.ob n a _ ea eo
      exact .base (.dT hv)
    · cases e
def tyNames : List String := ["NoneType", "bool", "int", "str", "tuple", "list", "dict"]
def isiB (a b : String) : Bool := a == b || (a == "bool" && b == "int")
theorem isiB_ok {a b : String} (h : (tyNames.contains a && tyNames.contains b && b != "NoneType") = true) : kitB a b = some (isiB a b) := by
  have all : tyNames.all (fun a => tyNames.all fun b => b == "NoneType" || decide (kitB a b = some (isiB a b))) = true := by decide +kernel
  simp only [Bool.and_eq_true, List.contains_iff_mem, bne_iff_ne, ne_eq] at h
  have h1 := List.all_eq_true.mp all a h.1.1
  have h2 := List.all_eq_true.mp h1 b h.1.2
  simp only [Bool.or_eq_true, beq_iff_eq, decide_eq_true_eq] at h2
  exact h2.resolve_left h.2
def fIsi : FL := fun ds S => match ds with
  | [x, .p (.ty b)] => (match x.tyOf? S with
    | some a => if (tyNames.contains a && tyNames.contains b && b != "NoneType") = true then some (.p (.bl (isiB a b)), S) else none
    | none => none)
  | _ => none
theorem cd_isi : CallD X (.builtin "isinstance") fIsi := ⟨_, call_isi, fun {F ι S S' H ds d' vs Q} rs r e q => by
  unfold fIsi at e
  split at e
  · rename_i x b
    split at e
    · rename_i a ea
      split at e
      · rename_i hh
        cases e
        obtain ⟨v, w, rfl, r1, r2⟩ := relDs2 r
        cases relTy r2
        exact ⟨v, .ty b, .type a, .type b, _, rfl, .ty b, tyOf_rel rs ea r1, kit_ty (isiB_ok hh), q F ι H _ (Nxt.refl rs) mkBl⟩
      · cases e
    · cases e
  · cases e⟩
/-- a built-in class's name -/
theorem de_tyn {W : WX} {x : Str} {n : String} {pos : Pos} (hm : X.mg x = none) (hv : bootBuiltins x = some (.type n)) (hg : Gl X x := by rfl) (hn : x ≠ "__name__" := by decide) (hdb : (x == ("__debug__" : Str)) = false := by decide) : DE X W (.Name x pos) (mC (.ty n)) :=
  PE.imp (pe_bltn (v := .ty n) hg hm hv rfl hn hdb) fun σ H Q q => T_c (fun _ _ => by simp only [RelP]) q

/-! ### sorted(x, reverse=b) -/
theorem de_srtR {W : WX} {e : Expr} {m : ME D} {b : Bool} {fin : FL} {j : Nat} {p p2 pos kp : Pos} (n : NewL X fin) (hm : X.mg "sorted" = none) (hb : bootBuiltins "sorted" = some (.builtin "sorted")) (h : DE X W e m) (hg : Gl X "sorted" := by rfl)
    (hs : starEach [e] X.env = (false, eval e X.env) :: starEach [] X.env := by rfl)
    (he : backTo pos (starEach [e] X.env) = (false, eval e X.env) :: backTo pos (starEach [] X.env) := by rfl) (hpl : (backTo pos (starEach [e] X.env)).any (·.1) = false := by rfl)
    (hk : PK X [⟨some "reverse", .Constant (.bool b) j p2, kp⟩] (fun σ H Q => Q [.bl b] H) := pk_cons pe_bl pk_nil)
    (hall : (backToKw pos (keywordEach [⟨some "reverse", .Constant (.bool b) j p2, kp⟩] X.env)).all (·.1.isSome) = true := by rfl) (hnone : (backToKw pos (keywordEach [⟨some "reverse", .Constant (.bool b) j p2, kp⟩] X.env)).any (·.1.isNone) = false := by rfl)
    (hks : (backToKw pos (keywordEach [⟨some "reverse", .Constant (.bool b) j p2, kp⟩] X.env)).filterMap (·.1) = [Str.ofString "reverse"] := by rfl) :
    DE X W (.Call (.Name "sorted" p) [e] [⟨some "reverse", .Constant (.bool b) j p2, kp⟩] pos) (mCallB (fSrt b fin) (mCons m mNil)) :=
  PE.imp (pe_callBK cr_srtR hg hm hb (da_cons h da_nil hs) hk (by decide) (by decide) he hpl hall hnone hks) fun σ H Q q => by
    obtain ⟨ρ, S, ι, F, at', t⟩ := q
    refine TL.first at' t fun ds S1 F1 ι1 H1 vs n1 a1 r1 t1 => ?_
    obtain ⟨d', S', e, q⟩ := lift_then t1
    exact ⟨rfl, srt_imp n a1.r r1 e fun F' ι' H' v n r => q F' ι' H' n v r⟩

/-! ### a, b = e1, e2 -/
variable {W : WX} {pos : Pos}
def gPar (is : List Nat) (ds : List D) (ρ : Env) : Env := (is.zip ds).foldl (fun ρ q => ρ.set q.1 (some q.2)) ρ
def mPar (is : List Nat) (m : ME (List D)) : MS := fun ρ S => (m ρ S).bind fun ds S => if ds.length = is.length then .ok (.nx (gPar is ds ρ)) S else .stuck
theorem TL.firstS {G : Gb} {W : WX} {α : Type} {F : Addr → Prop} {ι : List Addr} {σ : L2.St} {ρ : Env} {S : Store} {H : Hp} {m : ME (List D)} {k : List D → M α} {Q : α → Store → (Addr → Prop) → List Addr → Hp → Prop} {Q' : List V → Hp → Prop}
    (a : At G F ι H σ ρ S) (h : Then G (WS W) F ι H ((m ρ S).bind k) Q)
    (q : ∀ d S1 F1 ι1 H1 v, Nxt G F ι H F1 ι1 S1 H1 → At G F1 ι1 H1 σ ρ S1 → RelDs G F1 ι1 H1 d v → Then G (WS W) F1 ι1 H1 (k d S1) Q → Q' v H1) : TL G W m σ H Q' :=
  ⟨ρ, S, ι, F, a, Then.wimp (h.bind.mono fun d S1 F1 ι1 H1 n t v r => q d S1 F1 ι1 H1 v n (a.next n) r t) fun c d H' w => w σ⟩
theorem ds_par2 (i j : Nat) {x y : Str} {a b : Expr} {ta : ME (List D)} {px py pt : Pos} {kt k2 pt2} (hc : X.calm = true) (hN : X.N.Nodup) (ha : DA X W [a, b] ta)
    (hw : swappedStores [.Tuple [.Name x px, .Name y py] kt pt] (.Tuple [a, b] k2 pt2) X.env = pure (some [x, y]) := by rfl)
    (hi : X.N[i]? = some x := by rfl) (hj : X.N[j]? = some y := by rfl) (hij : i ≠ j := by decide)
    (hx : X.env.scope.names.lookup x = some .local := by rfl) (hy : X.env.scope.names.lookup y = some .local := by rfl)
    (hs : swapsWithSole [.Tuple [.Name x px, .Name y py] kt pt] (.Tuple [a, b] k2 pt2) pos.line X.env = pure false := by rfl) :
    DS X W (.Assign [.Tuple [.Name x px, .Name y py] kt pt] (.Tuple [a, b] k2 pt2) pos) (mPar [i, j] ta) := PS.imp (ps_par hc hN hi hj hij hx hy ha hw hs) fun E σ H q => by
  obtain ⟨ρ, S, ι, F, a, t⟩ := q
  refine TL.firstS a t fun ds S1 F1 ι1 H1 vs n a1 r t1 => ?_
  split at t1
  · rename_i hl
    match ds, hl, r, t1 with
    | [d, e], _, r, t1 =>
      obtain ⟨v, w, rfl, r1, r2⟩ := relDs2 r
      exact ⟨v, w, rfl, t1.now a1.r _ (by simp) ((a1.e.set r1 i).set r2 j)⟩
  · exact t1.elim
theorem ds_par3 (i j l : Nat) {x y z : Str} {a b c : Expr} {ta : ME (List D)} {px py pz pt : Pos} {kt k2 pt2} (hc : X.calm = true) (hN : X.N.Nodup) (ha : DA X W [a, b, c] ta)
    (hw : swappedStores [.Tuple [.Name x px, .Name y py, .Name z pz] kt pt] (.Tuple [a, b, c] k2 pt2) X.env = pure (some [x, y, z]) := by rfl)
    (hi : X.N[i]? = some x := by rfl) (hj : X.N[j]? = some y := by rfl) (hl : X.N[l]? = some z := by rfl) (hij : i ≠ j := by decide) (hil : i ≠ l := by decide) (hjl : j ≠ l := by decide)
    (hx : X.env.scope.names.lookup x = some .local := by rfl) (hy : X.env.scope.names.lookup y = some .local := by rfl) (hz : X.env.scope.names.lookup z = some .local := by rfl)
    (hs : swapsWithSole [.Tuple [.Name x px, .Name y py, .Name z pz] kt pt] (.Tuple [a, b, c] k2 pt2) pos.line X.env = pure false := by rfl) :
    DS X W (.Assign [.Tuple [.Name x px, .Name y py, .Name z pz] kt pt] (.Tuple [a, b, c] k2 pt2) pos) (mPar [i, j, l] ta) := PS.imp (ps_par3 hc hN hi hj hl hij hil hjl hx hy hz ha hw hs) fun E σ H q => by
  obtain ⟨ρ, S, ι, F, a, t⟩ := q
  refine TL.firstS a t fun ds S1 F1 ι1 H1 vs n a1 r t1 => ?_
  split at t1
  · rename_i hl
    match ds, hl, r, t1 with
    | [d, e, f], _, r, t1 =>
      obtain ⟨v, w, u, rfl, r1, r2, r3⟩ := relDs3 r
      exact ⟨v, w, u, rfl, t1.now a1.r _ (by simp) (((a1.e.set r1 i).set r2 j).set r3 l)⟩
  · exact t1.elim
/-! ### what is never reached -/
end
end DL
set_option maxHeartbeats 4000000
/-! DLDict: written dicts that stay as they are; a tuple once, no times. -/
namespace DL
open PySem PySem.Spec PyProof.Rows L2

/-! ### a tuple once, or no times -/
theorem tuple_mul1 (l : Addr) (items : Array Value) (n : Nat) (sl : Array (Option Value)) (dd : Option Addr) (x : Int) (u : Tok) (c0 : (decide (x < -(2 ^ 63)) || decide (x ≥ 2 ^ 63)) = false) (c1 : (items.isEmpty || x == 1) = true) :
    Meets (Builtin.«tuple.__mul__» ⟨[.ref l, .int x u], []⟩) (fun _ R s => s.heap.get? l = some { cls := .type "tuple", dict := dd, data := .seq items n, slots := sl } ∧ R (.ok (.ret (Value.ref l))) s) :=
  .of_wp fun prog w A R s h => by
    obtain ⟨hp, g, d, tk, os⟩ := s
    obtain ⟨hl, h⟩ := h
    have f1 := AutoSeq1.idx_int
    wp_walk using wpAny_loadPart' hl
    repeat (first
      | (refine wpAny_ite_false (decide_eq_false (by rw [c0]; exact Bool.false_ne_true)) ?_; wp_walk using wpAny_loadPart' hl)
      | (refine wpAny_ite_true (decide_eq_true (by rw [c1])) ?_; wp_walk using wpAny_loadPart' hl)
      | (rw [if_pos c1]; wp_walk using wpAny_loadPart' hl))
    exact ⟨_, rfl, h⟩
theorem tuple_mul0 (l : Addr) (items : Array Value) (n : Nat) (sl : Array (Option Value)) (dd : Option Addr) (x : Int) (u : Tok) (c0 : (decide (x < -(2 ^ 63)) || decide (x ≥ 2 ^ 63)) = false) (c1 : (items.isEmpty || x == 1) = false) (c2 : (decide (x ≤ 0) || items.isEmpty) = true) :
    Meets (Builtin.«tuple.__mul__» ⟨[.ref l, .int x u], []⟩) (fun _ R s => s.heap.get? l = some { cls := .type "tuple", dict := dd, data := .seq items n, slots := sl } ∧
      R (.ok (.ret (Value.ref s.heap.objs.size))) { s with heap := s.heap.push { cls := Value.type "tuple", data := Data.seq #[] }, toks := s.toks }) :=
  .of_wp fun prog w A R s h => by
    obtain ⟨hp, g, d, tk, os⟩ := s
    obtain ⟨hl, h⟩ := h
    have f1 := AutoSeq1.idx_int
    wp_walk using wpAny_loadPart' hl
    repeat (first
      | (refine wpAny_ite_false (decide_eq_false (by rw [c0]; exact Bool.false_ne_true)) ?_; wp_walk using wpAny_loadPart' hl)
      | (refine wpAny_ite_false (decide_eq_false (by rw [c1]; exact Bool.false_ne_true)) ?_; wp_walk using wpAny_loadPart' hl)
      | (refine wpAny_ite_true (decide_eq_true (by rw [c2])) ?_; wp_walk using wpAny_loadPart' hl)
      | (rw [if_pos c2]; wp_walk using wpAny_loadPart' hl))
    exact ⟨_, rfl, h⟩
variable [HasT]
section
variable {X : Cx} {W : WX} {pos : Pos}
def rRep1 (K : PySem.W.Frag) : R2 := fun x y H Q => ∃ l k xs, x = .ref l ∧ y = .int k ∧ SqT K H l xs ∧ -1000 ≤ k ∧ k ≤ 1 ∧ ((k = 1 ∨ xs = []) → Q (.ref l) H) ∧ (k ≤ 0 → xs ≠ [] → ∀ p, H p = none → Q (.ref p) (upd H p (.tup [])))
theorem op_rep1 : OpR X (binaryOp .Mult) (rRep1 X.K) := by
  intro pins s σ H x y v u Q I rx ry h
  obtain ⟨l, k, xs, rfl, rfl, hT, h1, h2, q1, q2⟩ := h
  cases rx
  obtain ⟨t, rfl⟩ := ry
  obtain ⟨its, r, ⟨⟨cls, dd, data, sl⟩, ho, hc, n, hd⟩, hs⟩ := I.tuple hT
  simp only at hc hd
  subst hc hd
  have hle : its.length = xs.length := r.length.symm
  have c0 : (decide (k < -(2 ^ 63)) || decide (k ≥ 2 ^ 63)) = false := by
    rw [decide_eq_false (by omega), decide_eq_false (by omega)] <;> rfl
  refine wpAny_binaryOp_repeat_ref (T := "tuple") (U := "int") (by decide) ⟨_, ho, rfl⟩ (fun s' => typeIs_int s' k t) noFill_tuple_mul F.fills_int_mul F.slot_int_rmul repeat_tuple F.slot_int_index.lookup
    (call_meets F.slot_int_rmul (typeIs_int s k t) F.entry_int_rmul (F.args_int_rmul_2 _ _) (int_rmul_tuple k t l its.toArray n dd sl)
      ⟨ho, rfl, ⟨_, ho, rfl⟩, ?_⟩)
  by_cases hx : k = 1 ∨ xs = []
  · have c1 : (its.toArray.isEmpty || k == 1) = true := by
      rcases hx with hx | hx
      · rw [hx]; simp
      · subst hx
        have : its = [] := List.eq_nil_of_length_eq_zero hle
        rw [this]
        rfl
    exact call_meets F.slot_tuple_mul ⟨_, ho, rfl⟩ F.entry_tuple_mul (F.args_tuple_mul_2 _ _) (tuple_mul1 l its.toArray n sl dd k t c0 c1) ⟨ho, ⟨.ref l, H, I, rfl, q1 hx⟩⟩
  · have hk : k ≤ 0 := by
      have : k ≠ 1 := fun z => hx (.inl z)
      omega
    have hn : xs ≠ [] := fun z => hx (.inr z)
    have hn2 : its ≠ [] := fun e => hn (List.eq_nil_of_length_eq_zero (by rw [← hle, e]; rfl))
    have hi : its.toArray.isEmpty = false := by
      cases its with
      | nil => exact absurd rfl hn2
      | cons a b => rfl
    have c1 : (its.toArray.isEmpty || k == 1) = false := by
      rw [hi, Bool.false_or]
      exact beq_eq_false_iff_ne.mpr (by omega)
    have c2 : (decide (k ≤ 0) || its.toArray.isEmpty) = true := by
      rw [decide_eq_true hk]
      rfl
    refine call_meets F.slot_tuple_mul ⟨_, ho, rfl⟩ F.entry_tuple_mul (F.args_tuple_mul_2 _ _) (tuple_mul0 l its.toArray n sl dd k t c0 c1 c2) ⟨ho, ?_⟩
    exact ⟨.ref s.heap.objs.size, _, I.laid (t' := s.toks) (o := .tup []) (fun b ob q => Heap.get?_push_of_some _ q) (Nat.le_refl _) ⟨Nat.zero_le _, [], .nil, IsTup.new _ _⟩, rfl, q2 hk hn _ (I.hok.fresh (Nat.le_refl _))⟩
def fRep1 : F2 := fun x y S => match x.tup?, y with
  | some a, .p (.int k) => if (decide (-1000 ≤ k) && decide (k ≤ 1)) = true then (if k = 1 ∨ a = [] then some (mkTup a, S) else some (mkTup [], S)) else none
  | _, _ => none
theorem od_rep1 : OpD X (binaryOp .Mult) fRep1 := ⟨_, op_rep1, fun {F ι S S' H d1 d2 d' v1 v2 Q} rs r1 r2 e q => by
  unfold fRep1 at e
  split at e
  · rename_i a k ea
    split at e
    · rename_i h
      simp only [Bool.and_eq_true, decide_eq_true_eq] at h
      obtain ⟨p1, vs, rfl, q1, rd1⟩ := tup?_relH ea r1
      cases relInt r2
      have hl := relDs_len rd1
      refine ⟨p1, k, vs, rfl, rfl, SqT.of q1, h.1, h.2, fun hx => ?_, fun hk hn p hp => ?_⟩
      · have hx' : k = 1 ∨ a = [] := hx.imp id fun z => by
          subst z
          simpa using hl
        rw [if_pos hx'] at e
        cases e
        exact q F ι _ _ (Nxt.refl rs) (mkTup_rel q1 rd1)
      · have hx' : ¬ (k = 1 ∨ a = []) := fun z => z.elim (fun z => by omega) fun z => hn (by
          subst z
          exact List.eq_nil_of_length_eq_zero hl.symm)
        rw [if_neg hx'] at e
        cases e
        exact q F ι _ _ (Nxt.fresh rs hp) (rel_newT hp relDs_nil')
    · cases e
  · cases e⟩
/-- a * b: ints, tuples by any small number, lists -/
def fMulA (fin : FL) : F2 := fun x y S => match fRep1 x y S with
  | some z => some z
  | none => fMulG fin x y S
theorem od_mulA {fin : FL} (n : NewL X fin) : OpD X (binaryOp .Mult) (fMulA fin) := od_rep1.or (od_mulI.or (od_repT.or (od_repL n)))

/-! ### {} and {k: v} of ints -/
end
end DL
set_option maxHeartbeats 4000000
/-! DLEnd: the law at its caller. -/
namespace DL
open PySem PySem.Spec PyProof.Rows L2 LamX
theorem CX_no {P : Program} {w : World} {H : Hp} {s : Shared} {e : Value} {s' : Shared} {α : Prop} (h : L2.CX P w [] H s (fun _ _ _ => False) e s') : α := by
  obtain ⟨_, _, _, _, _, _, _, _, _, _, _, _, z⟩ := h
  exact z.elim
theorem end_call {P : Program} {w : World} {K : PySem.W.Frag} {mg mb : Str → Option Value} {k : Nat} {fa a : Addr} {cs : List (Addr × Addr)} {fd : FuncData} {x : Str} {sp : Sp} {s₁ : Shared} {vs : List Value} {ns : List Int}
    (KX : K.In s₁.heap) (hns : s₁.heap.Ns mainGlobals mg) (hb : s₁.heap.Ns builtinsNs mb) (hbb : ∀ x : Str, x ≠ "__name__" → mb x = bootBuiltins x) (hlim : s₁.heap.NoLimit) (hg : s₁.gens = #[])
    (hT : ∀ p ∈ cs, s₁.heap.get? p.2 = some { cls := .none, data := .fields #[] }) (nT : ∀ p ∈ cs, K.lookup p.2 = none) (C : ∀ p ∈ cs, PySem.W.CodeHd s₁.heap p.1 p.2)
    (hbm : ∃ (bm : Addr) (ob : Obj), mg "__builtins__" = some (.ref bm) ∧ bm ≠ builtinsNs ∧ s₁.heap.get? bm = some ob ∧ ob.cls = .type "module" ∧ ob.dict = some builtinsNs ∧ ob.data = .plain)
    (ha : s₁.heap.get? a = some { cls := .type "list", data := .seq vs.toArray }) (hi : IntsAre vs ns) (hl : ns.length ≤ sizeLine) (hr : Room k callerA)
    (F : ∀ base : Heap, K.In base → base.Ns mainGlobals mg → (∀ p ∈ cs, TabB base mg p.1 p.2) → FnOkG P w K mg base k fa fd [x] sp) (hbind : ∀ (s : Shared) (u : Value), BindsTo s fd ⟨[u], []⟩ [(x, u)])
    (hsp : ∀ H : Hp, (∀ p ∈ cs, H p.2 = some (.tbl #[])) → SqC K H a (ns.map V.int) → sp [.ref a] H (fun v _ => v = .bl true) fun _ _ _ => False) :
    codeAny (model P w) callerA (.call (.ref fa) ⟨[.ref a], []⟩) (fun r s' => r = .ok (.ret (.bool true)) ∧ OldK s₁.heap s'.heap ∧ s'.os = s₁.os ∧ AllBare s'.gens) s₁ := by
  have rv := vals_ints hi
  have lenV := hi.length
  have isT : ∀ b : Addr, b ∈ cs.map (·.2) → s₁.heap.get? b = some { cls := .none, data := .fields #[] } := fun b hb => by
    obtain ⟨p, hp, e⟩ := List.mem_map.mp hb
    rw [← e]
    exact hT p hp
  have aT : a ∉ cs.map (·.2) := fun z => by
    have q := isT a z
    rw [ha] at q
    have z' : Data.seq vs.toArray _ = Data.fields #[] := congrArg Obj.data (Option.some.inj q)
    cases z'
  have memT : ∀ p ∈ cs, p.2 ∈ cs.map (·.2) := fun p hp => List.mem_map.mpr ⟨p, hp, rfl⟩
  -- from an abstract heap in which nothing but the script and the tables may be tracked
  have core : ∀ H : Hp, (∀ p ∈ cs, H p.2 = some (.tbl #[])) → (∀ b, H b = none ∨ b ∈ cs.map (·.2) ∨ ∃ o xs, H b = some (.frz o (.lst xs))) → SqC K H a (ns.map V.int) → HOk P w H s₁.heap → (∀ b, H b ≠ none → b = a ∨ b ∈ cs.map (·.2)) → (H a ≠ none → K.lookup a = none) →
      codeAny (model P w) callerA (.call (.ref fa) ⟨[.ref a], []⟩) (fun r s' => r = .ok (.ret (.bool true)) ∧ OldK s₁.heap s'.heap ∧ s'.os = s₁.os ∧ AllBare s'.gens) s₁ := by
    intro H hH hO hS hok hA hK
    have base_of : ∀ {b : Addr} {o : Obj}, s₁.heap.get? b = some o → H b = none → (hidT s₁.heap H).get? b = some o := fun e n => hidT_get e n
    have noD : ∀ {b : Addr} {o : Obj}, s₁.heap.get? b = some o → (∀ vs n, o.data ≠ .seq vs n) → o.data ≠ .fields #[] → H b = none := fun {b o} e h1 h2 => by
      cases q : H b with
      | none => rfl
      | some u =>
        rcases hA b (by rw [q]; simp) with e' | e'
        · rw [e', ha] at e
          cases e
          exact (h1 _ _ rfl).elim
        · rw [isT b e'] at e
          cases e
          exact (h2 rfl).elim
    have noA : ∀ {b : Addr} {o : Obj} {es : Array DictEntry} {ep : Nat}, s₁.heap.get? b = some o → o.data = .dict es ep → H b = none := fun {b o es ep} e d => by
      refine noD e (fun vs n z => ?_) fun z => ?_
      · rw [d] at z
        cases z
      · rw [d] at z
        cases z
    have nsK : ∀ {b : Addr} {m : Str → Option Value}, s₁.heap.Ns b m → (hidT s₁.heap H).Ns b m := fun {b m} ⟨o, es, ep, e, d, r⟩ => ⟨o, es, ep, base_of e (noA e d), d, r⟩
    have hKb : K.In (hidT s₁.heap H) := fun b o e => base_of (KX b o e) (by
      cases q : H b with
      | none => rfl
      | some u =>
        rcases hA b (by rw [q]; simp) with e' | e'
        · rw [e'] at e q
          rw [hK (by rw [q]; simp)] at e
          cases e
        · obtain ⟨p, hp, ep⟩ := List.mem_map.mp e'
          rw [← ep, nT p hp] at e
          cases e)
    have hM : L2.Mod K mg (hidT s₁.heap H) := ⟨hKb, nsK hns, ⟨mb, nsK hb, hbb⟩, let ⟨mc, h1, h2⟩ := hlim; ⟨mc, nsK h1, h2⟩⟩
    have TB : ∀ p ∈ cs, TabB (hidT s₁.heap H) mg p.1 p.2 := fun p hp => by
      have hTp := hT p hp
      refine ⟨?_, ?_, fun z => ?_⟩
      · obtain ⟨o, us, file, tf, flags, tg, inF, text, tt, e1, r1, r2, r3, r4, r5, r6, r7, r8, hne⟩ := C p hp
        refine ⟨o, us, file, tf, flags, tg, inF, text, tt, base_of e1 (noD e1 (fun vs n z => ?_) fun z => ?_), r1, r2, r3, r4, r5, r6, r7, r8, hne⟩
        · rw [r2] at z
          cases z
        · rw [r2] at z
          cases z
          simp at r3
      · obtain ⟨bm, ob, b1, b2, b3, b4, b5, b6⟩ := hbm
        have nG : bm ≠ mainGlobals := fun q => by
          obtain ⟨o, es, ep, e, hd, _⟩ := hns
          rw [q, e] at b3
          cases b3
          rw [hd] at b6
          cases b6
        have nP : bm ≠ p.2 := fun q => by
          rw [q, hTp] at b3
          cases b3
          cases b6
        refine ⟨bm, ob, b1, b2, nG, nP, base_of b3 (noD b3 (fun vs n z => ?_) fun z => ?_), b4, b5, b6⟩
        · rw [b6] at z
          cases z
        · rw [b6] at z
          cases z
      · obtain ⟨o, es, ep, e, hd, _⟩ := hns
        rw [z, hTp] at e
        cases e
        cases hd
    have e0 : Env0 P w K mg (hidT s₁.heap H) callerA [] s₁ H := ⟨rfl, hM, fun b o e => of_hidT e, Nat.le_of_eq (hidT_size _ _), trivial, fun b hb => absurd (show b ∈ ([] : List Addr) from hb) (by simp), hok, .of_eq hg⟩
    refine codeAny_mono ((F _ hKb (nsK hns) TB).run callerA [] s₁ H ⟨[.ref a], []⟩ [.ref a] [.ref a] _ _ hr rfl e0 (hbind s₁ (.ref a)) (.cons rfl .nil) (hsp H hH hS)) fun r s' h => ?_
    cases r with
    | error e => exact CX_no h
    | ok fl =>
      cases fl with
      | next => exact False.elim h
      | brk => exact False.elim h
      | cont => exact False.elim h
      | ret u =>
        obtain ⟨v, H', os, bare, un, hok', r', q⟩ := h
        have q' : v = .bl true := q
        subst q'
        obtain rfl : u = Value.bool true := r'
        have key : ∀ b o, b ∉ cs.map (·.2) → s₁.heap.get? b = some o → s'.heap.get? b = some o := fun b o nb e => by
          cases q : H b with
          | none => exact un.keep b o e q (by intro z; exact absurd (show b ∈ ([] : List Addr) from z) (by simp)) (by simp)
          | some u =>
            rcases hO b with z | z | ⟨ob, xs, z⟩
            · rw [q] at z; cases z
            · exact absurd z nb
            · have z2 := un.frzs b ob _ z
              obtain ⟨e1, _⟩ := hok b _ z
              obtain ⟨e2, _⟩ := hok' b _ z2
              rw [e] at e1; cases e1
              exact e2
        have grown : ∀ p ∈ cs, ∃ more : Array Value, s'.heap.get? p.2 = some { cls := .none, data := .fields more } := fun p hp => by
          obtain ⟨more, z⟩ := un.tbls p.2 #[] (hH p hp)
          exact ⟨_, hok' p.2 _ z⟩
        refine ⟨rfl, ⟨fun b o e => ?_, fun b o e => ?_⟩, os, bare⟩
        · by_cases hb : b ∈ cs.map (·.2)
          · obtain ⟨p, hp, ep⟩ := List.mem_map.mp hb
            obtain ⟨more, hm⟩ := grown p hp
            rw [← ep] at e ⊢
            rw [hT p hp] at e
            cases e
            exact .inr (.inl ⟨((C p hp).tab (hT p hp)).isCodeTable, rfl, #[], more, rfl, by rw [Array.empty_append]; exact hm⟩)
          · exact .inl (key b o hb e)
        · by_cases hb : b ∈ cs.map (·.2)
          · obtain ⟨p, hp, ep⟩ := List.mem_map.mp hb
            obtain ⟨more, hm⟩ := grown p hp
            rw [← ep]
            exact ⟨_, hm⟩
          · exact ⟨o, key b o hb e⟩
  cases hk : K.lookup a with
  | some o =>
    have e := KX a o hk
    rw [ha] at e
    cases e
    refine core (fun b => if b ∈ cs.map (·.2) then some (.tbl #[]) else none) (fun p hp => if_pos (memT p hp)) (fun b => ?_) (.inr ⟨_, vs.toArray, _, hk, rfl, rfl, rfl, by rw [List.size_toArray, lenV]; exact hl, by simpa using rv⟩) (fun b u z => ?_) (fun b z => ?_) fun z => absurd (show (if a ∈ cs.map (·.2) then some (HO.tbl #[]) else none) = none from if_neg aT) z
    · by_cases hb : b ∈ cs.map (·.2)
      · exact .inr (.inl hb)
      · exact .inl (if_neg hb)
    · by_cases hb : b ∈ cs.map (·.2)
      · have z' := (if_pos hb).symm.trans z
        cases z'
        exact isT b hb
      · have z' := (if_neg hb).symm.trans z
        cases z'
    · by_cases hb : b ∈ cs.map (·.2)
      · exact .inr hb
      · exact absurd (if_neg hb) z
  | none =>
    refine core (fun b => if b = a then some (.frz { cls := .type "list", data := .seq vs.toArray } (.lst (ns.map V.int))) else if b ∈ cs.map (·.2) then some (.tbl #[]) else none) (fun p hp => (if_neg (show ¬ p.2 = a from fun z => aT (by rw [← z]; exact memT p hp))).trans (if_pos (memT p hp))) (fun b => ?_)
      (.inl ⟨{ cls := .type "list", data := .seq vs.toArray }, if_pos rfl⟩) (fun b u z => ?_) (fun b z => ?_) fun _ => hk
    · by_cases hb : b = a
      · exact .inr (.inr ⟨_, _, if_pos hb⟩)
      · by_cases hb2 : b ∈ cs.map (·.2)
        · exact .inr (.inl hb2)
        · exact .inl ((if_neg hb).trans (if_neg hb2))
    · by_cases hb : b = a
      · have z' := (if_pos hb).symm.trans z
        cases z'
        rw [hb]
        exact ⟨ha, by rw [List.length_map]; exact hl, vs, _, rv, ha⟩
      · have z1 := (if_neg hb).symm.trans z
        by_cases hb2 : b ∈ cs.map (·.2)
        · have z' := (if_pos hb2).symm.trans z1
          cases z'
          exact isT b hb2
        · have z' := (if_neg hb2).symm.trans z1
          cases z'
    · by_cases hb : b = a
      · exact .inl hb
      · by_cases hb2 : b ∈ cs.map (·.2)
        · exact .inr hb2
        · exact absurd ((if_neg hb).trans (if_neg hb2)) z


/-- what the walk shows at the head's heap h: the law's run mf answers True -/
theorem walk_G {l : PySem.W.OpenLaw} {n k : Nat} {q : Program} {loose : List Str} {XP : (Str → Option Value) → Heap → Prop} {YP : World → Heap → Prop} {d : DefRec} {x : Str} {mf : List D → M D}
    (hn : l.most = some n) (hn2 : n ≤ sizeLine) (hdf : d.params.defaults = []) (hr : Room k callerA)
    (hlaw : ∀ ns : List Int, ns.length ≤ n → (∀ z ∈ ns, Builtin.Int.intBits z ≤ 1048576) → ∃ S', mf [.p (.scr (ns.map P.int))] ⟨[], rfl⟩ = .ok (.p (.bl true)) S')
    (F : ∀ (w : World) (mg : Str → Option Value) (fa : Addr) (h : Heap), YP w h → h.Ns mainGlobals mg → mg d.name = some (.ref fa) →
      ∃ (K : PySem.W.Frag) (fd : FuncData) (cs : List ((Addr × Addr) × Str)), K.In h ∧ (∀ p ∈ cs, h.get? p.1.2 = some { cls := .none, data := .fields #[] }) ∧ (∀ p ∈ cs, K.lookup p.1.2 = none) ∧ (∀ p ∈ cs, PySem.W.CodeHd h p.1.1 p.1.2) ∧ (∀ (s : Shared) (u : Value), BindsTo s fd ⟨[u], []⟩ [(x, u)]) ∧
        ∀ base : Heap, K.In base → base.Ns mainGlobals mg → (∀ p ∈ cs, TabB base mg p.1.1 p.1.2) → letI : HasT := ⟨cs.map fun p => (p.1.2, p.2)⟩; FnOkG l.prog w K mg base k fa fd [x] (spD ⟨K, mg⟩ 1 mf)) :
    PySem.W.WalkO q loose XP YP l.row.toRowW d [] (fun f vs => PySem.call f vs) := by
  refine Att.attach_callB hn hdf fun w s₀ s₁ mg mb fa o pm cd doc a vs ns G Y ho hd hcd hmg hobj hints hlen hbits hg => ?_
  obtain ⟨K, fd, cs, KX, hT, nT, C, hb, hF⟩ := F w mg fa _ Y G.T.g hmg
  refine end_call (cs := cs.map (·.1)) (k := k) KX G.T.g G.T.b G.T.builtins G.T.nolimit hg (fun p hp => ?_) (fun p hp => ?_) (fun p hp => ?_) G.T.bmain hobj hints (Nat.le_trans hlen hn2) hr (fun base h1 h2 h3 => hF base h1 h2 fun p hp => h3 p.1 (List.mem_map.mpr ⟨p, hp, rfl⟩)) hb fun H hH hS => ?_
  · obtain ⟨p', hp', rfl⟩ := List.mem_map.mp hp
    exact hT p' hp'
  · obtain ⟨p', hp', rfl⟩ := List.mem_map.mp hp
    exact nT p' hp'
  · obtain ⟨p', hp', rfl⟩ := List.mem_map.mp hp
    exact C p' hp'
  · letI : HasT := ⟨cs.map fun p => (p.1.2, p.2)⟩
    obtain ⟨S', e⟩ := hlaw ns hlen hbits
    refine ⟨rfl, [.p (.scr (ns.map P.int))], ⟨[], rfl⟩, [], fun _ => False, ⟨rfl, List.nodup_nil, (fun a h => absurd h List.not_mem_nil), (fun a h => h.elim), fun q hq => ?_, fun m b u h => by simp at h⟩, ?_, ?_⟩
    · obtain ⟨p, hp, rfl⟩ := List.mem_map.mp hq
      exact TabS.nil (hH p.1 (List.mem_map.mpr ⟨p, hp, rfl⟩))
    · refine relDs_cons.mpr ⟨?_, relDs_nil'⟩
      simp only [RelD, RelP]
      refine ⟨a, ns.map V.int, rfl, hS, ?_⟩
      have all : ∀ ns : List Int, RelPs ⟨K, mg⟩ (fun _ => False) H (ns.map P.int) (ns.map V.int) := by
        intro ns
        induction ns with
        | nil => simp only [List.map, RelPs]
        | cons m ns ih =>
          simp only [List.map, RelPs]
          exact ⟨_, _, rfl, by simp only [RelP], ih⟩
      exact all ns
    · show Then _ _ _ _ _ (mf [.p (.scr (ns.map P.int))] ⟨[], rfl⟩) _
      rw [e]
      intro F' ι' H' nx v rv
      exact relBl rv
end DL
set_option maxHeartbeats 4000000
/-! DLGen: what the printed walks lean on. -/
namespace DL
open PySem PySem.Spec PyProof.Rows L2
theorem boot_len : bootBuiltins "len" = some (.builtin "len") := by rfl
theorem boot_abs : bootBuiltins "abs" = some (.builtin "abs") := by rfl
theorem boot_max : bootBuiltins "max" = some (.builtin "max") := by rfl
theorem boot_min : bootBuiltins "min" = some (.builtin "min") := by rfl
theorem boot_sum : bootBuiltins "sum" = some (.builtin "sum") := by rfl
theorem boot_all : bootBuiltins "all" = some (.builtin "all") := by rfl
theorem boot_sorted : bootBuiltins "sorted" = some (.builtin "sorted") := by rfl
theorem boot_isinstance : bootBuiltins "isinstance" = some (.builtin "isinstance") := by rfl
theorem boot_int : bootBuiltins "int" = some (.type "int") := by rfl
theorem boot_bool : bootBuiltins "bool" = some (.type "bool") := by rfl
theorem boot_tuple : bootBuiltins "tuple" = some (.type "tuple") := by rfl
theorem boot_list : bootBuiltins "list" = some (.type "list") := by rfl
theorem room_u {k : Nat} {A : Around} (r : Room k A) : A.units + 65 < cLine := by
  have := r.un
  omega
end DL
set_option maxHeartbeats 4000000
/-! DLTry: one try with several clauses, of which some name the error. -/
namespace DL
open PySem PySem.Spec PyProof.Rows L2
/-- a clause: its class, the slot of the error's name, the suite's reading -/
structure Cl where
  c : Value
  i : Option Nat
  ts : Addr → Value → Option Addr → TS
section
variable {X : Cx} {body : List Stmt} {hd : ExceptHandler} {hs : List ExceptHandler} {l : List Cl} {pos : Pos} {tb : WX → TS} {Wo : WX}
end
end DL
set_option maxHeartbeats 4000000
/-! DLLam: f(lambda: e) where f tries the call and tells the errors. -/
namespace DL
open PySem PySem.Spec PyProof.Rows L2 LamX
section
variable {X : Cx} {pins : List (Addr × Obj)} {σ : L2.St} {H : Hp} {s : Shared}
end
section
variable {X : Cx}
end
end DL
set_option maxHeartbeats 4000000
/-! DLOut: the plain run of f(lambda: e), where f tells the errors as lists. -/
namespace DL
open PySem PySem.Spec PyProof.Rows L2 LamX
/-- a clause of f: its class, the word that it tells, the error's field that it tells behind -/
structure Hd where
  cls : Str
  txt : Str
  fld : Option Str
section
variable [HasT] {X : Cx}
theorem Nxt.ext {G : Gb} {F : Addr → Prop} {ι : List Addr} {S : Store} {H H1 : Hp} (r : R G F ι S H) (e : ExtN H H1) (o : ∀ b u, H b = some u → ∃ u', H1 b = some u') (t : Tabs HasT.T H1) : Nxt G F ι H F ι S H1 := by
  have thing : ∀ {u : HO}, isThing u = true → ∀ ps, u ≠ .tbl ps := fun h ps z => by subst z; cases h
  have stay : ∀ {a : Addr} {u : HO}, H a = some u → isThing u = true → H1 a = some u := fun h q => e _ _ h (thing q)
  have kp : Keep F ι H H1 := fun a u h q => by
    refine e a u h fun ps z => ?_
    subst z
    rcases q with q | q | q
    · obtain ⟨u', h', q'⟩ := r.fz a q
      rw [h] at h'
      cases h'
      cases q'
    · cases q
    · cases q.2
  refine ⟨fun _ h => h, kp, List.prefix_refl _, fun x a b => absurd a b, fun x a b => absurd a b, o, r.len, r.nd, r.nf, fun a h => ?_, t, fun n a x h1 h2 => ?_⟩
  · obtain ⟨u, h', q⟩ := r.fz a h
    exact ⟨u, stay h' q, q⟩
  · have z := r.ob n a x h1 h2
    refine RelO.mono kp.w (fun _ h => h) (List.prefix_refl _) ?_ z
    cases x with
    | lst ds => obtain ⟨vs, h, _⟩ := z; rw [h, stay h rfl]
    | ins c fs => obtain ⟨C, dx, fvs, _, h, _⟩ := z; rw [h, stay h rfl]
    | dct fs => obtain ⟨fvs, h, _⟩ := z; rw [h, stay h rfl]
    | dit fs => obtain ⟨fvs, h, _⟩ := z; rw [h, stay h rfl]
end
end DL
set_option maxHeartbeats 4000000
/-! DLRaise: own errors raised. -/
namespace DL
open PySem PySem.Spec PyProof.Rows L2
def mRaise (cls : Str) : MS := fun _ S => .err ⟨cls, []⟩ S
section
variable [HasT] {X : Cx}
theorem ds_raise {W : WX} {x m : Str} {C : Addr} {bmB : List Value} {B newId initId : String} {j : Nat} {p p2 p3 p4 : Pos} (tk : Takes X W) (F : ExcBaseFacts B newId initId bmB) (q : PySem.W.excIn X.K C bmB newId = true) (gC : X.mg x = some (.ref C)) (kC : PySem.W.keepIn X.K (.ref C) = true)
    (r : Raises X (.ref C)) (hg : Gl X x := by rfl) (hc : X.calm = true := by rfl) (hdb : (x == ("__debug__" : Str)) = false := by decide) : DS X W (.Raise (some (.Call (.Name x p) [.Constant (.str m) j p2] [] p3)) none p4) (mRaise x) :=
  PS.imp (ps_raise hc tk (pmk_own F q gC kC r hg hdb)) fun E σ H t => by
    obtain ⟨ρ, S, ι, F, a, t⟩ := t
    exact t F ι H _ _ (Nxt.refl a.r) ⟨C, gC, rfl, rfl⟩ σ
end
end DL
set_option maxHeartbeats 4000000
/-! DLOwn: own errors over any built-in one, with an __init__ that says super().__init__(..); self.f = v. -/
namespace DL
open PySem PySem.Spec PyProof.Rows L2
section
open Builtin Builtin.ObjectAttr
variable {prog : Program} {w : World} {A : Around} {E : Value → Shared → Prop} {R : Result → Shared → Prop} {hp : Heap} {g : Array GenState} {d : Drawn} {t : Nat} {os : OsState}
end
section
variable {X : Cx} {pins : List (Addr × Obj)} {σ : L2.St} {H : Hp} {s : Shared} {a C : Addr} {f : Str} {y : V} {u : Value} {Q : Unit → Shared → Prop} {E : Value → Shared → Prop} {A : Around} {newId B setId on : String} {tail : List Value}
end
end DL
set_option maxHeartbeats 4000000
/-! DLSuper: super() in an error's __init__, over the heap as it is. -/
namespace DL
open PySem PySem.Spec PyProof.Rows L2 PySem.W
section
variable {prog : Program} {w : World} {A : Around} {E : Value → Shared → Prop} {K : PySem.W.Frag} {mg : Str → Option Value} {base h : Heap} {g : Array GenState} {d : Drawn} {t : Nat} {os : OsState}
end
end DL
set_option maxHeartbeats 4000000
/-! DLSup2: super().__init__('..') in an own error's __init__. -/
namespace DL
open PySem PySem.Spec PyProof.Rows L2 PySem.W
section
variable {prog : Program} {w : World} {A : Around} {E : Value → Shared → Prop} {K : PySem.W.Frag} {mg : Str → Option Value} {base h : Heap} {g : Array GenState} {d : Drawn} {t : Nat} {os : OsState}
end
end DL
set_option maxHeartbeats 4000000
/-! DLSup3: an own error's __init__: super().__init__('..'); self.f = v. -/
namespace DL
open PySem PySem.Spec PyProof.Rows L2 PySem.W
section
variable {prog : Program} {w : World} {A : Around} {K : PySem.W.Frag} {mg : Str → Option Value} {base : Heap} {s : Shared}
end
end DL
set_option maxHeartbeats 4000000
/-! DLMk: an own error with one field, made by C(e) and raised. -/
namespace DL
open PySem PySem.Spec PyProof.Rows L2
section
variable {P : Program} {w : World} {fs : List Addr} {H : Hp} {hp h1 : Heap} {a C dx t1 : Addr} {f : Str} {y : V} {u : Value}
end
section
variable {X : Cx} {x : Str} {C f : Addr} {fld : Str} {B i newId : String} {tail : List Value} {e : Expr} {te : TE} {p pos : Pos} {k : Nat}
end
section
variable [HasT] {X : Cx}
end
end DL
set_option maxHeartbeats 4000000
/-! DLRepr: repr of a list of data. -/
namespace DL
open PySem PySem.Spec PyProof.Rows L2
mutual
def toPD : P → Option PyData
  | .non => some .none
  | .bl b => some (.bool b)
  | .int i => some (.int i)
  | .str s => some (.str s)
  | .tup xs => (toPDs xs).map .tuple
  | .lst xs => (toPDs xs).map .list
  | .dic kvs => if kvs.isEmpty then some (.dict []) else none
  | _ => none
def toPDs : List P → Option (List PyData)
  | [] => some []
  | x :: xs => match toPD x, toPDs xs with
    | some y, some ys => some (y :: ys)
    | _, _ => none
end
variable [HasT]
section
variable {X : Cx} {pins : List (Addr × Obj)} {σ : L2.St} {H : Hp} {s : Shared} {F : Addr → Prop}
/-- == of two texts -/
def fEqS : F2 := fun x y S => match x, y with
  | .p (.str a), .p (.str b) => some (.p (.bl (decide (a = b))), S)
  | _, _ => none
def fNeS : F2 := fun x y S => match x, y with
  | .p (.str a), .p (.str b) => some (.p (.bl (!decide (a = b))), S)
  | _, _ => none
end
end DL
set_option maxHeartbeats 4000000
/-! DLCls: the clauses of a def that tells errors as lists. -/
namespace DL
open PySem PySem.Spec PyProof.Rows L2
section
variable [HasT] {X : Cx} {CH : Str → Addr} {sl : Nat} {hs : List ExceptHandler} {l : List Hd} {p1 p2 q1 q2 q3 : Pos} {x txt : Str} {j1 : Nat}
end
end DL
set_option maxHeartbeats 4000000
/-! DLOutc: the call x(lambda: e) of the def that tells errors; defs that make lambdas. -/
namespace DL
open PySem PySem.Spec PyProof.Rows L2 LamX
section
variable [HasT]
variable {X : Cx}
end
end DL
set_option maxHeartbeats 4000000
/-! DLHook: what the head tells, with own errors' __init__ and tables of code objects. -/
namespace DL
open PySem PySem.Spec PyProof.Rows L2 He
/-- the __init__ of the class x (or the getter of its property, or its classmethod), by its text -/
structure IniD where
  x : Str
  qual : Str
  params : Arguments
  body : List Stmt
  scope : Scope
  pr : Option Str
abbrev IniV : Type := Option (Str × Str × Arguments × FuncBody × Scope × Addr × Value × Value × Addr)
def iniA (K : PySem.W.Frag) (x : Str) : Addr := ma K (ga K x) "__init__"
def gtA (K : PySem.W.Frag) (x f : Str) : Addr := match PySem.W.recIn K (ma K (ga K x) f) "property" with
  | some (.ref g :: _) => g
  | _ => (match PySem.W.recIn K (ma K (ga K x) f) "classmethod" with
    | some (.ref g :: _) => g
    | _ => 0)
def IniD.at_ (K : PySem.W.Frag) (d : IniD) : Addr := match d.pr with
  | none => iniA K d.x
  | some f => gtA K d.x f
def iniW (K : PySem.W.Frag) (d : IniD) : IniV := match K.lookup (d.at_ K) with
  | some ⟨_, _, .func fd, _⟩ => some (fd.name, fd.qualname, fd.params, fd.body, fd.scope, fd.globals, fd.defaults, fd.kwdefaults, fd.builtins)
  | _ => none
def IniD.val (d : IniD) : IniV := some (d.pr.getD "__init__", d.qual, d.params, .stmts d.body, d.scope, mainGlobals, .none, .none, builtinsNs)
/-- where the head looks -/
def seenAt (g : Addr → Option Obj) (n : Nat) : List Addr := cStatics :: asD g n
abbrev AlI : Type := AlX × List IniV
section
variable (n : Nat) (fa : List Fa) (fn : List DefD) (ts : List Tab) (tf : List Defn) (ex : PySem.W.Frag → Bool) (ins : List IniD)
def obsK (K : PySem.W.Frag) (g : Addr → Option Obj) : AlI := ((obsT fa fn ts K, ex K && tabsB g tf K), ins.map fun d => iniW K d)
def obsI (g : Addr → Option Obj) : AlI := obsK fa fn ts tf ex ins (frT g (seenAt g n)) g
def valI (w : World) : AlI := (valX fn ts w, ins.map IniD.val)
end
theorem says_at {as : List Addr} {fa : List Fa} {fn : List DefD} {ts : List Tab} {tf : List Defn} {ex : PySem.W.Frag → Bool} {w : World} {h : Heap} (e1 : obsT fa fn ts (frT h.get? as) = valT fn ts w) (e2 : (ex (frT h.get? as) && tabsB h.get? tf (frT h.get? as)) = true) :
    SaysX fa fn ts tf ex w h (frT h.get? as) := by
  obtain ⟨a1, a2⟩ := ba e2
  have one : ∀ p ∈ tf, PySem.W.codeHdIn (frT h.get? as) (cT (frT h.get? as) p).1 (cT (frT h.get? as) p).2 = true ∧ ∃ o, h.get? (cT (frT h.get? as) p).2 = some o ∧ emptyTab o = true := fun p hp => by
    obtain ⟨b1, b2⟩ := ba (List.all_eq_true.mp a2 p hp)
    refine ⟨b1, ?_⟩
    cases z : h.get? (cT (frT h.get? as) p).2 with
    | none => rw [z] at b2; cases b2
    | some o => rw [z] at b2; exact ⟨o, rfl, b2⟩
  refine ⟨e1, a1, fun p hp => (one p hp).1, fun p hp => ?_, fun p hp => ?_⟩
  · obtain ⟨_, o, z, y⟩ := one p hp
    exact frT_none z y
  · obtain ⟨_, o, z, y⟩ := one p hp
    rw [z, emptyTab_eq y]
def hookI (n : Nat) (fa : List Fa) (fn : List DefD) (ts : List Tab) (tf : List Defn) (ex : PySem.W.Frag → Bool) (ins : List IniD) : PySem.W.Hook where
  α := AlI
  obs := fun s => obsI n fa fn ts tf ex ins s.heap.get?
  val := fun w => valI fn ts ins w
  says := fun w h => ∃ K : PySem.W.Frag, K.In h ∧ SaysX fa fn ts tf ex w h K ∧ (ins.map fun d => iniW K d) = ins.map IniD.val
  of := fun _ _ e => ⟨_, frT_in, says_at (congrArg (fun z : AlI => z.1.1) e) (congrArg (fun z : AlI => z.1.2) e), congrArg (fun z : AlI => z.2) e⟩
  keeps := fun _ _ _ ⟨K, hK, c, i⟩ k => ⟨K, PySem.W.Frag.In.keeps hK k, ⟨c.t, c.more, c.hd, c.out, fun p hp => k _ _ (c.empty p hp)⟩, i⟩
theorem obsI_eq {n : Nat} {fa : List Fa} {fn : List DefD} {ts : List Tab} {tf : List Defn} {ex : PySem.W.Frag → Bool} {ins : List IniD} {g : Addr → Option Obj} {s : Shared} (h : ∀ a, g a = s.heap.get? a) : obsI n fa fn ts tf ex ins g = (hookI n fa fn ts tf ex ins).obs s := by
  have e : g = s.heap.get? := funext h
  rw [e] <;> rfl
/-! ### an own error's class with its __init__ -/
/-! ### the getter of a property -/
end DL
set_option maxHeartbeats 4000000
/-! DLGen2: what the printed walks of errors lean on. -/
namespace DL
open PySem PySem.Spec PyProof.Rows L2 He LamX
def lamQ (x : Str) : Str := x ++ ".<locals>." ++ "<lambda>"
def chA (mg : Str → Option Value) (x : Str) : Addr := match mg x with
  | some (.ref a) => a
  | _ => 0
theorem chA_of {mg : Str → Option Value} {x : Str} {a : Addr} (h : mg x = some (.ref a)) : chA mg x = a := by
  unfold chA
  rw [h]
/-- an own error's class without fields, over ValueError -/
def ExcE (K : PySem.W.Frag) (mg : Str → Option Value) (x : Str) : Prop :=
  ∃ C, mg x = some (.ref C) ∧ PySem.W.excIn K C veBase "ValueError.__new__" = true ∧ PySem.W.keepIn K (.ref C) = true ∧ PySem.W.subIn K (.ref C) (.type "BaseException") = some true ∧ PySem.W.typeIn K (.ref C) = some (.type "type")
section
variable [HasT] {X : Cx}
theorem ds_raiseE {W : WX} {x m : Str} {j : Nat} {p p2 p3 p4 : Pos} (h : ExcE X.K X.mg x) (tk : Takes X W) (hg : Gl X x := by rfl) (hc : X.calm = true := by rfl) (hdb : (x == ("__debug__" : Str)) = false := by decide) :
    DS X W (.Raise (some (.Call (.Name x p) [.Constant (.str m) j p2] [] p3)) none p4) (mRaise x) := by
  obtain ⟨C, gC, q, kC, sC, tC⟩ := h
  exact ds_raise tk PySem.F.excBase_ValueError q gC kC (raises_own sC tC) hg hc hdb
end
end DL
set_option maxHeartbeats 4000000
/-! DLZip: list(zip(a, b)) of two lists. -/
namespace DL
open PySem PySem.Spec PyProof.Rows L2
/-- the list being made apart from the zip's parts -/
structure ZAp (S z TI TO i1 i2 l1 l2 : Addr) : Prop where
  d : ZipApart z TI TO i1 i2 l1 l2
  sz : S ≠ z
  sTI : S ≠ TI
  s1 : S ≠ i1
  s2 : S ≠ i2
  sl1 : S ≠ l1
  sl2 : S ≠ l2
/-- k pairs have been given out -/
def ZS (h : Heap) (S z TI TO i1 i2 l1 l2 : Addr) (xs ys : Array Value) (k : Nat) : Prop :=
  h.IsListIter i1 l1 k ∧ h.IsListIter i2 l2 k ∧ IsPair h TI (.ref i1) (.ref i2) ∧ h.IsList l1 xs ∧ h.IsList l2 ys ∧
    ((k = 0 ∧ IsZip h z TI TO .none ∧ ∃ a b, IsPair h TO a b) ∨ ∃ T f oT, IsZipHeld h z TI TO T f ∧ h.get? T = some oT ∧ T ≠ S ∧ T ≠ z ∧ T ≠ i1 ∧ T ≠ i2)
section
variable {prog : Program} {w : World} {A : Around} {E : Value → Shared → Prop} {s : Shared} {S z TI TO i1 i2 l1 l2 : Addr} {xs ys : Array Value} {k : Nat}
theorem ZS.keep {h h' : Heap} (Z : ZAp S z TI TO i1 i2 l1 l2) (st : ZS h S z TI TO i1 i2 l1 l2 xs ys k) (k0 : k ≠ 0 ∨ S ≠ TO) (u : ∀ b o, b ≠ S → h.get? b = some o → h'.get? b = some o) : ZS h' S z TI TO i1 i2 l1 l2 xs ys k := by
  obtain ⟨a1, a2, a3, a4, a5, a6⟩ := st
  refine ⟨a1.at fun o e => u _ o Z.s1.symm e, a2.at fun o e => u _ o Z.s2.symm e, u _ _ Z.sTI.symm a3, a4.at fun o e => u _ o Z.sl1.symm e, a5.at fun o e => u _ o Z.sl2.symm e, ?_⟩
  rcases a6 with ⟨e, b1, a, b, b2⟩ | ⟨T, f, oT, b1, b2, b3, b4, b5, b6⟩
  · have : S ≠ TO := k0.elim (fun q => absurd e q) id
    exact .inl ⟨e, u _ _ Z.sz.symm b1, a, b, u _ _ this.symm b2⟩
  · exact .inr ⟨T, f, oT, u _ _ Z.sz.symm b1, u _ _ b3 b2, b3, b4, b5, b6⟩
/-- the pairs that were given out -/
structure ZG (xs ys : Array Value) (lo : Addr) (h : Heap) (as : List Addr) : Prop where
  up : as.Pairwise (· < ·)
  lo : ∀ a ∈ as, lo < a
  at_ : ∀ (j : Nat) (a : Addr), as[j]? = some a → ∃ x y, xs[j]? = some x ∧ ys[j]? = some y ∧ IsPair h a x y
theorem ZG.lt {lo : Addr} {h : Heap} {as : List Addr} (g : ZG xs ys lo h as) {a : Addr} (ha : a ∈ as) : a < h.objs.size := by
  obtain ⟨j, e⟩ := List.mem_iff_getElem?.mp ha
  obtain ⟨_, _, _, _, p⟩ := g.at_ j a e
  exact Heap.lt_size p
end
end DL
set_option maxHeartbeats 4000000
/-! DLZip2: list(zip(a, b)), list(range(a, b)) as plain runs. -/
namespace DL
open PySem PySem.Spec PyProof.Rows L2
section
variable {X : Cx} {a b : Expr} {ta : TA} {p p2 pos pos2 : Pos}
end
section
variable [HasT] {X : Cx} {W : WX}
theorem relPs_rg {G : Gb} {F : Addr → Prop} {H : Hp} (i : Int) : ∀ l : List Nat, RelPs G F H (l.map fun k => P.int (i + (k : Nat))) (l.map fun k => V.int (i + (k : Nat)))
  | [] => by simp [RelPs]
  | k :: l => by
    simp only [List.map_cons, RelPs]
    exact ⟨_, _, rfl, by simp only [RelP], relPs_rg i l⟩
end
end DL
set_option maxHeartbeats 4000000
/-! DLKw: defs with one keyword-only parameter with an int as its default; repr of tuples and of lists of the store. -/
namespace DL
open PySem PySem.Spec PyProof.Rows L2
variable [HasT]
section
variable {X : Cx} {k n : Nat} {f : Addr} {fd : FuncData} {ps ks : List Str} {sp : Sp} {E : L2.St → XK} {x : Str} {p pos kpos : Pos} {e e2 : Expr} {es : List Expr} {t tk : TA}
/-- x(e, ..) by the default | x(e, .., kw = e2) -/
def mCallD (mf : List D → M D) (d0 : Int) (m : ME (List D)) : ME D := fun ρ S => (m ρ S).bind fun ds => mf (ds ++ [.p (.int d0)])
def mCallK (mf : List D → M D) (m : ME (List D)) (me : ME D) : ME D := fun ρ S => (m ρ S).bind fun ds => fun S => (me ρ S).bind fun d => mf (ds ++ [d])
variable {W : WX} {mr : ME (List D)} {me : ME D}
end
/-! ### repr -/
section
variable {X : Cx}
/-! ### min, max of three -/
end
end DL
set_option maxHeartbeats 4000000
/-! DLObj: instances of own classes: made, their fields read and stored, their methods called (also def m(self, *rest)), their properties read; *e in a display. -/
namespace DL
open PySem PySem.Spec PyProof.Rows L2
variable [HasT]
/-! ### *e among arguments -/
def mStar (me : ME D) (mr : ME (List D)) : ME (List D) := fun ρ S => (me ρ S).bind fun d => fun S => match d.seq? S with
  | some xs => (mr ρ S).bind fun ys => fun S => .ok (xs ++ ys) S
  | none => .stuck
section
variable {X : Cx} {W : WX} {e : Expr} {es : List Expr} {p : Pos} {me : ME D} {mr : ME (List D)}
theorem da_star (he : DE X W e me) (hr : DA X W es mr) (hs : starEach (.Starred e p :: es) X.env = (true, eval e X.env) :: starEach es X.env := by rfl) : DA X W (.Starred e p :: es) (mStar me mr) := PA.imp (StX.pa_star he hr hs) fun σ H Q q => by
  obtain ⟨ρ, S, ι, F, at', t⟩ := q
  refine T.first at' t fun d1 S1 F1 ι1 H1 v1 n1 a1 r1 t1 => ?_
  cases ex : d1.seq? S1 with
  | none => rw [ex] at t1; exact t1.elim
  | some xs =>
    rw [ex] at t1
    obtain ⟨a, vs, rfl, q1, rd⟩ := seq?_rel a1.r ex r1
    refine ⟨a, vs, rfl, q1.symm, ?_⟩
    refine TL.first a1 t1 fun ds S2 F2 ι2 H2 ws n2 a2 r2 t2 => ?_
    exact t2.now a2.r _ (relDs_append (n2.ds rd) r2)
end
/-! ### the fields of an instance -/
section
variable {G : Gb} {F : Addr → Prop} {ι : List Addr} {H : Hp} {S : Store}
/-- the fields of an instance of the class c -/
def D.ins? (c : Str) (d : D) (S : Store) : Option (List (Str × D)) := match d with
  | .p (.ins c' fs) => if c' = c then some (fs.map fun q => (q.1, D.p q.2)) else none
  | .r n => match S.objs[n]? with
    | some (.ins c' fs) => if c' = c then some fs else none
    | _ => none
  | _ => none
end
section
variable {X : Cx} {W : WX} {o e : Expr} {c f : Str} {pos pos' : Pos} {mo me : ME D}
end
/-! ### methods -/
section
variable {X : Cx} {C f : Addr} {m : Str} {sp : Sp} {E : L2.St → XK} {o e : Expr} {es : List Expr} {ta : TE} {t : TA} {apos pos : Pos}
end
/-- o.m(..) -/
def mMethO (c m : Str) (mf : List D → M D) (mo : ME D) (mr : ME (List D)) : ME D := fun ρ S => (mo ρ S).bind fun x => fun S => match x.ins? c S with
  | some fs => if fs.lookup m = none then (mr ρ S).bind fun ds => mf (x :: ds) else .stuck
  | none => .stuck
section
variable {X : Cx} {W : WX} {o e : Expr} {es : List Expr} {c m : Str} {k n : Nat} {mf : List D → M D} {mo : ME D} {mr : ME (List D)} {apos pos : Pos}
end
/-! ### making -/
/-- C(..): a new thing of the store, then __init__ -/
def mNewI (c : Str) (mf : List D → M D) (ds : List D) : M D := fun S => (mf (.r S.objs.length :: ds) (S.new (.ins c []) rfl)).bind fun d S' => match d with
  | .p .non => .ok (.r S.objs.length) S'
  | _ => .stuck
def mMake (c : Str) (mf : List D → M D) (mr : ME (List D)) : ME D := fun ρ S => (mr ρ S).bind (mNewI c mf)
section
variable {X : Cx} {W : WX} {e : Expr} {es : List Expr} {c : Str} {k n : Nat} {mf : List D → M D} {mr : ME (List D)} {p pos : Pos}
end
/-! ### def m(self, *rest) -/
def FnRG (P : Program) (w : World) (K : PySem.W.Frag) (mg : Str → Option Value) (base : Heap) (k : Nat) (f : Addr) (sp : Sp) : Prop :=
  ∀ (A : Around) (outer : List PySem.Env) (s : Shared) (H : Hp) (us : List Value) (vs : List V) (Q : VK) (E : XK), Room k A → A.guards = some [] → Env0 P w K mg base A outer s H → Vals vs us → sp vs H Q E →
    codeAny (model P w) A (.call (.ref f) ⟨us, []⟩) (CR (L2.CX P w) outer P w H s Q E) s
/-- o.m(..), m a def with *rest -/
def mMethS (c m : Str) (mf : List D → M D) (mo : ME D) (mr : ME (List D)) : ME D := fun ρ S => (mo ρ S).bind fun x => fun S => match x.ins? c S with
  | some fs => if fs.lookup m = none then (mr ρ S).bind fun ds => if ds.length ≤ 1000 then mf [x, mkTup ds] else fun _ => .stuck else .stuck
  | none => .stuck
section
variable {X : Cx} {W : WX} {o e : Expr} {es : List Expr} {c m : Str} {k : Nat} {mf : List D → M D} {mo : ME D} {mr : ME (List D)} {apos pos : Pos}
end
/-! ### properties -/
def mProp (c : Str) (mf : List D → M D) (mo : ME D) : ME D := fun ρ S => (mo ρ S).bind fun x => fun S => match x.ins? c S with
  | some _ => noErr (mf [x] S)
  | none => .stuck
section
variable {X : Cx} {W : WX} {o : Expr} {c f : Str} {k : Nat} {mf : List D → M D} {mo : ME D} {pos : Pos}
end
end DL
set_option maxHeartbeats 4000000
/-! DLCl: a def whose arguments and answer are data, told by a run of its own on the empty store: what stands in the store plays no part. -/
namespace DL
open PySem PySem.Spec PyProof.Rows L2
variable [HasT]
def allP : List D → Bool
  | [] => true
  | .p _ :: ds => allP ds
  | _ => false
def mCl (mf : List D → M D) : List D → M D := fun ds S => if allP ds = true then (match mf ds ⟨[], rfl⟩ with
  | .ok (.p x) _ => .ok (.p x) S
  | .err e _ => if pureFs e.fs = true then .err e S else .stuck
  | _ => .stuck) else .stuck
theorem relDs_allP {G : Gb} {F : Addr → Prop} {ι ι' : List Addr} {H : Hp} : ∀ {ds : List D} {vs : List V}, allP ds = true → RelDs G F ι H ds vs → RelDs G F ι' H ds vs
  | [], _, _, h => by simpa only [RelDs] using h
  | .p x :: ds, _, e, h => by
    simp only [RelDs] at h ⊢
    obtain ⟨v, ws, ev, a, b⟩ := h
    exact ⟨v, ws, ev, by simpa only [RelD] using a, relDs_allP e b⟩
  | .r _ :: _, _, e, _ => by cases e
  | .t _ :: _, _, e, _ => by cases e
theorem nxt_back {G : Gb} {F F' : Addr → Prop} {ι ι' : List Addr} {S S' : Store} {H H' : Hp} (rs : R G F ι S H) (n : Nxt G F [] H F' ι' S' H') : Nxt G F ι H F' ι S H' := by
  have kp : Keep F ι H H' := fun a o e h => n.keep a o e (h.imp id (Or.imp id fun z => ⟨fun y => (nomatch y), z.2⟩))
  have at_ : ∀ a ∈ ι, ∃ o, H a = some o ∧ H' a = some o := fun a ha => by
    obtain ⟨o, e, t⟩ := rs.thing ha
    refine ⟨o, e, n.keep a o e (.inr (.inr ⟨fun y => (nomatch y), ?_⟩))⟩
    cases o <;> first | rfl | cases t
  refine ⟨n.sub, kp, List.prefix_refl _, fun x a b => absurd a b, n.nF, n.old, rs.len, rs.nd, fun a ha f => ?_, n.r.fz, n.r.tb, fun k a o h1 h2 => ?_⟩
  · obtain ⟨o, e, _⟩ := at_ a ha
    by_cases q : F a
    · exact rs.nf a ha q
    · rw [n.nF a f q] at e
      cases e
  · obtain ⟨o2, e, e'⟩ := at_ a (List.mem_of_getElem? h1)
    exact RelO.mono kp.w n.sub (List.prefix_refl _) (by rw [e, e']) (rs.ob k a o h1 h2)
theorem spD_cl {G : Gb} {n : Nat} {mf : List D → M D} {vs : List V} {H : Hp} {Q : VK} {E : XK} (h : spD G n (mCl mf) vs H Q E) : spD G n mf vs H Q E := by
  obtain ⟨hl, ds, S, ι, F, rs, rd, t⟩ := h
  unfold mCl at t
  split at t
  · rename_i ha
    refine ⟨hl, ds, ⟨[], rfl⟩, [], F, ⟨rfl, List.nodup_nil, fun a z => (nomatch z), rs.fz, rs.tb, fun k a o e => (nomatch e)⟩, relDs_allP ha rd, ?_⟩
    revert t
    generalize mf ds ⟨[], rfl⟩ = r
    intro t
    cases r with
    | ok d S' =>
      cases d with
      | p x =>
        intro F' ι' H' n v rv
        exact t F' ι H' (nxt_back rs n) v (by simpa only [RelD] using rv)
      | r _ => exact t.elim
      | t _ => exact t.elim
    | err e S' =>
      simp only at t
      split at t
      · rename_i hp
        intro F' ι' H' c d n x
        refine t F' ι H' c d (nxt_back rs n) ?_
        obtain ⟨C, m, ec, ef⟩ := x
        refine ⟨C, m, ec, ?_⟩
        revert ef hp
        generalize e.fs = fs
        cases fs with
        | nil => exact fun _ ef => ef
        | cons y ys =>
          intro hp ef
          obtain ⟨dd, fvs, ed, hd, rf⟩ := ef
          exact ⟨dd, fvs, ed, hd, pureFs_rel (fun _ h => h) hp rf⟩
      · exact t.elim
    | stuck => exact t.elim
  · exact t.elim
theorem FnD.cl {P : Program} {w : World} {K : PySem.W.Frag} {mg : Str → Option Value} {base : Heap} {x : Str} {k n : Nat} {mf : List D → M D} (h : FnD P w K mg base x k n mf) : FnD P w K mg base x k n (mCl mf) := by
  obtain ⟨f, fd, ps, a, b, c, d, e⟩ := h
  exact ⟨f, fd, ps, a, b, c, d, fun vs H Q E h => e.len vs H Q E (spD_cl h), fun A outer s H args us vs Q E r g e0 bt rv h => e.run A outer s H args us vs Q E r g e0 bt rv (spD_cl h)⟩
/-- the run of such a def, by its own run -/
theorem cl_ok {mf : List D → M D} {ds : List D} {x : P} {S S' : Store} (ha : allP ds = true) (h : mf ds ⟨[], rfl⟩ = .ok (.p x) S') : mCl mf ds S = .ok (.p x) S := by
  unfold mCl
  rw [if_pos ha, h]
end DL
set_option maxHeartbeats 4000000
/-! DLSet: sorted(set(xs)) of a list of ints; x in o of an own class with __contains__. -/
namespace DL
open PySem PySem.Spec PyProof.Rows L2
section
variable {P : Program} {w : World} {A : Around} {E : Value → Shared → Prop} {s : Shared}
end

/-! ### sorted(set(xs)) -/
variable [HasT]
section
variable {X : Cx} {W : WX}
end
/-! ### x in o -/
end DL
set_option maxHeartbeats 4000000
/-! DLTwo: comprehensions with two fors. The list that grows stands in the store. -/
namespace DL
open PySem PySem.Spec PyProof.Rows L2
/-- the second for's turns: kept items come behind the list k -/
def compA (k : Nat) (w : List (Nat × List D)) (g : MG) (t : ME Bool) (e : ME D) (ρ : Env) : List D → M Unit
  | [] => fun S => if watchOk w S = true then .ok () S else .stuck
  | x :: xs => fun S => if watchOk w S = true then (match g x ρ S with
    | none => .stuck
    | some ρ' => (noErr (t ρ' S)).bind fun b => if b = true then fun S => (noErr (e ρ' S)).bind fun y => fun S => (lift (fAppend (.r k) [y]) S).bind fun _ => compA k w g t e ρ xs
      else compA k w g t e ρ xs) else .stuck
def innC (k : Nat) (mi : ME Src) (vs : List Nat) (g : MG) (t : ME Bool) (e : ME D) : Env → M Unit := fun ρ S => (noErr (mi ρ S)).bind fun src => compA k src.watch g t e (unsetE ρ vs) src.xs
def comp2I (w : List (Nat × List D)) (g : MG) (t : ME Bool) (inn : Env → M Unit) (ρ : Env) : List D → M Unit
  | [] => fun S => if watchOk w S = true then .ok () S else .stuck
  | x :: xs => fun S => if watchOk w S = true then (match g x ρ S with
    | none => .stuck
    | some ρ' => (noErr (t ρ' S)).bind fun b => if b = true then fun S => (inn ρ' S).bind fun _ => comp2I w g t inn ρ xs
      else comp2I w g t inn ρ xs) else .stuck
def mComp2 (fin : Fin) (mi : ME Src) (vs : List Nat) (g : MG) (t : ME Bool) (mi1 : ME Src) (vs1 : List Nat) (g1 : MG) (t1 : ME Bool) (e : ME D) : ME D := fun ρ S => (mi ρ S).bind fun src S1 =>
  (comp2I src.watch g t (innC S1.objs.length mi1 vs1 g1 t1 e) (unsetE ρ vs) src.xs (S1.new (.lst []) rfl)).bind fun _ S2 => .ok (fin S1.objs.length (.r S1.objs.length) S2).1 (fin S1.objs.length (.r S1.objs.length) S2).2
theorem r_bindA {α β γ : Type} {r : Res α} {k : α → M β} {l : β → M γ} : (r.bind k).bind l = r.bind fun a S => (k a S).bind l := by
  cases r <;> rfl
section
variable [HasT]
variable {vs vs1 : List Nat} {g g1 : MG} {me : ME D} {mt mt1 : ME Bool}
theorem comp2_imp {G : Gb} {W : WX} {mi mi1 : ME Src} {tg tg1 : TG} {tt tt1 : TT} {te : TE} {fin : Fin} (hfin : FinOk fin) (hg : ∀ v σ H Q, TGt G vs g v σ H Q → tg v σ H Q) (ht : ∀ σ H Q, TB G W0 mt σ H Q → tt σ H Q)
    (hg1 : ∀ v σ H Q, TGt G vs1 g1 v σ H Q → tg1 v σ H Q) (ht1 : ∀ σ H Q, TB G W0 mt1 σ H Q → tt1 σ H Q) (he : ∀ σ H Q, T G W0 me σ H Q → te σ H Q) {σ : L2.St} {H : Hp} {Q : VK}
    (q : T G W (mComp2 fin mi vs g mt mi1 vs1 g1 mt1 me) σ H Q) : tLc2 (TIt G W mi) tg tt (TIt G W0 mi1) tg1 tt1 te vs vs1 σ H Q := by
  obtain ⟨ρ, S, ι, F, a, t⟩ := q
  refine ⟨ρ, S, ι, F, a, t.bind.mono fun src S1 F1 ι1 H1 n1 t1 J ok L hL => ?_⟩
  have a1 := a.next n1
  have nL : Nxt G F1 ι1 H1 F1 (ι1 ++ [L]) (S1.new (.lst []) rfl) (upd H1 L (.lst [])) := Nxt.newL n1.r hL relDs_nil' rfl
  have hk : (ι1 ++ [L])[S1.objs.length]? = some L := by rw [← n1.r.len]; simp
  generalize eKK : (fun (_ : Unit) (S2 : Store) => Res.ok (fin S1.objs.length (.r S1.objs.length) S2).1 (fin S1.objs.length (.r S1.objs.length) S2).2) = KK at t1
  generalize eIN : innC S1.objs.length mi1 vs1 g1 mt1 me = IN at t1
  generalize eR : (fun (d : D) (_ : Store) (F' : Addr → Prop) (ι' : List Addr) (H' : Hp) => ∀ v, RelD G F' ι' H' d v → Q v H') = RR at t1
  let Nx : List D → Hp → Prop := fun xs H3 => ∃ S3 F3 ι3, Nxt G F1 (ι1 ++ [L]) (upd H1 L (.lst [])) F3 ι3 S3 H3 ∧ Then G (fun c d H' => W c d σ H') F1 ι1 H1 ((comp2I src.watch g mt IN (unsetE ρ vs) xs S3).bind KK) RR
  refine ⟨fun i m H2 => ∃ xs, xs = src.xs.drop i ∧ m = xs.length ∧ Nx xs H2, ⟨_, src.xs, rfl, rfl, _, F1, ι1 ++ [L], Nxt.refl nL.r, t1⟩, ?_⟩
  rintro i m H2 ⟨xs, ex, em, S2, F2, ι2, n2, t2⟩
  cases xs with
  | nil =>
    unfold comp2I at t2
    split at t2
    · rename_i w
      have hl : src.xs.length ≤ i := by
        have := congrArg List.length ex
        simp at this
        omega
      refine .inl ⟨((ok F2 ι2 H2 S2 (nL.trans n2) w) i).1 hl, ?_⟩
      have rk : RelD G F2 ι2 H2 (.r S1.objs.length) (.ref L) := by
        simp only [RelD]
        exact ⟨L, rfl, pre_get n2.pre hk⟩
      obtain ⟨F3, ι3, n3, r3⟩ := hfin n1.r (nL.trans n2) rk
      subst eKK
      subst eR
      exact t2 F3 ι3 H2 n3 _ r3
    · exact t2.elim
  | cons x xs =>
    unfold comp2I at t2
    split at t2
    · rename_i w
      have hx : src.xs[i]? = some x := by
        have : (src.xs.drop i)[0]? = some x := by rw [← ex]; rfl
        simpa using this
      have hd : xs = src.xs.drop (i + 1) := by
        have h2 : src.xs.drop (i + 1) = (src.xs.drop i).drop 1 := by rw [List.drop_drop]
        rw [h2, ← ex]
        rfl
      obtain ⟨go, yl⟩ := ((ok F2 ι2 H2 S2 (nL.trans n2) w) i).2 x hx
      refine .inr ⟨go, Nx xs, fun H3 h3 => ⟨xs.length, by rw [em]; simp, xs, hd, rfl, h3⟩, fun v H3 hy => ?_⟩
      obtain ⟨nx, rx⟩ := yl v H3 hy
      have n23 := n2.trans nx
      have aw : At G F2 ι2 H3 (wipe σ vs) (unsetE ρ vs) S2 := ⟨relE_wipe (a1.e.mono (nL.trans n23)) vs, nx.r⟩
      refine hg _ _ _ _ ?_
      split at t2
      · exact t2.elim
      · rename_i ρ' eg
        refine ⟨x, unsetE ρ vs, S2, ι2, F2, rx, aw, ρ', eg, fun σ' hr hl hw => ⟨hw.trans (wipe_sub σ vs vs fun _ h => h), ?_⟩⟩
        rw [r_bindA] at t2
        refine ht _ _ _ ⟨ρ', S2, ι2, F2, ⟨hr, nx.r⟩, (Then.later (noErr_then t2) (nL.trans n23)).mono fun b S4 F4 ι4 H4 n4 t4 => ?_⟩
        cases b with
        | false =>
          rw [if_neg (by decide)] at t4
          show if (false : Bool) = true then _ else _
          rw [if_neg (by decide)]
          exact ⟨S4, F4, ι4, n23.trans n4, t4⟩
        | true =>
          rw [if_pos rfl] at t4
          show if (true : Bool) = true then _ else _
          rw [if_pos rfl]
          have eI : IN ρ' S4 = (noErr (mi1 ρ' S4)).bind fun src => compA S1.objs.length src.watch g1 mt1 me (unsetE ρ' vs1) src.xs := by
            rw [← eIN]
            rfl
          rw [eI, r_bindA, r_bindA] at t4
          have n24 := n23.trans n4
          refine ⟨ρ', S4, ι4, F4, ⟨hr.mono n4, n4.r⟩, (Then.later (noErr_then t4) (nL.trans n24)).mono fun src1 S5 F5 ι5 H5 n5 t5 J1 ok1 => ?_⟩
          have n25 := n24.trans n5
          generalize eK2 : (fun (_ : Unit) (S : Store) => (comp2I src.watch g mt IN (unsetE ρ vs) xs S).bind KK) = K2 at t5
          let Nx1 : List D → Hp → Prop := fun ys H6 => ∃ S6 F6 ι6, Nxt G F5 ι5 H5 F6 ι6 S6 H6 ∧ Then G (fun c d H' => W c d σ H') F1 ι1 H1 ((compA S1.objs.length src1.watch g1 mt1 me (unsetE ρ' vs1) ys S6).bind K2) RR
          refine ⟨fun j m H6 => ∃ ys, ys = src1.xs.drop j ∧ m = ys.length ∧ Nx1 ys H6, ⟨_, src1.xs, rfl, rfl, S5, F5, ι5, Nxt.refl n5.r, t5⟩, ?_⟩
          rintro j m H6 ⟨ys, ey, em, S6, F6, ι6, n6, t6⟩
          cases ys with
          | nil =>
            unfold compA at t6
            split at t6
            · rename_i w1
              have hl : src1.xs.length ≤ j := by
                have := congrArg List.length ey
                simp at this
                omega
              refine .inl ⟨((ok1 F6 ι6 H6 S6 n6 w1) j).1 hl, S6, F6, ι6, n25.trans n6, ?_⟩
              subst eK2
              exact t6
            · exact t6.elim
          | cons y ys =>
            unfold compA at t6
            split at t6
            · rename_i w1
              have hx1 : src1.xs[j]? = some y := by
                have : (src1.xs.drop j)[0]? = some y := by rw [← ey]; rfl
                simpa using this
              have hd1 : ys = src1.xs.drop (j + 1) := by
                have h2 : src1.xs.drop (j + 1) = (src1.xs.drop j).drop 1 := by rw [List.drop_drop]
                rw [h2, ← ey]
                rfl
              obtain ⟨go1, yl1⟩ := ((ok1 F6 ι6 H6 S6 n6 w1) j).2 y hx1
              refine .inr ⟨go1, Nx1 ys, fun H3 h3 => ⟨ys.length, by rw [em]; simp, ys, hd1, rfl, h3⟩, fun v1 H7 hy1 => ?_⟩
              obtain ⟨nx1, rx1⟩ := yl1 v1 H7 hy1
              have n67 := n6.trans nx1
              have aw1 : At G F6 ι6 H7 (wipe σ' vs1) (unsetE ρ' vs1) S6 := ⟨relE_wipe ((hr.mono n4).mono (n5.trans n67)) vs1, nx1.r⟩
              refine hg1 _ _ _ _ ?_
              split at t6
              · exact t6.elim
              · rename_i ρ1 eg1
                refine ⟨y, unsetE ρ' vs1, S6, ι6, F6, rx1, aw1, ρ1, eg1, fun σ1 hr1 hl1 hw1 => ⟨hw1.trans (wipe_sub σ' vs1 vs1 fun _ h => h), ?_⟩⟩
                rw [r_bindA] at t6
                refine ht1 _ _ _ ⟨ρ1, S6, ι6, F6, ⟨hr1, nx1.r⟩, (Then.later (noErr_then t6) (nL.trans (n25.trans n67))).mono fun b S8 F8 ι8 H8 n8 t8 => ?_⟩
                have n78 := n67.trans n8
                cases b with
                | false =>
                  rw [if_neg (by decide)] at t8
                  show if (false : Bool) = true then _ else _
                  rw [if_neg (by decide)]
                  exact ⟨S8, F8, ι8, n78, t8⟩
                | true =>
                  rw [if_pos rfl] at t8
                  show if (true : Bool) = true then _ else _
                  rw [if_pos rfl]
                  rw [r_bindA] at t8
                  refine he _ _ _ ⟨ρ1, S8, ι8, F8, ⟨hr1.mono n8, n8.r⟩, (Then.later (noErr_then t8) (nL.trans (n25.trans n78))).mono fun z S9 F9 ι9 H9 n9 t9 v9 r9 => ?_⟩
                  have n99 := nL.trans ((n25.trans n78).trans n9)
                  have hk9 : ι9[S1.objs.length]? = some L := pre_get ((n25.trans n78).trans n9).pre hk
                  rw [r_bindA] at t9
                  cases ea : fAppend (.r S1.objs.length) [z] S9 with
                  | none =>
                    have : lift (fAppend (.r S1.objs.length) [z]) S9 = .stuck := by
                      unfold lift
                      rw [ea]
                    rw [this] at t9
                    exact t9.elim
                  | some o =>
                    obtain ⟨d10, S10⟩ := o
                    have el : lift (fAppend (.r S1.objs.length) [z]) S9 = .ok d10 S10 := by
                      unfold lift
                      rw [ea]
                    rw [el] at t9
                    unfold fAppend at ea
                    split at ea
                    · rename_i n0 ds0 y0 emut eys
                      cases eys
                      split at ea
                      · rename_i hlen
                        split at ea
                        · rename_i S11 e2
                          cases ea
                          obtain ⟨p, us, ep, hi, hu, rd⟩ := mut?_rel (v := .ref L) n9.r emut (by simp only [RelD]; exact ⟨L, rfl, hk9⟩)
                          cases ep
                          have np := putL_nxt n9.r hi hu (relDs_append rd (relDs_cons.mpr ⟨r9, relDs_nil'⟩)) e2
                          exact ⟨us, hu, by rw [← relDs_len rd]; exact Nat.lt_of_lt_of_le hlen (szOk (Nat.le_refl _)), _, F9, ι9, (n78.trans n9).trans np, t9⟩
                        · cases ea
                      · cases ea
                    · cases ea
            · exact t6.elim
    · exact t2.elim
end
end DL
namespace DL
open PySem PySem.Spec PyProof.Rows L2
section
variable [HasT]
variable {X : Cx} {W : WX} {tg iter elt tg1 iter1 : Expr} {ifs ifs1 : List Expr} {pos : Pos} {mt mt1 : ME Bool} {me : ME D} {mi mi1 : ME Src} {g g1 : MG} {scope : Scope} {own : List (Str × Nat)} {vs1 : List Nat} {fin : Fin}
theorem ds_setLc2 (i : Nat) {y : Str} {py spos : Pos} (hfin : FinOk fin) (hc : X.calm = true) (hN : X.N.Nodup) (ok : BlkOk X.N X.env.scope scope own) (hv : ∀ i ∈ vs1, i ∈ own.map (·.2)) (hi : DI X W tg iter mi)
    (hg : ∀ (s : Shared) (H : Hp) (C : Addr) (cl : List (Str × Addr)) (fp : List Addr), DG (X.blk s H scope (compEnvC scope cl C X.env) fp) (own.map (·.2)) tg g)
    (ht : ∀ (s : Shared) (H : Hp) (C : Addr) (cl : List (Str × Addr)) (fp : List Addr), DTs (X.blk s H scope (compEnvC scope cl C X.env) fp) W0 ifs mt)
    (hi1 : ∀ (s : Shared) (H : Hp) (C : Addr) (cl : List (Str × Addr)) (fp : List Addr), DI (X.blk s H scope (compEnvC scope cl C X.env) fp) W0 tg1 iter1 mi1)
    (hg1 : ∀ (s : Shared) (H : Hp) (C : Addr) (cl : List (Str × Addr)) (fp : List Addr), DG (X.blk s H scope (compEnvC scope cl C X.env) fp) vs1 tg1 g1)
    (ht1 : ∀ (s : Shared) (H : Hp) (C : Addr) (cl : List (Str × Addr)) (fp : List Addr), DTs (X.blk s H scope (compEnvC scope cl C X.env) fp) W0 ifs1 mt1)
    (he : ∀ (s : Shared) (H : Hp) (C : Addr) (cl : List (Str × Addr)) (fp : List Addr), DE (X.blk s H scope (compEnvC scope cl C X.env) fp) W0 elt me)
    (hsw : swapsWith (.ListComp elt [⟨tg, iter, ifs, 0⟩, ⟨tg1, iter1, ifs1, 0⟩] scope pos) (some (.Name y py)) spos.line X.env = pure true) (hy : X.N[i]? = some y := by rfl) (hyl : X.env.scope.names.lookup y = some .local := by rfl) (hs : ∀ x, foldedSetIterable iter X.env x = pure x := by intro _; rfl) (hs1 : ∀ env x, foldedSetIterable iter1 env x = pure x := by intro _ _; rfl) :
    DS X W (.Assign [.Name y py] (.ListComp elt [⟨tg, iter, ifs, 0⟩, ⟨tg1, iter1, ifs1, 0⟩] scope pos) spos) (mAsg (gNm i) (mComp2 fin mi (own.map (·.2)) g mt mi1 vs1 g1 mt1 me)) :=
  PS.imp (ps_setLc2 hc hN hy hyl hsw hi ok hv hg ht hi1 hg1 ht1 he hs hs1) fun E σ H q => asg_imp (fun σ H Q q => comp2_imp hfin (fun _ _ _ _ h => h) (fun _ _ _ h => h) (fun _ _ _ _ h => h) (fun _ _ _ h => h) (fun _ _ _ h => h) q) q
end
end DL
set_option maxHeartbeats 2000000
/-! DLTup: sorted of tuples of ints, of any lengths from one on, any number of them. -/
namespace DL
open PySem PySem.Spec PyProof.Rows L2

/-! ### the order of tuples -/
/-! ### over the model's sort -/
section
variable {prog : Program} {w : World} {A : Around} {E : Value → Shared → Prop} {s : Shared}
end
section
variable {X : Cx}
end
end DL
set_option maxHeartbeats 2000000
/-! DLTup2: sorted of lists of tuples of ints, over the store. -/
namespace DL
open PySem PySem.Spec PyProof.Rows L2
variable [HasT]

section
variable {X : Cx}
end
end DL
set_option maxHeartbeats 4000000
/-! DLDct: dicts of the store, or such as stay: what they hold, whether a key is in one, a key stored; dict(pairs). -/
namespace DL
open PySem PySem.Spec PyProof.Rows L2

/-! ### over the layer -/
section
variable {X : Cx}
def rDSet : TSet := fun x y v H Q => ∃ a H', x = .ref a ∧ DPut H a y v H' ∧ Q H'
theorem set_dict (hu : X.A.units + 65 < cLine) : PSet X rDSet := by
  intro pins s σ H o i v ov iv u Q I ro ri rv h
  obtain ⟨a, H', rfl, g, q⟩ := h
  obtain rfl : ov = Value.ref a := ro
  exact d_setItem (by omega) I g ri rv fun s4 I4 => ⟨H', I4, q⟩
end

/-! ### over the store -/
variable [HasT]
def dLook {κ : Type} [DecidableEq κ] (fs : List (κ × D)) (k : κ) : Option D := (fs.find? fun kv => decide (kv.1 = k)).map (·.2)
def dPut {κ : Type} [DecidableEq κ] (fs : List (κ × D)) (k : κ) (v : D) : List (κ × D) :=
  if (fs.any fun kv => decide (kv.1 = k)) = true then fs.map (fun kv => if kv.1 = k then (kv.1, v) else kv) else fs ++ [(k, v)]
section
variable {κ : Type} [DecidableEq κ] {G : Gb} {F : Addr → Prop} {ι : List Addr} {H : Hp}
def RelOp (G : Gb) (F : Addr → Prop) (ι : List Addr) (H : Hp) : Option D → Option V → Prop
  | none, ov => ov = none
  | some d, ov => ∃ w, ov = some w ∧ RelD G F ι H d w
theorem look_rel {k : κ} : ∀ {fs : List (κ × D)} {vs : List (κ × V)}, RelDk G F ι H fs vs → RelOp G F ι H (dLook fs k) (valV vs k)
  | [], _, h => by
    cases h
    rfl
  | (f, x) :: fs, _, h => by
    obtain ⟨v, ws, rfl, a, b⟩ := h
    have ih := look_rel (k := k) b
    by_cases e : f = k
    · have e1 : dLook ((f, x) :: fs) k = some x := by simp [dLook, List.find?_cons, e]
      rw [e1]
      exact ⟨v, by simp [valV, List.find?_cons, e], a⟩
    · have e1 : dLook ((f, x) :: fs) k = dLook fs k := by simp [dLook, List.find?_cons, e]
      have e2 : valV ((f, v) :: ws) k = valV ws k := by simp [valV, List.find?_cons, e]
      rw [e1, e2]
      exact ih
theorem relDk_any {k : κ} : ∀ {fs : List (κ × D)} {vs : List (κ × V)}, RelDk G F ι H fs vs → (fs.any fun kv => decide (kv.1 = k)) = (vs.any fun kv => decide (kv.1 = k))
  | [], _, h => by
    cases h
    rfl
  | (f, x) :: fs, _, h => by
    obtain ⟨v, ws, rfl, a, b⟩ := h
    rw [List.any_cons, List.any_cons, relDk_any b]
theorem relDk_map {k : κ} {d : D} {u : V} (r : RelD G F ι H d u) : ∀ {fs : List (κ × D)} {vs : List (κ × V)}, RelDk G F ι H fs vs → RelDk G F ι H (fs.map fun kv => if kv.1 = k then (kv.1, d) else kv) (vs.map fun kv => if kv.1 = k then (kv.1, u) else kv)
  | [], _, h => by
    cases h
    rfl
  | (f, x) :: fs, _, h => by
    obtain ⟨v, ws, rfl, a, b⟩ := h
    rw [List.map_cons, List.map_cons]
    by_cases e : f = k
    · rw [if_pos e, if_pos e]
      exact ⟨u, _, rfl, r, relDk_map r b⟩
    · rw [if_neg e, if_neg e]
      exact ⟨v, _, rfl, a, relDk_map r b⟩
theorem relDk_app {k : κ} {d : D} {u : V} (r : RelD G F ι H d u) : ∀ {fs : List (κ × D)} {vs : List (κ × V)}, RelDk G F ι H fs vs → RelDk G F ι H (fs ++ [(k, d)]) (vs ++ [(k, u)])
  | [], _, h => by
    cases h
    exact ⟨u, [], rfl, r, rfl⟩
  | (f, x) :: fs, _, h => by
    obtain ⟨v, ws, rfl, a, b⟩ := h
    exact ⟨v, _, rfl, a, relDk_app r b⟩
theorem put_rel {k : κ} {d : D} {u : V} {fs : List (κ × D)} {vs : List (κ × V)} (h : RelDk G F ι H fs vs) (r : RelD G F ι H d u) : RelDk G F ι H (dPut fs k d) (putK vs k u) := by
  unfold dPut putK
  rw [relDk_any h]
  split
  · exact relDk_map r h
  · exact relDk_app r h
theorem relDk_len {fs : List (κ × D)} : ∀ {vs : List (κ × V)}, RelDk G F ι H fs vs → fs.length = vs.length := by
  induction fs with
  | nil =>
    intro vs h
    cases h
    rfl
  | cons p fs ih =>
    intro vs h
    obtain ⟨v, ws, rfl, a, b⟩ := h
    rw [List.length_cons, List.length_cons, ih b]
theorem relDk_mono {F' : Addr → Prop} {ι' : List Addr} {H' : Hp} (k : KeepW F H H') (s : ∀ a, F a → F' a) (p : ι <+: ι') : ∀ {fs : List (κ × D)} {vs : List (κ × V)}, RelDk G F ι H fs vs → RelDk G F' ι' H' fs vs
  | [], _, h => h
  | (f, x) :: fs, _, h => by
    obtain ⟨v, ws, e, a, b⟩ := h
    exact ⟨v, ws, e, RelD.mono k s p a, relDk_mono k s p b⟩
end
/-! what a dict holds -/
def D.dct? (d : D) (S : Store) : Option (List (Key × D)) := match d with
  | .p (.dic fs) => some (fs.map fun kv => (kv.1, .p kv.2))
  | .r n => match S.objs[n]? with
    | some (.dct fs) => some fs
    | _ => none
  | _ => none
def D.dit? (d : D) (S : Store) : Option (List (List Key × D)) := match d with
  | .p (.dit fs) => some (fs.map fun kv => (kv.1, .p kv.2))
  | .r n => match S.objs[n]? with
    | some (.dit fs) => some fs
    | _ => none
  | _ => none
section
variable {G : Gb} {F : Addr → Prop} {ι : List Addr} {S : Store} {H : Hp}
theorem relPk_D : ∀ {fs : List (Key × P)} {vs : List (Key × V)}, RelPk G F H fs vs → RelDk G F ι H (fs.map fun kv => (kv.1, D.p kv.2)) vs
  | [], _, h => by
    simp only [RelPk] at h
    exact h
  | (f, x) :: fs, _, h => by
    simp only [RelPk] at h
    obtain ⟨v, ws, rfl, a, b⟩ := h
    exact ⟨v, ws, rfl, by simpa only [RelD] using a, relPk_D b⟩
theorem relPt_D : ∀ {fs : List (List Key × P)} {vs : List (List Key × V)}, RelPt G F H fs vs → RelDk G F ι H (fs.map fun kv => (kv.1, D.p kv.2)) vs
  | [], _, h => by
    simp only [RelPt] at h
    exact h
  | (f, x) :: fs, _, h => by
    simp only [RelPt] at h
    obtain ⟨v, ws, rfl, a, b⟩ := h
    exact ⟨v, ws, rfl, by simpa only [RelD] using a, relPt_D b⟩
theorem dct?_rel {d : D} {fs : List (Key × D)} {v : V} (rs : R G F ι S H) (h : d.dct? S = some fs) (r : RelD G F ι H d v) : ∃ a vs, v = .ref a ∧ H a = some (.dK vs) ∧ RelDk G F ι H fs vs := by
  cases d with
  | p x =>
    cases x with
    | dic xs =>
      simp only [D.dct?, Option.some.injEq] at h
      subst h
      simp only [RelD, RelP] at r
      obtain ⟨a, vs, e, _, q, r⟩ := r
      exact ⟨a, vs, e, q, relPk_D r⟩
    | _ => cases h
  | r n =>
    simp only [D.dct?] at h
    split at h
    · rename_i xs e
      cases h
      simp only [RelD] at r
      obtain ⟨a, rfl, q⟩ := r
      obtain ⟨b, qb, ro⟩ := rs.obj e
      rw [q] at qb
      cases qb
      obtain ⟨vs, hv, rv⟩ := ro
      exact ⟨a, vs, rfl, hv, rv⟩
    · cases h
  | t xs => cases h
theorem dit?_rel {d : D} {fs : List (List Key × D)} {v : V} (rs : R G F ι S H) (h : d.dit? S = some fs) (r : RelD G F ι H d v) : ∃ a vs, v = .ref a ∧ Rd H a (.dT vs) ∧ RelDk G F ι H fs vs := by
  cases d with
  | p x =>
    cases x with
    | dit xs =>
      simp only [D.dit?, Option.some.injEq] at h
      subst h
      simp only [RelD, RelP] at r
      obtain ⟨a, vs, e, q, r⟩ := r
      exact ⟨a, vs, e, .inr q, relPt_D r⟩
    | _ => cases h
  | r n =>
    simp only [D.dit?] at h
    split at h
    · rename_i xs e
      cases h
      simp only [RelD] at r
      obtain ⟨a, rfl, q⟩ := r
      obtain ⟨b, qb, ro⟩ := rs.obj e
      rw [q] at qb
      cases qb
      obtain ⟨vs, hv, rv⟩ := ro
      exact ⟨a, vs, rfl, .inl hv, rv⟩
    · cases h
  | t xs => cases h
/-! keys -/
def keyP : P → Option Key
  | .int i => some (.inl i)
  | .str s => some (.inr s)
  | _ => none
def keysP : List P → Option (List Key)
  | [] => some []
  | x :: r => match keyP x, keysP r with
    | some k, some ks => some (k :: ks)
    | _, _ => none
def keyD : D → Option Key
  | .p x => keyP x
  | _ => none
def keyT : D → Option (List Key)
  | .p (.tup xs) => keysP xs
  | _ => none
theorem keyP_rel {x : P} {k : Key} {v : V} (h : keyP x = some k) (r : RelP G F H x v) : v = kV k := by
  cases x <;> first | cases h | skip
  · simp only [RelP] at r
    exact r
  · simp only [RelP] at r
    exact r
theorem keysP_rel : ∀ {xs : List P} {ks : List Key} {vs : List V}, keysP xs = some ks → RelPs G F H xs vs → vs = ks.map kV
  | [], ks, vs, h, r => by
    cases h
    simp only [RelPs] at r
    exact r
  | x :: xs, ks, vs, h, r => by
    unfold keysP at h
    split at h
    · rename_i k ks' e1 e2
      cases h
      simp only [RelPs] at r
      obtain ⟨v, ws, rfl, a, b⟩ := r
      rw [keyP_rel e1 a, keysP_rel e2 b]
      rfl
    · cases h
theorem keyD_rel {d : D} {k : Key} {v : V} (h : keyD d = some k) (r : RelD G F ι H d v) : v = kV k := by
  cases d with
  | p x => exact keyP_rel h (by simpa only [RelD] using r)
  | _ => cases h
theorem keyT_rel {d : D} {ks : List Key} {v : V} (h : keyT d = some ks) (r : RelD G F ι H d v) : ∃ b, v = .ref b ∧ H b = some (.tup (ks.map kV)) := by
  cases d with
  | p x =>
    cases x with
    | tup xs =>
      simp only [RelD, RelP] at r
      obtain ⟨a, vs, e, q, r⟩ := r
      rw [keysP_rel h r] at q
      exact ⟨a, e, q⟩
    | _ => cases h
  | _ => cases h
/-! d[k], k in d -/
def fDLook (x y : D) (S : Store) : Option (Option D) := match x.dct? S, keyD y with
  | some fs, some k => some (dLook fs k)
  | _, _ => match x.dit? S, keyT y with
    | some fs, some k => some (dLook fs k)
    | _, _ => none
theorem dlook_rel {x y : D} {o : Option D} {v u : V} (rs : R G F ι S H) (h : fDLook x y S = some o) (r1 : RelD G F ι H x v) (r2 : RelD G F ι H y u) : ∃ a ov, v = .ref a ∧ DGet H a u ov ∧ RelOp G F ι H o ov := by
  unfold fDLook at h
  split at h
  · rename_i fs k e1 e2
    cases h
    obtain ⟨a, vs, rfl, q, rd⟩ := dct?_rel rs e1 r1
    rw [keyD_rel e2 r2]
    exact ⟨a, valV vs k, rfl, DGet.k q, look_rel (k := k) rd⟩
  · split at h
    · rename_i fs k e1 e2
      cases h
      obtain ⟨a, vs, rfl, q, rd⟩ := dit?_rel rs e1 r1
      obtain ⟨b, rfl, eb⟩ := keyT_rel e2 r2
      exact ⟨a, valV vs k, rfl, .inr ⟨vs, k, b, q, rfl, eb, rfl⟩, look_rel (k := k) rd⟩
    · cases h
end
section
variable {X : Cx}
theorem IxD.or {f f' : F2} (h : IxD X f) (h' : IxD X f') : IxD X (fun x y S => match f x y S with
    | some z => some z
    | none => f' x y S) := by
  obtain ⟨r, o, k⟩ := h
  obtain ⟨r', o', k'⟩ := h'
  refine ⟨fun x y H Q => r x y H Q ∨ r' x y H Q, fun value slice pins s σ H x y v u Q I rx ry h hs => h.elim (fun h => o value slice pins s σ H x y v u Q I rx ry h hs) fun h => o' value slice pins s σ H x y v u Q I rx ry h hs, fun {F ι S S' H d1 d2 d' v1 v2 Q} rs r1 r2 e q => ?_⟩
  dsimp only at e
  split at e
  · rename_i z ez
    cases e
    exact .inl (k rs r1 r2 ez q)
  · exact .inr (k' rs r1 r2 e q)
/-! d[k] = v -/
def putO (n : Nat) (o : O) (S : Store) : Option Store := if h : o.lo S.objs.length = true then some (S.put n o h) else none
def fDPut : D → D → D → Store → Option Store := fun x k y S => match x with
  | .r n => match S.objs[n]? with
    | some (.dct fs) => match keyD k with
      | some kk => if fs.length < 100000 then putO n (.dct (dPut fs kk y)) S else none
      | none => none
    | some (.dit fs) => match keyT k with
      | some kk => if fs.length < 100000 then putO n (.dit (dPut fs kk y)) S else none
      | none => none
    | _ => none
  | _ => none
theorem putO_eq {n : Nat} {o : O} {S S' : Store} (h : putO n o S = some S') : ∃ hw, S' = S.put n o hw := by
  unfold putO at h
  split at h
  · rename_i hw
    cases h
    exact ⟨hw, rfl⟩
  · cases h
theorem dput_rel {G : Gb} {F : Addr → Prop} {ι : List Addr} {S S' : Store} {H : Hp} {x k y : D} {v u w : V} (rs : R G F ι S H) (rx : RelD G F ι H x v) (rk : RelD G F ι H k u) (ry : RelD G F ι H y w) (e : fDPut x k y S = some S') :
    ∃ a H', v = .ref a ∧ DPut H a u w H' ∧ Nxt G F ι H F ι S' H' := by
  unfold fDPut at e
  split at e
  · rename_i n
    simp only [RelD] at rx
    obtain ⟨a, rfl, hi⟩ := rx
    split at e
    · rename_i fs eo
      split at e
      · rename_i kk ek
        split at e
        · rename_i hl
          obtain ⟨hw, rfl⟩ := putO_eq e
          obtain ⟨b, qb, ro⟩ := rs.obj eo
          rw [hi] at qb
          cases qb
          obtain ⟨vs, hv, rv⟩ := ro
          rw [keyD_rel ek rk]
          refine ⟨a, _, rfl, DPut.k hv (by rw [← relDk_len rv]; exact Nat.lt_of_lt_of_le hl (szOk (Nat.le_refl _))), ?_⟩
          refine Nxt.putO rs hi hv rfl hw ⟨_, upd_same, ?_⟩
          exact relDk_mono (keep_put (rs.nf a (List.mem_of_getElem? hi)) (List.mem_of_getElem? hi) hv rfl).w (fun _ h => h) (List.prefix_refl _) (put_rel rv ry)
        · cases e
      · cases e
    · rename_i fs eo
      split at e
      · rename_i kk ek
        split at e
        · rename_i hl
          obtain ⟨hw, rfl⟩ := putO_eq e
          obtain ⟨b, qb, ro⟩ := rs.obj eo
          rw [hi] at qb
          cases qb
          obtain ⟨vs, hv, rv⟩ := ro
          obtain ⟨c, rfl, ec⟩ := keyT_rel ek rk
          refine ⟨a, _, rfl, DPut.t hv ec (by rw [← relDk_len rv]; exact Nat.lt_of_lt_of_le hl (szOk (Nat.le_refl _))), ?_⟩
          refine Nxt.putO rs hi hv rfl hw ⟨_, upd_same, ?_⟩
          exact relDk_mono (keep_put (rs.nf a (List.mem_of_getElem? hi)) (List.mem_of_getElem? hi) hv rfl).w (fun _ h => h) (List.prefix_refl _) (put_rel rv ry)
        · cases e
      · cases e
    · cases e
  · cases e
end
section
variable {X : Cx} {W : WX} {e o i : Expr} {me mo mi : ME D} {p pos : Pos}
def mDPut (me mo mi : ME D) : MS := fun ρ S => (me ρ S).bind fun y => fun S => (mo ρ S).bind fun x => fun S => (mi ρ S).bind fun i => liftS (fDPut x i y) ρ
theorem ds_dput (hu : X.A.units + 65 < cLine) (he : DE X W e me) (ho : DE X W o mo) (hi : DE X W i mi)
    (ha : ∀ v, assign (.Subscript o i p) X.env v = (do
      let ov ← holding [v] (eval o X.env)
      let iv ← holding [v, ov] (eval i X.env)
      standAt p
      holding [v, ov, iv] (setItem ov iv v)
      release [v, ov, iv] []) := by intro _; rfl)
    (hs : swapsWithSole [.Subscript o i p] e pos.line X.env = pure false := by rfl) (hw : swappedStores [.Subscript o i p] e X.env = pure none := by rfl) (h1 : (assignEach [.Subscript o i p] X.env).map (·.2) = [assign (.Subscript o i p) X.env] := by rfl) :
    DS X W (.Assign [.Subscript o i p] e pos) (mDPut me mo mi) := PS.imp (ps_asg he (pg_sub ho hi (set_dict hu) ha) hs hw h1) fun E σ H q => by
  obtain ⟨ρ, S, ι, F, a, t⟩ := q
  refine T.firstS a t fun d S1 F1 ι1 H1 v n a1 r t1 => ?_
  refine T.firstS a1 t1 fun d2 S2 F2 ι2 H2 v2 n2 a2 r2 t2 => ?_
  refine T.firstS a2 t2 fun d3 S3 F3 ι3 H3 v3 n3 a3 r3 t3 => ?_
  obtain ⟨S', e', q⟩ := liftS_then t3
  obtain ⟨b, H', rfl, g, nx⟩ := dput_rel a3.r (n3.d r2) r3 (n3.d (n2.d r)) e'
  exact ⟨b, H', rfl, g, q _ _ _ nx σ rfl (a3.e.mono nx)⟩
def mDicT : ME D := fun _ S => .ok (.r S.objs.length) (S.new (.dit []) rfl)
theorem de_dicT : DE X W (.Dict [] [] pos) mDicT := PE.imp pe_dnewT fun σ H Q q => by
  obtain ⟨ρ, S, ι, F, a, t⟩ := q
  intro p hp
  have nx : Nxt (gb X) F ι H F (ι ++ [p]) (S.new (.dit []) rfl) (upd H p (.dT [])) := Nxt.newO a.r hp rfl ⟨[], upd_same, rfl⟩
  refine t _ _ _ nx _ ?_
  simp only [RelD]
  exact ⟨p, rfl, by rw [← a.r.len]; simp⟩
end
end DL
set_option maxHeartbeats 4000000
/-! DLDct2: dict(pairs), the keys tuples. -/
namespace DL
open PySem PySem.Spec PyProof.Rows L2

section
variable {X : Cx}
end
variable [HasT]
section
variable {G : Gb} {F : Addr → Prop} {ι : List Addr} {H : Hp}
end
section
variable {X : Cx}
def newO (o : O) (S : Store) : Option (D × Store) := if h : o.lo S.objs.length = true then some (.r S.objs.length, S.new o h) else none
end
end DL
set_option maxHeartbeats 4000000
/-! DLMore2: list(range(n)); list(range(a, b)), tuple(range(..)) in the store. -/
namespace DL
open PySem PySem.Spec PyProof.Rows L2
variable [HasT]
section
variable {X : Cx} {W : WX} {pos : Pos}
def rgP (i j : Int) : List P := (List.range (j - i).toNat).map fun k => P.int (i + (k : Nat))
def rgSmall (i j : Int) : Bool := decide (-1000000 ≤ i) && (decide (i ≤ 1000000) && (decide (-1000000 ≤ j) && decide (j ≤ 1000000)))
theorem rgSmall_ok {i j : Int} (h : rgSmall i j = true) : RgOk i j := by
  simp only [rgSmall, Bool.and_eq_true, decide_eq_true_eq] at h
  exact ⟨by omega, by omega, by omega, by omega, by omega⟩
def fLR (fin : FL) (i j : Int) (S : Store) : Option (D × Store) := if rgSmall i j = true then fin ((rgP i j).map D.p) S else none
theorem relDs_rg {G : Gb} {F : Addr → Prop} {ι : List Addr} {H : Hp} (i j : Int) : RelDs G F ι H ((rgP i j).map D.p) (rgV i j) := relDs_map (relPs_rg i _)
def fListRg1 (fin : FL) : F1 := fun x S => match x with
  | .p (.int j) => fLR fin 0 j S
  | _ => none
theorem de_listRg1 {a : Expr} {ma : ME D} {p p2 pos pos2 : Pos} {fin : FL} (n : NewL X fin) (hm : X.mg "list" = none) (hm2 : X.mg "range" = none) (ha : DE X W a ma) (hc : X.calm = true := by rfl) (hg : Gl X "list" := by rfl) (hg2 : Gl X "range" := by rfl)
    (na : starEach [a] X.env = (false, eval a X.env) :: starEach [] X.env := by rfl)
    (ns : starEach [.Call (.Name "range" p2) [a] [] pos2] X.env = (false, eval (.Call (.Name "range" p2) [a] [] pos2) X.env) :: starEach [] X.env := by rfl) :
    DE X W (.Call (.Name "list" p) [.Call (.Name "range" p2) [a] [] pos2] [] pos) (mOp1 (fListRg1 fin) ma) :=
  PE.imp (pe_listRg hc hg hm (prg_1 hg2 hm2 ha na) ns) fun σ H Q q => by
    obtain ⟨ρ, S, ι, F, at', t⟩ := q
    refine T.first at' t fun d1 S1 F1 ι1 H1 v1 n1 a1 r1 t1 => ?_
    obtain ⟨d', S', e, q⟩ := lift_then t1
    unfold fListRg1 at e
    split at e
    · rename_i j
      unfold fLR at e
      split at e
      · rename_i h
        cases relInt r1
        refine ⟨j, rfl, rgSmall_ok h, ?_⟩
        exact (n a1.r (relDs_rg 0 j) e fun F' ι' H' v nx r => q _ _ _ nx _ r).2
      · cases e
    · cases e
end
end DL
set_option maxHeartbeats 4000000
/-! DLAug: o[i] op= e; targets that store; range(a, b, -1); divmod. -/
namespace DL
open PySem PySem.Spec PyProof.Rows L2
section
variable {X : Cx}
end
variable [HasT]
section
variable {X : Cx} {W : WX}
def GtD (X : Cx) (f : F2) : Prop :=
  ∃ r : R2, PGet X r ∧ ∀ {F : Addr → Prop} {ι : List Addr} {S S' : Store} {H : Hp} {d1 d2 d' : D} {v1 v2 : V} {Q : VK}, R (gb X) F ι S H → RelD (gb X) F ι H d1 v1 → RelD (gb X) F ι H d2 v2 → f d1 d2 S = some (d', S') →
    (∀ F' ι' H' v, Nxt (gb X) F ι H F' ι' S' H' → RelD (gb X) F' ι' H' d' v → Q v H') → r v1 v2 H Q
def StD (X : Cx) (w : D → D → D → Store → Option Store) : Prop :=
  ∃ t : TSet, PSet X t ∧ ∀ {F : Addr → Prop} {ι : List Addr} {S S' : Store} {H : Hp} {x k y : D} {v1 v2 v3 : V} {Q : Hp → Prop}, R (gb X) F ι S H → RelD (gb X) F ι H x v1 → RelD (gb X) F ι H k v2 → RelD (gb X) F ι H y v3 → w x k y S = some S' →
    (∀ H', Nxt (gb X) F ι H F ι S' H' → Q H') → t v1 v2 v3 H Q
theorem StD.or {w w' : D → D → D → Store → Option Store} (h : StD X w) (h' : StD X w') : StD X (fun x k y S => match w x k y S with
    | some z => some z
    | none => w' x k y S) := by
  obtain ⟨t, ht, k⟩ := h
  obtain ⟨t', ht', k'⟩ := h'
  refine ⟨fun x i v H Q => t x i v H Q ∨ t' x i v H Q, fun pins s σ H o i v ov iv u Q I ro ri rv h => h.elim (fun h => ht pins s σ H o i v ov iv u Q I ro ri rv h) fun h => ht' pins s σ H o i v ov iv u Q I ro ri rv h, fun rs r1 r2 r3 e q => ?_⟩
  dsimp only at e
  split at e
  · rename_i z ez
    cases e
    exact .inl (k rs r1 r2 r3 ez q)
  · exact .inr (k' rs r1 r2 r3 e q)
theorem GtD.or {f f' : F2} (h : GtD X f) (h' : GtD X f') : GtD X (fun x y S => match f x y S with
    | some z => some z
    | none => f' x y S) := by
  obtain ⟨t, ht, k⟩ := h
  obtain ⟨t', ht', k'⟩ := h'
  refine ⟨fun x i H Q => t x i H Q ∨ t' x i H Q, fun pins s σ H o i ov iv Q I ro ri h => h.elim (fun h => ht pins s σ H o i ov iv Q I ro ri h) fun h => ht' pins s σ H o i ov iv Q I ro ri h, fun rs r1 r2 e q => ?_⟩
  dsimp only at e
  split at e
  · rename_i z ez
    cases e
    exact .inl (k rs r1 r2 ez q)
  · exact .inr (k' rs r1 r2 e q)
/-! o[i] op= e -/
/-! targets that store -/
end
end DL
set_option maxHeartbeats 4000000
/-! DLMore3: range(a, b, -1); divmod. -/
namespace DL
open PySem PySem.Spec PyProof.Rows L2
variable [HasT]
section
variable {X : Cx} {W : WX} {tg a b c : Expr} {mr : ME (List D)} {p pos : Pos}
end
end DL
set_option maxHeartbeats 4000000
/-! DLTSet: sorted(set(xs)) of a list of tuples of ints: any number of them, fewer than 63 unlike ones. -/
namespace DL
open PySem PySem.Spec PyProof.Rows L2
section
variable {P : Program} {w : World} {A : Around} {E : Value → Shared → Prop} {s : Shared}
end
/-! ### of tuples -/
section
variable {P : Program} {w : World} {A : Around} {E : Value → Shared → Prop} {s : Shared}
end

/-! ### sorted(set(xs)) -/
variable [HasT]
section
variable {X : Cx} {W : WX}
end
end DL
set_option maxHeartbeats 4000000
/-! DLBigSet: len(set(xs)) of many tuples of ints whose hashes all differ (up to 300: a table of 512). -/
namespace DL
open PySem PySem.Spec PyProof.Rows L2

/-! ### tables of 8, 32, 128, 512 -/
def MOk (m : Nat) : Prop := MaskOk m ∨ m = 511
/-! ### laying anew -/
/-! ### the set -/
structure SetN (P : Program) (w : World) (h : Heap) (a : Addr) (L : List (Addr × List Int)) (es : Array (Int × Value)) (ep : Nat) (t : SetTable) : Prop where
  ob : ∃ o, h.get? a = some o ∧ o.ExactSet ∧ o.data = .set es ep t
  rows : es.toList = rowsOf P w L
  ris : Ris t.place.toList
  dm : t.dummies = #[]
  sz : t.place.size = L.length
  mok : MOk t.mask
  plain : t.plain = true
  room : L.length * 5 < t.mask * 3
section
variable {P : Program} {w : World} {A : Around} {E : Value → Shared → Prop} {s : Shared}
variable {a : Addr} {L : List (Addr × List Int)} {es : Array (Int × Value)} {ep : Nat} {t : SetTable}
theorem SetN.size (R : SetN P w s.heap a L es ep t) : es.size = L.length := by
  have h := congrArg List.length R.rows
  unfold rowsOf at h
  rwa [Array.length_toList, List.length_map] at h
end

/-! ### len(set(xs)) -/
variable [HasT]
section
variable {X : Cx} {W : WX}
end
end DL
set_option maxHeartbeats 4000000
/-! DLRev: t[::-1] of tuples, and of lists. -/
namespace DL
open PySem PySem.Spec PyProof.Rows L2
section
variable {prog : Program} {w : World} {A : Around} {E : Value → Shared → Prop} {s : Shared}
theorem adjust_rev (n : Nat) : Builtin.Slice.sliceAdjust none none (-1) (n : Int) = ((n : Int) - 1, -1) := by
  unfold Builtin.Slice.sliceAdjust
  have h1 : ((-1 : Int) < 0) := by omega
  simp only [h1, if_true]
theorem places_rev (n : Nat) : Builtin.Slice.slicePlaces ((n : Int) - 1) (-1) (-1) = n := by
  unfold Builtin.Slice.slicePlaces
  have h1 : ¬ ((-1 : Int) > 0) := by omega
  simp only [h1, if_false]
  split
  · rw [show (- -1 : Int) = 1 by decide, Int.ediv_one]
    omega
  · omega
theorem sliceApplied_rev {sl : Addr} {vl vu vs : Value} {n : Nat} {Q : Int × Int × Nat → Shared → Prop} (hs : s.heap.IsSliceOf sl vl vu vs) (pl : IsPart vl none) (pu : IsPart vu none) (ps : IsPart vs (some (-1)))
    (h : Q ((n : Int) - 1, -1, n) s) : wpAny (model prog w) A (Builtin.Slice.sliceApplied (.ref sl) (pure (n : Int))) Q E s := by
  obtain ⟨os, hos, hcs, hds⟩ := id hs
  unfold Builtin.Slice.sliceApplied Builtin.Slice.sliceFields
  refine wpAny_bind (wpAny_bind (wpAny_field hos hds (x := vl) rfl (wpAny_bind (wpAny_field hos hds (x := vu) rfl (wpAny_bind (wpAny_field hos hds (x := vs) rfl (wpAny_pure ?_)))))))
  refine wpAny_bind (HT.slicePart_ ps ?_)
  show wpAny _ _ (if ((-1 : Int) == 0) = true then _ else _) _ _ s
  rw [if_neg (by decide)]
  refine wpAny_bind (HT.slicePart_ pl (wpAny_bind (HT.slicePart_ pu (wpAny_bind (wpAny_pure ?_)))))
  show wpAny _ _ (match Builtin.Slice.sliceAdjust none none (-1) (n : Int) with | (lo, hi) => pure (lo, (-1 : Int), Builtin.Slice.slicePlaces lo hi (-1))) _ _ s
  rw [adjust_rev n]
  show wpAny _ _ (pure ((n : Int) - 1, (-1 : Int), Builtin.Slice.slicePlaces ((n : Int) - 1) (-1) (-1))) _ _ s
  rw [places_rev]
  exact wpAny_pure h
theorem fm_congr {α β : Type} {f g : α → Option β} : ∀ {l : List α}, (∀ x ∈ l, f x = g x) → l.filterMap f = l.filterMap g
  | [], _ => rfl
  | x :: l, h => by
    rw [List.filterMap_cons, List.filterMap_cons, h x List.mem_cons_self, fm_congr fun y hy => h y (List.mem_cons_of_mem _ hy)]
theorem pick_rev (xs : Array Value) : ((List.range xs.size).filterMap fun (m : Nat) => xs[(((xs.size : Nat) : Int) - 1 + (m : Int) * -1).toNat]?).toArray = xs.toList.reverse.toArray := by
  have e : (List.range xs.size).filterMap (fun (m : Nat) => xs[(((xs.size : Nat) : Int) - 1 + (m : Int) * -1).toNat]?) = ((List.range xs.size).map fun k => xs.size - 1 - k).filterMap (xs[·]?) := by
    rw [List.filterMap_map]
    refine fm_congr fun m hm => ?_
    rw [List.mem_range] at hm
    have : (((xs.size : Nat) : Int) - 1 + (m : Int) * -1).toNat = xs.size - 1 - m := by omega
    rw [this]
    rfl
  rw [e, PySem.W.krv_range, List.filterMap_reverse, PySem.W.krv_all]
theorem getItem_tuple_rev {t sl : Addr} {items : Array Value} {vl vu vs : Value} {Q : Value → Shared → Prop} (ht : IsTup s.heap t items) (hs : s.heap.IsSliceOf sl vl vu vs) (pl : IsPart vl none) (pu : IsPart vu none) (ps : IsPart vs (some (-1)))
    (h : Q (.ref s.heap.objs.size) { s with heap := s.heap.push { cls := .type "tuple", data := .seq items.toList.reverse.toArray } }) (hsz : items.size ≤ sizeLine) : wpAny (model prog w) A (getItem (.ref t) (.ref sl)) Q E s := by
  have htake : sizeOk (.seq items.toList.reverse.toArray) := by
    show items.toList.reverse.toArray.size ≤ sizeLine
    rw [List.size_toArray, List.length_reverse, Array.length_toList]
    exact hsz
  obtain ⟨os, hos, hcs, hds⟩ := id hs
  have hTs : s.TypeIs (.ref sl) "slice" := ⟨os, hos, hcs⟩
  unfold getItem
  try with_reducible refine wpAny_holding ?_
  first | refine wpAny_bind (wpAny_pure ?_) | skip
  refine wpAny_bind (wpAny_sequenceKey ht.typeIs (by decide) ?_)
  refine wpAny_bind (wpAny_callSpecial?_slot (name := Str.ofString "__getitem__") ht.typeIs PyProof.Rows.slot_tuple_getitem
    (wpAny_call_entry PyProof.Rows.slot_tuple_getitem ht.typeIs entry_tuple_getitem ?_ (args_tuple_getitem _ _)))
  show wpAny _ _ (Builtin.Tuple.tupleItemsOf (.ref t) >>= _) _ _ s
  refine wpAny_bind (tupleItemsOf_ ht ?_)
  refine wpAny_bind (wpAny_typeOf hTs ?_)
  rw [if_pos (by decide)]
  refine wpAny_bind (sliceApplied_rev hs pl pu ps ?_)
  have hno : ¬ ((((items.size : Nat) : Int) - 1 == 0 && (-1 : Int) == 1 && items.size == items.size) = true) := by
    intro q
    rw [Bool.and_eq_true, Bool.and_eq_true] at q
    exact absurd q.1.2 (by decide)
  show wpAny _ _ (if (((items.size : Nat) : Int) - 1 == 0 && (-1 : Int) == 1 && items.size == items.size) = true then _ else _) _ _ s
  rw [if_neg hno, pick_rev]
  first
    | exact wpAny_bind (m := Builtin.Tuple.tupleExact _) (wpAny_newObj_type (wpAny_pure ⟨_, rfl, wpAny_pure h⟩) htake)
    | exact wpAny_bind (m := Builtin.Tuple.tupleExact _) (wpAny_newObj_type (wpAny_bind (wpAny_pure (wpAny_pure ⟨_, rfl, wpAny_pure h⟩))) htake)
    | exact wpAny_bind (wpAny_bind (m := Builtin.Tuple.tupleExact _) (wpAny_newObj_type (wpAny_pure (wpAny_pure ⟨_, rfl, wpAny_pure h⟩)) htake))
    | exact wpAny_bind (wpAny_bind (m := Builtin.Tuple.tupleExact _) (wpAny_newObj_type (wpAny_pure ⟨_, rfl, wpAny_pure h⟩) htake))
end
section
variable {X : Cx}
/-- x[::-1], a list or a tuple -/
def tRevA (K : PySem.W.Frag) (te : TE) : TE := fun σ H Q => te σ H fun x H1 => ∃ a xs, x = .ref a ∧ ((SqL K H1 a xs ∧ ∀ p, H1 p = none → Q (.ref p) (upd H1 p (.lst xs.reverse))) ∨ (SqT K H1 a xs ∧ ∀ p, H1 p = none → Q (.ref p) (upd H1 p (.tup xs.reverse))))
theorem pe_revA {e : Expr} {te : TE} {k : Nat} {p1 p2 p3 pos : Pos} (he : PE X e te) : PE X (.Subscript e (.Slice none none (some (.UnaryOp .USub (.Constant (.int 1) k p1) p2)) p3) pos) (tRevA X.K te) := by
  refine ⟨fun pins s σ H Q I h => ?_⟩
  refine Subscript_ (thn (he.run pins s σ H _ I h) fun v s1 ⟨x, H1, I1, r1, q1⟩ => ?_)
  obtain ⟨a, xs, ex, hx⟩ := q1
  subst ex
  cases r1
  have hst : PO X (some (.UnaryOp .USub (.Constant (.int 1) k p1) p2)) (tPart (tUn (rU fun i => .int (-i)) (tC (.int 1)))) := po_some (pe_un un_neg pe_int)
  refine wpAny_Slice (thn (po_none.run pins s1 σ H1 (fun o H2 => o = none ∧ H2 = H1) I1 ⟨rfl, rfl⟩) fun vl s2 ⟨l, H2, I2, pl, el, e2⟩ => ?_)
  subst el e2
  refine thn (po_none.run pins s2 σ H2 (fun o H3 => o = none ∧ H3 = H2) I2 ⟨rfl, rfl⟩) fun vu s3 ⟨u, H3, I3, pu, eu, e3⟩ => ?_
  subst eu e3
  refine thn (hst.run pins s3 σ H3 (fun o H4 => o = some (-1) ∧ H4 = H3) I3 ⟨1, rfl, -1, rfl, rfl, rfl⟩) fun vs s4 ⟨o, H4, I4, ps, eo, e4⟩ => ?_
  subst eo e4
  have I5 : L2.Inv X pins σ H4 { s4 with heap := s4.heap.push { cls := .type "slice", data := .fields #[vl, vu, vs] } } := I4.kept (t' := s4.toks) fun b ob q => Heap.get?_push_of_some _ q
  show wpAny (model X.prog X.w) X.A (subscriptTail e (.Slice none none (some (.UnaryOp .USub (.Constant (.int 1) k p1) p2)) p3) (.ref a) (.ref s4.heap.objs.size)) (EP X pins σ Q) X.xe { s4 with heap := s4.heap.push { cls := .type "slice", data := .fields #[vl, vu, vs] } }
  rcases hx with ⟨hx, q⟩ | ⟨hx, q⟩
  · obtain ⟨its, r, ht, hz⟩ := I5.list hx
    have hlen := r.length
    refine tail_any (ops := [.ref a, .ref s4.heap.objs.size]) ht.isList.typeIs (PySem.slot_list_getitem.lookup) ?_ (by with_unfolding_all rfl)
    refine wpAny_getItem_list_slice ht.isList (Heap.IsSliceOf.new _ vl vu vs) pl pu ps (by decide) ?_ (by rw [List.size_toArray]; omega)
    rw [PySem.W.krv_pick]
    refine ⟨.ref _, _, I5.laid (t' := s4.toks) (o := .lst xs.reverse) (fun b ob q => Heap.get?_push_of_some _ q) (Nat.le_refl _) ?_, rfl, q _ (I5.hok.fresh (Nat.le_refl _))⟩
    exact ⟨by rw [List.length_reverse]; exact hz, _, 0, r.reverse, Heap.get?_push_size _ rfl⟩
  · obtain ⟨its, r, ht, hz⟩ := I5.tuple hx
    have hlen := r.length
    refine tail_any (ops := [.ref a, .ref s4.heap.objs.size]) ht.typeIs (PyProof.Rows.slot_tuple_getitem.lookup) ?_ (by with_unfolding_all rfl)
    refine getItem_tuple_rev ht (Heap.IsSliceOf.new _ vl vu vs) pl pu ps ?_ (by rw [List.size_toArray]; omega)
    refine ⟨.ref _, _, I5.laid (t' := s4.toks) (o := .tup xs.reverse) (fun b ob q => Heap.get?_push_of_some _ q) (Nat.le_refl _) ?_, rfl, q _ (I5.hok.fresh (Nat.le_refl _))⟩
    exact ⟨by rw [List.length_reverse]; exact hz, _, r.reverse, IsTup.new _ _⟩
end
variable [HasT]
def fRevA (fin : FL) : F1 := fun x S => match fRevL fin x S with
  | some z => some z
  | none => match x.tup? with
    | some xs => some (mkTup xs.reverse, S)
    | none => none
theorem de_revA {X : Cx} {W : WX} {a : Expr} {ma : ME D} {pos : Pos} {fin : FL} {k : Nat} {p1 p3 p4 : Pos} (n : NewL X fin) (ha : DE X W a ma) : DE X W (.Subscript a (.Slice none none (some (.UnaryOp .USub (.Constant (.int 1) k p1) p3)) p4) pos) (mOp1 (fRevA fin) ma) :=
  PE.imp (pe_revA ha) fun σ H Q q => by
    obtain ⟨ρ, S, ι, F, at', t⟩ := q
    refine T.first at' t fun d1 S1 F1 ι1 H1 v1 n1 a1 r1 t1 => ?_
    obtain ⟨d', S', e, q⟩ := lift_then t1
    unfold fRevA at e
    split at e
    · rename_i z ez
      cases e
      unfold fRevL at ez
      split at ez
      · rename_i xs ex
        obtain ⟨p, vs, rfl, q1, rd⟩ := lst?_rel a1.r ex r1
        exact ⟨p, vs, rfl, .inl ⟨q1, (n a1.r (relDs_reverse rd) ez fun F' ι' H' v n r => q F' ι' H' n v r).2⟩⟩
      · cases ez
    · split at e
      · rename_i xs ex
        cases e
        obtain ⟨p, vs, rfl, q1, rd⟩ := tup?_relH ex r1
        exact ⟨p, vs, rfl, .inr ⟨SqT.of q1, fun p' hp => q _ _ _ (Nxt.fresh a1.r hp) _ (rel_newT hp (relDs_reverse rd))⟩⟩
      · cases e
end DL
set_option maxHeartbeats 4000000
/-! DLRepI: repr of an int. -/
namespace DL
open PySem PySem.Spec PyProof.Rows L2
variable [HasT]
section
variable {X : Cx}
end
end DL
set_option maxHeartbeats 4000000
/-! DLDisp: {k: v}, the key an int, a text or a tuple of such. -/
namespace DL
open PySem PySem.Spec PyProof.Rows L2
section
variable {X : Cx} {k v : Expr} {tk tv : TE} {pos : Pos}
def tDisp1T (tk tv : TE) : TE := fun σ H Q => ∀ p, H p = none → tk σ (upd H p (.dT [])) fun x H1 => tv σ H1 fun y H2 => H2 p = some (.dT []) ∧ ∃ (kk : List Key) (b : Addr), x = .ref b ∧ H2 b = some (.tup (kk.map kV)) ∧ Q (.ref p) (upd H2 p (.dT [(kk, y)]))
theorem pe_disp1T (hk : PE X k tk) (hv : PE X v tv) (hu : X.A.units < cLine) : PE X (.Dict [some k] [v] pos) (tDisp1T tk tv) := by
  refine ⟨fun pins s σ H Q I q => ?_⟩
  have hn := I.hok.fresh (Nat.le_refl s.heap.objs.size)
  have I1 := I.laid (a := s.heap.objs.size) (o := .dT []) (h' := s.heap.push { cls := .type "dict", data := .dict #[] }) (t' := s.toks) (fun _ _ q => Heap.get?_push_of_some _ q) (Nat.le_refl _) (dt_empty s.heap I.big)
  rw [arm_eval_Dict, zip_pairTrees [some k] [v] X.env pos rfl rfl, dictDisplay_pairs (pairTrees [some k] [v] X.env pos) (by simp [pairTrees]) (by simp [pairTrees])]
  refine wpAny_bind (wpAny_standAt (wpAny_bind (wpAny_subDictH (knd := tupleKind (mixKind X.prog X.w)) (Q := fun d s' => wpAny (model X.prog X.w) X.A (pure (Value.ref d)) (EP X pins σ Q) X.xe s') hu (by simp [pairTrees]) ?_)))
  refine pairTrees_cons_walk (thn (hk.run pins _ σ _ _ I1 (q _ hn)) fun u s1 ⟨x, H1, J1, rx, q1⟩ => thn (hv.run pins s1 σ H1 _ J1 q1) fun w2 s2 ⟨y, H2, J2, ry, e, kk, b, ex, eb, q2⟩ => pairTrees_nil_walk ?_)
  subst ex
  obtain rfl : u = Value.ref b := rx
  obtain ⟨z, hd, xs0, r0, dd⟩ := dt_of J2.hok e
  cases r0
  refine ⟨[(kk, b, w2)], ⟨rfl, rfl, key_of J2.hok eb, trivial⟩, dd, fun h' tk dk hs => wpAny_pure ⟨.ref s.heap.objs.size, _, ?_, rfl, q2⟩⟩
  obtain ⟨o, es, ep, ho, h2, h3, h4, _, h5⟩ := dk
  refine d_write J2 (by rw [e]; exact True.intro) hs ⟨o, ho⟩ ⟨by show 1 ≤ sizeLine; rw [sizeLine_eq]; decide, hd, _, .cons ⟨rfl, ?_, ry⟩ .nil, o, es, ep, ho, h2, h3, h4, h5⟩
  rw [upd_ne (ne_of eb e (fun z => nomatch z))]
  exact eb
end
variable [HasT]
/-- {k: v}: the new dict comes first -/
def mDispT (mk mv : ME D) : ME D := fun ρ S => (mk ρ (S.new (.dit []) rfl)).bind fun kd S1 => (mv ρ S1).bind fun vd S2 => match S2.objs[S.objs.length]?, keyT kd with
  | some (.dit []), some kk => (match putO S.objs.length (.dit [(kk, vd)]) S2 with
    | some S3 => .ok (.r S.objs.length) S3
    | none => .stuck)
  | _, _ => .stuck
section
variable {X : Cx} {W : WX} {k v : Expr} {mk mv : ME D} {pos : Pos}
theorem de_dispT (hu : X.A.units + 65 < cLine) (hk : DE X W k mk) (hv : DE X W v mv) : DE X W (.Dict [some k] [v] pos) (mDispT mk mv) := PE.imp (pe_disp1T hk hv (by omega)) fun σ H Q q => by
  obtain ⟨ρ, S, ι, F, a, t⟩ := q
  intro p hp
  have nx : Nxt (gb X) F ι H F (ι ++ [p]) (S.new (.dit []) rfl) (upd H p (.dT [])) := Nxt.newO a.r hp rfl ⟨[], upd_same, rfl⟩
  have t1 := Then.later t nx
  refine T.first (a.next nx) t1 fun kd S1 F1 ι1 H1 x n1 a1 r1 t2 => ?_
  refine T.first a1 t2 fun vd S2 F2 ι2 H2 y n2 a2 r2 t3 => ?_
  split at t3
  · rename_i kk eo ek
    split at t3
    · rename_i S3 e3
      obtain ⟨hw, rfl⟩ := putO_eq e3
      have ip : ι2[S.objs.length]? = some p := pre_get (n1.trans n2).pre (by rw [← a.r.len]; simp)
      obtain ⟨b, qb, ro⟩ := a2.r.obj eo
      rw [ip] at qb
      cases qb
      obtain ⟨vs, hv0, rv0⟩ := ro
      cases rv0
      obtain ⟨b2, rfl, eb⟩ := keyT_rel ek (n2.d r1)
      refine ⟨hv0, kk, b2, rfl, eb, ?_⟩
      have nz := Nxt.putO a2.r ip hv0 rfl hw (u' := .dT [(kk, y)]) ⟨_, upd_same, y, [], rfl, r2.mono (keep_put (a2.r.nf p (List.mem_of_getElem? ip)) (List.mem_of_getElem? ip) hv0 rfl).w (fun _ h => h) (List.prefix_refl _), rfl⟩
      refine t3 _ _ _ nz _ ?_
      simp only [RelD]
      exact ⟨p, rfl, ip⟩
    · exact t3.elim
  · exact t3.elim
end
end DL
set_option maxHeartbeats 4000000
/-! DLThing: own classes made by a classmethod: C.of(..), cls(a, *rest) with a local cls, __init__(self, a, .., *rest). -/
namespace DL
open PySem PySem.Spec PyProof.Rows L2
variable [HasT]
/-! ### a promise for any number of arguments -/
def spA (G : Gb) (mf : List D → M D) : Sp := fun vs H Q E => vs.length ≤ sizeLine ∧ ∃ ds S ι F, R G F ι S H ∧ RelDs G F ι H ds vs ∧ Then G E F ι H (mf ds S) fun d _ F' ι' H' => ∀ v, RelD G F' ι' H' d v → Q v H'
def FnV (P : Program) (w : World) (K : PySem.W.Frag) (mg : Str → Option Value) (base : Heap) (k : Nat) (f : Addr) (mf : List D → M D) : Prop := FnRG P w K mg base k f (spA ⟨K, mg⟩ mf)
section
variable {P : Program} {w : World} {K : PySem.W.Frag} {mg : Str → Option Value} {base : Heap} {k n m : Nat} {f : Addr} {fd : FuncData} {ps : List Str} {mf : List D → M D}
theorem FnV.mono {j : Nat} (F : FnV P w K mg base j f mf) (h : j ≤ k) : FnV P w K mg base k f mf := fun A outer s H us vs Q E hr => F A outer s H us vs Q E (hr.mono h)
end
/-! ### making -/
section
variable {X : Cx} {W : WX} {e : Expr} {es : List Expr} {c m : Str} {k n i : Nat} {mf : List D → M D} {mr : ME (List D)} {p p0 pos apos : Pos} {x : Str}
/-! ### C.m(..), a classmethod -/
end
end DL
set_option maxHeartbeats 4000000
/-! DLThing2: len(set(t)), sorted(t), t a tuple of tuples of ints. -/
namespace DL
open PySem PySem.Spec PyProof.Rows L2
section
variable {P : Program} {w : World} {A : Around} {E : Value → Shared → Prop} {s : Shared}
end
section
variable {P : Program} {w : World} {A : Around} {E : Value → Shared → Prop} {s : Shared}
end

variable [HasT]
section
variable {X : Cx} {W : WX}
end


/-! ### sorted -/
section
variable {prog : Program} {w : World} {A : Around} {E : Value → Shared → Prop} {s : Shared}
end
section
variable {X : Cx}
end
end DL
set_option maxHeartbeats 4000000
/-! DLThing3: how the promises of DLThing are got from the text; C(..) with *rest; str(int). -/
namespace DL
open PySem PySem.Spec PyProof.Rows L2
variable [HasT]
section
variable {P : Program} {w : World} {K : PySem.W.Frag} {mg : Str → Option Value} {base : Heap} {c x qual pv : Str} {params : Arguments} {body : List Stmt} {scope : Scope} {C f : Addr} {fd : FuncData} {N ps : List Str} {k n m : Nat} {fin : Fin} {ms : MS} {mf : List D → M D}
end
section
variable {X : Cx} {W : WX} {e : Expr} {es : List Expr} {c : Str} {k : Nat} {mf : List D → M D} {mr : ME (List D)} {p pos : Pos}
end
end DL
set_option maxHeartbeats 4000000
/-! DLInT: x in a tuple (or list) of plain values: ints, texts, bools, None. -/
namespace DL
open PySem PySem.Spec PyProof.Rows L2
variable [HasT]
section
variable {X : Cx} {G : Gb} {F : Addr → Prop} {ι : List Addr} {S : Store} {H : Hp}
/-! ### a op b op c op d -/
variable {W : WX} {a b c d : Expr} {ma mb mc md : ME D} {pos : Pos}
end
end DL
set_option maxHeartbeats 4000000
/-! DLMatch: match over a tuple: rows of written texts and names. -/
namespace DL
open PySem PySem.Spec PyProof.Rows L2
variable [HasT]
inductive Pt where
  | lit (s : Str)
  | cap (i : Nat)
section
variable {X : Cx} {W : WX}
inductive PtOk (X : Cx) : List Pattern → List Pt → Prop where
  | nil : PtOk X [] []
  | lit {s : Str} {j p1 p2 ps qs} (h : PtOk X ps qs) : PtOk X (.MatchValue (.Constant (.str s) j p1) p2 :: ps) (.lit s :: qs)
  | cap {i : Nat} {x : Str} {p ps qs} (hi : X.N[i]? = some x) (hx : Loc X.env.scope x) (hf : X.fn x = true ∨ X.env.scope.names.lookup x = some .local) (h : PtOk X ps qs) : PtOk X (.MatchAs none (some x) p :: ps) (.cap i :: qs)
theorem PtOk.len {ps : List Pattern} {qs : List Pt} (h : PtOk X ps qs) : ps.length = qs.length := by
  induction h with
  | nil => rfl
  | lit h ih => simp [ih]
  | cap hi hx hf h ih => simp [ih]
end
end DL
set_option maxHeartbeats 4000000
/-! DLBox: a part of a suite whose new things are frozen behind it; lists as what is unpacked. -/
namespace DL
open PySem PySem.Spec PyProof.Rows L2
theorem execs_app {env : PySem.Env} (bs : List Stmt) : ∀ as : List Stmt, execs (as ++ bs) env = (execs as env >>= fun f => match f with
    | .next => execs bs env
    | f => pure f)
  | [] => rfl
  | a :: as => by
    have ih := execs_app (env := env) bs as
    show (exec a env >>= fun f => match f with
      | .next => execs (as ++ bs) env
      | f => pure f) = ((exec a env >>= fun f => match f with
      | .next => execs as env
      | f => pure f) >>= _)
    rw [bind_assoc]
    congr 1
    funext f
    cases f with
    | next => exact ih
    | ret v => rfl
    | brk => rfl
    | cont => rfl
variable [HasT]
section
variable {X : Cx} {W : WX}
theorem pss_app {as bs : List Stmt} {t u : TS} (h1 : PSs X as t) (h2 : PSs X bs u) : PSs X (as ++ bs) (tSeq t u) := by
  refine ⟨fun pins s σ H D I h => ?_⟩
  rw [execs_app]
  refine wpAny_bind (thn (h1.run pins s σ H { D with nx := u D } I h) fun f s1 q => ?_)
  cases f with
  | next =>
    obtain ⟨σ', H', I', q⟩ := q
    exact h2.run pins s1 σ' H' D I' q
  | ret v => exact wpAny_pure q
  | brk => exact wpAny_pure q
  | cont => exact wpAny_pure q
theorem dss_app {as bs : List Stmt} {m1 m2 : MS} (h1 : DSs X W as m1) (h2 : DSs X W bs m2) : DSs X W (as ++ bs) (mSeq m1 m2) := PSs.imp (pss_app h1 h2) fun E σ H q => seq_imp q
/-- what slots hold behind the cut: what was there before, what can be frozen -/
def boxE (k : Nat) (S : Store) : Env → Env
  | [] => []
  | none :: ρ => none :: boxE k S ρ
  | some d :: ρ => (if d.lo k = true then some d else (frzD k S 8 d).map D.p) :: boxE k S ρ
theorem boxE_rel {G : Gb} {F F' : Addr → Prop} {ι ι' : List Addr} {H H' : Hp} {S S' : Store} (rs : R G F ι S H) (n : Nxt G F ι H F' ι' S' H') : ∀ {ρ : Env} {σ : L2.St}, RelE G F' ι' H' ρ σ → RelE G (fun a => F' a ∨ (a ∈ ι' ∧ a ∉ ι)) ι H' (boxE S.objs.length S' ρ) σ
  | [], _, h => h
  | none :: ρ, _, ⟨o, τ, e, h⟩ => ⟨o, τ, e, boxE_rel rs n h⟩
  | some d :: ρ, _, ⟨v, τ, e, r, h⟩ => by
    have ih := boxE_rel rs n h
    subst e
    unfold boxE
    by_cases k : d.lo S.objs.length = true
    · rw [if_pos k]
      have r1 : RelD G F' ι H' d v := RelD.lo n.pre (by rw [rs.len]; exact k) r
      exact ⟨v, τ, rfl, r1.mono (F' := fun a => F' a ∨ (a ∈ ι' ∧ a ∉ ι)) (fun _ _ e _ => e) (fun _ z => .inl z) (List.prefix_refl _), ih⟩
    · rw [if_neg k]
      cases ef : frzD S.objs.length S' 8 d with
      | none => exact ⟨some v, τ, rfl, ih⟩
      | some p => exact ⟨v, τ, rfl, by simp only [RelD]; exact frzD_rel rs n ef r, ih⟩
/-! ### a, b = a list or a tuple -/
end
end DL
set_option maxHeartbeats 4000000
/-! DLBoxD: a part of a suite behind which the new dict (tuple keys) that a slot holds is locked for good: data. -/
namespace DL
open PySem PySem.Spec PyProof.Rows L2
variable [HasT]
section
variable {G : Gb} {F : Addr → Prop} {ι : List Addr} {H : Hp} {a : Addr} {fvs : List (List Key × V)}
/-! nothing that stands leans on a as frozen, if a dict stands there unlocked -/
mutual
theorem RelP.drop (ha : H a = some (.dT fvs)) : ∀ {x : P} {v : V}, RelP G F H x v → RelP G (fun b => F b ∧ b ≠ a) H x v
  | .non, _, h => by simpa only [RelP] using h
  | .bl _, _, h => by simpa only [RelP] using h
  | .int _, _, h => by simpa only [RelP] using h
  | .str _, _, h => by simpa only [RelP] using h
  | .ty _, _, h => by simpa only [RelP] using h
  | .glo _, _, h => by simpa only [RelP] using h
  | .tup xs, _, h => by
    simp only [RelP] at h ⊢
    obtain ⟨b, vs, e, q, r⟩ := h
    exact ⟨b, vs, e, q, RelPs.drop ha r⟩
  | .lst xs, _, h => by
    simp only [RelP] at h ⊢
    obtain ⟨b, vs, e, f, q, r⟩ := h
    exact ⟨b, vs, e, ⟨f, fun z => by rw [z, ha] at q; cases q⟩, q, RelPs.drop ha r⟩
  | .scr xs, _, h => by
    simp only [RelP] at h ⊢
    obtain ⟨b, vs, e, q, r⟩ := h
    exact ⟨b, vs, e, q, RelPs.drop ha r⟩
  | .ins c fs, _, h => by
    simp only [RelP] at h ⊢
    obtain ⟨b, C, dx, us, e, f, m, q, r⟩ := h
    exact ⟨b, C, dx, us, e, ⟨f, fun z => by rw [z, ha] at q; cases q⟩, m, q, RelPf.drop ha r⟩
  | .dic fs, _, h => by
    simp only [RelP] at h ⊢
    obtain ⟨b, us, e, f, q, r⟩ := h
    exact ⟨b, us, e, ⟨f, fun z => by rw [z, ha] at q; cases q⟩, q, RelPk.drop ha r⟩
  | .dit fs, _, h => by
    simp only [RelP] at h ⊢
    obtain ⟨b, us, e, q, r⟩ := h
    exact ⟨b, us, e, q, RelPt.drop ha r⟩
theorem RelPs.drop (ha : H a = some (.dT fvs)) : ∀ {xs : List P} {vs : List V}, RelPs G F H xs vs → RelPs G (fun b => F b ∧ b ≠ a) H xs vs
  | [], _, h => by simpa only [RelPs] using h
  | x :: xs, _, h => by
    simp only [RelPs] at h ⊢
    obtain ⟨v, ws, e, p, q⟩ := h
    exact ⟨v, ws, e, RelP.drop ha p, RelPs.drop ha q⟩
theorem RelPf.drop (ha : H a = some (.dT fvs)) : ∀ {xs : List (Str × P)} {vs : List (Str × V)}, RelPf G F H xs vs → RelPf G (fun b => F b ∧ b ≠ a) H xs vs
  | [], _, h => by simpa only [RelPf] using h
  | (f, x) :: xs, _, h => by
    simp only [RelPf] at h ⊢
    obtain ⟨v, ws, e, p, q⟩ := h
    exact ⟨v, ws, e, RelP.drop ha p, RelPf.drop ha q⟩
theorem RelPk.drop (ha : H a = some (.dT fvs)) : ∀ {xs : List (Key × P)} {vs : List (Key × V)}, RelPk G F H xs vs → RelPk G (fun b => F b ∧ b ≠ a) H xs vs
  | [], _, h => by simpa only [RelPk] using h
  | (f, x) :: xs, _, h => by
    simp only [RelPk] at h ⊢
    obtain ⟨v, ws, e, p, q⟩ := h
    exact ⟨v, ws, e, RelP.drop ha p, RelPk.drop ha q⟩
theorem RelPt.drop (ha : H a = some (.dT fvs)) : ∀ {xs : List (List Key × P)} {vs : List (List Key × V)}, RelPt G F H xs vs → RelPt G (fun b => F b ∧ b ≠ a) H xs vs
  | [], _, h => by simpa only [RelPt] using h
  | (f, x) :: xs, _, h => by
    simp only [RelPt] at h ⊢
    obtain ⟨v, ws, e, p, q⟩ := h
    exact ⟨v, ws, e, RelP.drop ha p, RelPt.drop ha q⟩
end
mutual
theorem RelD.drop (ha : H a = some (.dT fvs)) : ∀ {x : D} {v : V}, RelD G F ι H x v → RelD G (fun b => F b ∧ b ≠ a) ι H x v
  | .p x, _, h => by
    simp only [RelD] at h ⊢
    exact h.drop ha
  | .r n, _, h => by simpa only [RelD] using h
  | .t xs, _, h => by
    simp only [RelD] at h ⊢
    obtain ⟨b, vs, e, q, r⟩ := h
    exact ⟨b, vs, e, q, RelDs.drop ha r⟩
theorem RelDs.drop (ha : H a = some (.dT fvs)) : ∀ {xs : List D} {vs : List V}, RelDs G F ι H xs vs → RelDs G (fun b => F b ∧ b ≠ a) ι H xs vs
  | [], _, h => by simpa only [RelDs] using h
  | x :: xs, _, h => by
    simp only [RelDs] at h ⊢
    obtain ⟨v, ws, e, p, q⟩ := h
    exact ⟨v, ws, e, RelD.drop ha p, RelDs.drop ha q⟩
end
theorem RelDf.drop (ha : H a = some (.dT fvs)) : ∀ {xs : List (Str × D)} {vs : List (Str × V)}, RelDf G F ι H xs vs → RelDf G (fun b => F b ∧ b ≠ a) ι H xs vs
  | [], _, h => h
  | (f, x) :: xs, _, h => by
    obtain ⟨v, ws, e, p, q⟩ := h
    exact ⟨v, ws, e, p.drop ha, RelDf.drop ha q⟩
theorem RelDk.drop {κ : Type} (ha : H a = some (.dT fvs)) : ∀ {xs : List (κ × D)} {vs : List (κ × V)}, RelDk G F ι H xs vs → RelDk G (fun b => F b ∧ b ≠ a) ι H xs vs
  | [], _, h => h
  | (f, x) :: xs, _, h => by
    obtain ⟨v, ws, e, p, q⟩ := h
    exact ⟨v, ws, e, p.drop ha, RelDk.drop ha q⟩
theorem RelO.drop (ha : H a = some (.dT fvs)) {b : Addr} {o : O} (h : RelO G F ι H b o) : RelO G (fun b => F b ∧ b ≠ a) ι H b o := by
  cases o with
  | lst ds =>
    obtain ⟨vs, e, r⟩ := h
    exact ⟨vs, e, r.drop ha⟩
  | ins c fs =>
    obtain ⟨C, dx, us, m, e, r⟩ := h
    exact ⟨C, dx, us, m, e, r.drop ha⟩
  | dct fs =>
    obtain ⟨us, e, r⟩ := h
    exact ⟨us, e, r.drop ha⟩
  | dit fs =>
    obtain ⟨us, e, r⟩ := h
    exact ⟨us, e, r.drop ha⟩
theorem keepW_lock {od : Obj} (ha : H a = some (.dT fvs)) : KeepW (fun b => F b ∧ b ≠ a) H (upd H a (.frz od (.dT fvs))) := fun b u e h => by
  have hb : b ≠ a := fun z => by
    rcases h with h | h
    · exact h.2 z
    · rw [z, ha] at e
      cases e
      cases h
  rw [upd_ne hb]
  exact e
theorem Nxt.lock {F1 : Addr → Prop} {ι1 : List Addr} {H1 : Hp} {S S1 : Store} {od : Obj} (rs : R G F ι S H) (n : Nxt G F ι H F1 ι1 S1 H1) (h0 : H a = none) (ha : H1 a = some (.dT fvs)) (hι : a ∉ ι1) :
    Nxt G F ι H (fun b => F1 b ∧ b ≠ a) ι1 S1 (upd H1 a (.frz od (.dT fvs))) where
  sub := fun x h => ⟨n.sub x h, fun z => by
    obtain ⟨o, e, _⟩ := rs.fz x h
    rw [z, h0] at e
    cases e⟩
  keep := fun b o e c => by
    rw [upd_ne (fun z => by rw [z, h0] at e; cases e)]
    exact n.keep b o e c
  pre := n.pre
  nw := n.nw
  nF := fun x h hn => n.nF x h.1 hn
  old := fun x o e => by
    obtain ⟨o', e'⟩ := n.old x o e
    exact old_upd x o' e'
  r := {
    len := n.r.len
    nd := n.r.nd
    nf := fun x hx h => n.r.nf x hx h.1
    fz := fun x h => by
      rw [upd_ne h.2]
      exact n.r.fz x h.1
    tb := tabs_put ha rfl n.r.tb
    ob := fun m b o e q => RelO.mono (keepW_lock ha) (fun _ h => h) (List.prefix_refl _) (upd_ne fun z => hι (z ▸ List.mem_of_getElem? e)) ((n.r.ob m b o e q).drop ha) }
theorem RelE.lock {od : Obj} (ha : H a = some (.dT fvs)) : ∀ {ρ : Env} {σ : L2.St}, RelE G F ι H ρ σ → RelE G (fun b => F b ∧ b ≠ a) ι (upd H a (.frz od (.dT fvs))) ρ σ
  | [], _, h => h
  | none :: ρ, _, ⟨o, τ, e, h⟩ => ⟨o, τ, e, RelE.lock ha h⟩
  | some d :: ρ, _, ⟨v, τ, e, r, h⟩ => ⟨v, τ, e, (r.drop ha).mono (keepW_lock ha) (fun _ z => z) (List.prefix_refl _), RelE.lock ha h⟩
theorem relE_set : ∀ {ρ : Env} {σ : L2.St} {i : Nat} {v : V} {d : D}, RelE G F ι H ρ σ → σ[i]? = some (some v) → RelD G F ι H d v → RelE G F ι H (ρ.set i (some d)) σ
  | [], _, i, v, d, h, e, r => h
  | none :: ρ, _, 0, v, d, ⟨o, τ, e0, h⟩, e, r => by
    subst e0
    cases e
    exact ⟨v, τ, rfl, r, h⟩
  | none :: ρ, _, i + 1, v, d, ⟨o, τ, e0, h⟩, e, r => by
    subst e0
    exact ⟨o, τ, rfl, relE_set h e r⟩
  | some _ :: ρ, _, 0, v, d, ⟨w, τ, e0, q, h⟩, e, r => by
    subst e0
    cases e
    exact ⟨v, τ, rfl, r, h⟩
  | some _ :: ρ, _, i + 1, v, d, ⟨w, τ, e0, q, h⟩, e, r => by
    subst e0
    exact ⟨w, τ, rfl, q, relE_set h e r⟩
theorem relE_get : ∀ {ρ : Env} {σ : L2.St} {i : Nat} {d : D}, RelE G F ι H ρ σ → ρ[i]? = some (some d) → ∃ v, σ[i]? = some (some v) ∧ RelD G F ι H d v
  | [], _, i, d, h, e => by cases e
  | none :: ρ, _, 0, d, ⟨o, τ, e0, h⟩, e => by cases e
  | none :: ρ, _, i + 1, d, ⟨o, τ, e0, h⟩, e => by
    subst e0
    have := relE_get (ρ := ρ) (i := i) h e
    exact this
  | some _ :: ρ, _, 0, d, ⟨w, τ, e0, q, h⟩, e => by
    subst e0
    cases e
    exact ⟨w, rfl, q⟩
  | some _ :: ρ, _, i + 1, d, ⟨w, τ, e0, q, h⟩, e => by
    subst e0
    have := relE_get (ρ := ρ) (i := i) h e
    exact this
end
/-- behind it, one thing is locked -/
def tLkE (t : TS) : TS := fun D σ H => t { D with nx := fun σ' H' => ∃ d u, H' d = some u ∧ Mut (some u) ∧ ∀ od, D.nx σ' (upd H' d (.frz od u)) } σ H
section
variable {X : Cx} {W : WX}
theorem pss_lkE {sts : List Stmt} {t : TS} (h : PSs X sts t) : PSs X sts (tLkE t) := by
  refine ⟨fun pins s σ H D I q => ?_⟩
  refine thn (h.run pins s σ H _ I q) fun f s1 q => ?_
  cases f with
  | next =>
    obtain ⟨σ', H', I', d, u, hd, mu, q⟩ := q
    obtain ⟨od, I2⟩ := I'.lock hd mu
    exact ⟨σ', _, I2, q od⟩
  | brk => exact q
  | cont => exact q
  | ret v => exact q
/-- the dict that slot i holds behind b (new since b began) becomes data -/
def boxDit (k : Nat) (S : Store) (i : Nat) (ρ : Env) : Option (Nat × P) := match ρ[i]? with
  | some (some (.r n)) => if k ≤ n then (match S.objs[n]? with
    | some (.dit fs) => (frzDs k S 8 (fs.map (·.2))).map fun ps => (n, P.dit ((fs.map (·.1)).zip ps))
    | _ => none) else none
  | _ => none
def mBoxD (i : Nat) (b : MS) : MS := fun ρ S => match b ρ S with
  | .ok (.nx ρ') S' => (match Store.cut S.objs.length S', boxDit S.objs.length S' i ρ' with
    | some S2, some (_, p) => .ok (.nx ((boxE S.objs.length S' ρ').set i (some (.p p)))) S2
    | _, _ => .stuck)
  | .err e S' => .err e S'
  | _ => .stuck
theorem boxD_imp {i : Nat} {m : MS} {E : Ends} {σ : L2.St} {H : Hp} (q : TSt (gb X) W (mBoxD i m) E σ H) : tLkE (TSt (gb X) W m) E σ H := by
  obtain ⟨ρ, S, ι, F, a, t⟩ := q
  refine ⟨ρ, S, ι, F, a, ?_⟩
  unfold mBoxD at t
  revert t
  cases hm : m ρ S with
  | ok o S' =>
    cases o with
    | nx ρ' =>
      intro t
      cases hc : Store.cut S.objs.length S' with
      | none =>
        simp only [hc] at t
        exact t.elim
      | some S2 =>
        cases hb : boxDit S.objs.length S' i ρ' with
        | none =>
          simp only [hc, hb] at t
          exact t.elim
        | some np =>
          obtain ⟨n0, p⟩ := np
          simp only [hc, hb] at t
          intro F' ι' H' n σ' hl re
          unfold boxDit at hb
          split at hb
          · rename_i n1 eρ
            split at hb
            · rename_i hk
              split at hb
              · rename_i fs eo
                obtain ⟨ps, ep, e2⟩ := Option.map_eq_some_iff.mp hb
                injection e2 with en e2
                subst en e2
                obtain ⟨v, eσ, rv⟩ := relE_get re eρ
                simp only [RelD] at rv
                obtain ⟨ad, rfl, ea⟩ := rv
                obtain ⟨fvs, hv, rd⟩ := n.r.ob n1 ad _ ea eo
                obtain ⟨vs, rdv, rfl⟩ := relDk_split rd
                obtain ⟨ni, nn⟩ := new_thing a.r n ea hk
                have nc := (n.cut a.r hc).1
                have h0 : H ad = none := n.nw ad ni nn
                refine ⟨ad, _, hv, trivial, fun od => ?_⟩
                have nl := Nxt.lock (od := od) a.r nc h0 hv nn
                refine t _ _ _ nl σ' hl ?_
                refine relE_set (RelE.lock hv (boxE_rel a.r n re)) eσ ?_
                simp only [RelD, RelP]
                refine ⟨ad, _, rfl, ⟨od, upd_same⟩, ?_⟩
                have r1 : RelPt (gb X) (fun x => F' x ∨ (x ∈ ι' ∧ x ∉ ι)) H' ((fs.map (·.1)).zip ps) ((fs.map (·.1)).zip vs) := relPt_join (frzDs_rel a.r n ep rdv)
                exact (r1.drop hv).mono (keepW_lock hv) fun _ z => z
              · cases hb
            · cases hb
          · cases hb
    | rt d => intro t; exact t.elim
    | bk ρ' => intro t; exact t.elim
    | ct ρ' => intro t; exact t.elim
  | err e S' => exact id
  | stuck => exact id
theorem dss_boxD {i : Nat} {sts : List Stmt} {m : MS} (h : DSs X W sts m) : DSs X W sts (mBoxD i m) := PSs.imp (pss_lkE h) fun E σ H q => boxD_imp q
end
end DL
set_option maxHeartbeats 4000000
/-! DLItems: for k, v in d.items(), for k in d: d a dict with tuple keys that is locked for good. -/
namespace DL
open PySem PySem.Spec PyProof.Rows L2
section
variable {X : Cx} {pins : List (Addr × Obj)} {σ : L2.St} {H : Hp} {s : Shared} {d : Addr} {o : Obj}
theorem frzT2 {kvs : List (List Key × V)} (I : Inv X pins σ H s) (h : H d = some (.frz o (.dT kvs))) :
    (d == sysModules) = false ∧ s.heap.get? d = some o ∧ o.ExactDict ∧ ∃ (es : Array DictEntry) (ep : Nat), o.data = .dict es ep ∧ es.size = kvs.length ∧
      ∀ (i : Nat) (k : List Key) (v : V), kvs[i]? = some (k, v) → ∃ (en : DictEntry) (q : Addr), es[i]? = some en ∧ en.key = .ref q ∧ H q = some (.tup (k.map kV)) ∧ RelV v en.val := by
  obtain ⟨hd, z, hs, xs, pr, o', es, ep, ho, hx, hdt, he, _⟩ := I.hok d _ h
  rw [hd] at ho
  cases ho
  refine ⟨hs, hd, hx, es, ep, hdt, ?_, fun i k v e => ?_⟩
  · have l1 : es.size = xs.length := size_of_entries he
    have l2 : kvs.length = xs.length := Paired.length pr
    omega
  · obtain ⟨b, hb, e1, e2, e3⟩ := paired_get pr e
    have q := entry_at he i
    rw [hb] at q
    exact ⟨_, b.2.1, q, rfl, e2, e3⟩
end
def ItiT (d : Addr) (o : Obj) (kvs : List (List Key × V)) : It :=
  ⟨fun i H => H d = some (.frz o (.dT kvs)) ∧ i < kvs.length, fun i H x H' => ∃ T q k v, kvs[i]? = some (k, v) ∧ x = .ref T ∧ H q = some (.tup (k.map kV)) ∧ H T = none ∧ H' = upd H T (.tup [.ref q, v]), fun i H => H d = some (.frz o (.dT kvs)) ∧ kvs.length ≤ i⟩
theorem turn_itemsT {P : Program} {w : World} {K : PySem.W.Frag} {d : Addr} {o : Obj} {es : Array DictEntry} {ep : Nat} {kvs : List (List Key × V)} {elts : List Expr} {kk : Nat} {tpos : Pos} (it : Addr) (hod : o.data = .dict es ep) :
    Turn P w K (.Tuple elts kk tpos) (ItiT d o kvs) [it] it (fun i h => ∃ ok ov, IsItemIter h it d i kvs.length ep ok ov) where
  mem := by simp
  obj := fun i h st b hb => by
    have e : b = it := by simpa using hb
    subst e
    obtain ⟨ok, ov, e⟩ := st
    exact ⟨_, e, fun v z => nomatch z⟩
  keep := fun i h h' st k => let ⟨ok, ov, e⟩ := st; ⟨ok, ov, k it (by simp) _ e⟩
  item := by
    intro X hP hw hK hc i pins s σ H E I hf st hg
    subst hP hw hK
    obtain ⟨hd, hi⟩ := hg
    obtain ⟨hs, hgd, hx, es', ep', hdt, hsz, ent⟩ := frzT2 I hd
    obtain ⟨rfl, rfl⟩ := dict_ep hod hdt
    obtain ⟨⟨k, v⟩, hkv⟩ : ∃ p, kvs[i]? = some p := ⟨kvs[i], List.getElem?_eq_getElem hi⟩
    obtain ⟨en, q, hen, hkey, hq, rv⟩ := ent i k v hkv
    obtain ⟨ok, ov, he⟩ := st
    rw [← hsz] at he
    have hi' : i < es'.size := by rw [hsz]; exact hi
    have ee : es'[i] = en := by
      have := Array.getElem?_eq_getElem hi'
      rw [hen] at this
      exact (Option.some.inj this).symm
    have hlt : it < s.heap.objs.size := Heap.lt_size he
    refine DT.nextI he ⟨o, hgd, hx, hdt⟩ hi' fun h' ho hT hz hk => ?_
    rw [ee] at ho hT
    refine ⟨_, rfl, wpAny_letOwnedTupleGo_items (s := { s with heap := h' }) ho fun h'' he' sb => ?_⟩
    have hT2 : h''.get? s.heap.objs.size = some { cls := .type "tuple", data := .seq #[en.key, en.val] } := (sb.2 _ (Nat.ne_of_gt hlt)).trans hT
    have new : ObjOk X.prog X.w (upd H s.heap.objs.size (.tup [.ref q, v])) h'' s.heap.objs.size (.tup [.ref q, v]) :=
      ⟨by show 2 ≤ sizeLine; decide, [en.key, en.val], .cons hkey (.cons rv .nil), ⟨_, hT2, rfl, _, rfl⟩⟩
    have I1 : Inv X pins σ (upd H s.heap.objs.size (.tup [.ref q, v])) { s with heap := h'' } :=
      I.turnedNew (t' := s.toks) (ch := [it]) (fun b ob hb e => (sb.2 b (by simpa using hb)).trans (hk b ob (by simpa using hb) e)) hf (Nat.le_refl _) new
    refine ⟨.ref s.heap.objs.size, _, I1, rfl, ⟨_, q, k, v, hkv, rfl, hq, I.hok.fresh (Nat.le_refl _), rfl⟩, ⟨en.key, en.val, ?_⟩, fun b hb => ?_⟩
    · rw [← hsz]; exact he'
    · have e : b = it := by simpa using hb
      rw [e, upd_ne (Nat.ne_of_lt hlt)]
      exact (hf it (by simp)).1
  done := by
    intro X hP hw hK hc i pins s σ H E I hf st hg
    subst hP hw hK
    obtain ⟨hd, hi⟩ := hg
    obtain ⟨f0, f1, f2, f3, f4, f5⟩ := hf it (by simp)
    obtain ⟨hs, hgd, hx, es', ep', hdt, hsz, ent⟩ := frzT2 I hd
    obtain ⟨rfl, rfl⟩ := dict_ep hod hdt
    obtain ⟨ok, ov, he⟩ := st
    rw [← hsz] at he
    exact DT.endI (I.ok.hd hc) he ⟨o, hgd, hx, hdt⟩ (by rw [hsz]; exact hi) fun h' eb => ⟨rfl, I.turned (t' := s.toks) (fun b ob hb e => eb b ob hb e) f0 f1 f3 f4 f5⟩
  self := fun A i s Q E st h => let ⟨_, _, e⟩ := st; PySem.W.kcp_self e h
def iItemsT (td : TE) : TI := fun σ H R => td σ H fun x H1 => ∃ d o kvs, x = .ref d ∧ H1 d = some (.frz o (.dT kvs)) ∧ R (ItiT d o kvs) H1
section
variable {X : Cx} {tg e : Expr} {td : TE} {apos cpos : Pos}
theorem pi_itemsT {elts : List Expr} {kk : Nat} {tpos : Pos} (he : PE X e td) (hbase : attributeBase e "items" X.env (eval e X.env) = eval e X.env := by rfl) (hline : (apos.endLine == cpos.line) = true := by rfl) :
    PI X (.Tuple elts kk tpos) (.Call (.Attribute e "items" apos) [] [] cpos) (iItemsT td) := by
  refine ⟨fun pins s σ H R I h => ?_⟩
  refine wpAny_Call_method (T := "dict") (id := "dict.items") hbase rfl hline F.plainAttrs_dict F.slot_dict_items F.type_dict_items (thn (he.run pins s σ H _ I h) fun u s1 ⟨x, H1, I1, rx, d, o, kvs, ex, hd, q⟩ => ?_)
  subst ex
  obtain rfl : u = Value.ref d := rx
  obtain ⟨hs, hgd, hx, es, ep, hdt, hsz, ent⟩ := frzT2 I1 hd
  have raw : DT.Raw s1.heap d es ep := ⟨o, hgd, hx, hdt⟩
  refine ⟨raw.typeIs, ?_, ?_⟩
  · exact fun a e => by cases e; exact ⟨o, hgd, hx.2.1⟩
  have I2 : Inv X pins σ H1 { s1 with heap := s1.heap.push { cls := .type "dict_items", data := .fields #[.ref d] } } := I1.kept (t' := s1.toks) fun b ob q => Heap.get?_push_of_some _ q
  have fin : wpAny (model X.prog X.w) X.A (pyIter (.ref s1.heap.objs.size)) (PIE X pins σ (.Tuple elts kk tpos) R) X.xe { s1 with heap := s1.heap.push { cls := .type "dict_items", data := .fields #[.ref d] } } := by
    refine DT.iterI (d := d) (es := es) (ep := ep) ⟨_, Heap.get?_push_size _ rfl, rfl, rfl⟩ (raw.push _) (pi_one (tk := s1.toks) I2 _ (turn_itemsT _ hdt) ⟨.none, .none, ?_⟩ q)
    rw [← hsz]
    exact Heap.get?_push_size _ rfl
  show wpAny _ _ (callWith cpos (.builtin "dict.items") [.ref d] [] []) _ X.xe s1
  exact method_meetsIn F.slot_dict_items F.entry_dict_items rfl (PySem.evalArgs_none ⟨rfl, raw.typeIs, F.args_dict_items_1 _, _, DT.meetsItems (es := es) (ep := ep) hs, raw, fin⟩)
end

/-! ### over the layer's data -/
variable [HasT]
def kP : Key → P
  | .inl i => .int i
  | .inr s => .str s
theorem kP_rel {G : Gb} {F : Addr → Prop} {H : Hp} : ∀ k : Key, RelP G F H (kP k) (kV k)
  | .inl i => by simp only [kP, RelP]; rfl
  | .inr s => by simp only [kP, RelP]; rfl
theorem ksP_rel {G : Gb} {F : Addr → Prop} {H : Hp} : ∀ ks : List Key, RelPs G F H (ks.map kP) (ks.map kV)
  | [] => by simp [RelPs]
  | k :: ks => by
    simp only [List.map_cons, RelPs]
    exact ⟨_, _, rfl, kP_rel k, ksP_rel ks⟩
def itemP (kv : List Key × P) : P := .tup [.tup (kv.1.map kP), kv.2]
def srcItems (d : D) (S : Store) : Option (Src × Store) := match d with
  | .p (.dit fs) => some (⟨fs.map fun kv => D.p (itemP kv), []⟩, S)
  | _ => none
theorem relPt_len {G : Gb} {F : Addr → Prop} {H : Hp} : ∀ {fs : List (List Key × P)} {vs : List (List Key × V)}, RelPt G F H fs vs → fs.length = vs.length
  | [], _, h => by
    simp only [RelPt] at h
    rw [h]
    rfl
  | (f, x) :: fs, _, h => by
    simp only [RelPt] at h
    obtain ⟨v, ws, rfl, a, b⟩ := h
    rw [List.length_cons, List.length_cons, relPt_len b]
theorem relPt_get {G : Gb} {F : Addr → Prop} {H : Hp} : ∀ {fs : List (List Key × P)} {vs : List (List Key × V)} {i : Nat} {kv : List Key × P} {k : List Key} {v : V}, RelPt G F H fs vs → fs[i]? = some kv → vs[i]? = some (k, v) → k = kv.1 ∧ RelP G F H kv.2 v
  | [], _, i, kv, k, v, h, e, e2 => by cases e
  | (f, x) :: fs, _, 0, kv, k, v, h, e, e2 => by
    simp only [RelPt] at h
    obtain ⟨w, ws, rfl, a, b⟩ := h
    cases e
    cases e2
    exact ⟨rfl, a⟩
  | (f, x) :: fs, _, i + 1, kv, k, v, h, e, e2 => by
    simp only [RelPt] at h
    obtain ⟨w, ws, rfl, a, b⟩ := h
    exact relPt_get (i := i) b e e2
section
variable {G : Gb} {F : Addr → Prop} {ι : List Addr} {H : Hp} {a : Addr} {o : Obj} {fs : List (List Key × P)} {fvs : List (List Key × V)}
theorem itiT_ok (hd : H a = some (.frz o (.dT fvs))) (rd : RelPt G F H fs fvs) : ItOk G F ι H (ItiT a o fvs) ⟨fs.map fun kv => D.p (itemP kv), []⟩ := fun F' ι' H' S' n w i => by
  have hd' : H' a = some (.frz o (.dT fvs)) := n.keep _ _ hd (.inr (.inl rfl))
  have rd' : RelPt G F' H' fs fvs := rd.mono n.keep.w n.sub
  have hl := relPt_len rd
  refine ⟨fun h => ⟨hd', ?_⟩, fun x hx => ?_⟩
  · rw [← hl]
    simpa using h
  · rw [List.getElem?_map] at hx
    obtain ⟨kv, e1, rfl⟩ := Option.map_eq_some_iff.mp hx
    have hi : i < fvs.length := by
      rw [← hl]
      exact (List.getElem?_eq_some_iff.mp e1).1
    refine ⟨⟨hd', hi⟩, ?_⟩
    rintro x H'' ⟨T, q, k, v, ek, rfl, hq, hT, rfl⟩
    have nx : Nxt G F' ι' H' F' ι' S' (upd H' T (.tup [.ref q, v])) := Nxt.fresh n.r hT
    refine ⟨nx, ?_⟩
    obtain ⟨rfl, rv⟩ := relPt_get rd' e1 ek
    have hqT : q ≠ T := fun z => by rw [z, hT] at hq; cases hq
    simp only [RelD, itemP, RelP]
    refine ⟨T, _, rfl, upd_same, ?_⟩
    simp only [RelPs]
    refine ⟨_, _, rfl, ?_, _, _, rfl, rv.mono nx.keep.w (fun _ z => z), rfl⟩
    simp only [RelP]
    exact ⟨q, _, rfl, by rw [upd_ne hqT]; exact hq, ksP_rel _⟩
end
section
variable {X : Cx} {W : WX} {e tg : Expr} {me : ME D} {elts : List Expr} {kk : Nat} {tpos apos cpos : Pos}
theorem di_items (h : DE X W e me) (hbase : attributeBase e "items" X.env (eval e X.env) = eval e X.env := by rfl) (hline : (apos.endLine == cpos.line) = true := by rfl) :
    DI X W (.Tuple elts kk tpos) (.Call (.Attribute e "items" apos) [] [] cpos) (mSrc srcItems me) := PI.imp (pi_itemsT h hbase hline) fun σ H Rr q => by
  obtain ⟨ρ, S, ι, F, at', t⟩ := q
  refine src_first at' t fun d S1 F1 ι1 H1 v src S2 a1 r1 e z => ?_
  unfold srcItems at e
  split at e
  · rename_i fs
    cases e
    simp only [RelD, RelP] at r1
    obtain ⟨a, fvs, rfl, ⟨o, hd⟩, rd⟩ := r1
    exact ⟨a, o, fvs, rfl, hd, z _ _ _ (Nxt.refl a1.r) _ (itiT_ok hd rd)⟩
  · cases e
end
end DL
set_option maxHeartbeats 4000000
/-! DLDGet: d.get(k, default). -/
namespace DL
open PySem PySem.Spec PyProof.Rows L2
variable [HasT]
def isDicB (x : D) (S : Store) : Bool := (x.dct? S).isSome || (x.dit? S).isSome
def mGet2 (mo mk mz : ME D) : ME D := fun ρ S => (mo ρ S).bind fun x S => if isDicB x S = true then (mk ρ S).bind fun y S => (mz ρ S).bind fun z S => (match fDLook x y S with
  | some (some d) => .ok d S
  | some none => .ok z S
  | none => .stuck) else .stuck
section
variable {G : Gb} {F : Addr → Prop} {ι : List Addr} {S : Store} {H : Hp}
theorem isDic_rel {x : D} {v : V} (rs : R G F ι S H) (h : isDicB x S = true) (r : RelD G F ι H x v) : ∃ a, v = .ref a ∧ IsD H a := by
  unfold isDicB at h
  rw [Bool.or_eq_true] at h
  rcases h with h | h
  · obtain ⟨fs, e⟩ := Option.isSome_iff_exists.mp h
    obtain ⟨a, vs, rfl, q, _⟩ := dct?_rel rs e r
    exact ⟨a, rfl, .inl ⟨vs, .inl q⟩⟩
  · obtain ⟨fs, e⟩ := Option.isSome_iff_exists.mp h
    obtain ⟨a, vs, rfl, q, _⟩ := dit?_rel rs e r
    exact ⟨a, rfl, .inr ⟨vs, q⟩⟩
end
section
variable {X : Cx} {W : WX} {o e f : Expr} {mo mk mz : ME D} {apos cpos : Pos}
theorem de_get2 (hu : X.A.units + 1 < cLine) (ho : DE X W o mo) (he : DE X W e mk) (hf : DE X W f mz)
    (h1 : attributeBase o "get" X.env (eval o X.env) = eval o X.env := by rfl)
    (h2 : ((backTo cpos (starEach [e, f] X.env)).all (fun x => !x.1) && (backToKw cpos (keywordEach [] X.env)).all (fun x => x.1.isSome)
    && decide (([e, f] : List Expr).length + ([] : List Keyword).length + (if ([] : List Keyword).isEmpty then 0 else 1) < 30)) = true := by rfl)
    (h3 : (apos.endLine == cpos.line) = true := by rfl)
    (h4 : backTo cpos (starEach [e, f] X.env) = [(false, eval e X.env), (false, eval f X.env)] := by rfl) : DE X W (.Call (.Attribute o "get" apos) [e, f] [] cpos) (mGet2 mo mk mz) := PE.imp (pe_dget2 hu ho he hf ⟨h1, h2, h3, h4⟩) fun σ H Q q => by
  obtain ⟨ρ, S, ι, F, a, t⟩ := q
  refine T.first a t fun x S1 F1 ι1 H1 v n1 a1 r1 t1 => ?_
  by_cases c : isDicB x S1 = true
  · rw [if_pos c] at t1
    obtain ⟨ad, rfl, d⟩ := isDic_rel a1.r c r1
    refine ⟨ad, rfl, d, ?_⟩
    refine T.first a1 t1 fun y S2 F2 ι2 H2 w n2 a2 r2 t2 => ?_
    refine T.first a2 t2 fun z S3 F3 ι3 H3 u n3 a3 r3 t3 => ?_
    cases el : fDLook x y S3 with
    | none =>
      rw [el] at t3
      exact t3.elim
    | some od =>
      obtain ⟨b, ov, e1, g, ro⟩ := dlook_rel a3.r el (n3.d (n2.d r1)) (n3.d r2)
      cases e1
      refine ⟨ov, g, ?_⟩
      rw [el] at t3
      cases od with
      | none =>
        have e2 : ov = none := ro
        subst e2
        exact t3.now a3.r _ r3
      | some dd =>
        obtain ⟨w', e2, rw'⟩ := ro
        subst e2
        exact t3.now a3.r _ rw'
  · rw [if_neg c] at t1
    exact t1.elim
end
end DL
set_option maxHeartbeats 4000000
/-! DLHook2: what the head looks at for a classmethod. -/
namespace DL
open PySem PySem.Spec PyProof.Rows L2 He
end DL
set_option maxHeartbeats 8000000
namespace DL
open PySem PySem.Spec PyProof.Rows L2
abbrev TopR : PySem.Program := PySem.Challenge.pw_arrowsums_k74_whole_fillings_and_order
def top (i : Nat) : Stmt := TopR.main.body.getD i (.Pass ⟨0, 0, 0, 0⟩)

/-! ### what is known of the text -/
abbrev HasD (K : PySem.W.Frag) (mg : Str → Option Value) (x : Str) (st : Stmt) : Prop := ∃ f fd, mg x = some (.ref f) ∧ FunD K x x (defArgs st) (defBody st) (defScope st) [] [] f fd
def mtab : List (Str × Str × Bool) := []
structure Txt (P : Program) (w : World) (K : PySem.W.Frag) (mg : Str → Option Value) : Prop where
  k_InvalidFilling : mg "InvalidFilling" = some (.ref (chA mg "InvalidFilling"))
  k_InvalidSums : mg "InvalidSums" = some (.ref (chA mg "InvalidSums"))
  e_InvalidFilling : ExcE K mg "InvalidFilling"
  e_InvalidSums : ExcE K mg "InvalidSums"
  hmt : ∀ t ∈ mtab, mg t.1 = some (.ref (chA mg t.1)) ∧ PySem.W.exmOne K (.ref (chA mg t.1)) (.ref (chA mg t.2.1)) = some t.2.2
  f_abs : mg "abs" = none
  f_all : mg "all" = none
  f_bool : mg "bool" = none
  f_enumerate : mg "enumerate" = none
  f_int : mg "int" = none
  f_isinstance : mg "isinstance" = none
  f_len : mg "len" = none
  f_list : mg "list" = none
  f_max : mg "max" = none
  f_min : mg "min" = none
  f_range : mg "range" = none
  f_sorted : mg "sorted" = none
  f_sum : mg "sum" = none
  f_super : mg "super" = none
  f_tuple : mg "tuple" = none
  i_MAX_CELLS : ∃ t, mg "MAX_CELLS" = some (.int 42 t)
  i_MAX_ENTRIES : ∃ t, mg "MAX_ENTRIES" = some (.int 8 t)
  d__law_heap : HasD K mg "_law_heap" (top 17)
  d__law_less : HasD K mg "_law_less" (top 18)
  d__law_counts : HasD K mg "_law_counts" (top 21)
  d__law_moved : HasD K mg "_law_moved" (top 23)
  d__law_order : HasD K mg "_law_order" (top 19)
  d__law_shape : HasD K mg "_law_shape" (top 20)
  d__law_under : HasD K mg "_law_under" (top 22)
  d_without_strip : HasD K mg "without_strip" (top 12)
  d_number_of : HasD K mg "number_of" (top 13)
  d_is_integer : HasD K mg "is_integer" (top 1)
  d_is_from : HasD K mg "is_from" (top 2)
  d_require_counts : HasD K mg "require_counts" (top 14)
  d_is_shape : HasD K mg "is_shape" (top 10)
  d_require_shape : HasD K mg "require_shape" (top 11)
  d_count_fillings : HasD K mg "count_fillings" (top 15)
  d__law_right : HasD K mg "_law_right" (top 24)
  d_law : HasD K mg "law" (top 25)

/-! ### the runs -/
structure Lams [HasT] (K : PySem.W.Frag) (mg : Str → Option Value) (base : Heap) : Prop where
/-- _law_heap: 0 script, 1 at, 2 cell, 3 great, 4 seed -/
def b__law_heap : MS := (mSeq (mAsg (gNm 2) (mIf (mTest (mOp2 fLt (mVar 1) (mCallB fLen (mCons (mVar 0) mNil)))) (mOp2 fIx (mVar 0) (mVar 1)) (mOp2 (fAddG fLstF) (mOp2 (fMulA fLstF) (mC (.int 71)) (mVar 1)) (mC (.int 29))))) (mSeq (mAsg (gNm 3) (mOp2 fMod (mCallB fInt (mCons (mCallB fAbs (mCons (mVar 2) mNil)) mNil)) (mOp2 fPow (mOp2 fPow (mC (.int 10)) (mC (.int 49))) (mC (.int 12))))) (mSeq (mAsg (gNm 4) (mOp2 fMod (mCallB fInt (mCons (mOp2 (fAddG fLstF) (mOp2 (fAddG fLstF) (mOp2 (fAddG fLstF) (mOp2 (fMulA fLstF) (mOp2 fMod (mVar 3) (mC (.int 1152921504606846883))) (mC (.int 91193))) (mOp2 (fMulA fLstF) (mC (.int 2749)) (mVar 1))) (mOp2 (fMulA fLstF) (mC (.int 89)) (mCallB fInt (mCons (mOp2 fLt (mVar 2) (mC (.int 0))) mNil)))) (mC (.int 13))) mNil)) (mC (.int 1152921504606846883)))) (mRet (mCallB fLst (mCons (mCallB fMax (mCons (mC (.int 0)) (mCons (mOp2 fSub (mVar 3) (mOp2 fPow (mC (.int 10)) (mC (.int 18)))) mNil))) (mCons (mVar 4) (mCons (mC (.int 0)) mNil))))))))
def m__law_heap : List D → M D := mFn 5 finN b__law_heap
/-- _law_less: 0 heap, 1 size, 2 found, 3 one, 4 two -/
def b__law_less : MS := (mSeq (mIfS (mTest (mOp2 fGt (mOp2 fIx (mVar 0) (mC (.int 0))) (mC (.int 0)))) (mSeq (mAsg (gNm 2) (mOp2 fMod (mCallB fInt (mCons (mOp2 fIx (mVar 0) (mC (.int 0))) mNil)) (mVar 1))) (mSeq (mPut (mOp2 fDiv (mOp2 fIx (mVar 0) (mC (.int 0))) (mVar 1)) (mVar 0) (mC (.int 0))) (mRet (mVar 2)))) mNext) (mSeq (mPut (mOp2 (fAddG fLstF) (mOp2 fIx (mVar 0) (mC (.int 2))) (mC (.int 1))) (mVar 0) (mC (.int 2))) (mSeq (mAsg (gNm 3) (mOp2 fMod (mCallB fInt (mCons (mOp2 (fAddG fLstF) (mOp2 fIx (mVar 0) (mC (.int 1))) (mOp2 (fMulA fLstF) (mC (.int 777767777)) (mOp2 fIx (mVar 0) (mC (.int 2))))) mNil)) (mC (.int 2305843009213693921)))) (mSeq (mAsg (gNm 4) (mOp2 (fAddG fLstF) (mOp2 (fMulA fLstF) (mOp2 fMod (mCallB fInt (mCons (mOp2 (fMulA fLstF) (mVar 3) (mVar 3)) mNil)) (mC (.int 2305843009213693907))) (mVar 3)) (mOp2 (fMulA fLstF) (mC (.int 4099)) (mOp2 fIx (mVar 0) (mC (.int 2)))))) (mRet (mOp2 fMod (mCallB fInt (mCons (mOp2 fDiv (mOp2 fMod (mCallB fInt (mCons (mVar 4) mNil)) (mC (.int 1152921504606846883))) (mC (.int 8191))) mNil)) (mVar 1)))))))
def m__law_less : List D → M D := mFn 5 finP b__law_less
/-- _law_counts: 0 heap, 1 total, 2 lots, 3 found, 4 turn, 5 at -/
def lb__law_counts : MS := (mSeq (mAsg (gNm 5) (mCall m__law_less (mCons (mVar 0) (mCons (mVar 2) mNil)))) (mPut (mOp2 (fAddG fLstF) (mOp2 fIx (mVar 3) (mVar 5)) (mC (.int 1))) (mVar 3) (mVar 5)))
def b__law_counts : MS := (mSeq (mAsg (gNm 3) (mOp2 (fMulA fLst) (mCallB fLstF (mCons (mC (.int 0)) mNil)) (mVar 2))) (mSeq (mFor (mSrcA srcR1 (mCons (mVar 1) mNil)) (gNm 4) lb__law_counts) (mRet (mCallB fToT (mCons (mVar 3) mNil)))))
def m__law_counts : List D → M D := mFn 6 finP b__law_counts
/-- _law_moved: 0 row, 1 one, 2 other, 3 at, 4 entry -/
def ce__law_moved : ME D := (mOp2 (fAddG fLstF) (mOp2 fSub (mVar 4) (mCallB fInt (mCons (mOp2 fEq (mVar 3) (mVar 1)) mNil))) (mCallB fInt (mCons (mOp2 fEq (mVar 3) (mVar 2)) mNil)))
def b__law_moved : MS := (mRet (mCallB fToT (mCons (mCallB fLstF (mCompL (mSrcA srcEnum (mCons (mVar 0) mNil)) [3, 4] (gTp 2 (gsCons (gNm 3) (gsCons (gNm 4) gsNil))) mYes ce__law_moved)) mNil)))
def m__law_moved : List D → M D := mFn 5 finP b__law_moved
/-- _law_order: 0 heap, 1 items, 2 pool, 3 found, 4 turn -/
def lb__law_order : MS := (mDrop (mMeth fAppend (mVar 3) (mCons (mMeth fPopAt (mVar 2) (mCons (mCall m__law_less (mCons (mVar 0) (mCons (mCallB fLen (mCons (mVar 2) mNil)) mNil))) mNil)) mNil)))
def b__law_order : MS := (mSeq (mPar [2, 3] (mCons (mCallB (fToL fLst) (mCons (mVar 1) mNil)) (mCons (mCallB fLst mNil) mNil))) (mSeq (mFor (mSrcA srcR1 (mCons (mCallB fLen (mCons (mVar 1) mNil)) mNil)) (gNm 4) lb__law_order) (mRet (mVar 3))))
def m__law_order : List D → M D := mFn 5 finP b__law_order
/-- _law_shape: 0 heap, 1 most, 2 left, 3 widest, 4 found, 5 size -/
def wt__law_shape : ME Bool := (mTest (mOp2 fGt (mVar 2) (mC (.int 0))))
def wb__law_shape : MS := (mSeq (mAsg (gNm 5) (mOp2 (fAddG fLstF) (mC (.int 1)) (mCall m__law_less (mCons (mVar 0) (mCons (mCallB fMin (mCons (mVar 2) (mCons (mVar 3) mNil))) mNil))))) (mSeq (mDrop (mMeth fAppend (mVar 4) (mCons (mVar 5) mNil))) (mPar [2, 3] (mCons (mOp2 fSub (mVar 2) (mVar 5)) (mCons (mVar 5) mNil)))))
def b__law_shape : MS := (mSeq (mPar [2, 3, 4] (mCons (mCall m__law_less (mCons (mVar 0) (mCons (mOp2 (fAddG fLstF) (mVar 1) (mC (.int 1))) mNil))) (mCons (mVar 1) (mCons (mCallB fLst mNil) mNil)))) (mSeq (mWhile wt__law_shape wb__law_shape 1000) (mRet (mCallB fToT (mCons (mVar 4) mNil)))))
def m__law_shape : List D → M D := mFn 6 finP b__law_shape
/-- _law_under: 0 one, 1 other, 2 lots, 3 first, 4 second, 5 at -/
def ce__law_under : ME D := (mVar 5)
def ct__law_under : ME Bool := (mTest (mOp2 fGt (mCallB fSum (mCons (mSl (fCut fLstF) (mVar 3) mNoPart (mPart (mVar 5))) mNil)) (mCallB fSum (mCons (mSl (fCut fLstF) (mVar 4) mNoPart (mPart (mVar 5))) mNil))))
def b__law_under : MS := (mSeq (mAsg (gNm 2) (mCallB fMax (mCons (mCallB fLen (mCons (mVar 0) mNil)) (mCons (mCallB fLen (mCons (mVar 1) mNil)) mNil)))) (mSeq (mAsg (gNm 3) (mOp1 (fRevL fLstF) (mCallB (fSrt false fLstF) (mCons (mOp2 (fAddG fLstF) (mCallB (fToL fLstF) (mCons (mVar 0) mNil)) (mOp2 (fMulA fLstF) (mCallB fLstF (mCons (mC (.int 0)) mNil)) (mOp2 fSub (mVar 2) (mCallB fLen (mCons (mVar 0) mNil))))) mNil)))) (mSeq (mAsg (gNm 4) (mOp1 (fRevL fLstF) (mCallB (fSrt false fLstF) (mCons (mOp2 (fAddG fLstF) (mCallB (fToL fLstF) (mCons (mVar 1) mNil)) (mOp2 (fMulA fLstF) (mCallB fLstF (mCons (mC (.int 0)) mNil)) (mOp2 fSub (mVar 2) (mCallB fLen (mCons (mVar 1) mNil))))) mNil)))) (mRet (mAnd (mOp2 fEq (mCallB fSum (mCons (mVar 3) mNil)) (mCallB fSum (mCons (mVar 4) mNil))) (mOp2 fEq (mCallB fLstF (mCompL (mSrcA srcR1 (mCons (mVar 2) mNil)) [5] (gNm 5) ct__law_under ce__law_under)) (mCallB fLstF mNil)))))))
def m__law_under : List D → M D := mFn 6 finP b__law_under
/-- without_strip: 0 shape, 1 many, 2 found, 3 at, 4 row, 5 least, 6 lots, 7 pairs, 8 ahead, 9 left, 10 cells, 11 shorter -/
def ce_without_strip : ME D := (mCallB fTup (mCons (mVar 8) (mCons (mVar 9) (mCons (mVar 10) mNil))))
def ct_without_strip : ME Bool := (mTest (mOp2 fLe (mVar 10) (mVar 9)))
def ce_without_strip_1 : ME D := (mCallB fTup (mCons (mCallB fTup (mStar (mVar 8) (mCons (mOp2 fSub (mVar 4) (mVar 10)) mNil))) (mCons (mOp2 fSub (mVar 9) (mVar 10)) mNil)))
def lb_without_strip : MS := (mSeq (mAsg (gNm 5) (mIf (mTest (mOp2 fLt (mOp2 (fAddG fLstF) (mVar 3) (mC (.int 1))) (mCallB fLen (mCons (mVar 0) mNil)))) (mOp2 fIx (mVar 0) (mOp2 (fAddG fLstF) (mVar 3) (mC (.int 1)))) (mC (.int 0)))) (mSeq (mAsg (gNm 6) (mOp1 (fListRg1 fLstF) (mOp2 (fAddG fLstF) (mOp2 fSub (mVar 4) (mVar 5)) (mC (.int 1))))) (mSeq (mAsg (gNm 7) (mComp2 finP (mSrc srcSeq (mVar 2)) [8, 9, 10] (gTp 2 (gsCons (gNm 8) (gsCons (gNm 9) gsNil))) mYes (mSrc srcSeq (mVar 6)) [10] (gNm 10) ct_without_strip ce_without_strip)) (mAsg (gNm 2) (mCallB fLstF (mCompL (mSrc srcSeq (mVar 7)) [8, 9, 10] (gTp 3 (gsCons (gNm 8) (gsCons (gNm 9) (gsCons (gNm 10) gsNil)))) mYes ce_without_strip_1))))))
def ce_without_strip_2 : ME D := (mVar 4)
def ct_without_strip_1 : ME Bool := (mTest (mOp2 fGt (mVar 4) (mC (.int 0))))
def ce_without_strip_3 : ME D := (mCallB fToT (mCons (mCallB fLstF (mCompL (mSrc srcSeq (mVar 11)) [4] (gNm 4) ct_without_strip_1 ce_without_strip_2)) mNil))
def ct_without_strip_2 : ME Bool := (mTest (mOp2 fEq (mVar 9) (mC (.int 0))))
def b_without_strip : MS := (mSeq (mAsg (gNm 2) (mCallB fLstF (mCons (mCallB fTup (mCons (mCallB fTup mNil) (mCons (mVar 1) mNil))) mNil))) (mSeq (mFor (mSrcA srcEnum (mCons (mVar 0) mNil)) (gTp 2 (gsCons (gNm 3) (gsCons (gNm 4) gsNil))) lb_without_strip) (mRet (mCallB fLstF (mCompL (mSrc srcSeq (mVar 2)) [11, 9] (gTp 2 (gsCons (gNm 11) (gsCons (gNm 9) gsNil))) ct_without_strip_2 ce_without_strip_3)))))
def m_without_strip : List D → M D := mFn 12 finP b_without_strip
/-- number_of: 0 shape, 1 sums, 2 found, 3 many, 4 later, 5 one, 6 count, 7 shorter -/
def lb_number_of : MS := (mDPut (mOp2 (fAddG fLstF) (mGet2 (mVar 4) (mVar 7) (mC (.int 0))) (mVar 6)) (mVar 4) (mVar 7))
def lb_number_of_1 : MS := (mFor (mSrc srcSeq (mCall m_without_strip (mCons (mVar 5) (mCons (mVar 3) mNil)))) (gNm 7) lb_number_of)
def lb_number_of_2 : MS := (mSeq (mBoxD 4 (mSeq (mAsg (gNm 4) mDicT) (mFor (mSrc srcItems (mVar 2)) (gTp 2 (gsCons (gNm 5) (gsCons (gNm 6) gsNil))) lb_number_of_1))) (mAsg (gNm 2) (mVar 4)))
def b_number_of : MS := (mSeq (mBoxD 2 (mAsg (gNm 2) (mDispT (mVar 0) (mC (.int 1))))) (mSeq (mFor (mSrc srcSeq (mOp1 (fRevA fLstF) (mVar 1))) (gNm 3) lb_number_of_2) (mRet (mGet2 (mVar 2) (mCallB fTup mNil) (mC (.int 0))))))
def m_number_of : List D → M D := mFn 8 finP b_number_of
/-- is_integer: 0 value -/
def b_is_integer : MS := (mRet (mAnd (mCallB fIsi (mCons (mVar 0) (mCons (mC (.ty "int")) mNil))) (mNot (mCallB fIsi (mCons (mVar 0) (mCons (mC (.ty "bool")) mNil))))))
def m_is_integer : List D → M D := mFn 1 finP b_is_integer
/-- is_from: 0 value, 1 first, 2 last -/
def b_is_from : MS := (mRet (mAnd (mCall m_is_integer (mCons (mVar 0) mNil)) (mChain fLe fLe (mVar 1) (mVar 0) (mVar 2))))
def m_is_from : List D → M D := mFn 3 finP b_is_from
/-- require_counts: 0 sums, 1 many -/
def ce_require_counts : ME D := (mCall m_is_from (mCons (mVar 1) (mCons (mC (.int 0)) (mCons (mC (.int 42)) mNil))))
def b_require_counts : MS := (mSeq (mIfS (mOrT (mNotT (mTest (mCallB fIsi (mCons (mVar 0) (mCons (mC (.ty "tuple")) mNil))))) (mTest (mOp2 fGt (mCallB fLen (mCons (mVar 0) mNil)) (mC (.int 8))))) (mRaise "InvalidSums") mNext) (mIfS (mNotT (mTest (mCallB fAll (mCons (mCallB fLstF (mCompL (mSrc srcSeq (mVar 0)) [1] (gNm 1) mYes ce_require_counts)) mNil)))) (mRaise "InvalidSums") mNext))
def m_require_counts : List D → M D := mFn 2 finP b_require_counts
/-- is_shape: 0 value, 1 row -/
def ce_is_shape : ME D := (mCall m_is_from (mCons (mVar 1) (mCons (mC (.int 1)) (mCons (mC (.int 42)) mNil))))
def b_is_shape : MS := (mSeq (mIfS (mOrT (mNotT (mTest (mCallB fIsi (mCons (mVar 0) (mCons (mC (.ty "tuple")) mNil))))) (mNotT (mTest (mCallB fAll (mCons (mCallB fLstF (mCompL (mSrc srcSeq (mVar 0)) [1] (gNm 1) mYes ce_is_shape)) mNil))))) (mRet (mC (.bl false))) mNext) (mRet (mAnd (mOp2 fLe (mCallB fSum (mCons (mVar 0) mNil)) (mC (.int 42))) (mOp2 fEq (mCallB (fToL fLstF) (mCons (mVar 0) mNil)) (mCallB (fSrt true fLstF) (mCons (mVar 0) mNil))))))
def n_is_shape : List D → M D := mFn 2 finP b_is_shape
def m_is_shape : List D → M D := mCl n_is_shape
/-- require_shape: 0 shape -/
def b_require_shape : MS := (mIfS (mNotT (mTest (mCall m_is_shape (mCons (mVar 0) mNil)))) (mRaise "InvalidFilling") mNext)
def m_require_shape : List D → M D := mFn 1 finP b_require_shape
/-- count_fillings: 0 shape, 1 sums -/
def b_count_fillings : MS := (mSeq (mDrop (mCall m_require_shape (mCons (mVar 0) mNil))) (mSeq (mDrop (mCall m_require_counts (mCons (mVar 1) mNil))) (mRet (mIf (mTest (mOp2 fEq (mCallB fSum (mCons (mVar 1) mNil)) (mCallB fSum (mCons (mVar 0) mNil)))) (mCall m_number_of (mCons (mVar 0) (mCons (mVar 1) mNil))) (mC (.int 0))))))
def m_count_fillings : List D → M D := mFn 2 finP b_count_fillings
/-- _law_right: 0 heap, 1 shape, 2 counts, 3 lots, 4 one, 5 other -/
def lb__law_right : MS := (mIfS (mAndT (mTest (mOp2 fGt (mOp2 fIx (mVar 2) (mVar 4)) (mOp2 (fAddG fLstF) (mOp2 fIx (mVar 2) (mVar 5)) (mC (.int 1))))) (mTest (mOp2 fLt (mCall m_count_fillings (mCons (mVar 1) (mCons (mCall m__law_moved (mCons (mVar 2) (mCons (mVar 4) (mCons (mVar 5) mNil)))) mNil))) (mVar 3)))) (mRet (mC (.bl false))) mNext)
def lb__law_right_1 : MS := (mFor (mSrcA srcR1 (mCons (mCallB fLen (mCons (mVar 2) mNil)) mNil)) (gNm 5) lb__law_right)
def b__law_right : MS := (mSeq (mAsg (gNm 1) (mCall m__law_shape (mCons (mVar 0) (mCons (mC (.int 10)) mNil)))) (mSeq (mAsg (gNm 2) (mCall m__law_counts (mCons (mVar 0) (mCons (mCallB fSum (mCons (mVar 1) mNil)) (mCons (mOp2 (fAddG fLstF) (mC (.int 1)) (mCall m__law_less (mCons (mVar 0) (mCons (mC (.int 5)) mNil)))) mNil))))) (mSeq (mAsg (gNm 3) (mCall m_count_fillings (mCons (mVar 1) (mCons (mVar 2) mNil)))) (mSeq (mIfS (mOrT (mTest (mOp2 fNe (mCall m_count_fillings (mCons (mVar 1) (mCons (mCallB fToT (mCons (mCall m__law_order (mCons (mVar 0) (mCons (mVar 2) mNil))) mNil)) mNil))) (mVar 3))) (mTest (mOp2 fNe (mOp2 fGt (mVar 3) (mC (.int 0))) (mCall m__law_under (mCons (mVar 2) (mCons (mVar 1) mNil)))))) (mRet (mC (.bl false))) mNext) (mSeq (mIfS (mOrT (mTest (mOp2 fNe (mCall m_count_fillings (mCons (mVar 1) (mCons (mOp2 (fAddG fLstF) (mVar 2) (mCallB fTup (mCons (mC (.int 0)) mNil))) mNil))) (mVar 3))) (mTest (mOp2 fNe (mCall m_count_fillings (mCons (mVar 1) (mCons (mOp2 (fAddG fLstF) (mCallB fTup (mCons (mC (.int 0)) mNil)) (mVar 2)) mNil))) (mVar 3)))) (mRet (mC (.bl false))) mNext) (mSeq (mFor (mSrcA srcR1 (mCons (mCallB fLen (mCons (mVar 2) mNil)) mNil)) (gNm 4) lb__law_right_1) (mRet (mOr (mOp2 fGt (mCallB fLen (mCons (mVar 1) mNil)) (mC (.int 8))) (mOp2 fEq (mCall m_count_fillings (mCons (mVar 1) (mCons (mVar 1) mNil))) (mC (.int 1)))))))))))
def m__law_right : List D → M D := mFn 6 finP b__law_right
/-- law: 0 script, 1 at, 2 heap, 3 told -/
def lb_law : MS := (mSeq (mAsg (gNm 2) (mCall m__law_heap (mCons (mVar 0) (mCons (mVar 1) mNil)))) (mIfS (mOrT (mNotT (mTest (mCall m__law_right (mCons (mVar 2) mNil)))) (mNotT (mTest (mCall m__law_right (mCons (mVar 2) mNil))))) (mRet (mC (.bl false))) mNext))
def b_law : MS := (mSeq (mFor (mSrcA srcR1 (mCons (mCallB fMax (mCons (mC (.int 1)) (mCons (mCallB fMin (mCons (mC (.int 5)) (mCons (mCallB fLen (mCons (mVar 0) mNil)) mNil))) mNil))) mNil)) (gNm 1) lb_law) (mSeq (mAsg (gNm 3) (mCallB fLstF (mCons (mCall m_count_fillings (mCons (mCallB fTup (mCons (mC (.int 2)) (mCons (mC (.int 1)) mNil))) (mCons (mCallB fTup (mCons (mC (.int 1)) (mCons (mC (.int 1)) (mCons (mC (.int 1)) mNil)))) mNil))) (mCons (mCall m_count_fillings (mCons (mCallB fTup (mCons (mC (.int 2)) (mCons (mC (.int 1)) mNil))) (mCons (mCallB fTup (mCons (mC (.int 2)) (mCons (mC (.int 1)) mNil))) mNil))) (mCons (mCall m_count_fillings (mCons (mCallB fTup (mCons (mC (.int 2)) (mCons (mC (.int 1)) mNil))) (mCons (mCallB fTup (mCons (mC (.int 3)) mNil)) mNil))) mNil))))) (mRet (mOp2 fEq (mVar 3) (mCallB fLstF (mCons (mC (.int 2)) (mCons (mC (.int 1)) (mCons (mC (.int 0)) mNil))))))))
def m_law : List D → M D := mFn 4 finP b_law

/-! ### the walks -/
section
variable [HasT] {P : Program} {w : World} {K : PySem.W.Frag} {mg : Str → Option Value} {base : Heap}
theorem sc__law_heap : FnScope ["script", "at", "cell", "great", "seed"] ["script", "at"] (defScope (top 17)) := ⟨rfl, rfl, rfl, by decide +kernel, rfl, by decide +kernel, by decide +kernel⟩
theorem D__law_heap (T : Txt P w K mg) (LT : Lams K mg base) : FnD P w K mg base "_law_heap" 1 2 m__law_heap := by
  obtain ⟨f, fd, hg, Fd⟩ := T.d__law_heap
  refine fn_mkD (k := 0) hg Fd sc__law_heap rfl rfl finN_ok (fun _ _ _ _ _ _ us hl => match us, hl with | [_, _], _ => rfl) fun cdv A outer s H E hr hgd => ?_
  have nd := sc__law_heap.nd
  have hu := room_u hr
  unfold b__law_heap
  exact (dss_cons (ds_set 2 nd (de_if (dt_cmp od_lt (de_var 1) (de_callB cd_len T.f_len boot_len (da_cons (de_var 0) da_nil)) (nomark _)) (de_ix ixd (de_var 0) (de_var 1)) (de_op2 (od_addG newL_F) (de_op2 (od_mulA newL_F) de_int (de_var 1)) de_int)))
    (dss_cons (ds_set 3 nd (de_op2 od_mod (de_callTy cd_int T.f_int boot_int (da_cons (de_callB cd_abs T.f_abs boot_abs (da_cons (de_var 2) da_nil)) da_nil)) (de_op2 od_pow (de_op2 od_pow de_int de_int) de_int)))
    (dss_cons (ds_set 4 nd (de_op2 od_mod (de_callTy cd_int T.f_int boot_int (da_cons (de_op2 (od_addG newL_F) (de_op2 (od_addG newL_F) (de_op2 (od_addG newL_F) (de_op2 (od_mulA newL_F) (de_op2 od_mod (de_var 3) de_int) de_int) (de_op2 (od_mulA newL_F) de_int (de_var 1))) (de_op2 (od_mulA newL_F) de_int (de_callTy cd_int T.f_int boot_int (da_cons (de_cmp od_lt (de_var 2) de_int (nomark _)) da_nil)))) de_int) da_nil)) de_int))
    (dss_one (ds_ret (de_lst (da_cons (de_callB (cd_max rfl hu) T.f_max boot_max (da_cons de_int (da_cons (de_op2 od_sub (de_var 3) (de_op2 od_pow de_int de_int)) da_nil))) (da_cons (de_var 4) (da_cons de_int da_nil)))))))))
theorem sc__law_less : FnScope ["heap", "size", "found", "one", "two"] ["heap", "size"] (defScope (top 18)) := ⟨rfl, rfl, rfl, by decide +kernel, rfl, by decide +kernel, by decide +kernel⟩
theorem D__law_less (T : Txt P w K mg) (LT : Lams K mg base) : FnD P w K mg base "_law_less" 1 2 m__law_less := by
  obtain ⟨f, fd, hg, Fd⟩ := T.d__law_less
  refine fn_mkD (k := 0) hg Fd sc__law_less rfl rfl finP_ok (fun _ _ _ _ _ _ us hl => match us, hl with | [_, _], _ => rfl) fun cdv A outer s H E hr hgd => ?_
  have nd := sc__law_less.nd
  have hu := room_u hr
  unfold b__law_less
  exact (dss_cons (ds_if (dt_cmp od_gt (de_ix ixd (de_var 0) de_int) de_int (nomark _)) (dss_cons (ds_set 2 nd (de_op2 od_mod (de_callTy cd_int T.f_int boot_int (da_cons (de_ix ixd (de_var 0) de_int) da_nil)) (de_var 1)))
    (dss_cons (ds_put (de_op2 od_div (de_ix ixd (de_var 0) de_int) (de_var 1)) (de_var 0) de_int)
    (dss_one (ds_ret (de_var 2))))) dss_nil)
    (dss_cons (ds_put (de_op2 (od_addG newL_F) (de_ix ixd (de_var 0) de_int) de_int) (de_var 0) de_int)
    (dss_cons (ds_set 3 nd (de_op2 od_mod (de_callTy cd_int T.f_int boot_int (da_cons (de_op2 (od_addG newL_F) (de_ix ixd (de_var 0) de_int) (de_op2 (od_mulA newL_F) de_int (de_ix ixd (de_var 0) de_int))) da_nil)) de_int))
    (dss_cons (ds_set 4 nd (de_op2 (od_addG newL_F) (de_op2 (od_mulA newL_F) (de_op2 od_mod (de_callTy cd_int T.f_int boot_int (da_cons (de_op2 (od_mulA newL_F) (de_var 3) (de_var 3)) da_nil)) de_int) (de_var 3)) (de_op2 (od_mulA newL_F) de_int (de_ix ixd (de_var 0) de_int))))
    (dss_one (ds_ret (de_op2 od_mod (de_callTy cd_int T.f_int boot_int (da_cons (de_op2 od_div (de_op2 od_mod (de_callTy cd_int T.f_int boot_int (da_cons (de_var 4) da_nil)) de_int) de_int) da_nil)) (de_var 1))))))))
theorem sc__law_counts : FnScope ["heap", "total", "lots", "found", "turn", "at"] ["heap", "total", "lots"] (defScope (top 21)) := ⟨rfl, rfl, rfl, by decide +kernel, rfl, by decide +kernel, by decide +kernel⟩
theorem D__law_counts (T : Txt P w K mg) (LT : Lams K mg base) : FnD P w K mg base "_law_counts" 2 3 m__law_counts := by
  obtain ⟨f, fd, hg, Fd⟩ := T.d__law_counts
  refine fn_mkD (k := 1) hg Fd sc__law_counts rfl rfl finP_ok (fun _ _ _ _ _ _ us hl => match us, hl with | [_, _, _], _ => rfl) fun cdv A outer s H E hr hgd => ?_
  have nd := sc__law_counts.nd
  have hu := room_u hr
  unfold b__law_counts
  exact (dss_cons (ds_set 3 nd (de_op2 (od_mulA newL_N) (de_lstF (da_cons de_int da_nil)) (de_var 2)))
    (dss_cons (ds_for (ws := [4]) (passes_of rfl) rfl (di_range1 T.f_range (da_cons (de_var 1) da_nil)) (dg_name 4 nd) (dss_cons (ds_set 5 nd (de_call (D__law_less T LT) (hr.mono (by decide)) hgd (takes_of rfl rfl rfl rfl) (da_cons (de_var 0) (da_cons (de_var 2) da_nil))))
    (dss_one (ds_put (de_op2 (od_addG newL_F) (de_ix ixd (de_var 3) (de_var 5)) de_int) (de_var 3) (de_var 5)))))
    (dss_one (ds_ret (de_callTy cd_toT T.f_tuple boot_tuple (da_cons (de_var 3) da_nil))))))
theorem sc__law_moved : FnScope ["row", "one", "other", "at", "entry"] ["row", "one", "other"] (defScope (top 23)) := ⟨rfl, rfl, rfl, by decide +kernel, rfl, by decide +kernel, by decide +kernel⟩
theorem D__law_moved (T : Txt P w K mg) (LT : Lams K mg base) : FnD P w K mg base "_law_moved" 1 3 m__law_moved := by
  obtain ⟨f, fd, hg, Fd⟩ := T.d__law_moved
  refine fn_mkD (k := 0) hg Fd sc__law_moved rfl rfl finP_ok (fun _ _ _ _ _ _ us hl => match us, hl with | [_, _, _], _ => rfl) fun cdv A outer s H E hr hgd => ?_
  have nd := sc__law_moved.nd
  have hu := room_u hr
  unfold b__law_moved
  exact (dss_one (ds_ret (de_callTy cd_toT T.f_tuple boot_tuple (da_cons (de_lcF (own := [("at", 3), ("entry", 4)]) rfl nd (blkOk_by (by kernel_rfl)) (di_enum T.f_enumerate (da_cons (de_var 0) da_nil)) (fun _ _ _ _ _ => (dg_tup rfl (dgs_cons (dg_name 3 nd) (dgs_cons (dg_name 4 nd) dgs_nil)))) (fun _ _ _ _ _ => dts_nil) (fun _ _ _ _ _ => (de_op2 (od_addG newL_F) (de_op2 od_sub (de_var 4) (de_callTy cd_int T.f_int boot_int (da_cons (de_cmp (od_eq hu) (de_var 3) (de_var 1) (nomark _)) da_nil))) (de_callTy cd_int T.f_int boot_int (da_cons (de_cmp (od_eq hu) (de_var 3) (de_var 2) (nomark _)) da_nil))))) da_nil))))
theorem sc__law_order : FnScope ["heap", "items", "pool", "found", "turn"] ["heap", "items"] (defScope (top 19)) := ⟨rfl, rfl, rfl, by decide +kernel, rfl, by decide +kernel, by decide +kernel⟩
theorem D__law_order (T : Txt P w K mg) (LT : Lams K mg base) : FnD P w K mg base "_law_order" 2 2 m__law_order := by
  obtain ⟨f, fd, hg, Fd⟩ := T.d__law_order
  refine fn_mkD (k := 1) hg Fd sc__law_order rfl rfl finP_ok (fun _ _ _ _ _ _ us hl => match us, hl with | [_, _], _ => rfl) fun cdv A outer s H E hr hgd => ?_
  have nd := sc__law_order.nd
  have hu := room_u hr
  unfold b__law_order
  exact (dss_cons (ds_par2 2 3 rfl nd (da_cons (de_callTy (cd_toL newL_N) T.f_list boot_list (da_cons (de_var 1) da_nil)) (da_cons (de_lst da_nil) da_nil)))
    (dss_cons (ds_for (ws := [4]) (passes_of rfl) rfl (di_range1 T.f_range (da_cons (de_callB cd_len T.f_len boot_len (da_cons (de_var 1) da_nil)) da_nil)) (dg_name 4 nd) (dss_one (ds_expr (de_meth md_append PySem.F.slot_list_append PySem.F.type_list_append (de_var 3) (da_cons (de_meth md_popAt PySem.F.slot_list_pop PySem.F.type_list_pop (de_var 2) (da_cons (de_call (D__law_less T LT) (hr.mono (by decide)) hgd (takes_of rfl rfl rfl rfl) (da_cons (de_var 0) (da_cons (de_callB cd_len T.f_len boot_len (da_cons (de_var 2) da_nil)) da_nil))) da_nil)) da_nil)))))
    (dss_one (ds_ret (de_var 3)))))
theorem sc__law_shape : FnScope ["heap", "most", "left", "widest", "found", "size"] ["heap", "most"] (defScope (top 20)) := ⟨rfl, rfl, rfl, by decide +kernel, rfl, by decide +kernel, by decide +kernel⟩
theorem D__law_shape (T : Txt P w K mg) (LT : Lams K mg base) : FnD P w K mg base "_law_shape" 2 2 m__law_shape := by
  obtain ⟨f, fd, hg, Fd⟩ := T.d__law_shape
  refine fn_mkD (k := 1) hg Fd sc__law_shape rfl rfl finP_ok (fun _ _ _ _ _ _ us hl => match us, hl with | [_, _], _ => rfl) fun cdv A outer s H E hr hgd => ?_
  have nd := sc__law_shape.nd
  have hu := room_u hr
  unfold b__law_shape
  exact (dss_cons (ds_par3 2 3 4 rfl nd (da_cons (de_call (D__law_less T LT) (hr.mono (by decide)) hgd (takes_of rfl rfl rfl rfl) (da_cons (de_var 0) (da_cons (de_op2 (od_addG newL_F) (de_var 1) de_int) da_nil))) (da_cons (de_var 1) (da_cons (de_lst da_nil) da_nil))))
    (dss_cons (ds_while 1000 (passes_of rfl) (dt_cmp od_gt (de_var 2) de_int (nomark _)) (dss_cons (ds_set 5 nd (de_op2 (od_addG newL_F) de_int (de_call (D__law_less T LT) (hr.mono (by decide)) hgd (takes_of rfl rfl rfl rfl) (da_cons (de_var 0) (da_cons (de_callB (cd_min rfl hu) T.f_min boot_min (da_cons (de_var 2) (da_cons (de_var 3) da_nil))) da_nil)))))
    (dss_cons (ds_expr (de_meth md_append PySem.F.slot_list_append PySem.F.type_list_append (de_var 4) (da_cons (de_var 5) da_nil)))
    (dss_one (ds_par2 2 3 rfl nd (da_cons (de_op2 od_sub (de_var 2) (de_var 5)) (da_cons (de_var 5) da_nil)))))))
    (dss_one (ds_ret (de_callTy cd_toT T.f_tuple boot_tuple (da_cons (de_var 4) da_nil))))))
theorem sc__law_under : FnScope ["one", "other", "lots", "first", "second", "at"] ["one", "other"] (defScope (top 22)) := ⟨rfl, rfl, rfl, by decide +kernel, rfl, by decide +kernel, by decide +kernel⟩
theorem D__law_under (T : Txt P w K mg) (LT : Lams K mg base) : FnD P w K mg base "_law_under" 1 2 m__law_under := by
  obtain ⟨f, fd, hg, Fd⟩ := T.d__law_under
  refine fn_mkD (k := 0) hg Fd sc__law_under rfl rfl finP_ok (fun _ _ _ _ _ _ us hl => match us, hl with | [_, _], _ => rfl) fun cdv A outer s H E hr hgd => ?_
  have nd := sc__law_under.nd
  have hu := room_u hr
  unfold b__law_under
  exact (dss_cons (ds_set 2 nd (de_callB (cd_max rfl hu) T.f_max boot_max (da_cons (de_callB cd_len T.f_len boot_len (da_cons (de_var 0) da_nil)) (da_cons (de_callB cd_len T.f_len boot_len (da_cons (de_var 1) da_nil)) da_nil))))
    (dss_cons (ds_set 3 nd (de_revL newL_F (de_callB (cd_srt newL_F) T.f_sorted boot_sorted (da_cons (de_op2 (od_addG newL_F) (de_callTy (cd_toL newL_F) T.f_list boot_list (da_cons (de_var 0) da_nil)) (de_op2 (od_mulA newL_F) (de_lstF (da_cons de_int da_nil)) (de_op2 od_sub (de_var 2) (de_callB cd_len T.f_len boot_len (da_cons (de_var 0) da_nil))))) da_nil))))
    (dss_cons (ds_set 4 nd (de_revL newL_F (de_callB (cd_srt newL_F) T.f_sorted boot_sorted (da_cons (de_op2 (od_addG newL_F) (de_callTy (cd_toL newL_F) T.f_list boot_list (da_cons (de_var 1) da_nil)) (de_op2 (od_mulA newL_F) (de_lstF (da_cons de_int da_nil)) (de_op2 od_sub (de_var 2) (de_callB cd_len T.f_len boot_len (da_cons (de_var 1) da_nil))))) da_nil))))
    (dss_one (ds_ret (de_and (de_cmp (od_eq hu) (de_callB (cd_sum rfl) T.f_sum boot_sum (da_cons (de_var 3) da_nil)) (de_callB (cd_sum rfl) T.f_sum boot_sum (da_cons (de_var 4) da_nil)) (nomark _)) (de_one (de_cmp (od_eq hu) (de_lcF (own := [("at", 5)]) rfl nd (blkOk_by (by kernel_rfl)) (di_range1 T.f_range (da_cons (de_var 2) da_nil)) (fun _ _ _ _ _ => (dg_name 5 nd)) (fun _ _ _ _ _ => (dts_one (dt_cmp od_gt (de_callB (cd_sum rfl) T.f_sum boot_sum (da_cons (de_cut newL_F (de_var 3) do_none (do_some (de_var 5))) da_nil)) (de_callB (cd_sum rfl) T.f_sum boot_sum (da_cons (de_cut newL_F (de_var 4) do_none (do_some (de_var 5))) da_nil)) (nomark _)))) (fun _ _ _ _ _ => (de_var 5))) (de_lstF da_nil) (nomark _)))))))))
theorem sc_without_strip : FnScope ["shape", "many", "found", "at", "row", "least", "lots", "pairs", "ahead", "left", "cells", "shorter"] ["shape", "many"] (defScope (top 12)) := ⟨rfl, rfl, rfl, by decide +kernel, rfl, by decide +kernel, by decide +kernel⟩
theorem D_without_strip (T : Txt P w K mg) (LT : Lams K mg base) : FnD P w K mg base "without_strip" 1 2 m_without_strip := by
  obtain ⟨f, fd, hg, Fd⟩ := T.d_without_strip
  refine fn_mkD (k := 0) hg Fd sc_without_strip rfl rfl finP_ok (fun _ _ _ _ _ _ us hl => match us, hl with | [_, _], _ => rfl) fun cdv A outer s H E hr hgd => ?_
  have nd := sc_without_strip.nd
  have hu := room_u hr
  unfold b_without_strip
  exact (dss_cons (ds_set 2 nd (de_lstF (da_cons (de_tup (da_cons (de_tup da_nil) (da_cons (de_var 1) da_nil))) da_nil)))
    (dss_cons (ds_for (ws := [3, 4]) (passes_of rfl) rfl (di_enum T.f_enumerate (da_cons (de_var 0) da_nil)) (dg_tup rfl (dgs_cons (dg_name 3 nd) (dgs_cons (dg_name 4 nd) dgs_nil))) (dss_cons (ds_set 5 nd (de_if (dt_cmp od_lt (de_op2 (od_addG newL_F) (de_var 3) de_int) (de_callB cd_len T.f_len boot_len (da_cons (de_var 0) da_nil)) (nomark _)) (de_ix ixd (de_var 0) (de_op2 (od_addG newL_F) (de_var 3) de_int)) de_int))
    (dss_cons (ds_set 6 nd (de_listRg1 newL_F T.f_list T.f_range (de_op2 (od_addG newL_F) (de_op2 od_sub (de_var 4) (de_var 5)) de_int)))
    (dss_cons (ds_setLc2 7 (own := [("ahead", 8), ("left", 9), ("cells", 10)]) finP_ok rfl nd (blkOk_by (by kernel_rfl)) (by decide) (di_seq (de_var 2)) (fun _ _ _ _ _ => (dg_tup rfl (dgs_cons (dg_name 8 nd) (dgs_cons (dg_name 9 nd) dgs_nil)))) (fun _ _ _ _ _ => dts_nil) (fun _ _ _ _ _ => (di_seq (de_var 6))) (fun _ _ _ _ _ => (dg_name 10 nd)) (fun _ _ _ _ _ => (dts_one (dt_cmp od_le (de_var 10) (de_var 9) (nomark _)))) (fun _ _ _ _ _ => (de_tup (da_cons (de_var 8) (da_cons (de_var 9) (da_cons (de_var 10) da_nil))))) (sw_true rfl rfl rfl (by decide +kernel)))
    (dss_one (ds_setLcF 2 (own := [("ahead", 8), ("left", 9), ("cells", 10)]) rfl nd (blkOk_by (by kernel_rfl)) (di_seq (de_var 7)) (fun _ _ _ _ _ => (dg_tup rfl (dgs_cons (dg_name 8 nd) (dgs_cons (dg_name 9 nd) (dgs_cons (dg_name 10 nd) dgs_nil))))) (fun _ _ _ _ _ => dts_nil) (fun _ _ _ _ _ => (de_tup (da_cons (de_tup (da_star (de_var 8) (da_cons (de_op2 od_sub (de_var 4) (de_var 10)) da_nil))) (da_cons (de_op2 od_sub (de_var 9) (de_var 10)) da_nil)))) (sw_true rfl rfl rfl (by decide +kernel))))))))
    (dss_one (ds_ret (de_lcF (own := [("shorter", 11), ("left", 9)]) rfl nd (blkOk_by (by kernel_rfl)) (di_seq (de_var 2)) (fun _ _ _ _ _ => (dg_tup rfl (dgs_cons (dg_name 11 nd) (dgs_cons (dg_name 9 nd) dgs_nil)))) (fun _ _ _ _ _ => (dts_one (dt_cmp (od_eq hu) (de_var 9) de_int (nomark _)))) (fun _ _ _ _ _ => (de_callTy cd_toT T.f_tuple boot_tuple (da_cons (de_lcF (own := [("row", 4)]) rfl nd (blkOk_by (by kernel_rfl)) (di_seq (de_var 11)) (fun _ _ _ _ _ => (dg_name 4 nd)) (fun _ _ _ _ _ => (dts_one (dt_cmp od_gt (de_var 4) de_int (nomark _)))) (fun _ _ _ _ _ => (de_var 4))) da_nil))))))))
theorem sc_number_of : FnScope ["shape", "sums", "found", "many", "later", "one", "count", "shorter"] ["shape", "sums"] (defScope (top 13)) := ⟨rfl, rfl, rfl, by decide +kernel, rfl, by decide +kernel, by decide +kernel⟩
theorem D_number_of (T : Txt P w K mg) (LT : Lams K mg base) : FnD P w K mg base "number_of" 2 2 m_number_of := by
  obtain ⟨f, fd, hg, Fd⟩ := T.d_number_of
  refine fn_mkD (k := 1) hg Fd sc_number_of rfl rfl finP_ok (fun _ _ _ _ _ _ us hl => match us, hl with | [_, _], _ => rfl) fun cdv A outer s H E hr hgd => ?_
  have nd := sc_number_of.nd
  have hu := room_u hr
  unfold b_number_of
  exact (dss_app (as := [_]) (dss_boxD (i := 2) (dss_one (ds_set 2 nd (de_dispT hu (de_var 0) de_int))))
    (dss_cons (ds_for (ws := [3]) (passes_of rfl) rfl (di_seq (de_revA newL_F (de_var 1))) (dg_name 3 nd) (dss_app (as := [_, _]) (dss_boxD (i := 4) (dss_cons (ds_set 4 nd de_dicT)
    (dss_one (ds_for (ws := [5, 6]) (passes_of rfl) rfl (di_items (de_var 2)) (dg_tup rfl (dgs_cons (dg_name 5 nd) (dgs_cons (dg_name 6 nd) dgs_nil))) (dss_one (ds_for (ws := [7]) (passes_of rfl) rfl (di_seq (de_call (D_without_strip T LT) (hr.mono (by decide)) hgd (takes_of rfl rfl rfl rfl) (da_cons (de_var 5) (da_cons (de_var 3) da_nil)))) (dg_name 7 nd) (dss_one (ds_dput hu (de_op2 (od_addG newL_F) (de_get2 (Nat.lt_of_le_of_lt (Nat.add_le_add_left (by decide) _) hu) (de_var 4) (de_var 7) de_int) (de_var 6)) (de_var 4) (de_var 7)))))))))
    (dss_one (ds_set 2 nd (de_var 4)))))
    (dss_one (ds_ret (de_get2 (Nat.lt_of_le_of_lt (Nat.add_le_add_left (by decide) _) hu) (de_var 2) (de_tup da_nil) de_int)))))
theorem sc_is_integer : FnScope ["value"] ["value"] (defScope (top 1)) := ⟨rfl, rfl, rfl, by decide +kernel, rfl, by decide +kernel, by decide +kernel⟩
theorem D_is_integer (T : Txt P w K mg) (LT : Lams K mg base) : FnD P w K mg base "is_integer" 1 1 m_is_integer := by
  obtain ⟨f, fd, hg, Fd⟩ := T.d_is_integer
  refine fn_mkD (k := 0) hg Fd sc_is_integer rfl rfl finP_ok (fun _ _ _ _ _ _ us hl => match us, hl with | [_], _ => rfl) fun cdv A outer s H E hr hgd => ?_
  have nd := sc_is_integer.nd
  have hu := room_u hr
  unfold b_is_integer
  exact (dss_one (ds_ret (de_and (de_callB cd_isi T.f_isinstance boot_isinstance (da_cons (de_var 0) (da_cons (de_tyn T.f_int boot_int) da_nil))) (de_one (de_not (de_callB cd_isi T.f_isinstance boot_isinstance (da_cons (de_var 0) (da_cons (de_tyn T.f_bool boot_bool) da_nil))))))))
theorem sc_is_from : FnScope ["value", "first", "last"] ["value", "first", "last"] (defScope (top 2)) := ⟨rfl, rfl, rfl, by decide +kernel, rfl, by decide +kernel, by decide +kernel⟩
theorem D_is_from (T : Txt P w K mg) (LT : Lams K mg base) : FnD P w K mg base "is_from" 2 3 m_is_from := by
  obtain ⟨f, fd, hg, Fd⟩ := T.d_is_from
  refine fn_mkD (k := 1) hg Fd sc_is_from rfl rfl finP_ok (fun _ _ _ _ _ _ us hl => match us, hl with | [_, _, _], _ => rfl) fun cdv A outer s H E hr hgd => ?_
  have nd := sc_is_from.nd
  have hu := room_u hr
  unfold b_is_from
  exact (dss_one (ds_ret (de_and (de_call (D_is_integer T LT) (hr.mono (by decide)) hgd (takes_of rfl rfl rfl rfl) (da_cons (de_var 0) da_nil)) (de_one (de_chain od_le od_le (de_var 1) (de_var 0) (de_var 2) fun _ _ o o2 => pe_chain o o2 (de_var 1) (de_var 0) (de_var 2))))))
theorem sc_require_counts : FnScope ["sums", "many"] ["sums"] (defScope (top 14)) := ⟨rfl, rfl, rfl, by decide +kernel, rfl, by decide +kernel, by decide +kernel⟩
theorem D_require_counts (T : Txt P w K mg) (LT : Lams K mg base) : FnD P w K mg base "require_counts" 3 1 m_require_counts := by
  obtain ⟨f, fd, hg, Fd⟩ := T.d_require_counts
  refine fn_mkD (k := 2) hg Fd sc_require_counts rfl rfl finP_ok (fun _ _ _ _ _ _ us hl => match us, hl with | [_], _ => rfl) fun cdv A outer s H E hr hgd => ?_
  have nd := sc_require_counts.nd
  have hu := room_u hr
  unfold b_require_counts
  exact (dss_cons (ds_if (dt_bool (dw_or (dt_not (dt_val (de_callB cd_isi T.f_isinstance boot_isinstance (da_cons (de_var 0) (da_cons (de_tyn T.f_tuple boot_tuple) da_nil))))) (dw_or1 (dt_cmp od_gt (de_callB cd_len T.f_len boot_len (da_cons (de_var 0) da_nil)) (de_gint T.i_MAX_ENTRIES) (nomark _))))) (dss_one (ds_raiseE T.e_InvalidSums (takes_of rfl rfl rfl rfl))) dss_nil)
    (dss_one (ds_if (dt_not (dt_val (de_callB (cd_all rfl) T.f_all boot_all (da_cons (de_lcF (own := [("many", 1)]) rfl nd (blkOk_by (by kernel_rfl)) (di_seq (de_var 0)) (fun _ _ _ _ _ => (dg_name 1 nd)) (fun _ _ _ _ _ => dts_nil) (fun _ _ _ _ _ => (de_call (D_is_from T LT) (hr.mono (by decide)) hgd takes0 (da_cons (de_var 1) (da_cons de_int (da_cons (de_gint T.i_MAX_CELLS) da_nil)))))) da_nil)))) (dss_one (ds_raiseE T.e_InvalidSums (takes_of rfl rfl rfl rfl))) dss_nil)))
theorem sc_is_shape : FnScope ["value", "row"] ["value"] (defScope (top 10)) := ⟨rfl, rfl, rfl, by decide +kernel, rfl, by decide +kernel, by decide +kernel⟩
theorem D_is_shape (T : Txt P w K mg) (LT : Lams K mg base) : FnD P w K mg base "is_shape" 3 1 m_is_shape := by
  obtain ⟨f, fd, hg, Fd⟩ := T.d_is_shape
  refine FnD.cl ?_
  refine fn_mkD (k := 2) hg Fd sc_is_shape rfl rfl finP_ok (fun _ _ _ _ _ _ us hl => match us, hl with | [_], _ => rfl) fun cdv A outer s H E hr hgd => ?_
  have nd := sc_is_shape.nd
  have hu := room_u hr
  unfold b_is_shape
  exact (dss_cons (ds_if (dt_bool (dw_or (dt_not (dt_val (de_callB cd_isi T.f_isinstance boot_isinstance (da_cons (de_var 0) (da_cons (de_tyn T.f_tuple boot_tuple) da_nil))))) (dw_or1 (dt_not (dt_val (de_callB (cd_all rfl) T.f_all boot_all (da_cons (de_lcF (own := [("row", 1)]) rfl nd (blkOk_by (by kernel_rfl)) (di_seq (de_var 0)) (fun _ _ _ _ _ => (dg_name 1 nd)) (fun _ _ _ _ _ => dts_nil) (fun _ _ _ _ _ => (de_call (D_is_from T LT) (hr.mono (by decide)) hgd takes0 (da_cons (de_var 1) (da_cons de_int (da_cons (de_gint T.i_MAX_CELLS) da_nil)))))) da_nil))))))) (dss_one (ds_ret de_bl)) dss_nil)
    (dss_one (ds_ret (de_and (de_cmp od_le (de_callB (cd_sum rfl) T.f_sum boot_sum (da_cons (de_var 0) da_nil)) (de_gint T.i_MAX_CELLS) (nomark _)) (de_one (de_cmp (od_eq hu) (de_callTy (cd_toL newL_F) T.f_list boot_list (da_cons (de_var 0) da_nil)) (de_srtR newL_F T.f_sorted boot_sorted (de_var 0)) (nomark _)))))))
theorem sc_require_shape : FnScope ["shape"] ["shape"] (defScope (top 11)) := ⟨rfl, rfl, rfl, by decide +kernel, rfl, by decide +kernel, by decide +kernel⟩
theorem D_require_shape (T : Txt P w K mg) (LT : Lams K mg base) : FnD P w K mg base "require_shape" 4 1 m_require_shape := by
  obtain ⟨f, fd, hg, Fd⟩ := T.d_require_shape
  refine fn_mkD (k := 3) hg Fd sc_require_shape rfl rfl finP_ok (fun _ _ _ _ _ _ us hl => match us, hl with | [_], _ => rfl) fun cdv A outer s H E hr hgd => ?_
  have nd := sc_require_shape.nd
  have hu := room_u hr
  unfold b_require_shape
  exact (dss_one (ds_if (dt_not (dt_val (de_call (D_is_shape T LT) (hr.mono (by decide)) hgd (takes_of rfl rfl rfl rfl) (da_cons (de_var 0) da_nil)))) (dss_one (ds_raiseE T.e_InvalidFilling (takes_of rfl rfl rfl rfl))) dss_nil))
theorem sc_count_fillings : FnScope ["shape", "sums"] ["shape", "sums"] (defScope (top 15)) := ⟨rfl, rfl, rfl, by decide +kernel, rfl, by decide +kernel, by decide +kernel⟩
theorem D_count_fillings (T : Txt P w K mg) (LT : Lams K mg base) : FnD P w K mg base "count_fillings" 5 2 m_count_fillings := by
  obtain ⟨f, fd, hg, Fd⟩ := T.d_count_fillings
  refine fn_mkD (k := 4) hg Fd sc_count_fillings rfl rfl finP_ok (fun _ _ _ _ _ _ us hl => match us, hl with | [_, _], _ => rfl) fun cdv A outer s H E hr hgd => ?_
  have nd := sc_count_fillings.nd
  have hu := room_u hr
  unfold b_count_fillings
  exact (dss_cons (ds_expr (de_call (D_require_shape T LT) (hr.mono (by decide)) hgd (takes_of rfl rfl rfl rfl) (da_cons (de_var 0) da_nil)))
    (dss_cons (ds_expr (de_call (D_require_counts T LT) (hr.mono (by decide)) hgd (takes_of rfl rfl rfl rfl) (da_cons (de_var 1) da_nil)))
    (dss_one (ds_ret (de_if (dt_cmp (od_eq hu) (de_callB (cd_sum rfl) T.f_sum boot_sum (da_cons (de_var 1) da_nil)) (de_callB (cd_sum rfl) T.f_sum boot_sum (da_cons (de_var 0) da_nil)) (nomark _)) (de_call (D_number_of T LT) (hr.mono (by decide)) hgd (takes_of rfl rfl rfl rfl) (da_cons (de_var 0) (da_cons (de_var 1) da_nil))) de_int)))))
theorem sc__law_right : FnScope ["heap", "shape", "counts", "lots", "one", "other"] ["heap"] (defScope (top 24)) := ⟨rfl, rfl, rfl, by decide +kernel, rfl, by decide +kernel, by decide +kernel⟩
theorem D__law_right (T : Txt P w K mg) (LT : Lams K mg base) : FnD P w K mg base "_law_right" 6 1 m__law_right := by
  obtain ⟨f, fd, hg, Fd⟩ := T.d__law_right
  refine fn_mkD (k := 5) hg Fd sc__law_right rfl rfl finP_ok (fun _ _ _ _ _ _ us hl => match us, hl with | [_], _ => rfl) fun cdv A outer s H E hr hgd => ?_
  have nd := sc__law_right.nd
  have hu := room_u hr
  unfold b__law_right
  exact (dss_cons (ds_set 1 nd (de_call (D__law_shape T LT) (hr.mono (by decide)) hgd (takes_of rfl rfl rfl rfl) (da_cons (de_var 0) (da_cons de_int da_nil))))
    (dss_cons (ds_set 2 nd (de_call (D__law_counts T LT) (hr.mono (by decide)) hgd (takes_of rfl rfl rfl rfl) (da_cons (de_var 0) (da_cons (de_callB (cd_sum rfl) T.f_sum boot_sum (da_cons (de_var 1) da_nil)) (da_cons (de_op2 (od_addG newL_F) de_int (de_call (D__law_less T LT) (hr.mono (by decide)) hgd (takes_of rfl rfl rfl rfl) (da_cons (de_var 0) (da_cons de_int da_nil)))) da_nil)))))
    (dss_cons (ds_set 3 nd (de_call (D_count_fillings T LT) (hr.mono (by decide)) hgd (takes_of rfl rfl rfl rfl) (da_cons (de_var 1) (da_cons (de_var 2) da_nil))))
    (dss_cons (ds_if (dt_bool (dw_or (dt_cmp (od_ne hu) (de_call (D_count_fillings T LT) (hr.mono (by decide)) hgd (takes_of rfl rfl rfl rfl) (da_cons (de_var 1) (da_cons (de_callTy cd_toT T.f_tuple boot_tuple (da_cons (de_call (D__law_order T LT) (hr.mono (by decide)) hgd (takes_of rfl rfl rfl rfl) (da_cons (de_var 0) (da_cons (de_var 2) da_nil))) da_nil)) da_nil))) (de_var 3) (nomark _)) (dw_or1 (dt_cmp (od_ne hu) (de_cmp od_gt (de_var 3) de_int (nomark _)) (de_call (D__law_under T LT) (hr.mono (by decide)) hgd (takes_of rfl rfl rfl rfl) (da_cons (de_var 2) (da_cons (de_var 1) da_nil))) (nomark _))))) (dss_one (ds_ret de_bl)) dss_nil)
    (dss_cons (ds_if (dt_bool (dw_or (dt_cmp (od_ne hu) (de_call (D_count_fillings T LT) (hr.mono (by decide)) hgd (takes_of rfl rfl rfl rfl) (da_cons (de_var 1) (da_cons (de_op2 (od_addG newL_F) (de_var 2) (de_tup (da_cons de_int da_nil))) da_nil))) (de_var 3) (nomark _)) (dw_or1 (dt_cmp (od_ne hu) (de_call (D_count_fillings T LT) (hr.mono (by decide)) hgd (takes_of rfl rfl rfl rfl) (da_cons (de_var 1) (da_cons (de_op2 (od_addG newL_F) (de_tup (da_cons de_int da_nil)) (de_var 2)) da_nil))) (de_var 3) (nomark _))))) (dss_one (ds_ret de_bl)) dss_nil)
    (dss_cons (ds_for (ws := [4]) (passes_of rfl) rfl (di_range1 T.f_range (da_cons (de_callB cd_len T.f_len boot_len (da_cons (de_var 2) da_nil)) da_nil)) (dg_name 4 nd) (dss_one (ds_for (ws := [5]) (passes_of rfl) rfl (di_range1 T.f_range (da_cons (de_callB cd_len T.f_len boot_len (da_cons (de_var 2) da_nil)) da_nil)) (dg_name 5 nd) (dss_one (ds_if (dt_bool (dw_and (dt_cmp od_gt (de_ix ixd (de_var 2) (de_var 4)) (de_op2 (od_addG newL_F) (de_ix ixd (de_var 2) (de_var 5)) de_int) (nomark _)) (dw_and1 (dt_cmp od_lt (de_call (D_count_fillings T LT) (hr.mono (by decide)) hgd (takes_of rfl rfl rfl rfl) (da_cons (de_var 1) (da_cons (de_call (D__law_moved T LT) (hr.mono (by decide)) hgd (takes_of rfl rfl rfl rfl) (da_cons (de_var 2) (da_cons (de_var 4) (da_cons (de_var 5) da_nil)))) da_nil))) (de_var 3) (nomark _))))) (dss_one (ds_ret de_bl)) dss_nil)))))
    (dss_one (ds_ret (de_or (de_cmp od_gt (de_callB cd_len T.f_len boot_len (da_cons (de_var 1) da_nil)) de_int (nomark _)) (de_one (de_cmp (od_eq hu) (de_call (D_count_fillings T LT) (hr.mono (by decide)) hgd (takes_of rfl rfl rfl rfl) (da_cons (de_var 1) (da_cons (de_var 1) da_nil))) de_int (nomark _))))))))))))
theorem sc_law : FnScope ["script", "at", "heap", "told"] ["script"] (defScope (top 25)) := ⟨rfl, rfl, rfl, by decide +kernel, rfl, by decide +kernel, by decide +kernel⟩
theorem G_law (T : Txt P w K mg) (LT : Lams K mg base) {f : Addr} {fd : FuncData} (Fd : FunD K "law" "law" (defArgs (top 25)) (defBody (top 25)) (defScope (top 25)) [] [] f fd) : FnOkG P w K mg base 7 f fd ["script"] (spD ⟨K, mg⟩ 1 m_law) := by
  refine fn_body (k := 6) Fd sc_law rfl rfl finP_ok fun cdv A outer s H E hr hgd => ?_
  have nd := sc_law.nd
  have hu := room_u hr
  unfold b_law
  exact (dss_cons (ds_for (ws := [1]) (passes_of rfl) rfl (di_range1 T.f_range (da_cons (de_callB (cd_max rfl hu) T.f_max boot_max (da_cons de_int (da_cons (de_callB (cd_min rfl hu) T.f_min boot_min (da_cons de_int (da_cons (de_callB cd_len T.f_len boot_len (da_cons (de_var 0) da_nil)) da_nil))) da_nil))) da_nil)) (dg_name 1 nd) (dss_cons (ds_set 2 nd (de_call (D__law_heap T LT) (hr.mono (by decide)) hgd (takes_of rfl rfl rfl rfl) (da_cons (de_var 0) (da_cons (de_var 1) da_nil))))
    (dss_one (ds_if (dt_bool (dw_or (dt_not (dt_val (de_call (D__law_right T LT) (hr.mono (by decide)) hgd (takes_of rfl rfl rfl rfl) (da_cons (de_var 2) da_nil)))) (dw_or1 (dt_not (dt_val (de_call (D__law_right T LT) (hr.mono (by decide)) hgd (takes_of rfl rfl rfl rfl) (da_cons (de_var 2) da_nil))))))) (dss_one (ds_ret de_bl)) dss_nil))))
    (dss_cons (ds_set 3 nd (de_lstF (da_cons (de_call (D_count_fillings T LT) (hr.mono (by decide)) hgd (takes_of rfl rfl rfl rfl) (da_cons (de_tup (da_cons de_int (da_cons de_int da_nil))) (da_cons (de_tup (da_cons de_int (da_cons de_int (da_cons de_int da_nil)))) da_nil))) (da_cons (de_call (D_count_fillings T LT) (hr.mono (by decide)) hgd (takes_of rfl rfl rfl rfl) (da_cons (de_tup (da_cons de_int (da_cons de_int da_nil))) (da_cons (de_tup (da_cons de_int (da_cons de_int da_nil))) da_nil))) (da_cons (de_call (D_count_fillings T LT) (hr.mono (by decide)) hgd (takes_of rfl rfl rfl rfl) (da_cons (de_tup (da_cons de_int (da_cons de_int da_nil))) (da_cons (de_tup (da_cons de_int da_nil)) da_nil))) da_nil)))))
    (dss_one (ds_ret (de_cmp (od_eq hu) (de_var 3) (de_lstF (da_cons de_int (da_cons de_int (da_cons de_int da_nil)))) (nomark _))))))
end
end DL
set_option maxHeartbeats 4000000
/-! DLPure: how runs are reckoned. -/
namespace DL
open PySem PySem.Spec PyProof.Rows L2

/-! ### one step each -/
section
variable {ρ : Env} {S S' : Store} {ma mb mc mo mi me : ME D} {mr : ME (List D)} {mt mu : ME Bool} {f g : F2} {h : F1} {fl : FL} {fm : FM} {a b : MS} {α β : Type}
theorem r_ok {x : α} {k : α → M β} : Res.bind (.ok x S) k = k x S := rfl
theorem r_err {x : Exc} {k : α → M β} : Res.bind (.err x S) k = .err x S := rfl
theorem r_c {p : P} : mC p ρ S = .ok (.p p) S := rfl
theorem r_op2 : mOp2 f ma mb ρ S = (ma ρ S).bind fun x => fun S => (mb ρ S).bind fun y => lift (f x y) := rfl
theorem r_op1 : mOp1 h ma ρ S = (ma ρ S).bind fun x => lift (h x) := rfl
theorem r_lift {f : Store → Option (α × Store)} {x : α} (e : f S = some (x, S')) : lift f S = .ok x S' := by
  unfold lift
  rw [e]
theorem r_nil : mNil ρ S = .ok [] S := rfl
theorem r_cons : mCons ma mr ρ S = (ma ρ S).bind fun x => fun S => (mr ρ S).bind fun xs => fun S => .ok (x :: xs) S := rfl
theorem r_callB : mCallB fl mr ρ S = (mr ρ S).bind fun xs => lift (fl xs) := rfl
theorem r_call {mf : List D → M D} : mCall mf mr ρ S = (mr ρ S).bind mf := rfl
theorem r_and : mAnd ma mb ρ S = (ma ρ S).bind fun x => fun S => (asB x S).bind fun b => fun S => if b = true then mb ρ S else .ok (.p (.bl false)) S := rfl
theorem r_or : mOr ma mb ρ S = (ma ρ S).bind fun x => fun S => (asB x S).bind fun b => fun S => if b = true then .ok (.p (.bl true)) S else mb ρ S := rfl
theorem r_not : mNot ma ρ S = (ma ρ S).bind fun x => fun S => (asB x S).bind fun b => fun S => .ok (.p (.bl (!b))) S := rfl
theorem r_asB {b : Bool} : asB (.p (.bl b)) S = .ok b S := rfl
theorem r_if : mIf mt ma mb ρ S = (mt ρ S).bind fun b => fun S => if b = true then ma ρ S else mb ρ S := rfl
theorem r_andT : mAndT mt mu ρ S = (mt ρ S).bind fun b => fun S => if b = true then mu ρ S else .ok false S := rfl
theorem r_orT : mOrT mt mu ρ S = (mt ρ S).bind fun b => fun S => if b = true then .ok true S else mu ρ S := rfl
theorem r_notT : mNotT mt ρ S = (mt ρ S).bind fun b => fun S => .ok (!b) S := rfl
theorem r_test : mTest ma ρ S = (ma ρ S).bind asB := rfl
theorem r_chain : mChain f g ma mb mc ρ S = (ma ρ S).bind fun x => fun S => (mb ρ S).bind fun y => fun S => (lift (f x y) S).bind fun z => fun S => (asB z S).bind fun b => fun S =>
  if b = true then (mc ρ S).bind fun u => lift (g y u) else .ok (.p (.bl false)) S := rfl
theorem r_seq : mSeq a b ρ S = (a ρ S).bind (oSeq b) := rfl
theorem r_nx : oSeq b (.nx ρ) S = b ρ S := rfl
theorem r_rt {d : D} : oSeq b (.rt d) S = .ok (.rt d) S := rfl
theorem r_bk : oSeq b (.bk ρ) S = .ok (.bk ρ) S := rfl
theorem r_ct : oSeq b (.ct ρ) S = .ok (.ct ρ) S := rfl
theorem r_next : mNext ρ S = .ok (.nx ρ) S := rfl
theorem r_break : mBreak ρ S = .ok (.bk ρ) S := rfl
theorem r_cont : mCont ρ S = .ok (.ct ρ) S := rfl
theorem r_drop : mDrop ma ρ S = (ma ρ S).bind fun _ S => .ok (.nx ρ) S := rfl
theorem r_ret : mRet ma ρ S = (ma ρ S).bind fun d S => .ok (.rt d) S := rfl
theorem r_retN : mRetN ρ S = .ok (.rt (.p .non)) S := rfl
theorem r_asg {i : Nat} : mAsg (gNm i) ma ρ S = (ma ρ S).bind fun d S => .ok (.nx (ρ.set i (some d))) S := rfl
theorem r_aug {i : Nat} : mAug i f ma ρ S = (mVar i ρ S).bind fun x => fun S => (ma ρ S).bind fun y => fun S => (lift (f x y) S).bind fun z S => .ok (.nx (ρ.set i (some z))) S := rfl
theorem r_ifS : mIfS mt a b ρ S = (mt ρ S).bind fun k => if k = true then a ρ else b ρ := rfl
theorem r_par {is : List Nat} : mPar is mr ρ S = (mr ρ S).bind fun ds S => if ds.length = is.length then .ok (.nx (gPar is ds ρ)) S else .stuck := rfl
theorem r_sl {f : FS} {ml mh : ME (Option Int)} : mSl f ma ml mh ρ S = (ma ρ S).bind fun x => fun S => (ml ρ S).bind fun l => fun S => (mh ρ S).bind fun h => lift (f x l h) := rfl
theorem r_noPart : mNoPart ρ S = .ok none S := rfl
theorem r_part : mPart ma ρ S = (ma ρ S).bind fun x => fun S => (asInt x S).bind fun i S => .ok (some i) S := rfl
theorem r_asInt {i : Int} : asInt (.p (.int i)) S = .ok i S := rfl
theorem r_put : mPut me mo mi ρ S = (me ρ S).bind fun y => fun S => (mo ρ S).bind fun x => fun S => (mi ρ S).bind fun i => liftS (fPut x i y) ρ := rfl
theorem r_liftS {f : Store → Option Store} (e : f S = some S') : liftS f ρ S = .ok (.nx ρ) S' := by
  unfold liftS
  rw [e]
theorem r_meth : mMeth fm mo mr ρ S = (mo ρ S).bind fun x => fun S => (lift (fun S => match x.lst? S with
  | some _ => some ((), S)
  | none => none) S).bind fun _ S => (mr ρ S).bind fun ys => lift (fm x ys) := rfl
theorem r_for {mi : ME Src} {g : MG} : mFor mi g a ρ S = (mi ρ S).bind fun src => loopI src.watch g a src.xs ρ := rfl
theorem r_src {f : D → Store → Option (Src × Store)} : mSrc f ma ρ S = (ma ρ S).bind fun d => lift (f d) := rfl
theorem r_srcA {f : List D → Store → Option (Src × Store)} : mSrcA f mr ρ S = (mr ρ S).bind fun d => lift (f d) := rfl
theorem r_comp {mi : ME Src} {vs : List Nat} {g : MG} : mCompL mi vs g mt me ρ S = (mi ρ S).bind fun src => compI src.watch g mt me (unsetE ρ vs) [] src.xs := rfl
theorem r_while {n : Nat} : mWhile mt a (n + 1) ρ S = (mt ρ S).bind fun k => if k = true then fun S => (a ρ S).bind (oLoop (mWhile mt a n)) else fun S => .ok (.nx ρ) S := rfl
theorem r_oNx {k : Env → M Out} : oLoop k (.nx ρ) S = k ρ S := rfl
theorem r_oCt {k : Env → M Out} : oLoop k (.ct ρ) S = k ρ S := rfl
theorem r_oBk {k : Env → M Out} : oLoop k (.bk ρ) S = .ok (.nx ρ) S := rfl
theorem r_oRt {k : Env → M Out} {d : D} : oLoop k (.rt d) S = .ok (.rt d) S := rfl
theorem r_fn {N : Nat} {fin : Fin} {ds : List D} : mFn N fin a ds S = finR fin S.objs.length ((a (env0 N ds) S).bind asRet) := rfl
theorem r_asNx : asRet (.nx ρ) S = .ok (.p .non) S := rfl
theorem r_asRt {d : D} : asRet (.rt d) S = .ok d S := rfl
theorem r_finOk {fin : Fin} {k : Nat} {d : D} : finR fin k (.ok d S) = .ok (fin k d S).1 (fin k d S).2 := rfl
theorem r_yes : mYes ρ S = .ok true S := rfl
end

/-! ### the ends of defs -/
theorem cut_pre {S S' : Store} (h : S'.objs.take S.objs.length = S.objs) : Store.cut S.objs.length S' = some S := by
  unfold Store.cut
  have hl : S.objs.length ≤ S'.objs.length := by
    have := congrArg List.length h
    rw [List.length_take] at this
    omega
  have h2 : (decide (S.objs.length ≤ S'.objs.length) && allBelow S.objs.length (S'.objs.take S.objs.length)) = true := by
    rw [h, S.wf, decide_eq_true hl]
    rfl
  rw [dif_pos h2]
  exact congrArg some (Store.ext' h)
theorem finP_p {S S' : Store} {x : P} (h : S'.objs.take S.objs.length = S.objs) : finP S.objs.length (.p x) S' = (.p x, S) := by
  unfold finP
  rw [cut_pre h]
  simp only [frzD]
/-- a def that answers data and leaves the store longer at most -/
theorem fn_pure {N : Nat} {a : MS} {ds : List D} {S S' : Store} {x : P} (h : a (env0 N ds) S = .ok (.rt (.p x)) S') (hs : S'.objs.take S.objs.length = S.objs) : mFn N finP a ds S = .ok (.p x) S := by
  rw [r_fn, h, r_ok, r_asRt, r_finOk, finP_p hs]
theorem fn_pure0 {N : Nat} {a : MS} {ds : List D} {S : Store} {x : P} (h : a (env0 N ds) S = .ok (.rt (.p x)) S) : mFn N finP a ds S = .ok (.p x) S := fn_pure h (List.take_length)
theorem fn_none {N : Nat} {a : MS} {ds : List D} {S S' : Store} {ρ : Env} (h : a (env0 N ds) S = .ok (.nx ρ) S') (hs : S'.objs.take S.objs.length = S.objs) : mFn N finP a ds S = .ok (.p .non) S := by
  rw [r_fn, h, r_ok, r_asNx, r_finOk, finP_p hs]

/-! ### comprehensions without a change of the store -/
theorem compI_nil {w : List (Nat × List D)} {g : MG} {t : ME Bool} {e : ME D} {ρ : Env} {acc : List D} {S : Store} (hw : watchOk w S = true) : compI w g t e ρ acc [] S = .ok acc S := by
  unfold compI
  rw [if_pos hw]
/-! ### comprehensions that change the store -/
/-! ### loops -/
theorem loopI_nil {w : List (Nat × List D)} {g : MG} {b : MS} {ρ : Env} {S : Store} (hw : watchOk w S = true) : loopI w g b [] ρ S = .ok (.nx ρ) S := by
  unfold loopI
  rw [if_pos hw]
theorem loopI_cons {w : List (Nat × List D)} {g : MG} {b : MS} {ρ ρ' : Env} {S : Store} {x : D} {xs : List D} (hw : watchOk w S = true) (hg : g x ρ S = some ρ') : loopI w g b (x :: xs) ρ S = (b ρ' S).bind (oLoop (loopI w g b xs)) := by
  conv => lhs; unfold loopI
  rw [if_pos hw]
  unfold gBind
  rw [hg]
/-! ### ints in lists and tuples -/
theorem intsD_d : ∀ ns : List Int, intsD (dInts ns) = some ns
  | [] => rfl
  | n :: ns => by
    show intsD (D.p (.int n) :: dInts ns) = _
    simp only [intsD, intsD_d ns]
def tI (ns : List Int) : D := .p (.tup (ns.map P.int))
def lI (ns : List Int) : D := .p (.lst (ns.map P.int))
theorem map_dInts (ns : List Int) : (ns.map P.int).map D.p = dInts ns := by
  rw [List.map_map]
  rfl
section
variable {S : Store} {ns : List Int}
theorem tI_tup : (tI ns).tup? = some (dInts ns) := by
  show some ((ns.map P.int).map D.p) = _
  rw [map_dInts]
theorem tI_seq : (tI ns).seq? S = some (dInts ns) := by
  unfold D.seq?
  rw [tI_tup]
theorem lI_lst : (lI ns).lst? S = some (dInts ns) := by
  show some ((ns.map P.int).map D.p) = _
  rw [map_dInts]
theorem lI_seq : (lI ns).seq? S = some (dInts ns) := by
  show (lI ns).lst? S = _
  exact lI_lst
theorem pures_dInts : ∀ ns : List Int, pures (dInts ns) = some (ns.map P.int)
  | [] => rfl
  | n :: ns => by
    show pures (D.p (.int n) :: dInts ns) = _
    simp only [pures, pures_dInts ns, List.map_cons]
theorem mkTup_dInts : mkTup (dInts ns) = tI ns := by
  unfold mkTup
  rw [pures_dInts]
  rfl
theorem dInts_len : (dInts ns).length = ns.length := by simp [dInts]
theorem f_toT_l : fToT [lI ns] S = some (tI ns, S) := by
  show (match (lI ns).seq? S with | some xs => some (mkTup xs, S) | none => none) = _
  rw [lI_seq]
  show some (mkTup (dInts ns), S) = _
  rw [mkTup_dInts]
theorem f_toT_t : fToT [tI ns] S = some (tI ns, S) := by
  show (match (tI ns).seq? S with | some xs => some (mkTup xs, S) | none => none) = _
  rw [tI_seq]
  show some (mkTup (dInts ns), S) = _
  rw [mkTup_dInts]
theorem f_lstF (h : ns.length ≤ 100000) : fLstF (dInts ns) S = some (lI ns, S) := by
  unfold fLstF
  rw [if_pos (by rw [dInts_len]; exact h), pures_dInts]
  rfl
theorem f_srt {b : Bool} {d : D} (hd : d.seq? S = some (dInts ns)) (h : ns.length ≤ 100000) : fSrt b fLstF [d] S = some (lI (sortBy b ns), S) := by
  show (match d.seq? S with | some xs => (match intsD xs with | some ns => fLstF (dInts (sortBy b ns)) S | none => none) | none => none) = _
  rw [hd]
  show (match intsD (dInts ns) with | some ns => fLstF (dInts (sortBy b ns)) S | none => none) = _
  rw [intsD_d]
  refine f_lstF ?_
  have : (sortBy b ns).length = ns.length := by
    cases b
    · exact (srtUp_perm ns).length_eq
    · show (sortUp ns).reverse.length = _
      rw [List.length_reverse]
      exact (srtUp_perm ns).length_eq
  omega
theorem f_sum {d : D} (hd : d.seq? S = some (dInts ns)) : fSum [d] S = some (.p (.int ns.sum), S) := by
  show (match d.seq? S with | some xs => (match intsD xs with | some ns => some (D.p (.int ns.sum), S) | none => none) | none => none) = _
  rw [hd]
  show (match intsD (dInts ns) with | some ns => some (D.p (.int ns.sum), S) | none => none) = _
  rw [intsD_d]
theorem f_len {d : D} {xs : List D} (hd : d.seq? S = some xs) : fLen [d] S = some (.p (.int xs.length), S) := by
  unfold fLen
  simp only [hd]
end
end DL
set_option maxHeartbeats 4000000
/-! DLPure2: operators at what they are used on. -/
namespace DL
open PySem PySem.Spec PyProof.Rows L2
section
variable {ρ : Env} {S : Store} {fin : FL} {i j : Int} {b c : Bool}
theorem r_var' {n : Nat} : mVar n ρ S = match ρ[n]? with
  | some (some d) => .ok d S
  | _ => .stuck := rfl
theorem r_lift' {α : Type} {f : Store → Option (α × Store)} : lift f S = match f S with
  | some (a, S') => .ok a S'
  | none => .stuck := rfl
theorem r_env {N : Nat} {ds : List D} : env0 N ds = ds.map some ++ List.replicate (N - ds.length) none := rfl
theorem o_add : fAddG fin (.p (.int i)) (.p (.int j)) S = some (.p (.int (i + j)), S) := rfl
theorem o_addI : fAddI (.p (.int i)) (.p (.int j)) S = some (.p (.int (i + j)), S) := rfl
theorem o_sub : fSub (.p (.int i)) (.p (.int j)) S = some (.p (.int (i - j)), S) := rfl
theorem o_neg : fNeg (.p (.int i)) S = some (.p (.int (-i)), S) := rfl
theorem o_mul (h : bitsB 400000 i = true) (h2 : bitsB 400000 j = true) : fMulA fin (.p (.int i)) (.p (.int j)) S = some (.p (.int (i * j)), S) := by
  unfold fMulA
  have e : fRep1 (.p (.int i)) (.p (.int j)) S = none := rfl
  rw [e]
  unfold fMulG
  have e2 : fMulI (.p (.int i)) (.p (.int j)) S = some (.p (.int (i * j)), S) := by
    unfold fMulI fII
    simp only [h, h2, Bool.and_self, if_true]
  simp only [e2]
theorem o_mod (h : 0 < j) : fMod (.p (.int i)) (.p (.int j)) S = some (.p (.int (i % j)), S) := by
  unfold fMod fII
  simp only [decide_eq_true h, if_true]
theorem o_div (h : 0 < j) (h2 : bitsB 9000 j = true) : fDiv (.p (.int i)) (.p (.int j)) S = some (.p (.int (i / j)), S) := by
  unfold fDiv fII
  simp only [decide_eq_true h, h2, Bool.and_self, if_true]
theorem o_lt : fLt (.p (.int i)) (.p (.int j)) S = some (.p (.bl (decide (i < j))), S) := rfl
theorem o_le : fLe (.p (.int i)) (.p (.int j)) S = some (.p (.bl (decide (i ≤ j))), S) := rfl
theorem o_gt : fGt (.p (.int i)) (.p (.int j)) S = some (.p (.bl (decide (j < i))), S) := rfl
theorem o_ge : fGe (.p (.int i)) (.p (.int j)) S = some (.p (.bl (decide (j ≤ i))), S) := rfl
theorem o_eq : fEq (.p (.int i)) (.p (.int j)) S = some (.p (.bl (decide (i = j))), S) := by
  have e : fEq (.p (.int i)) (.p (.int j)) S = some (.p (.bl (i == j)), S) := by
    simp only [fEq, D.py?, P.py, SeqAt.shaped, PyData.canLay0, PyData.depth, PyData.eqv, Bool.true_and, Nat.zero_le, decide_true, if_true]
  rw [e, show (i == j) = decide (i = j) by by_cases h : i = j <;> simp [h]]
theorem o_ne : fNe (.p (.int i)) (.p (.int j)) S = some (.p (.bl (!decide (i = j))), S) := by
  have e : fNe (.p (.int i)) (.p (.int j)) S = some (.p (.bl (!(i == j))), S) := by
    simp only [fNe, D.py?, P.py, SeqAt.shaped, PyData.canLay0, PyData.depth, PyData.eqv, Bool.true_and, Nat.zero_le, decide_true, if_true]
  rw [e, show (i == j) = decide (i = j) by by_cases h : i = j <;> simp [h]]
theorem o_int : fInt [.p (.int i)] S = some (.p (.int i), S) := rfl
theorem o_intB : fInt [.p (.bl b)] S = some (.p (.int (if b then 1 else 0)), S) := rfl
theorem o_abs : fAbs [.p (.int i)] S = some (.p (.int (if i < 0 then -i else i)), S) := rfl
theorem o_max : fMax [.p (.int i), .p (.int j)] S = some (.p (.int (max i j)), S) := by
  show some (D.p (.int (if j > i then j else i)), S) = _
  congr 4
  by_cases h : j > i
  · rw [if_pos h]; omega
  · rw [if_neg h]; omega
theorem o_min : fMin [.p (.int i), .p (.int j)] S = some (.p (.int (min i j)), S) := by
  show some (D.p (.int (if j < i then j else i)), S) = _
  congr 4
  by_cases h : j < i
  · rw [if_pos h]; omega
  · rw [if_neg h]; omega
theorem o_ixT {xs : List D} {d x : D} (hd : d.tup? = some xs) (h : atI xs i = some x) : fIx d (.p (.int i)) S = some (x, S) := by
  simp only [fIx, hd, h]
theorem o_ixL {xs : List D} {d x : D} (h0 : d.tup? = none) (hd : d.lst? S = some xs) (h : atI xs i = some x) : fIx d (.p (.int i)) S = some (x, S) := by
  simp only [fIx, h0, hd, h]
theorem atI_get {α : Type} {xs : List α} {k : Nat} {x : α} (h : xs[k]? = some x) : atI xs (k : Int) = some x := atI_nat h
theorem cut_to {xs : List D} {k : Nat} : cutD xs none (some (k : Int)) = xs.take k := by
  have e1 : HT.sIx xs.length xs.length (some (k : Int)) = min k xs.length := HT.sIx_nat _ _ _
  have e2 : HT.sIx xs.length 0 none = 0 := rfl
  unfold cutD
  rw [e1, e2, List.drop_zero, Nat.sub_zero]
  by_cases h : k ≤ xs.length
  · rw [Nat.min_eq_left h]
  · rw [Nat.min_eq_right (by omega), List.take_of_length_le (Nat.le_refl _), List.take_of_length_le (by omega)]
theorem o_cutL {xs : List D} {d : D} {lo hi : Option Int} (h0 : d.tup? = none) (hd : d.lst? S = some xs) : fCut fin d lo hi S = fin (cutD xs lo hi) S := by
  simp only [fCut, h0, hd]
theorem dInts_take (ns : List Int) (k : Nat) : (dInts ns).take k = dInts (ns.take k) := by simp [dInts, List.map_take]
theorem o_srcT {xs : List D} {d : D} (hd : d.tup? = some xs) : srcSeq d S = some (⟨xs, []⟩, S) := by
  simp only [srcSeq, hd]
theorem o_srcL {xs : List D} {d : D} (h0 : d.tup? = none) (hd : d.lst? S = some xs) : srcSeq d S = some (⟨xs, watchOf d xs⟩, S) := by
  simp only [srcSeq, h0, hd]
theorem o_range1 (h : fitR i = true) : srcR1 [.p (.int i)] S = some (⟨rangeD 0 i.toNat, []⟩, S) := by
  simp only [srcR1, h, if_true]
theorem o_range2 (h : fitR i = true) (h2 : fitR j = true) : srcR2 [.p (.int i), .p (.int j)] S = some (⟨rangeD i (j - i).toNat, []⟩, S) := by
  simp only [srcR2, h, h2, Bool.and_self, if_true]
theorem o_enumT {xs : List D} {d : D} (hd : d.tup? = some xs) : srcEnum [d] S = some (⟨enumD xs, []⟩, S) := by
  simp only [srcEnum, hd]
theorem o_allL {d : D} {xs : List D} {bs : List Bool} (hd : d.lst? S = some xs) (h : bools xs = some bs) : fAll [d] S = some (.p (.bl (bs.all id)), S) := by
  simp only [fAll, hd, h]
theorem bools_map (bs : List Bool) : bools (bs.map fun b => D.p (.bl b)) = some bs := by
  induction bs with
  | nil => rfl
  | cons b bs ih => simp only [List.map_cons, bools, ih]
theorem fit_small {i : Int} (h : 0 ≤ i) (h2 : i ≤ 1000000) : fitR i = true := by
  simp only [fitR, decide_eq_true_eq]
  omega
theorem bits_of {i : Int} {n : Nat} (h : i.natAbs < 2 ^ n) (hn : 0 < n) : bitsB n i = true := by
  simp only [bitsB, decide_eq_true_eq]
  by_cases z : i.natAbs = 0
  · rw [z]
    simpa using hn
  · exact (Nat.log2_lt z).mpr h
end
end DL
namespace DL
open PySem PySem.Spec PyProof.Rows L2
end DL
namespace DL
open PySem PySem.Spec PyProof.Rows L2
/-! ### pure lists in the store -/
abbrev pD (ps : List P) : List D := ps.map D.p
theorem los_pD (k : Nat) : ∀ ps : List P, D.los k (pD ps) = true
  | [] => rfl
  | p :: ps => by
    show (D.lo k (.p p) && D.los k (pD ps)) = true
    rw [los_pD k ps]
    rfl
theorem pures_pD (ps : List P) : pures (pD ps) = some ps := by
  induction ps with
  | nil => rfl
  | cons p ps ih =>
    show pures (D.p p :: pD ps) = _
    simp only [pures, ih]
theorem mkTup_pD (ps : List P) : mkTup (pD ps) = .p (.tup ps) := by
  unfold mkTup
  rw [pures_pD]
/-- one more list, of data, in the store -/
def SP (S : Store) (ps : List P) : Store := S.new (.lst (pD ps)) (los_pD _ _)
section
variable {S : Store} {ps : List P}
theorem SP_objs : (SP S ps).objs = S.objs ++ [.lst (pD ps)] := rfl
theorem SP_at : (SP S ps).objs[S.objs.length]? = some (.lst (pD ps)) := by
  rw [SP_objs]
  simp
theorem SP_len : (SP S ps).objs.length = S.objs.length + 1 := by
  rw [SP_objs]
  simp
theorem SP_take : (SP S ps).objs.take S.objs.length = S.objs := by
  rw [SP_objs]
  simp
theorem SP_old {n : Nat} (h : n < S.objs.length) : (SP S ps).objs[n]? = S.objs[n]? := by
  rw [SP_objs, List.getElem?_append_left h]
theorem f_new (h : ps.length ≤ 100000) : fLst (pD ps) S = some (.r S.objs.length, SP S ps) := by
  unfold fLst
  have h2 : (O.lst (pD ps)).lo S.objs.length = true := los_pD _ _
  rw [if_pos (by simpa using h), dif_pos h2]
  rfl
end
/-! ### isinstance -/
theorem o_isi {S : Store} {d : D} {a b : String} (hd : d.tyOf? S = some a) (h : (tyNames.contains a && tyNames.contains b && b != "NoneType") = true) : fIsi [d, .p (.ty b)] S = some (.p (.bl (isiB a b)), S) := by
  simp only [fIsi, hd, h, if_true]
end DL
namespace DL
end DL
namespace DL
open PySem PySem.Spec PyProof.Rows L2
theorem rangeD_length (lo : Int) (n : Nat) : (rangeD lo n).length = n := by simp [rangeD]
section
variable {S : Store} {ps qs : List P} {fin : FL}
theorem f_lstP (h : ps.length ≤ 100000) : fLstF (pD ps) S = some (.p (.lst ps), S) := by
  unfold fLstF
  rw [if_pos (by simpa using h), pures_pD]
theorem o_addT {xs ys : List P} (h : xs.length + ys.length ≤ 100000) : fAddG fin (.p (.tup xs)) (.p (.tup ys)) S = some (.p (.tup (xs ++ ys)), S) := by
  have e : fAddT (.p (.tup xs)) (.p (.tup ys)) S = some (.p (.tup (xs ++ ys)), S) := by
    show (if (pD xs).length + (pD ys).length ≤ 100000 then some (mkTup (pD xs ++ pD ys), S) else none) = _
    rw [if_pos (by simpa using h), ← List.map_append, mkTup_pD]
  have e1 : fAddI (.p (.tup xs)) (.p (.tup ys)) S = none := rfl
  have e2 : fAddS (.p (.tup xs)) (.p (.tup ys)) S = none := rfl
  simp only [fAddG, e1, e2, e]
theorem o_addL {xs ys : List P} (h : xs.length + ys.length ≤ 100000) : fAddG fLstF (.p (.lst xs)) (.p (.lst ys)) S = some (.p (.lst (xs ++ ys)), S) := by
  have e : fAddL fLstF (.p (.lst xs)) (.p (.lst ys)) S = some (.p (.lst (xs ++ ys)), S) := by
    show (if (pD xs).length + (pD ys).length ≤ 100000 then fLstF (pD xs ++ pD ys) S else none) = _
    rw [if_pos (by simpa using h), ← List.map_append]
    exact f_lstP (by simpa using h)
  have e1 : fAddI (.p (.lst xs)) (.p (.lst ys)) S = none := rfl
  have e2 : fAddS (.p (.lst xs)) (.p (.lst ys)) S = none := rfl
  have e3 : fAddT (.p (.lst xs)) (.p (.lst ys)) S = none := rfl
  simp only [fAddG, e1, e2, e3, e]
end
end DL
namespace DL
theorem r_forE {mi : ME Src} {g : MG} {b : MS} {ρ : Env} {S S1 : Store} {xs : List D} {w : List (Nat × List D)} {r : Res Out} (h : mi ρ S = .ok ⟨xs, w⟩ S1) (h2 : loopI w g b xs ρ S1 = r) : mFor mi g b ρ S = r := by
  rw [r_for, h, r_ok]
  exact h2
end DL
namespace DL
open PySem PySem.Spec PyProof.Rows L2
/-! ### a list of data that is changed in its place -/
def setP (T : Store) (r : Nat) (ps : List P) : Store := T.put r (.lst (pD ps)) (los_pD _ _)
section
variable {T S S' S2 : Store} {r : Nat} {ps qs : List P}
theorem setP_objs : (setP T r ps).objs = T.objs.set r (.lst (pD ps)) := rfl
theorem setP_len : (setP T r ps).objs.length = T.objs.length := by rw [setP_objs, List.length_set]
theorem at_lt {o : O} (h : T.objs[r]? = some o) : r < T.objs.length := (List.getElem?_eq_some_iff.mp h).1
theorem setP_at (h : r < T.objs.length) : (setP T r ps).objs[r]? = some (.lst (pD ps)) := by
  rw [setP_objs, List.getElem?_set_self h]
theorem setP_ne {j : Nat} (h : r ≠ j) : (setP T r ps).objs[j]? = T.objs[j]? := by
  rw [setP_objs, List.getElem?_set_ne h]
theorem setP_setP : setP (setP T r ps) r qs = setP T r qs := Store.ext' (by
  rw [setP_objs, setP_objs, setP_objs, List.set_set])
theorem setP_same (h : T.objs[r]? = some (.lst (pD ps))) : setP T r ps = T := Store.ext' (by
  rw [setP_objs]
  have hl := at_lt h
  have e : T.objs[r] = .lst (pD ps) := by
    rw [List.getElem?_eq_getElem hl] at h
    exact Option.some.inj h
  rw [← e, List.set_getElem_self])
theorem setP_SP (h : r < T.objs.length) : setP (SP T qs) r ps = SP (setP T r ps) qs := Store.ext' (by
  rw [setP_objs, SP_objs, SP_objs, setP_objs, List.set_append_left _ _ h])
theorem R_lst (h : T.objs[r]? = some (.lst (pD ps))) : (D.r r).lst? T = some (pD ps) := by
  show (match T.objs[r]? with | some (.lst xs) => some xs | _ => none) = _
  rw [h]
theorem R_seq (h : T.objs[r]? = some (.lst (pD ps))) : (D.r r).seq? T = some (pD ps) := R_lst h
theorem R_mut (h : T.objs[r]? = some (.lst (pD ps))) : (D.r r).mut? T = some (r, pD ps) := by
  show (match T.objs[r]? with | some (.lst xs) => some (r, xs) | _ => none) = _
  rw [h]
theorem putL_setP : putL r (pD qs) T = some (setP T r qs) := by
  unfold putL
  have h : (O.lst (pD qs)).lo T.objs.length = true := los_pD _ _
  rw [dif_pos h]
  rfl
theorem f_putR {i : Int} {j : Nat} {p : P} (h : T.objs[r]? = some (.lst (pD ps))) (hi : ixN ps.length i = some j) : fPut (.r r) (.p (.int i)) (.p p) T = some (setP T r (ps.set j p)) := by
  unfold fPut
  simp only [R_mut h]
  have e : (pD ps).length = ps.length := by simp [pD]
  rw [e, hi]
  have e2 : (pD ps).set j (.p p) = pD (ps.set j p) := by simp [pD, List.map_set]
  show putL r ((pD ps).set j (.p p)) T = _
  rw [e2, putL_setP]
theorem f_popAtR {i : Int} {k : Nat} {p : P} (h : T.objs[r]? = some (.lst (pD ps))) (hi : i = k) (hs : i ≤ 1000000) (hp : ps[k]? = some p) : fPopAt (.r r) [.p (.int i)] T = some (.p p, setP T r (ps.eraseIdx k)) := by
  have hk : k < ps.length := (List.getElem?_eq_some_iff.mp hp).1
  unfold fPopAt
  simp only [R_mut h]
  have e : (pD ps).length = ps.length := by simp [pD]
  have e1 : seqIndex? i (pD ps).length = some k := by
    rw [e, seqIndex_of (by omega) (by omega)]
    congr 1
    omega
  simp only [e1]
  rw [if_pos (fit_small (by omega) hs)]
  have e3 : (pD ps)[k]? = some (.p p) := by
    rw [List.getElem?_map, hp]
    rfl
  simp only [e3]
  have e2 : (pD ps).eraseIdx k = pD (ps.eraseIdx k) := by simp [pD, List.eraseIdx_eq_take_drop_succ, List.map_take, List.map_drop]
  rw [e2, putL_setP]
theorem cut_to' (h : S'.objs.take S.objs.length = S2.objs) (hl : S2.objs.length = S.objs.length) : Store.cut S.objs.length S' = some S2 := by
  have := cut_pre (S := S2) (S' := S') (by rw [hl]; exact h)
  rwa [hl] at this
/-- a def that answers data, what was there before being changed -/
theorem fn_to {N : Nat} {a : MS} {ds : List D} {x : P} (h : a (env0 N ds) S = .ok (.rt (.p x)) S') (hs : S'.objs.take S.objs.length = S2.objs) (hl : S2.objs.length = S.objs.length) : mFn N finP a ds S = .ok (.p x) S2 := by
  have e : finP S.objs.length (.p x) S' = (.p x, S2) := by
    unfold finP
    rw [cut_to' hs hl]
    simp only [frzD]
  rw [r_fn, h, r_ok, r_asRt, r_finOk, e]
theorem fn_same {N : Nat} {a : MS} {ds : List D} {x : P} (h : a (env0 N ds) S = .ok (.rt (.p x)) S') (hl : S'.objs.length = S.objs.length) : mFn N finP a ds S = .ok (.p x) S' :=
  fn_to h (by rw [← hl, List.take_length]) hl
end
end DL
namespace DL
theorem erase_perm {α : Type} {l : List α} {k : Nat} (h : k < l.length) : (l[k] :: l.eraseIdx k).Perm l := by
  have e : l = l.take k ++ l[k] :: l.drop (k + 1) := by rw [List.getElem_cons_drop, List.take_append_drop]
  have e2 : l.eraseIdx k = l.take k ++ l.drop (k + 1) := List.eraseIdx_eq_take_drop_succ l k
  rw [e2]
  exact List.perm_middle.symm.trans (List.Perm.of_eq e.symm)
end DL
set_option maxHeartbeats 4000000
set_option exponentiation.threshold 400001
/-! DLWp: runs reckoned forwards: what holds behind them; side conditions told by the reckoning itself. -/
namespace DL
open PySem PySem.Spec PyProof.Rows L2
/-- the run ends well, and so -/
def Wp {α : Type} (r : Res α) (Q : α → Store → Prop) : Prop := match r with
  | .ok a S => Q a S
  | _ => False
section
variable {α β : Type} {S S' T : Store} {Q Q' : α → Store → Prop}
theorem wp_ok {a : α} : Wp (.ok a S) Q = Q a S := rfl
theorem wp_bind {r : Res β} {k : β → M α} : Wp (r.bind k) Q ↔ Wp r fun b S => Wp (k b S) Q := by
  cases r <;> exact Iff.rfl
theorem wp_of {r : Res β} {k : β → M α} (h : Wp r fun b S => Wp (k b S) Q) : Wp (r.bind k) Q := wp_bind.mpr h
theorem Wp.mono {r : Res α} (h : Wp r Q) (f : ∀ a S, Q a S → Q' a S) : Wp r Q' := by
  cases r with
  | ok a S => exact f a S h
  | err e S => exact h
  | stuck => exact h
theorem wp_ex {r : Res α} (h : Wp r Q) : ∃ a S, r = .ok a S ∧ Q a S := by
  cases r with
  | ok b T => exact ⟨b, T, rfl, h⟩
  | err e S => exact h.elim
  | stuck => exact h.elim
/-- a run of which something is known, and the rest -/
theorem wp_with {r : Res β} {k : β → M α} {R : β → Store → Prop} (h : Wp r R) (q : ∀ b S, R b S → Wp (k b S) Q) : Wp (r.bind k) Q := wp_of (h.mono q)
theorem r_assoc {γ : Type} {r : Res α} {k : α → M β} {l : β → M γ} : (r.bind k).bind l = r.bind fun a S => (k a S).bind l := by
  cases r <;> rfl
theorem r_iteB {c : Prop} [Decidable c] {x y : Res α} {k : α → M β} : (if c then x else y).bind k = if c then x.bind k else y.bind k := by
  split <;> rfl
end
/-- the store S' is that of T, made longer -/
structure Top (S' T : Store) : Prop where
  at_ : S'.objs.take T.objs.length = T.objs
section
variable {S S' T U : Store} {ps : List P} {r : Nat}
theorem top_self : Top S S := ⟨List.take_length⟩
theorem top_len (h : Top S' T) : T.objs.length ≤ S'.objs.length := by
  have := congrArg List.length h.at_
  rw [List.length_take] at this
  omega
theorem top_new {o : O} {h : o.lo S'.objs.length = true} (t : Top S' T) : Top (S'.new o h) T := by
  have := top_len t
  refine ⟨?_⟩
  show (S'.objs ++ [o]).take _ = _
  rw [List.take_append_of_le_length this]
  exact t.at_
theorem top_SP (t : Top S' T) : Top (SP S' ps) T := top_new t
theorem top_setP (t : Top S' T) (h : T.objs.length ≤ r) : Top (setP S' r ps) T := by
  refine ⟨?_⟩
  rw [setP_objs, List.take_set_of_le h]
  exact t.at_
/-! ### the ends of defs -/
theorem eq_fnP {N : Nat} {a : MS} {ds : List D} {x : P} (h : Wp (a (env0 N ds) S) fun o S' => o = .rt (.p x) ∧ Top S' S) : mFn N finP a ds S = .ok (.p x) S := by
  obtain ⟨o, S', e, rfl, t⟩ := wp_ex h
  exact fn_pure e t.at_
end
/-! ### loops -/
section
variable {S : Store} {ρ : Env} {w : List (Nat × List D)} {g : MG} {b : MS} {Q : Out → Store → Prop}
theorem wp_loop (I : List D → Env → Store → Prop) (hw : ∀ xs ρ S, I xs ρ S → watchOk w S = true)
    (step : ∀ x xs ρ S, I (x :: xs) ρ S → ∃ ρ', g x ρ S = some ρ' ∧ Wp (b ρ' S) fun o S' => match o with
      | .nx ρ'' => I xs ρ'' S'
      | .ct ρ'' => I xs ρ'' S'
      | .bk ρ'' => Q (.nx ρ'') S'
      | .rt d => Q (.rt d) S')
    (done : ∀ ρ S, I [] ρ S → Q (.nx ρ) S) : ∀ (xs : List D) (ρ : Env) (S : Store), I xs ρ S → Wp (loopI w g b xs ρ S) Q
  | [], ρ, S, h => by
    rw [loopI_nil (hw _ _ _ h)]
    exact done _ _ h
  | x :: xs, ρ, S, h => by
    obtain ⟨ρ', e, h1⟩ := step x xs ρ S h
    rw [loopI_cons (hw _ _ _ h) e]
    refine wp_with h1 fun o S' q => ?_
    cases o with
    | nx ρ'' => exact wp_loop I hw step done xs ρ'' S' q
    | ct ρ'' => exact wp_loop I hw step done xs ρ'' S' q
    | bk ρ'' => exact q
    | rt d => exact q
theorem wp_loop0 (I : List D → Env → Store → Prop)
    (step : ∀ x xs ρ S, I (x :: xs) ρ S → ∃ ρ', g x ρ S = some ρ' ∧ Wp (b ρ' S) fun o S' => match o with
      | .nx ρ'' => I xs ρ'' S'
      | .ct ρ'' => I xs ρ'' S'
      | .bk ρ'' => Q (.nx ρ'') S'
      | .rt d => Q (.rt d) S')
    (done : ∀ ρ S, I [] ρ S → Q (.nx ρ) S) {xs : List D} {ρ : Env} {S : Store} (h : I xs ρ S) : Wp (loopI [] g b xs ρ S) Q :=
  wp_loop I (fun _ _ _ _ => rfl) step done xs ρ S h
end
/-! ### operators whose side conditions are told by the way -/
section
variable {S T : Store} {ns ms : List Int} {ps qs : List P} {i j : Int} {fin : FL} {x : P}
theorem q_lstI (h : ns.length ≤ 100000) : fLstF (dInts ns) S = some (lI ns, S) := f_lstF h
theorem q_lstP (h : ps.length ≤ 100000) : fLstF (pD ps) S = some (.p (.lst ps), S) := f_lstP h
theorem q_mul (h : -1000000000000000000000000000000000000000000000000000000000000 ≤ i ∧ i ≤ 1000000000000000000000000000000000000000000000000000000000000) (h2 : -1000000000000000000000000000000000000000000000000000000000000 ≤ j ∧ j ≤ 1000000000000000000000000000000000000000000000000000000000000) :
    fMulA fin (.p (.int i)) (.p (.int j)) S = some (.p (.int (i * j)), S) :=
  o_mul (bits_of (n := 400000) (Nat.lt_of_lt_of_le (show i.natAbs < 2 ^ 200 by omega) (Nat.pow_le_pow_right (by decide) (by decide))) (by decide))
    (bits_of (n := 400000) (Nat.lt_of_lt_of_le (show j.natAbs < 2 ^ 200 by omega) (Nat.pow_le_pow_right (by decide) (by decide))) (by decide))
theorem q_div (h : 0 < j ∧ j ≤ 1000000000000000000000000000000000000000000000000000000000000) : fDiv (.p (.int i)) (.p (.int j)) S = some (.p (.int (i / j)), S) :=
  o_div h.1 (bits_of (n := 9000) (Nat.lt_of_lt_of_le (show j.natAbs < 2 ^ 200 by omega) (Nat.pow_le_pow_right (by decide) (by decide))) (by decide))
theorem q_range1 (h : 0 ≤ i ∧ i ≤ 1000000) : srcR1 [.p (.int i)] S = some (⟨rangeD 0 i.toNat, []⟩, S) := o_range1 (fit_small h.1 h.2)
theorem q_range2 (h : 0 ≤ i ∧ i ≤ 1000000) (h2 : 0 ≤ j ∧ j ≤ 1000000) : srcR2 [.p (.int i), .p (.int j)] S = some (⟨rangeD i (j - i).toNat, []⟩, S) := o_range2 (fit_small h.1 h.2) (fit_small h2.1 h2.2)
theorem q_lenT : fLen [tI ns] S = some (.p (.int ns.length), S) := by
  have := f_len (S := S) (d := tI ns) tI_seq
  rwa [dInts_len] at this
theorem q_lenL : fLen [lI ns] S = some (.p (.int ns.length), S) := by
  have := f_len (S := S) (d := lI ns) lI_seq
  rwa [dInts_len] at this
theorem q_sumT : fSum [tI ns] S = some (.p (.int ns.sum), S) := f_sum tI_seq
theorem q_sumL : fSum [lI ns] S = some (.p (.int ns.sum), S) := f_sum lI_seq
theorem q_srcT : srcSeq (tI ns) S = some (⟨dInts ns, []⟩, S) := o_srcT tI_tup
theorem q_srcL : srcSeq (lI ns) S = some (⟨dInts ns, []⟩, S) := by
  rw [o_srcL rfl lI_lst]
  rfl
end
end DL

/-! ### lists of the store -/
namespace DL
open PySem PySem.Spec PyProof.Rows L2
/-- the list of data at r -/
structure Lst (T : Store) (r : Nat) (ps : List P) : Prop where
  at_ : T.objs[r]? = some (.lst (pD ps))
section
variable {S T : Store} {r j k : Nat} {ps qs : List P} {ns ms : List Int} {x : P} {i : Int}
theorem Lst.lt (h : Lst T r ps) : r < T.objs.length := at_lt h.at_
theorem lst_SP : Lst (SP T ps) T.objs.length ps := ⟨SP_at⟩
theorem Lst.sp (h : Lst T r ps) : Lst (SP T qs) r ps := ⟨(SP_old h.lt).trans h.at_⟩
theorem Lst.set (h : Lst T r ps) : Lst (setP T r qs) r qs := ⟨setP_at h.lt⟩
theorem Lst.ne (h : Lst T r ps) (hn : j ≠ r) : Lst (setP T j qs) r ps := ⟨(setP_ne hn).trans h.at_⟩
theorem q_new0 : fLst [] T = some (.r T.objs.length, SP T []) := f_new (ps := []) (by simp)
theorem q_lst (h : Lst T r ps) : (D.r r).lst? T = some (pD ps) := R_lst h.at_
theorem q_append (h : Lst T r ps) (hl : ps.length < 100000) : fAppend (.r r) [.p x] T = some (.p .non, setP T r (ps ++ [x])) := by
  unfold fAppend
  simp only [R_mut h.at_]
  rw [if_pos (by simpa using hl)]
  have e : pD ps ++ [D.p x] = pD (ps ++ [x]) := by simp [pD]
  rw [e, putL_setP]
theorem q_extend (h : Lst T r ps) (hl : ps.length + qs.length ≤ 100000) : fExtend (.r r) [.p (.lst qs)] T = some (.p .non, setP T r (ps ++ qs)) := by
  unfold fExtend
  simp only [R_mut h.at_]
  have e : (D.p (.lst qs)).own? T = some (pD qs) := rfl
  simp only [e]
  rw [if_pos (by simpa using hl)]
  have e : pD ps ++ pD qs = pD (ps ++ qs) := by simp [pD]
  rw [e, putL_setP]
theorem q_lenR (h : Lst T r ps) : fLen [.r r] T = some (.p (.int ps.length), T) := by
  have := f_len (R_seq h.at_)
  simpa [pD] using this
theorem q_toTR (h : Lst T r ps) : fToT [.r r] T = some (.p (.tup ps), T) := by
  show (match (D.r r).seq? T with | some xs => some (mkTup xs, T) | none => none) = _
  rw [R_seq h.at_]
  show some (mkTup (pD ps), T) = _
  rw [mkTup_pD]
theorem q_ixR (h : Lst T r ps) (hk : ps[k]? = some x) : fIx (.r r) (.p (.int k)) T = some (.p x, T) := o_ixL rfl (R_lst h.at_) (atI_get (by
  rw [List.getElem?_map, hk]
  rfl))
theorem q_ixT (hk : k < ns.length) : fIx (tI ns) (.p (.int k)) T = some (.p (.int ns[k]), T) := o_ixT tI_tup (atI_get (by
  unfold dInts
  rw [List.getElem?_map, List.getElem?_eq_getElem hk]
  rfl))
theorem q_l1 {a : Int} : fLstF [.p (.int a)] T = some (lI [a], T) := rfl
theorem q_l2 {a b : Int} : fLstF [.p (.int a), .p (.int b)] T = some (lI [a, b], T) := rfl
theorem q_l3 {a b c : Int} : fLstF [.p (.int a), .p (.int b), .p (.int c)] T = some (lI [a, b, c], T) := rfl
theorem q_l4 {a b c d : Int} : fLstF [.p (.int a), .p (.int b), .p (.int c), .p (.int d)] T = some (lI [a, b, c, d], T) := rfl
theorem q_addL (h : ns.length + ms.length ≤ 100000) : fAddG fLstF (lI ns) (lI ms) T = some (lI (ns ++ ms), T) := by
  have := o_addL (S := T) (xs := ns.map P.int) (ys := ms.map P.int) (by simpa using h)
  rw [← List.map_append] at this
  exact this
theorem q_addT {fin : FL} (h : ns.length + ms.length ≤ 100000) : fAddG fin (tI ns) (tI ms) T = some (tI (ns ++ ms), T) := by
  have := o_addT (fin := fin) (S := T) (xs := ns.map P.int) (ys := ms.map P.int) (by simpa using h)
  rw [← List.map_append] at this
  exact this
theorem q_srtT {b : Bool} (h : ns.length ≤ 100000) : fSrt b fLstF [tI ns] T = some (lI (sortBy b ns), T) := f_srt tI_seq h
theorem q_srtL {b : Bool} (h : ns.length ≤ 100000) : fSrt b fLstF [lI ns] T = some (lI (sortBy b ns), T) := f_srt lI_seq h
end
end DL

/-! ### the reckoning as one word -/
namespace DL
def toR {α : Type} : Option (α × Store) → Res α
  | some (a, S) => .ok a S
  | none => .stuck
def toV (S : Store) : Option (Option D) → Res D
  | some (some d) => .ok d S
  | _ => .stuck
def toS (ρ : Env) : Option Store → Res Out
  | some S => .ok (.nx ρ) S
  | none => .stuck
theorem t_lift {α : Type} {f : Store → Option (α × Store)} {S : Store} : lift f S = toR (f S) := rfl
theorem t_some {α : Type} {a : α} {S : Store} : toR (some (a, S)) = .ok a S := rfl
theorem t_var {n : Nat} {ρ : Env} {S : Store} : mVar n ρ S = toV S ρ[n]? := rfl
theorem t_vsome {d : D} {S : Store} : toV S (some (some d)) = .ok d S := rfl
theorem t_liftS {f : Store → Option Store} {ρ : Env} {S : Store} : liftS f ρ S = toS ρ (f S) := rfl
theorem t_ssome {ρ : Env} {S : Store} : toS ρ (some S) = .ok (.nx ρ) S := rfl
def lstO {α : Type} (x : D) (S : Store) (k : Unit → M α) : Res α := match x.lst? S with
  | some _ => k () S
  | none => .stuck
theorem t_meth {fm : FM} {mo : ME D} {mr : ME (List D)} {ρ : Env} {S : Store} : mMeth fm mo mr ρ S = (mo ρ S).bind fun x S => lstO x S fun _ S => (mr ρ S).bind fun ys => lift (fm x ys) := by
  show (mo ρ S).bind _ = (mo ρ S).bind _
  congr 1
  funext x S
  show (lift (fun S => match x.lst? S with | some _ => some ((), S) | none => none) S).bind _ = _
  unfold lift lstO
  cases e : x.lst? S <;> simp only [e, r_ok] <;> rfl
theorem t_lstO {α : Type} {r : Nat} {S : Store} {ps : List P} {k : Unit → M α} (h : Lst S r ps) : lstO (.r r) S k = k () S := by
  unfold lstO
  rw [q_lst h]
theorem t_lstOF {α : Type} {S : Store} {ps : List P} {k : Unit → M α} : lstO (.p (.lst ps)) S k = k () S := rfl
end DL
set_option maxHeartbeats 4000000
set_option exponentiation.threshold 400001
/-! DLWp2: instances, keywords, errors in the reckoning. -/
namespace DL
open PySem PySem.Spec PyProof.Rows L2
section
variable {α : Type} {S S' T : Store} {ρ : Env} {c m f : Str} {mf : List D → M D} {mo me : ME D} {mr : ME (List D)} {d x y : D} {fs : List (Str × D)} {b : Bool} {r : Nat} {ps : List P} {ns : List Int} {d0 : Int} {xs : List D}
def insO (c m : Str) (x : D) (S : Store) (k : M α) : Res α := match x.ins? c S with
  | some fs => if fs.lookup m = none then k S else .stuck
  | none => .stuck
def insP (c : Str) (x : D) (S : Store) (k : M α) : Res α := match x.ins? c S with
  | some _ => k S
  | none => .stuck
def seqO (x : D) (S : Store) (k : List D → M α) : Res α := match x.seq? S with
  | some xs => k xs S
  | none => .stuck
theorem t_insO {k : M α} (h : x.ins? c S = some fs) (hl : fs.lookup m = none) : insO c m x S k = k S := by
  unfold insO
  rw [h]
  simp only [hl, if_true]
theorem t_insP {k : M α} (h : x.ins? c S = some fs) : insP c x S k = k S := by
  unfold insP
  rw [h]
theorem t_seqO {k : List D → M α} (h : x.seq? S = some xs) : seqO x S k = k xs S := by
  unfold seqO
  rw [h]
theorem t_seqL {k : List D → M α} : seqO (lI ns) S k = k (dInts ns) S := t_seqO lI_seq
theorem t_seqT {k : List D → M α} : seqO (tI ns) S k = k (dInts ns) S := t_seqO tI_seq
theorem t_seqLP {k : List D → M α} : seqO (.p (.lst ps)) S k = k (pD ps) S := rfl
theorem t_seqTP {k : List D → M α} : seqO (.p (.tup ps)) S k = k (pD ps) S := rfl
theorem t_seqR {k : List D → M α} (h : Lst S r ps) : seqO (.r r) S k = k (pD ps) S := t_seqO (R_seq h.at_)
theorem t_methO : mMethO c m mf mo mr ρ S = (mo ρ S).bind fun x S => insO c m x S fun S => (mr ρ S).bind fun ds => mf (x :: ds) := rfl
theorem t_methS : mMethS c m mf mo mr ρ S = (mo ρ S).bind fun x S => insO c m x S fun S => (mr ρ S).bind fun ds S => if ds.length ≤ 1000 then mf [x, mkTup ds] S else .stuck := by
  show (mo ρ S).bind _ = (mo ρ S).bind _
  congr 1
  funext x S
  unfold insO
  cases x.ins? c S with
  | none => rfl
  | some fs =>
    show (if fs.lookup m = none then (mr ρ S).bind fun ds => if ds.length ≤ 1000 then mf [x, mkTup ds] else fun _ => .stuck else Res.stuck) = if fs.lookup m = none then (mr ρ S).bind fun ds S => if ds.length ≤ 1000 then mf [x, mkTup ds] S else .stuck else Res.stuck
    congr 2
    funext ds S
    split <;> rfl
theorem t_prop : mProp c mf mo ρ S = (mo ρ S).bind fun x S => insP c x S fun S => noErr (mf [x] S) := by
  rfl
theorem t_noErr {a : α} : noErr (.ok a S) = .ok a S := rfl
theorem t_star : mStar me mr ρ S = (me ρ S).bind fun d S => seqO d S fun xs S => (mr ρ S).bind fun ys S => .ok (xs ++ ys) S := rfl
theorem t_make : mMake c mf mr ρ S = (mr ρ S).bind (mNewI c mf) := rfl
theorem t_callK : mCallK mf mr me ρ S = (mr ρ S).bind fun ds S => (me ρ S).bind fun d => mf (ds ++ [d]) := rfl
theorem t_callD : mCallD mf d0 mr ρ S = (mr ρ S).bind fun ds => mf (ds ++ [.p (.int d0)]) := rfl
theorem t_eqS {a b : Str} : fEqS (.p (.str a)) (.p (.str b)) S = some (.p (.bl (decide (a = b))), S) := rfl
theorem t_neS {a b : Str} : fNeS (.p (.str a)) (.p (.str b)) S = some (.p (.bl (!decide (a = b))), S) := rfl
theorem t_tup2 {a b : P} : fTup [.p a, .p b] S = some (.p (.tup [a, b]), S) := rfl
theorem t_tup3 {a b c : P} : fTup [.p a, .p b, .p c] S = some (.p (.tup [a, b, c]), S) := rfl
end
end DL
set_option maxHeartbeats 4000000
set_option exponentiation.threshold 400001
/-! DLShow: repr of data, told by its size alone. -/
namespace DL
open PySem PySem.Spec PyProof.Rows L2
structure Shw (x : P) (b d : Nat) : Prop where
  ex : ∃ pd, toPD x = some pd ∧ pd.showable = true ∧ pd.leavesShort 100 = true ∧ pd.bulk ≤ b ∧ pd.depth ≤ d
structure Shws (xs : List P) (b d : Nat) : Prop where
  ex : ∃ ps, toPDs xs = some ps ∧ PyData.showableAll ps = true ∧ PyData.leavesShortAll 100 ps = true ∧ PyData.bulkAll ps ≤ b ∧ PyData.depthAll ps ≤ d
section
variable {x : P} {xs ys : List P} {b b' c d d' : Nat} {ns : List Int} {i : Int}
theorem Shw.mono (h : Shw x b d) (hb : b ≤ b') (hd : d ≤ d') : Shw x b' d' := by
  obtain ⟨pd, e, s, l, k, m⟩ := h.ex
  exact ⟨pd, e, s, l, by omega, by omega⟩
theorem Shws.mono (h : Shws xs b d) (hb : b ≤ b') (hd : d ≤ d') : Shws xs b' d' := by
  obtain ⟨pd, e, s, l, k, m⟩ := h.ex
  exact ⟨pd, e, s, l, by omega, by omega⟩
end
end DL
set_option maxHeartbeats 4000000
namespace DL
open PySem PySem.Spec PyProof.Rows L2
/-! ### sorted rows -/
def Pos (s : List Int) : Prop := ∀ x ∈ s, 0 ≤ x
theorem sortDn_perm (d : List Int) : (sortDn d).Perm d := (List.reverse_perm _).trans (srtUp_perm _)
theorem sortDn_len (d : List Int) : (sortDn d).length = d.length := (sortDn_perm d).length_eq
/-- sums of beginnings -/
def pre (b : Int) : List Int → List Int
  | [] => []
  | x :: xs => (b + x) :: pre (b + x) xs
section
variable {S : Store} {ns vs : List Int} {d : D}
/-! ### what is a row -/
def P.sim : P → Bool
  | .non | .bl _ | .int _ | .str _ | .tup _ | .lst _ | .scr _ | .dic _ => true
  | _ => false
def isInt : P → Bool
  | .int _ => true
  | _ => false
theorem p_is_integer {x : P} (h : x.sim = true) : m_is_integer [.p x] S = .ok (.p (.bl (isInt x))) S := by
  refine fn_pure0 ?_
  unfold b_is_integer
  have go : ∀ a : String, (D.p x).tyOf? S = some a → tyNames.contains a = true → (isiB a "int" && !isiB a "bool") = isInt x → (mRet (mAnd (mCallB fIsi (mCons (mVar 0) (mCons (mC (.ty "int")) mNil))) (mNot (mCallB fIsi (mCons (mVar 0) (mCons (mC (.ty "bool")) mNil)))))) (env0 1 [.p x]) S = .ok (.rt (.p (.bl (isInt x)))) S := fun a h1 h2 h3 => by
    have i1 := o_isi (b := "int") h1 (by rw [h2]; decide)
    have i2 := o_isi (b := "bool") h1 (by rw [h2]; decide)
    simp only [r_ok, r_c, r_op2, r_op1, r_nil, r_cons, r_callB, r_call, r_and, r_or, r_not, r_asB, r_if, r_andT, r_orT, r_notT, r_test, r_chain, r_seq, r_nx, r_rt, r_bk, r_ct, r_next, r_break, r_cont, r_drop, r_ret, r_retN, r_asg, r_aug, r_ifS, r_par, r_sl, r_noPart, r_part, r_asInt, r_put, r_for, r_src, r_srcA, r_comp, r_meth, r_oNx, r_oCt, r_oBk, r_oRt, r_yes, r_var', r_lift', List.getElem?_cons_zero, List.getElem?_cons_succ, List.set_cons_zero, List.set_cons_succ, o_add, o_addI, o_sub, o_neg, o_lt, o_le, o_gt, o_ge, o_eq, o_ne, o_int, o_intB, o_abs, o_max, o_min, r_env, List.map_cons, List.map_nil, List.length_cons, List.length_nil, Nat.zero_add, Nat.reduceAdd, Nat.reduceSub, List.replicate_succ, List.replicate_zero, List.cons_append, List.nil_append, Bool.false_eq_true, if_true, if_false, gPar, List.zip_cons_cons, List.zip_nil_right, List.zip_nil_left, List.foldl_cons, List.foldl_nil, unsetE, r_err, i1, i2]
    cases q : isiB a "int" with
    | true =>
      simp only [r_ok, r_c, r_op2, r_op1, r_nil, r_cons, r_callB, r_call, r_and, r_or, r_not, r_asB, r_if, r_andT, r_orT, r_notT, r_test, r_chain, r_seq, r_nx, r_rt, r_bk, r_ct, r_next, r_break, r_cont, r_drop, r_ret, r_retN, r_asg, r_aug, r_ifS, r_par, r_sl, r_noPart, r_part, r_asInt, r_put, r_for, r_src, r_srcA, r_comp, r_meth, r_oNx, r_oCt, r_oBk, r_oRt, r_yes, r_var', r_lift', List.getElem?_cons_zero, List.getElem?_cons_succ, List.set_cons_zero, List.set_cons_succ, o_add, o_addI, o_sub, o_neg, o_lt, o_le, o_gt, o_ge, o_eq, o_ne, o_int, o_intB, o_abs, o_max, o_min, r_env, List.map_cons, List.map_nil, List.length_cons, List.length_nil, Nat.zero_add, Nat.reduceAdd, Nat.reduceSub, List.replicate_succ, List.replicate_zero, List.cons_append, List.nil_append, Bool.false_eq_true, if_true, if_false, gPar, List.zip_cons_cons, List.zip_nil_right, List.zip_nil_left, List.foldl_cons, List.foldl_nil, unsetE, r_err, i2]
      rw [q, Bool.true_and] at h3
      rw [h3]
    | false =>
      simp only [r_ok, r_c, r_op2, r_op1, r_nil, r_cons, r_callB, r_call, r_and, r_or, r_not, r_asB, r_if, r_andT, r_orT, r_notT, r_test, r_chain, r_seq, r_nx, r_rt, r_bk, r_ct, r_next, r_break, r_cont, r_drop, r_ret, r_retN, r_asg, r_aug, r_ifS, r_par, r_sl, r_noPart, r_part, r_asInt, r_put, r_for, r_src, r_srcA, r_comp, r_meth, r_oNx, r_oCt, r_oBk, r_oRt, r_yes, r_var', r_lift', List.getElem?_cons_zero, List.getElem?_cons_succ, List.set_cons_zero, List.set_cons_succ, o_add, o_addI, o_sub, o_neg, o_lt, o_le, o_gt, o_ge, o_eq, o_ne, o_int, o_intB, o_abs, o_max, o_min, r_env, List.map_cons, List.map_nil, List.length_cons, List.length_nil, Nat.zero_add, Nat.reduceAdd, Nat.reduceSub, List.replicate_succ, List.replicate_zero, List.cons_append, List.nil_append, Bool.false_eq_true, if_true, if_false, gPar, List.zip_cons_cons, List.zip_nil_right, List.zip_nil_left, List.foldl_cons, List.foldl_nil, unsetE, r_err]
      rw [q, Bool.false_and] at h3
      rw [h3]
  cases x with
  | non => exact go "NoneType" rfl (by decide) (by decide)
  | bl b => exact go "bool" rfl (by decide) (by show (isiB "bool" "int" && !isiB "bool" "bool") = false; decide)
  | int i => exact go "int" rfl (by decide) (by show (isiB "int" "int" && !isiB "int" "bool") = true; decide)
  | str s => exact go "str" rfl (by decide) (by show (isiB "str" "int" && !isiB "str" "bool") = false; decide)
  | tup xs => exact go "tuple" rfl (by decide) (by show (isiB "tuple" "int" && !isiB "tuple" "bool") = false; decide)
  | lst xs => exact go "list" rfl (by decide) (by show (isiB "list" "int" && !isiB "list" "bool") = false; decide)
  | scr xs => exact go "list" rfl (by decide) (by show (isiB "list" "int" && !isiB "list" "bool") = false; decide)
  | dic xs => exact go "dict" rfl (by decide) (by show (isiB "dict" "int" && !isiB "dict" "bool") = false; decide)
  | dit xs => cases h
  | ins c xs => cases h
  | glo c => cases h
  | ty c => cases h
theorem p_is_fromI {i a b : Int} : m_is_from [.p (.int i), .p (.int a), .p (.int b)] S = .ok (.p (.bl (decide (a ≤ i) && decide (i ≤ b)))) S := by
  refine fn_pure0 ?_
  unfold b_is_from
  simp only [r_ok, r_c, r_op2, r_op1, r_nil, r_cons, r_callB, r_call, r_and, r_or, r_not, r_asB, r_if, r_andT, r_orT, r_notT, r_test, r_chain, r_seq, r_nx, r_rt, r_bk, r_ct, r_next, r_break, r_cont, r_drop, r_ret, r_retN, r_asg, r_aug, r_ifS, r_par, r_sl, r_noPart, r_part, r_asInt, r_put, r_for, r_src, r_srcA, r_comp, r_meth, r_oNx, r_oCt, r_oBk, r_oRt, r_yes, r_var', r_lift', List.getElem?_cons_zero, List.getElem?_cons_succ, List.set_cons_zero, List.set_cons_succ, o_add, o_addI, o_sub, o_neg, o_lt, o_le, o_gt, o_ge, o_eq, o_ne, o_int, o_intB, o_abs, o_max, o_min, r_env, List.map_cons, List.map_nil, List.length_cons, List.length_nil, Nat.zero_add, Nat.reduceAdd, Nat.reduceSub, List.replicate_succ, List.replicate_zero, List.cons_append, List.nil_append, Bool.false_eq_true, if_true, if_false, gPar, List.zip_cons_cons, List.zip_nil_right, List.zip_nil_left, List.foldl_cons, List.foldl_nil, unsetE, r_err, p_is_integer (x := .int i) rfl, isInt]
  cases q : decide (a ≤ i) <;> simp only [r_ok, r_c, r_op2, r_op1, r_nil, r_cons, r_callB, r_call, r_and, r_or, r_not, r_asB, r_if, r_andT, r_orT, r_notT, r_test, r_chain, r_seq, r_nx, r_rt, r_bk, r_ct, r_next, r_break, r_cont, r_drop, r_ret, r_retN, r_asg, r_aug, r_ifS, r_par, r_sl, r_noPart, r_part, r_asInt, r_put, r_for, r_src, r_srcA, r_comp, r_meth, r_oNx, r_oCt, r_oBk, r_oRt, r_yes, r_var', r_lift', List.getElem?_cons_zero, List.getElem?_cons_succ, List.set_cons_zero, List.set_cons_succ, o_add, o_addI, o_sub, o_neg, o_lt, o_le, o_gt, o_ge, o_eq, o_ne, o_int, o_intB, o_abs, o_max, o_min, r_env, List.map_cons, List.map_nil, List.length_cons, List.length_nil, Nat.zero_add, Nat.reduceAdd, Nat.reduceSub, List.replicate_succ, List.replicate_zero, List.cons_append, List.nil_append, Bool.false_eq_true, if_true, if_false, gPar, List.zip_cons_cons, List.zip_nil_right, List.zip_nil_left, List.foldl_cons, List.foldl_nil, unsetE, r_err, Bool.true_and, Bool.false_and]
/-! ### sorted, summed up -/
end
end DL
set_option maxHeartbeats 4000000
namespace DL
open PySem PySem.Spec PyProof.Rows L2
section
variable {S : Store} {ns vs : List Int} {d : D}
end
end DL
set_option maxHeartbeats 4000000
namespace DL
open PySem PySem.Spec PyProof.Rows L2
section
variable {S T : Store} {r : Nat} {d : D} {fin : FL}
theorem o_pow {i j : Int} (h : (decide (0 ≤ j) && decide ((i.natAbs.log2 + 1 : Int) * j ≤ 1000000)) = true) : fPow (.p (.int i)) (.p (.int j)) S = some (.p (.int (i ^ j.toNat)), S) := by
  unfold fPow fII
  simp only [h, if_true]
theorem bits_lt {i : Int} {k : Nat} (h : i.natAbs < 2 ^ k) (hk : k ≤ 400000) : bitsB 400000 i = true := bits_of (Nat.lt_of_lt_of_le h (Nat.pow_le_pow_right (by decide) hk)) (by decide)
theorem bits_small {i : Int} (h : i.natAbs ≤ 1000000000000) : bitsB 400000 i = true := bits_lt (k := 40) (Nat.lt_of_le_of_lt h (by decide)) (by decide)
theorem bits_60 {i : Int} (h : 0 ≤ i) (h2 : i < 2 ^ 62) : bitsB 400000 i = true := bits_lt (k := 62) (by omega) (by decide)
/-! ### draws -/
def VOk (n : Nat) (v : List P) : Prop := ∃ a b c : Int, v = [.int a, .int b, .int c] ∧ 0 ≤ a ∧ 0 ≤ b ∧ b < 2 ^ 62 ∧ 0 ≤ c ∧ c ≤ n
theorem VOk.mono {m n : Nat} {v : List P} (h : VOk m v) (hmn : m ≤ n) : VOk n v := by
  obtain ⟨a, b, c, e, h1, h2, h3, h4, h5⟩ := h
  exact ⟨a, b, c, e, h1, h2, h3, h4, by omega⟩
theorem bits9g {i : Int} (h0 : 0 < i) (h : i < 2 ^ 200) : bitsB 9000 i = true := bits_of (Nat.lt_of_lt_of_le (show i.natAbs < 2 ^ 200 by omega) (Nat.pow_le_pow_right (by decide) (by decide))) (by decide)
end
end DL
set_option maxHeartbeats 4000000
set_option exponentiation.threshold 400001
namespace DL
open PySem PySem.Spec PyProof.Rows L2
section
variable {S T : Store} {r : Nat} {d : D} {fin : FL}
/-! ### the bowl -/
theorem fn_newR {N : Nat} {a : MS} {ds : List D} {v : List P} (h : a (env0 N ds) S = .ok (.rt (.r S.objs.length)) (SP S v)) : mFn N finN a ds S = .ok (.r S.objs.length) (SP S v) := by
  have e : finN S.objs.length (.r S.objs.length) (SP S v) = (.r S.objs.length, SP S v) := by
    unfold finN
    rw [cut_pre SP_take]
    have hw : (O.lst (pD v)).lo S.objs.length = true := los_pD _ _
    show (if S.objs.length ≤ S.objs.length then (match (SP S v).objs[S.objs.length]? with
      | some o => if h : o.lo S.objs.length = true then (D.r S.objs.length, S.new o h) else (.r S.objs.length, SP S v)
      | none => (.r S.objs.length, SP S v)) else (.r S.objs.length, S)) = _
    rw [if_pos (Nat.le_refl _), SP_at]
    show (if h : (O.lst (pD v)).lo S.objs.length = true then (D.r S.objs.length, S.new (.lst (pD v)) h) else (.r S.objs.length, SP S v)) = _
    rw [dif_pos hw]
    rfl
  rw [r_fn, h, r_ok, r_asRt, r_finOk, e]
/-! ### great numbers -/
end
end DL
set_option maxHeartbeats 4000000
set_option exponentiation.threshold 400001
namespace DL
open PySem PySem.Spec PyProof.Rows L2
section
variable {S T : Store} {r : Nat} {d : D} {fin : FL}
theorem sortUp_perm (ns : List Int) : (sortUp ns).Perm ns := srtUp_perm ns
end
end DL
set_option maxHeartbeats 4000000
set_option exponentiation.threshold 400001
namespace DL
open PySem PySem.Spec PyProof.Rows L2
section
variable {S T : Store} {r : Nat} {ns : List Int} {d : D} {fin : FL}
end
end DL
set_option maxHeartbeats 4000000
set_option exponentiation.threshold 400001
namespace DL
open PySem PySem.Spec PyProof.Rows L2
section
variable {S T : Store} {r : Nat} {ns : List Int} {d : D} {fin : FL}
/-! ### what the odd rows' laws share -/
/-! ### repr -/
end
end DL
set_option maxHeartbeats 4000000
set_option exponentiation.threshold 400001
namespace DL
open PySem PySem.Spec PyProof.Rows L2
section
variable {S T U : Store} {r : Nat} {d : D} {fin : FL}
/-! ### rows as data -/
theorem pys_ints : ∀ v : List Int, P.pys (v.map P.int) = some (v.map PyData.int)
  | [] => by simp [P.pys]
  | a :: v => by simp [P.pys, P.py, pys_ints v]
theorem lay_ints : ∀ v : List Int, PyData.canLayAll0 (v.map PyData.int) = true
  | [] => by simp [PyData.canLayAll0]
  | a :: v => by simp [PyData.canLayAll0, PyData.canLay0, lay_ints v]
theorem dep_ints : ∀ v : List Int, PyData.depthAll (v.map PyData.int) = 0
  | [] => by simp [PyData.depthAll]
  | a :: v => by simp [PyData.depthAll, PyData.depth, dep_ints v]
mutual
theorem eqv_self : ∀ {d : PyData}, d.canLay0 = true → PyData.eqv d d = true
  | .none, _ => by simp [PyData.eqv]
  | .bool b, _ => by simp [PyData.eqv]
  | .int i, _ => by simp [PyData.eqv]
  | .str s, _ => by simp [PyData.eqv]
  | .list xs, h => by
    simp only [PyData.canLay0] at h
    simp only [PyData.eqv, eqvAll_self h]
  | .tuple xs, h => by
    simp only [PyData.canLay0] at h
    simp only [PyData.eqv, eqvAll_self h]
  | .dict _, h => by simp [PyData.canLay0] at h
theorem eqvAll_self : ∀ {xs : List PyData}, PyData.canLayAll0 xs = true → PyData.eqvAll xs xs = true
  | [], _ => by simp [PyData.eqvAll]
  | x :: xs, h => by
    simp only [PyData.canLayAll0, Bool.and_eq_true] at h
    simp only [PyData.eqvAll, eqv_self h.1, eqvAll_self h.2, Bool.and_self]
end
theorem o_eqSame {x : P} {z : PyData} (e : P.py x = some z) (sh : SeqAt.shaped z = true) : fEq (.p x) (.p x) S = some (.p (.bl true), S) := by
  have e1 : (D.p x).py? S = some z := e
  unfold fEq
  simp only [e1, sh, Bool.and_self, if_true]
  rw [eqv_self (SeqAt.canLay_of_shaped sh)]
theorem compI_keep {w : List (Nat × List D)} {g : MG} {t : ME Bool} {e : ME D} {ρ ρ' : Env} {S S' : Store} {x y : D} {xs acc : List D} (hw : watchOk w S = true) (hg : g x ρ S = some ρ') (ht : t ρ' S = .ok true S) (he : e ρ' S = .ok y S') (hl : acc.length < 100000) :
    compI w g t e ρ acc (x :: xs) S = compI w g t e ρ (acc ++ [y]) xs S' := by
  conv => lhs; unfold compI
  rw [if_pos hw, hg]
  simp only [ht, noErr, r_ok, if_true, he]
  rw [if_pos hl]
theorem compI_skip {w : List (Nat × List D)} {g : MG} {t : ME Bool} {e : ME D} {ρ ρ' : Env} {S : Store} {x : D} {xs acc : List D} (hw : watchOk w S = true) (hg : g x ρ S = some ρ') (ht : t ρ' S = .ok false S) :
    compI w g t e ρ acc (x :: xs) S = compI w g t e ρ acc xs S := by
  conv => lhs; unfold compI
  rw [if_pos hw, hg]
  simp only [ht, noErr, r_ok, Bool.false_eq_true, if_false]
end
end DL
set_option maxHeartbeats 4000000
set_option exponentiation.threshold 400001
namespace DL
open PySem PySem.Spec PyProof.Rows L2
section
variable {S T : Store} {r : Nat} {d : D} {fin : FL}
theorem p_lessG {v : List P} {n : Nat} {size : Int} (hv : T.objs[r]? = some (.lst (pD v))) (ho : VOk n v) (hn : n ≤ 100000000) (h0 : 0 < size) (h1 : size < 2 ^ 200) :
    ∃ (i : Int) (v' : List P), m__law_less [.r r, .p (.int size)] T = .ok (.p (.int i)) (setP T r v') ∧ VOk (n + 1) v' ∧ 0 ≤ i ∧ i < size := by
  obtain ⟨a, b, c, rfl, ha, hb, hb2, hc, hc2⟩ := ho
  have x0 : fIx (.r r) (.p (.int 0)) T = some (.p (.int a), T) := o_ixL rfl (R_lst hv) (atI_get (k := 0) rfl)
  have x1 : fIx (.r r) (.p (.int 1)) T = some (.p (.int b), T) := o_ixL rfl (R_lst hv) (atI_get (k := 1) rfl)
  have x2 : fIx (.r r) (.p (.int 2)) T = some (.p (.int c), T) := o_ixL rfl (R_lst hv) (atI_get (k := 2) rfl)
  have dv : fDiv (.p (.int a)) (.p (.int size)) T = some (.p (.int (a / size)), T) := o_div h0 (bits9g h0 h1)
  by_cases q : 0 < a
  · have pt : fPut (.r r) (.p (.int 0)) (.p (.int (a / size))) T = some (setP T r [.int (a / size), .int b, .int c]) := f_putR hv (j := 0) (by rfl)
    refine ⟨a % size, [.int (a / size), .int b, .int c], ?_, ⟨a / size, b, c, rfl, Int.ediv_nonneg ha (by omega), hb, hb2, hc, by omega⟩, Int.emod_nonneg _ (by omega), Int.emod_lt_of_pos _ h0⟩
    refine fn_same ?_ setP_len
    unfold b__law_less
    simp only [r_ok, r_c, r_op2, r_op1, r_nil, r_cons, r_callB, r_call, r_and, r_or, r_not, r_asB, r_if, r_andT, r_orT, r_notT, r_test, r_chain, r_seq, r_nx, r_rt, r_bk, r_ct, r_next, r_break, r_cont, r_drop, r_ret, r_retN, r_asg, r_aug, r_ifS, r_par, r_sl, r_noPart, r_part, r_asInt, r_put, r_for, r_src, r_srcA, r_comp, r_meth, r_oNx, r_oCt, r_oBk, r_oRt, r_yes, r_var', r_lift', List.getElem?_cons_zero, List.getElem?_cons_succ, List.set_cons_zero, List.set_cons_succ, o_add, o_addI, o_sub, o_neg, o_lt, o_le, o_gt, o_ge, o_eq, o_ne, o_int, o_intB, o_abs, o_max, o_min, r_env, List.map_cons, List.map_nil, List.length_cons, List.length_nil, Nat.zero_add, Nat.reduceAdd, Nat.reduceSub, List.replicate_succ, List.replicate_zero, List.cons_append, List.nil_append, Bool.false_eq_true, if_true, if_false, gPar, List.zip_cons_cons, List.zip_nil_right, List.zip_nil_left, List.foldl_cons, List.foldl_nil, unsetE, r_err, x0, decide_eq_true q, o_mod h0, dv, r_liftS pt]
  · have hr := at_lt hv
    have pt : fPut (.r r) (.p (.int 2)) (.p (.int (c + 1))) T = some (setP T r [.int a, .int b, .int (c + 1)]) := f_putR hv (j := 2) (by rfl)
    have hv2 : (setP T r [.int a, .int b, .int (c + 1)]).objs[r]? = some (.lst (pD [.int a, .int b, .int (c + 1)])) := setP_at hr
    have y1 : fIx (.r r) (.p (.int 1)) (setP T r [.int a, .int b, .int (c + 1)]) = some (.p (.int b), setP T r [.int a, .int b, .int (c + 1)]) := o_ixL rfl (R_lst hv2) (atI_get (k := 1) rfl)
    have y2 : fIx (.r r) (.p (.int 2)) (setP T r [.int a, .int b, .int (c + 1)]) = some (.p (.int (c + 1)), setP T r [.int a, .int b, .int (c + 1)]) := o_ixL rfl (R_lst hv2) (atI_get (k := 2) rfl)
    generalize eU : setP T r [.int a, .int b, .int (c + 1)] = U at pt y1 y2
    have m1 : fMulA fLstF (.p (.int 777767777)) (.p (.int (c + 1))) U = some (.p (.int (777767777 * (c + 1))), U) := o_mul (bits_small (by decide)) (bits_small (by omega))
    have o1 := o_mod (S := U) (i := b + 777767777 * (c + 1)) (show (0 : Int) < 2305843009213693921 by decide)
    have r1 : 0 ≤ (b + 777767777 * (c + 1)) % 2305843009213693921 := Int.emod_nonneg _ (by decide)
    have r2 : (b + 777767777 * (c + 1)) % 2305843009213693921 < 2305843009213693921 := Int.emod_lt_of_pos _ (by decide)
    generalize (b + 777767777 * (c + 1)) % 2305843009213693921 = one at o1 r1 r2
    have m2 : fMulA fLstF (.p (.int one)) (.p (.int one)) U = some (.p (.int (one * one)), U) := o_mul (bits_60 r1 (by omega)) (bits_60 r1 (by omega))
    have o2 := o_mod (S := U) (i := one * one) (show (0 : Int) < 2305843009213693907 by decide)
    have r3 : 0 ≤ (one * one) % 2305843009213693907 := Int.emod_nonneg _ (by decide)
    have r4 : (one * one) % 2305843009213693907 < 2305843009213693907 := Int.emod_lt_of_pos _ (by decide)
    generalize (one * one) % 2305843009213693907 = two at o2 r3 r4
    have m3 : fMulA fLstF (.p (.int two)) (.p (.int one)) U = some (.p (.int (two * one)), U) := o_mul (bits_60 r3 (by omega)) (bits_60 r1 (by omega))
    have m4 : fMulA fLstF (.p (.int 4099)) (.p (.int (c + 1))) U = some (.p (.int (4099 * (c + 1))), U) := o_mul (bits_small (by decide)) (bits_small (by omega))
    have o3 := fun x : Int => o_mod (S := U) (i := x) (show (0 : Int) < 1152921504606846883 by decide)
    have d3 := fun x : Int => o_div (S := U) (i := x) (j := 8191) (by decide) (by decide)
    have o4 := fun x : Int => o_mod (S := U) (i := x) h0
    refine ⟨(two * one + 4099 * (c + 1)) % 1152921504606846883 / 8191 % size, [.int a, .int b, .int (c + 1)], ?_, ⟨a, b, c + 1, rfl, ha, hb, hb2, by omega, by omega⟩, Int.emod_nonneg _ (by omega), Int.emod_lt_of_pos _ h0⟩
    rw [eU]
    refine fn_same ?_ (by rw [← eU, setP_len])
    unfold b__law_less
    simp only [r_ok, r_c, r_op2, r_op1, r_nil, r_cons, r_callB, r_call, r_and, r_or, r_not, r_asB, r_if, r_andT, r_orT, r_notT, r_test, r_chain, r_seq, r_nx, r_rt, r_bk, r_ct, r_next, r_break, r_cont, r_drop, r_ret, r_retN, r_asg, r_aug, r_ifS, r_par, r_sl, r_noPart, r_part, r_asInt, r_put, r_for, r_src, r_srcA, r_comp, r_meth, r_oNx, r_oCt, r_oBk, r_oRt, r_yes, r_var', r_lift', List.getElem?_cons_zero, List.getElem?_cons_succ, List.set_cons_zero, List.set_cons_succ, o_add, o_addI, o_sub, o_neg, o_lt, o_le, o_gt, o_ge, o_eq, o_ne, o_int, o_intB, o_abs, o_max, o_min, r_env, List.map_cons, List.map_nil, List.length_cons, List.length_nil, Nat.zero_add, Nat.reduceAdd, Nat.reduceSub, List.replicate_succ, List.replicate_zero, List.cons_append, List.nil_append, Bool.false_eq_true, if_true, if_false, gPar, List.zip_cons_cons, List.zip_nil_right, List.zip_nil_left, List.foldl_cons, List.foldl_nil, unsetE, r_err, x0, decide_eq_false q, x2, r_liftS pt, y1, y2, m1, o1, m2, o2, m3, m4, o3, d3, o4]
theorem p_less {v : List P} {n : Nat} {size : Int} (hv : T.objs[r]? = some (.lst (pD v))) (ho : VOk n v) (hn : n ≤ 100000000) (h0 : 0 < size) (h1 : size ≤ 1000000000000) :
    ∃ (i : Int) (v' : List P), m__law_less [.r r, .p (.int size)] T = .ok (.p (.int i)) (setP T r v') ∧ VOk (n + 1) v' ∧ 0 ≤ i ∧ i < size :=
  p_lessG hv ho hn h0 (Int.lt_of_le_of_lt h1 (by decide))
abbrev GU : Int := ((10 : Int) ^ (49 : Int).toNat) ^ (12 : Int).toNat
theorem GU_pos : 0 < GU := by decide +kernel
theorem p_heap {ns : List Int} {spot : Nat} (hs : spot ≤ 100) : ∃ v, m__law_heap [.p (.scr (ns.map P.int)), .p (.int spot)] S = .ok (.r S.objs.length) (SP S v) ∧ VOk 0 v := by
  have ln : fLen [.p (.scr (ns.map P.int))] S = some (.p (.int ns.length), S) := by
    have := f_len (S := S) (d := .p (.scr (ns.map P.int))) (xs := pD (ns.map P.int)) rfl
    simpa [pD] using this
  have cell : ∃ c : Int, (mIf (mTest (mOp2 fLt (mVar 1) (mCallB fLen (mCons (mVar 0) mNil)))) (mOp2 fIx (mVar 0) (mVar 1)) (mOp2 (fAddG fLstF) (mOp2 (fMulA fLstF) (mC (.int 71)) (mVar 1)) (mC (.int 29)))) [some (.p (.scr (ns.map P.int))), some (.p (.int spot)), none, none, none] S = .ok (.p (.int c)) S := by
    by_cases q : (spot : Int) < (ns.length : Int)
    · have hk : spot < ns.length := by omega
      have ix : fIx (.p (.scr (ns.map P.int))) (.p (.int spot)) S = some (.p (.int ns[spot]), S) := o_ixL (xs := pD (ns.map P.int)) rfl rfl (atI_get (by
        rw [List.getElem?_map, List.getElem?_map, List.getElem?_eq_getElem hk]
        rfl))
      exact ⟨ns[spot], by simp only [r_ok, r_c, r_op2, r_op1, r_nil, r_cons, r_callB, r_call, r_and, r_or, r_not, r_asB, r_if, r_andT, r_orT, r_notT, r_test, r_chain, r_seq, r_nx, r_rt, r_bk, r_ct, r_next, r_break, r_cont, r_drop, r_ret, r_retN, r_asg, r_aug, r_ifS, r_par, r_sl, r_noPart, r_part, r_asInt, r_put, r_for, r_src, r_srcA, r_comp, r_meth, r_oNx, r_oCt, r_oBk, r_oRt, r_yes, r_var', r_lift', List.getElem?_cons_zero, List.getElem?_cons_succ, List.set_cons_zero, List.set_cons_succ, o_add, o_addI, o_sub, o_neg, o_lt, o_le, o_gt, o_ge, o_eq, o_ne, o_int, o_intB, o_abs, o_max, o_min, r_env, List.map_cons, List.map_nil, List.length_cons, List.length_nil, Nat.zero_add, Nat.reduceAdd, Nat.reduceSub, List.replicate_succ, List.replicate_zero, List.cons_append, List.nil_append, Bool.false_eq_true, if_true, if_false, gPar, List.zip_cons_cons, List.zip_nil_right, List.zip_nil_left, List.foldl_cons, List.foldl_nil, unsetE, r_err, ln, q, decide_true, ix]⟩
    · have m : fMulA fLstF (.p (.int 71)) (.p (.int spot)) S = some (.p (.int (71 * spot)), S) := o_mul (bits_small (by decide)) (bits_small (by omega))
      exact ⟨71 * spot + 29, by simp only [r_ok, r_c, r_op2, r_op1, r_nil, r_cons, r_callB, r_call, r_and, r_or, r_not, r_asB, r_if, r_andT, r_orT, r_notT, r_test, r_chain, r_seq, r_nx, r_rt, r_bk, r_ct, r_next, r_break, r_cont, r_drop, r_ret, r_retN, r_asg, r_aug, r_ifS, r_par, r_sl, r_noPart, r_part, r_asInt, r_put, r_for, r_src, r_srcA, r_comp, r_meth, r_oNx, r_oCt, r_oBk, r_oRt, r_yes, r_var', r_lift', List.getElem?_cons_zero, List.getElem?_cons_succ, List.set_cons_zero, List.set_cons_succ, o_add, o_addI, o_sub, o_neg, o_lt, o_le, o_gt, o_ge, o_eq, o_ne, o_int, o_intB, o_abs, o_max, o_min, r_env, List.map_cons, List.map_nil, List.length_cons, List.length_nil, Nat.zero_add, Nat.reduceAdd, Nat.reduceSub, List.replicate_succ, List.replicate_zero, List.cons_append, List.nil_append, Bool.false_eq_true, if_true, if_false, gPar, List.zip_cons_cons, List.zip_nil_right, List.zip_nil_left, List.foldl_cons, List.foldl_nil, unsetE, r_err, ln, q, decide_false, m]⟩
  obtain ⟨c, hc⟩ := cell
  have p1 : fPow (.p (.int 10)) (.p (.int 49)) S = some (.p (.int (10 ^ (49 : Int).toNat)), S) := o_pow (by decide)
  have p2 : fPow (.p (.int (10 ^ (49 : Int).toNat))) (.p (.int 12)) S = some (.p (.int GU), S) := o_pow (by decide +kernel)
  have p3 : fPow (.p (.int 10)) (.p (.int 18)) S = some (.p (.int (10 ^ (18 : Int).toNat)), S) := o_pow (by decide)
  have o1 := fun x : Int => o_mod (S := S) (i := x) GU_pos
  have g0 : 0 ≤ (if c < 0 then -c else c) % GU := Int.emod_nonneg _ (by have := GU_pos; omega)
  generalize hg : (if c < 0 then -c else c) % GU = great at g0
  have oo := fun x : Int => o_mod (S := S) (i := x) (show (0 : Int) < 1152921504606846883 by decide)
  have q0 : 0 ≤ great % 1152921504606846883 := Int.emod_nonneg _ (by decide)
  have q1 : great % 1152921504606846883 < 1152921504606846883 := Int.emod_lt_of_pos _ (by decide)
  generalize hq : great % 1152921504606846883 = gm at q0 q1
  have m1 : fMulA fLstF (.p (.int gm)) (.p (.int 91193)) S = some (.p (.int (gm * 91193)), S) := o_mul (bits_60 q0 (by omega)) (bits_small (by decide))
  have m2 : fMulA fLstF (.p (.int 2749)) (.p (.int spot)) S = some (.p (.int (2749 * spot)), S) := o_mul (bits_small (by decide)) (bits_small (by omega))
  have m3 : ∀ b : Bool, fMulA fLstF (.p (.int 89)) (.p (.int (if b = true then 1 else 0))) S = some (.p (.int (89 * (if b = true then 1 else 0))), S) := fun b => o_mul (bits_small (by decide)) (bits_small (by cases b <;> decide))
  have o2 := fun x : Int => o_mod (S := S) (i := x) (show (0 : Int) < 1152921504606846883 by decide)
  have s0 : ∀ x : Int, 0 ≤ x % 1152921504606846883 := fun x => Int.emod_nonneg _ (by decide)
  have s1 : ∀ x : Int, x % 1152921504606846883 < 1152921504606846883 := fun x => Int.emod_lt_of_pos _ (by decide)
  have nw : ∀ a b : Int, fLst [.p (.int a), .p (.int b), .p (.int 0)] S = some (.r S.objs.length, SP S [.int a, .int b, .int 0]) := fun a b => f_new (ps := [.int a, .int b, .int 0]) (by simp)
  refine ⟨[.int (max 0 (great - 10 ^ (18 : Int).toNat)), .int ((gm * 91193 + 2749 * (spot : Int) + 89 * (if (decide (c < 0)) = true then 1 else 0) + 13) % 1152921504606846883), .int 0], ?_, ⟨_, _, 0, rfl, by omega, s0 _, by have := s1 (gm * 91193 + 2749 * (spot : Int) + 89 * (if (decide (c < 0)) = true then 1 else 0) + 13); omega, Int.le_refl _, Int.le_refl _⟩⟩
  refine fn_newR ?_
  unfold b__law_heap
  have e0 : (mAsg (gNm 2) (mIf (mTest (mOp2 fLt (mVar 1) (mCallB fLen (mCons (mVar 0) mNil)))) (mOp2 fIx (mVar 0) (mVar 1)) (mOp2 (fAddG fLstF) (mOp2 (fMulA fLstF) (mC (.int 71)) (mVar 1)) (mC (.int 29))))) (env0 5 [.p (.scr (ns.map P.int)), .p (.int spot)]) S = .ok (.nx [some (.p (.scr (ns.map P.int))), some (.p (.int spot)), some (.p (.int c)), none, none]) S := by
    rw [r_asg]
    show (Res.bind (mIf _ _ _ [some (.p (.scr (ns.map P.int))), some (.p (.int spot)), none, none, none] S) _) = _
    rw [hc, r_ok]
    rfl
  have e1 : (mAsg (gNm 3) (mOp2 fMod (mCallB fInt (mCons (mCallB fAbs (mCons (mVar 2) mNil)) mNil)) (mOp2 fPow (mOp2 fPow (mC (.int 10)) (mC (.int 49))) (mC (.int 12))))) [some (.p (.scr (ns.map P.int))), some (.p (.int spot)), some (.p (.int c)), none, none] S = .ok (.nx [some (.p (.scr (ns.map P.int))), some (.p (.int spot)), some (.p (.int c)), some (.p (.int great)), none]) S := by
    simp only [r_ok, r_c, r_op2, r_op1, r_nil, r_cons, r_callB, r_call, r_and, r_or, r_not, r_asB, r_if, r_andT, r_orT, r_notT, r_test, r_chain, r_seq, r_nx, r_rt, r_bk, r_ct, r_next, r_break, r_cont, r_drop, r_ret, r_retN, r_asg, r_aug, r_ifS, r_par, r_sl, r_noPart, r_part, r_asInt, r_put, r_for, r_src, r_srcA, r_comp, r_meth, r_oNx, r_oCt, r_oBk, r_oRt, r_yes, r_var', r_lift', List.getElem?_cons_zero, List.getElem?_cons_succ, List.set_cons_zero, List.set_cons_succ, o_add, o_addI, o_sub, o_neg, o_lt, o_le, o_gt, o_ge, o_eq, o_ne, o_int, o_intB, o_abs, o_max, o_min, r_env, List.map_cons, List.map_nil, List.length_cons, List.length_nil, Nat.zero_add, Nat.reduceAdd, Nat.reduceSub, List.replicate_succ, List.replicate_zero, List.cons_append, List.nil_append, Bool.false_eq_true, if_true, if_false, gPar, List.zip_cons_cons, List.zip_nil_right, List.zip_nil_left, List.foldl_cons, List.foldl_nil, unsetE, r_err, p1, p2, o1, hg]
  rw [r_seq, e0, r_ok, r_nx, r_seq, e1, r_ok, r_nx]
  simp only [r_ok, r_c, r_op2, r_op1, r_nil, r_cons, r_callB, r_call, r_and, r_or, r_not, r_asB, r_if, r_andT, r_orT, r_notT, r_test, r_chain, r_seq, r_nx, r_rt, r_bk, r_ct, r_next, r_break, r_cont, r_drop, r_ret, r_retN, r_asg, r_aug, r_ifS, r_par, r_sl, r_noPart, r_part, r_asInt, r_put, r_for, r_src, r_srcA, r_comp, r_meth, r_oNx, r_oCt, r_oBk, r_oRt, r_yes, r_var', r_lift', List.getElem?_cons_zero, List.getElem?_cons_succ, List.set_cons_zero, List.set_cons_succ, o_add, o_addI, o_sub, o_neg, o_lt, o_le, o_gt, o_ge, o_eq, o_ne, o_int, o_intB, o_abs, o_max, o_min, r_env, List.map_cons, List.map_nil, List.length_cons, List.length_nil, Nat.zero_add, Nat.reduceAdd, Nat.reduceSub, List.replicate_succ, List.replicate_zero, List.cons_append, List.nil_append, Bool.false_eq_true, if_true, if_false, gPar, List.zip_cons_cons, List.zip_nil_right, List.zip_nil_left, List.foldl_cons, List.foldl_nil, unsetE, r_err, oo, hq, m1, m2, m3, o2, p3, nw]
/-! ### great numbers -/
end
end DL
set_option maxHeartbeats 4000000
namespace DL
/-! ### shapes, strips, numbers: plain -/
def insD (m : Nat) : List Nat → List Nat
  | [] => [m]
  | x :: xs => if x ≤ m then m :: x :: xs else x :: insD m xs
def ins0 (m : Nat) (l : List Nat) : List Nat := if m = 0 then l else insD m l
def nrm : List Nat → List Nat
  | [] => []
  | m :: r => ins0 m (nrm r)
def consP (x : Nat) (l : List Nat) : List Nat := if x = 0 then l else x :: l
def stripL : List Nat → Nat → List (List Nat)
  | [], 0 => [[]]
  | [], _ + 1 => []
  | row :: rest, m => ((List.range (row - rest.headD 0 + 1)).filter fun c => decide (c ≤ m)).flatMap fun c => (stripL rest (m - c)).map (consP (row - c))
def nFil : List Nat → List Nat → Nat
  | l, [] => if l.isEmpty then 1 else 0
  | l, m :: r => ((stripL l m).map fun s => nFil s r).sum
inductive KTr where
  | nil
  | nd (l : KTr) (k v : Nat) (r : KTr)
def KTr.find : KTr → Nat → Nat
  | .nil, _ => 0
  | .nd l k v r, x => if Nat.blt x k then l.find x else if Nat.blt k x then r.find x else v
def codeL (l : List Nat) : Nat := l.foldl (fun a x => a * 11 + x) 0
def kTr_1 : KTr := .nd (.nd (.nd (.nd (.nd (.nd .nil 0 1 .nil) 25937424602 1 (.nd .nil 51874849204 1 .nil)) 51874849214 1 (.nd (.nd .nil 77812273806 1 .nil) 77812273826 1 .nil)) 77812273936 1 (.nd (.nd (.nd .nil 103749698408 1 .nil) 103749698428 1 (.nd .nil 103749698438 1 .nil)) 103749698658 1 (.nd (.nd .nil 103749699868 1 .nil) 129687123010 1 .nil))) 129687123040 1 (.nd (.nd (.nd (.nd .nil 129687123050 1 .nil) 129687123270 1 (.nd .nil 129687123380 1 .nil)) 129687125800 1 (.nd (.nd .nil 129687139110 1 .nil) 155624547612 1 .nil)) 155624547642 1 (.nd (.nd (.nd .nil 155624547652 1 .nil) 155624547662 1 .nil) 155624547872 1 (.nd (.nd .nil 155624547992 1 .nil) 155624548102 1 .nil)))) 155624550522 1 (.nd (.nd (.nd (.nd (.nd .nil 155624551732 1 .nil) 155624578352 1 (.nd .nil 155624724762 1 .nil)) 181561972214 1 (.nd (.nd .nil 181561972254 1 .nil) 181561972264 1 .nil)) 181561972274 1 (.nd (.nd (.nd .nil 181561972594 1 .nil) 181561972604 1 (.nd .nil 181561972714 1 .nil)) 181561972824 1 (.nd (.nd .nil 181561975134 1 .nil) 181561976454 1 .nil))) 181561977664 1 (.nd (.nd (.nd (.nd .nil 181562004284 1 .nil) 181562017594 1 (.nd .nil 181562310414 1 .nil)) 181563920924 1 (.nd (.nd .nil 207499396816 1 .nil) 207499396856 1 .nil)) 207499396866 1 (.nd (.nd (.nd .nil 207499396876 1 .nil) 207499396886 1 .nil) 207499397206 1 (.nd (.nd .nil 207499397316 1 .nil) 207499397326 1 .nil))))
def kTr_2 : KTr := .nd (.nd (.nd (.nd (.nd (.nd .nil 207499397546 1 .nil) 207499399736 1 (.nd .nil 207499401066 1 .nil)) 207499401176 1 (.nd (.nd .nil 207499402386 1 .nil) 207499403596 1 .nil)) 207499429006 1 (.nd (.nd (.nd .nil 207499443526 1 .nil) 207499456836 1 (.nd .nil 207499749656 1 .nil)) 207499896066 1 (.nd (.nd .nil 207503117086 1 .nil) 207520832696 1 .nil))) 233436821418 1 (.nd (.nd (.nd (.nd .nil 233436821468 1 .nil) 233436821478 1 (.nd .nil 233436821488 1 .nil)) 233436821498 1 (.nd (.nd .nil 233436821808 1 .nil) 233436821928 1 .nil)) 233436821938 1 (.nd (.nd (.nd .nil 233436822038 1 .nil) 233436822048 1 .nil) 233436822158 1 (.nd (.nd .nil 233436822268 1 .nil) 233436825668 1 .nil)))) 233436825788 1 (.nd (.nd (.nd (.nd (.nd .nil 233436826998 1 .nil) 233436827108 1 (.nd .nil 233436828318 1 .nil)) 233436829528 1 (.nd (.nd .nil 233436853618 1 .nil) 233436868248 1 .nil)) 233436869458 1 (.nd (.nd (.nd .nil 233436882768 1 .nil) 233436896078 1 (.nd .nil 233437175588 1 .nil)) 233437335308 1 (.nd (.nd .nil 233437481718 1 .nil) 233440702738 1 .nil))) 233442313248 1 (.nd (.nd (.nd (.nd .nil 233477744468 1 .nil) 233672616178 1 (.nd .nil 259374246020 1 .nil)) 259374246070 1 (.nd (.nd .nil 259374246080 1 .nil) 259374246090 1 .nil)) 259374246100 1 (.nd (.nd (.nd .nil 259374246110 1 .nil) 259374246530 1 .nil) 259374246540 1 (.nd (.nd .nil 259374246650 1 .nil) 259374246660 1 .nil))))
def kTr_3 : KTr := .nd kTr_1 207499397436 1 kTr_2
def kTr_4 : KTr := .nd (.nd (.nd (.nd (.nd (.nd .nil 259374246770 1 .nil) 259374246880 1 (.nd .nil 259374246990 1 .nil)) 259374250390 1 (.nd (.nd .nil 259374250400 1 .nil) 259374251600 1 .nil)) 259374251720 1 (.nd (.nd (.nd .nil 259374251830 1 .nil) 259374252930 1 (.nd .nil 259374253040 1 .nil)) 259374254250 1 (.nd (.nd .nil 259374255460 1 .nil) 259374278220 1 .nil))) 259374292860 1 (.nd (.nd (.nd (.nd .nil 259374294180 1 .nil) 259374307490 1 (.nd .nil 259374308700 1 .nil)) 259374322010 1 (.nd (.nd .nil 259374335320 1 .nil) 259374600310 1 .nil)) 259374761240 1 (.nd (.nd (.nd .nil 259374774550 1 .nil) 259374920960 1 .nil) 259375067370 1 (.nd (.nd .nil 259378141980 1 .nil) 259379898900 1 .nil)))) 259381509410 1 (.nd (.nd (.nd (.nd (.nd .nil 259416940630 1 .nil) 259434656240 1 (.nd .nil 259824399660 1 .nil)) 261967988470 1 (.nd (.nd .nil 311249095224 1 .nil) 596560765846 1 .nil)) 596560765956 2 (.nd (.nd (.nd .nil 622498190448 1 .nil) 622498190678 1 (.nd .nil 622498191888 2 .nil)) 881872436458 1 (.nd (.nd .nil 881872436468 1 .nil) 881872436688 2 .nil))) 881872437898 3 (.nd (.nd (.nd (.nd .nil 907809861070 1 .nil) 907809861300 2 (.nd .nil 907809861410 1 .nil)) 907809863830 3 (.nd (.nd .nil 907809877140 5 .nil) 933747285672 1 .nil)) 933747285902 1 (.nd (.nd (.nd .nil 933747286022 1 .nil) 933747288552 2 .nil) 933747289762 1 (.nd (.nd .nil 933747316382 3 .nil) 933747462792 5 .nil))))
def kTr_5 : KTr := .nd (.nd (.nd (.nd (.nd (.nd .nil 1167184107090 1 .nil) 1167184107310 2 (.nd .nil 1167184107420 2 .nil)) 1167184109840 3 (.nd (.nd .nil 1167184123150 4 .nil) 1193121531682 1 .nil)) 1193121531692 1 (.nd (.nd (.nd .nil 1193121531912 3 .nil) 1193121532032 2 (.nd .nil 1193121532142 1 .nil)) 1193121534562 4 (.nd (.nd .nil 1193121535772 3 .nil) 1193121562392 6 .nil))) 1193121708802 9 (.nd (.nd (.nd (.nd .nil 1219058956294 1 .nil) 1219058956634 2 (.nd .nil 1219058956644 2 .nil)) 1219058956754 1 (.nd (.nd .nil 1219058959174 4 .nil) 1219058960494 3 .nil)) 1219058961704 1 (.nd (.nd (.nd .nil 1219058988324 6 .nil) 1219059001634 4 .nil) 1219059294454 9 (.nd (.nd .nil 1219060904964 14 .nil) 1244996380896 1 .nil)))) 1244996381246 1 (.nd (.nd (.nd (.nd (.nd .nil 1244996381356 1 .nil) 1244996381366 1 (.nd .nil 1244996383776 3 .nil)) 1244996385106 2 (.nd (.nd .nil 1244996385216 2 .nil) 1244996386426 1 .nil)) 1244996413046 4 (.nd (.nd (.nd .nil 1244996427566 3 .nil) 1244996440876 1 (.nd .nil 1244996733696 6 .nil)) 1244996880106 4 (.nd (.nd .nil 1245000101126 9 .nil) 1245017816736 14 .nil))) 1452495777692 1 (.nd (.nd (.nd (.nd .nil 1452495777702 1 .nil) 1452495777712 1 (.nd .nil 1452495777922 2 .nil)) 1452495778042 2 (.nd (.nd .nil 1452495778152 2 .nil) 1452495780572 3 .nil)) 1452495781782 3 (.nd (.nd (.nd .nil 1452495808402 4 .nil) 1452495954812 5 .nil) 1478433202304 1 (.nd (.nd .nil 1478433202314 1 .nil) 1478433202644 3 .nil))))
def kTr_6 : KTr := .nd kTr_4 1167184107080 1 kTr_5
def kTr_7 : KTr := .nd kTr_3 259374246760 1 kTr_6
def kTr_8 : KTr := .nd (.nd (.nd (.nd (.nd (.nd .nil 1478433202764 2 .nil) 1478433202874 1 (.nd .nil 1478433205184 5 .nil)) 1478433206504 4 (.nd (.nd .nil 1478433207714 3 .nil) 1478433234334 7 .nil)) 1478433247644 6 (.nd (.nd (.nd .nil 1478433540464 10 .nil) 1478435150974 14 (.nd .nil 1504370626906 1 .nil)) 1504370626916 1 (.nd (.nd .nil 1504370627256 3 .nil) 1504370627366 2 .nil))) 1504370627376 2 (.nd (.nd (.nd (.nd .nil 1504370627486 1 .nil) 1504370629786 6 (.nd .nil 1504370631116 5 .nil)) 1504370631226 4 (.nd (.nd .nil 1504370632436 3 .nil) 1504370633646 1 .nil)) 1504370659056 9 (.nd (.nd (.nd .nil 1504370673576 7 .nil) 1504370686886 4 .nil) 1504370979706 13 (.nd (.nd .nil 1504371126116 10 .nil) 1504374347136 19 .nil)))) 1504392062746 28 (.nd (.nd (.nd (.nd (.nd .nil 1530308051518 1 .nil) 1530308051858 2 (.nd .nil 1530308051978 2 .nil)) 1530308051988 2 (.nd (.nd .nil 1530308052088 1 .nil) 1530308052098 1 .nil)) 1530308055718 5 (.nd (.nd (.nd .nil 1530308055838 4 .nil) 1530308057048 3 (.nd .nil 1530308057158 3 .nil)) 1530308058368 1 (.nd (.nd .nil 1530308083668 9 .nil) 1530308098298 7 .nil))) 1530308099508 6 (.nd (.nd (.nd (.nd .nil 1530308112818 4 .nil) 1530308126128 1 (.nd .nil 1530308405638 13 .nil)) 1530308565358 10 (.nd (.nd .nil 1530308711768 5 .nil) 1530311932788 19 .nil)) 1530313543298 14 (.nd (.nd (.nd .nil 1530348974518 28 .nil) 1530543846228 42 .nil) 1556245476120 1 (.nd (.nd .nil 1556245476580 1 .nil) 1556245476590 1 .nil))))
def kTr_9 : KTr := .nd (.nd (.nd (.nd (.nd (.nd .nil 1556245476710 1 .nil) 1556245480440 3 (.nd .nil 1556245480450 2 .nil)) 1556245481650 2 (.nd (.nd .nil 1556245481770 2 .nil) 1556245481880 2 .nil)) 1556245482980 1 (.nd (.nd (.nd .nil 1556245483090 1 .nil) 1556245508270 6 (.nd .nil 1556245522910 5 .nil)) 1556245524230 4 (.nd (.nd .nil 1556245537540 3 .nil) 1556245538750 3 .nil))) 1556245552060 1 (.nd (.nd (.nd (.nd .nil 1556245830360 9 .nil) 1556245991290 7 (.nd .nil 1556246004600 6 .nil)) 1556246151010 4 (.nd (.nd .nil 1556246297420 1 .nil) 1556249372030 13 .nil)) 1556251128950 10 (.nd (.nd (.nd .nil 1556252739460 5 .nil) 1556288170680 19 .nil) 1556305886290 14 (.nd (.nd .nil 1556695629710 28 .nil) 1558839218520 42 .nil)))) 1737807448314 1 (.nd (.nd (.nd (.nd (.nd .nil 1737807448324 1 .nil) 1737807448334 1 (.nd .nil 1737807448654 2 .nil)) 1737807448664 2 (.nd (.nd .nil 1737807448774 2 .nil) 1737807448884 2 .nil)) 1737807451194 3 (.nd (.nd (.nd .nil 1737807452514 3 .nil) 1737807453724 3 (.nd .nil 1737807480344 4 .nil)) 1737807493654 4 (.nd (.nd .nil 1737807786474 5 .nil) 1737809396984 6 .nil))) 1763744872916 1 (.nd (.nd (.nd (.nd .nil 1763744872926 1 .nil) 1763744872936 1 (.nd .nil 1763744873266 3 .nil)) 1763744873376 3 (.nd (.nd .nil 1763744873386 2 .nil) 1763744873496 2 .nil)) 1763744873606 1 (.nd (.nd (.nd .nil 1763744875796 6 .nil) 1763744877126 5 .nil) 1763744877236 4 (.nd (.nd .nil 1763744878446 4 .nil) 1763744879656 3 .nil))))
def kTr_10 : KTr := .nd kTr_8 1556245476700 1 kTr_9
def kTr_11 : KTr := .nd (.nd (.nd (.nd (.nd (.nd .nil 1763744919586 7 .nil) 1763744932896 6 (.nd .nil 1763745225716 11 .nil)) 1763745372126 10 (.nd (.nd .nil 1763748593146 15 .nil) 1763766308756 20 .nil)) 1789682297528 1 (.nd (.nd (.nd .nil 1789682297538 1 .nil) 1789682297868 4 (.nd .nil 1789682297988 3 .nil)) 1789682297998 2 (.nd (.nd .nil 1789682298098 2 .nil) 1789682298108 2 .nil))) 1789682298218 1 (.nd (.nd (.nd (.nd .nil 1789682301728 7 .nil) 1789682301848 6 (.nd .nil 1789682303058 5 .nil)) 1789682303168 4 (.nd (.nd .nil 1789682304378 3 .nil) 1789682305588 1 .nil)) 1789682329678 12 (.nd (.nd (.nd .nil 1789682344308 10 .nil) 1789682345518 8 .nil) 1789682358828 7 (.nd (.nd .nil 1789682372138 4 .nil) 1789682651648 17 .nil)))) 1789682811368 14 (.nd (.nd (.nd (.nd (.nd .nil 1789682957778 10 .nil) 1789686178798 24 (.nd .nil 1789687789308 20 .nil)) 1789723220528 34 (.nd (.nd .nil 1789918092238 48 .nil) 1815619722130 1 .nil)) 1815619722140 1 (.nd (.nd (.nd .nil 1815619722590 3 .nil) 1815619722600 3 (.nd .nil 1815619722710 2 .nil)) 1815619722720 2 (.nd (.nd .nil 1815619722820 1 .nil) 1815619722830 1 .nil))) 1815619726450 7 (.nd (.nd (.nd (.nd .nil 1815619726460 6 .nil) 1815619727660 6 (.nd .nil 1815619727780 5 .nil)) 1815619727890 4 (.nd (.nd .nil 1815619728990 3 .nil) 1815619729100 3 .nil)) 1815619730310 1 (.nd (.nd (.nd .nil 1815619754280 15 .nil) 1815619768920 12 .nil) 1815619770240 10 (.nd (.nd .nil 1815619783550 8 .nil) 1815619784760 7 .nil))))
def kTr_12 : KTr := .nd (.nd (.nd (.nd (.nd (.nd .nil 1815619811380 1 .nil) 1815620076370 21 (.nd .nil 1815620237300 17 .nil)) 1815620250610 14 (.nd (.nd .nil 1815620397020 11 .nil) 1815620543430 5 .nil)) 1815623618040 30 (.nd (.nd (.nd .nil 1815625374960 24 .nil) 1815626985470 15 (.nd .nil 1815662416690 43 .nil)) 1815680132300 34 (.nd (.nd .nil 1816069875720 62 .nil) 1818213464530 90 .nil))) 2023119118926 1 (.nd (.nd (.nd (.nd .nil 2023119118936 1 .nil) 2023119118946 1 (.nd .nil 2023119118956 1 .nil)) 2023119119276 2 (.nd (.nd .nil 2023119119386 2 .nil) 2023119119396 2 .nil)) 2023119119506 2 (.nd (.nd (.nd .nil 2023119119616 2 .nil) 2023119121806 3 .nil) 2023119123136 3 (.nd (.nd .nil 2023119123246 3 .nil) 2023119124456 3 .nil)))) 2023119125666 3 (.nd (.nd (.nd (.nd (.nd .nil 2023119151076 4 .nil) 2023119165596 4 (.nd .nil 2023119178906 4 .nil)) 2023119471726 5 (.nd (.nd .nil 2023119618136 5 .nil) 2023122839156 6 .nil)) 2023140554766 7 (.nd (.nd (.nd .nil 2049056543538 1 .nil) 2049056543548 1 .nil) 2049056543558 1 (.nd (.nd .nil 2049056543878 3 .nil) 2049056543998 3 .nil))) 2049056544008 2 (.nd (.nd (.nd (.nd .nil 2049056544108 3 .nil) 2049056544118 2 (.nd .nil 2049056544228 2 .nil)) 2049056544338 1 (.nd (.nd .nil 2049056547738 6 .nil) 2049056547858 5 .nil)) 2049056549068 5 (.nd (.nd (.nd .nil 2049056549178 4 .nil) 2049056550388 4 .nil) 2049056551598 3 (.nd (.nd .nil 2049056575688 9 .nil) 2049056590318 8 .nil))))
def kTr_13 : KTr := .nd kTr_11 1815619798070 4 kTr_12
def kTr_14 : KTr := .nd kTr_10 1763744905066 8 kTr_13
def kTr_15 : KTr := .nd kTr_7 1478433202654 2 kTr_14
def kTr_16 : KTr := .nd (.nd (.nd (.nd (.nd (.nd .nil 2049056604838 7 .nil) 2049056618148 6 (.nd .nil 2049056897658 12 .nil)) 2049057057378 11 (.nd (.nd .nil 2049057203788 10 .nil) 2049060424808 16 .nil)) 2049062035318 15 (.nd (.nd (.nd .nil 2049097466538 21 .nil) 2049292338248 27 (.nd .nil 2074993968140 1 .nil)) 2074993968150 1 (.nd (.nd .nil 2074993968160 1 .nil) 2074993968600 4 .nil))) 2074993968610 3 (.nd (.nd (.nd (.nd .nil 2074993968720 3 .nil) 2074993968730 2 (.nd .nil 2074993968830 2 .nil)) 2074993968840 2 (.nd (.nd .nil 2074993968950 1 .nil) 2074993972460 8 .nil)) 2074993972470 7 (.nd (.nd (.nd .nil 2074993973670 7 .nil) 2074993973790 6 .nil) 2074993973900 4 (.nd (.nd .nil 2074993975000 5 .nil) 2074993975110 4 .nil)))) 2074993976320 3 (.nd (.nd (.nd (.nd (.nd .nil 2074993977530 1 .nil) 2074994000290 15 (.nd .nil 2074994014930 13 .nil)) 2074994016250 11 (.nd (.nd .nil 2074994029560 10 .nil) 2074994030770 8 .nil)) 2074994044080 7 (.nd (.nd (.nd .nil 2074994057390 4 .nil) 2074994322380 21 (.nd .nil 2074994483310 18 .nil)) 2074994496620 15 (.nd (.nd .nil 2074994643030 14 .nil) 2074994789440 10 .nil))) 2074997864050 29 (.nd (.nd (.nd (.nd .nil 2074999620970 25 .nil) 2075001231480 20 (.nd .nil 2075036662700 40 .nil)) 2075054378310 35 (.nd (.nd .nil 2075444121730 55 .nil) 2077587710540 75 .nil)) 2308430789548 1 (.nd (.nd (.nd .nil 2308430789558 1 .nil) 2308430789568 1 .nil) 2308430789578 1 (.nd (.nd .nil 2308430789888 2 .nil) 2308430790008 2 .nil))))
def kTr_17 : KTr := .nd (.nd (.nd (.nd (.nd (.nd .nil 2308430790118 2 .nil) 2308430790128 2 (.nd .nil 2308430790238 2 .nil)) 2308430790348 2 (.nd (.nd .nil 2308430793748 3 .nil) 2308430793868 3 .nil)) 2308430795078 3 (.nd (.nd (.nd .nil 2308430795188 3 .nil) 2308430796398 3 (.nd .nil 2308430797608 3 .nil)) 2308430821698 4 (.nd (.nd .nil 2308430836328 4 .nil) 2308430837538 4 .nil))) 2308430850848 4 (.nd (.nd (.nd (.nd .nil 2308430864158 4 .nil) 2308431143668 5 (.nd .nil 2308431303388 5 .nil)) 2308431449798 5 (.nd (.nd .nil 2308434670818 6 .nil) 2308436281328 6 .nil)) 2308471712548 7 (.nd (.nd (.nd .nil 2308666584258 8 .nil) 2334368214150 1 .nil) 2334368214160 1 (.nd (.nd .nil 2334368214170 1 .nil) 2334368214180 1 .nil)))) 2334368214610 3 (.nd (.nd (.nd (.nd (.nd .nil 2334368214620 3 .nil) 2334368214730 3 (.nd .nil 2334368214740 2 .nil)) 2334368214840 3 (.nd (.nd .nil 2334368214850 2 .nil) 2334368214960 2 .nil)) 2334368215070 1 (.nd (.nd (.nd .nil 2334368218470 6 .nil) 2334368218480 5 (.nd .nil 2334368219680 6 .nil)) 2334368219800 5 (.nd (.nd .nil 2334368219910 4 .nil) 2334368221010 5 .nil))) 2334368221120 4 (.nd (.nd (.nd (.nd .nil 2334368222330 4 .nil) 2334368223540 3 (.nd .nil 2334368246300 10 .nil)) 2334368260940 9 (.nd (.nd .nil 2334368262260 8 .nil) 2334368275570 8 .nil)) 2334368276780 7 (.nd (.nd (.nd .nil 2334368290090 7 .nil) 2334368303400 6 .nil) 2334368568390 13 (.nd (.nd .nil 2334368729320 12 .nil) 2334368742630 11 .nil))))
def kTr_18 : KTr := .nd kTr_16 2308430790018 2 kTr_17
def kTr_19 : KTr := .nd (.nd (.nd (.nd (.nd (.nd .nil 2334369035450 10 .nil) 2334372110060 17 (.nd .nil 2334373866980 16 .nil)) 2334375477490 15 (.nd (.nd .nil 2334410908710 22 .nil) 2334428624320 21 .nil)) 2334818367740 28 (.nd (.nd (.nd .nil 2336961956550 35 .nil) 2593742460160 1 (.nd .nil 2593742460170 1 .nil)) 2593742460180 1 (.nd (.nd .nil 2593742460190 1 .nil) 2593742460200 1 .nil))) 2593742460620 2 (.nd (.nd (.nd (.nd .nil 2593742460630 2 .nil) 2593742460740 2 (.nd .nil 2593742460750 2 .nil)) 2593742460850 2 (.nd (.nd .nil 2593742460860 2 .nil) 2593742460970 2 .nil)) 2593742461080 2 (.nd (.nd (.nd .nil 2593742464480 3 .nil) 2593742464490 3 .nil) 2593742465690 3 (.nd (.nd .nil 2593742465810 3 .nil) 2593742465920 3 .nil)))) 2593742467020 3 (.nd (.nd (.nd (.nd (.nd .nil 2593742467130 3 .nil) 2593742468340 3 (.nd .nil 2593742469550 3 .nil)) 2593742492310 4 (.nd (.nd .nil 2593742506950 4 .nil) 2593742508270 4 .nil)) 2593742521580 4 (.nd (.nd (.nd .nil 2593742522790 4 .nil) 2593742536100 4 (.nd .nil 2593742549410 4 .nil)) 2593742814400 5 (.nd (.nd .nil 2593742975330 5 .nil) 2593742988640 5 .nil))) 2593743135050 5 (.nd (.nd (.nd (.nd .nil 2593743281460 5 .nil) 2593746356070 6 (.nd .nil 2593748112990 6 .nil)) 2593749723500 6 (.nd (.nd .nil 2593785154720 7 .nil) 2593802870330 7 .nil)) 2594192613750 8 (.nd (.nd (.nd .nil 2596336202560 9 .nil) 3449677472066 1 .nil) 6588105848908 1 (.nd (.nd .nil 6588105850118 3 .nil) 6873417519530 1 .nil))))
def kTr_20 : KTr := .nd (.nd (.nd (.nd (.nd (.nd .nil 6873417535370 5 .nil) 6899354944132 1 (.nd .nil 6899354946782 1 .nil)) 6899354974612 2 (.nd (.nd .nil 6899355121022 5 .nil) 9726534225640 1 .nil)) 9726534225750 1 (.nd (.nd (.nd .nil 9726534228170 3 .nil) 9726534241480 6 (.nd .nil 10011845896252 2 .nil)) 10011845896372 1 (.nd (.nd .nil 10011845898902 4 .nil) 10011845900112 2 .nil))) 10011845926732 8 (.nd (.nd (.nd (.nd .nil 10011846073142 16 .nil) 10037783320974 1 (.nd .nil 10037783323514 3 .nil)) 10037783324834 1 (.nd (.nd .nil 10037783352664 5 .nil) 10037783365974 2 .nil)) 10037783658794 10 (.nd (.nd (.nd .nil 10037785269304 21 .nil) 10297157566984 1 .nil) 10297157566994 1 (.nd (.nd .nil 10297157569524 3 .nil) 10297157570844 2 .nil)))) 10297157598674 6 (.nd (.nd (.nd (.nd (.nd .nil 10297157611984 3 .nil) 10297157904804 11 (.nd .nil 10297159515314 21 .nil)) 10323094991596 1 (.nd (.nd .nil 10323094994126 3 .nil) 10323094995456 2 .nil)) 10323094995566 1 (.nd (.nd (.nd .nil 10323095023396 6 .nil) 10323095037916 3 .nil) 10323095344046 11 (.nd (.nd .nil 10323095490456 5 .nil) 10323098711476 21 .nil))) 10323116427086 42 (.nd (.nd (.nd (.nd .nil 10349032416198 1 .nil) 10349032420058 1 (.nd .nil 10349032420178 1 .nil)) 10349032448008 3 (.nd (.nd .nil 10349032462638 2 .nil) 10349032463848 1 .nil)) 10349032769978 6 (.nd (.nd (.nd .nil 10349032929698 3 .nil) 10349036297128 11 .nil) 10349037907638 5 (.nd (.nd .nil 10349073338858 21 .nil) 10349268210568 42 .nil))))
def kTr_21 : KTr := .nd kTr_19 6873417522060 2 kTr_20
def kTr_22 : KTr := .nd kTr_18 2334368889040 11 kTr_21
def kTr_23 : KTr := .nd (.nd (.nd (.nd (.nd (.nd .nil 12864962602482 1 .nil) 12864962602592 1 (.nd .nil 12864962605012 3 .nil)) 12864962606222 3 (.nd (.nd .nil 12864962632842 6 .nil) 12864962779252 10 .nil)) 13150274273094 2 (.nd (.nd (.nd .nil 13150274273104 1 .nil) 13150274273214 1 (.nd .nil 13150274275634 6 .nil)) 13150274276954 4 (.nd (.nd .nil 13150274278164 2 .nil) 13150274304784 11 .nil))) 13150274318094 8 (.nd (.nd (.nd (.nd .nil 13150274610914 20 .nil) 13150276221424 35 (.nd .nil 13176211697706 1 .nil)) 13176211697816 1 (.nd (.nd .nil 13176211700236 6 .nil) 13176211701566 3 .nil)) 13176211701676 1 (.nd (.nd (.nd .nil 13176211702886 1 .nil) 13176211729506 9 .nil) 13176211744026 5 (.nd (.nd .nil 13176211757336 2 .nil) 13176212050156 16 .nil)))) 13176212196566 10 (.nd (.nd (.nd (.nd (.nd .nil 13176215417586 30 .nil) 13176233133196 56 (.nd .nil 13435585943716 2 .nil)) 13435585943826 1 (.nd (.nd .nil 13435585943836 1 .nil) 13435585946246 7 .nil)) 13435585947576 5 (.nd (.nd (.nd .nil 13435585947686 4 .nil) 13435585948896 2 (.nd .nil 13435585975516 13 .nil)) 13435585990036 9 (.nd (.nd .nil 13435586003346 3 .nil) 13435586296166 23 .nil))) 13435586442576 15 (.nd (.nd (.nd (.nd .nil 13435589663596 40 .nil) 13435607379206 70 (.nd .nil 13461523368318 2 .nil)) 13461523368438 1 (.nd (.nd .nil 13461523372178 6 .nil) 13461523372298 4 .nil)) 13461523373508 2 (.nd (.nd (.nd .nil 13461523373618 1 .nil) 13461523400128 16 .nil) 13461523414758 10 (.nd (.nd .nil 13461523415968 6 .nil) 13461523429278 3 .nil))))
def kTr_24 : KTr := .nd (.nd (.nd (.nd (.nd (.nd .nil 13461523881818 17 .nil) 13461524028228 5 (.nd .nil 13461527249248 50 .nil)) 13461528859758 30 (.nd (.nd .nil 13461564290978 91 .nil) 13461759162688 168 .nil)) 13487460793040 1 (.nd (.nd (.nd .nil 13487460796900 3 .nil) 13487460796910 3 (.nd .nil 13487460798110 1 .nil)) 13487460798230 1 (.nd (.nd .nil 13487460824730 10 .nil) 13487460839370 7 .nil))) 13487460840690 5 (.nd (.nd (.nd (.nd .nil 13487460854000 2 .nil) 13487460855210 1 (.nd .nil 13487461146820 19 .nil)) 13487461307750 12 (.nd (.nd .nil 13487461321060 7 .nil) 13487461467470 3 .nil)) 13487464688490 34 (.nd (.nd (.nd .nil 13487466445410 20 .nil) 13487468055920 5 .nil) 13487503487140 61 (.nd (.nd .nil 13487521202750 35 .nil) 13487910946170 112 .nil)))) 13490054534980 210 (.nd (.nd (.nd (.nd (.nd .nil 13720897614328 1 .nil) 13720897614448 1 (.nd .nil 13720897614458 1 .nil)) 13720897618188 4 (.nd (.nd .nil 13720897618308 3 .nil) 13720897619518 2 .nil)) 13720897619628 2 (.nd (.nd (.nd .nil 13720897646138 10 .nil) 13720897660768 7 (.nd .nil 13720897661978 6 .nil)) 13720897675288 3 (.nd (.nd .nil 13720897968108 17 .nil) 13720898127828 12 .nil))) 13720898274238 4 (.nd (.nd (.nd (.nd .nil 13720901495258 29 .nil) 13720903105768 19 (.nd .nil 13720938536988 49 .nil)) 13721133408698 84 (.nd (.nd .nil 13746835039050 1 .nil) 13746835039060 1 .nil)) 13746835042910 4 (.nd (.nd (.nd .nil 13746835042920 3 .nil) 13746835044120 3 .nil) 13746835044240 2 (.nd (.nd .nil 13746835044350 1 .nil) 13746835070740 16 .nil))))
def kTr_25 : KTr := .nd kTr_23 13461523722098 28 kTr_24
def kTr_26 : KTr := .nd (.nd (.nd (.nd (.nd (.nd .nil 13746835086700 7 .nil) 13746835100010 4 (.nd .nil 13746835101220 3 .nil)) 13746835392830 26 (.nd (.nd .nil 13746835553760 17 .nil) 13746835567070 12 .nil)) 13746835713480 6 (.nd (.nd (.nd .nil 13746838934500 45 .nil) 13746840691420 29 (.nd .nil 13746842301930 9 .nil)) 13746877733150 79 (.nd (.nd .nil 13746895448760 49 .nil) 13747285192180 140 .nil))) 13749428780990 252 (.nd (.nd (.nd (.nd .nil 16003390979204 1 .nil) 16003390979214 1 (.nd .nil 16003390979324 1 .nil)) 16003390979434 1 (.nd (.nd .nil 16003390981744 3 .nil) 16003390983064 3 .nil)) 16003390984274 3 (.nd (.nd (.nd .nil 16003391010894 6 .nil) 16003391024204 6 .nil) 16003391317024 10 (.nd (.nd .nil 16003392927534 15 .nil) 16288702649826 2 .nil)))) 16288702649936 2 (.nd (.nd (.nd (.nd (.nd .nil 16288702649946 1 .nil) 16288702650056 1 (.nd .nil 16288702652356 8 .nil)) 16288702653686 6 (.nd (.nd .nil 16288702653796 4 .nil) 16288702655006 4 .nil)) 16288702656216 2 (.nd (.nd (.nd .nil 16288702681626 14 .nil) 16288702696146 11 (.nd .nil 16288702709456 8 .nil)) 16288703002276 24 (.nd (.nd .nil 16288703148686 20 .nil) 16288706369706 40 .nil))) 16288724085316 64 (.nd (.nd (.nd (.nd .nil 16314640074428 1 .nil) 16314640074548 1 (.nd .nil 16314640074658 1 .nil)) 16314640078288 6 (.nd (.nd .nil 16314640078408 3 .nil) 16314640079618 3 .nil)) 16314640079728 1 (.nd (.nd (.nd .nil 16314640080938 1 .nil) 16314640106238 14 .nil) 16314640120868 9 (.nd (.nd .nil 16314640122078 5 .nil) 16314640135388 5 .nil))))
def kTr_27 : KTr := .nd (.nd (.nd (.nd (.nd (.nd .nil 16314640428208 23 .nil) 16314640587928 16 (.nd .nil 16314640734338 10 .nil)) 16314643955358 40 (.nd (.nd .nil 16314645565868 30 .nil) 16314680997088 70 .nil)) 16314875868798 120 (.nd (.nd (.nd .nil 16574014320438 3 .nil) 16574014320558 2 (.nd .nil 16574014320568 1 .nil)) 16574014320668 1 (.nd (.nd .nil 16574014320678 1 .nil) 16574014324298 9 .nil))) 16574014324418 7 (.nd (.nd (.nd (.nd .nil 16574014325628 5 .nil) 16574014325738 4 (.nd .nil 16574014326948 2 .nil)) 16574014352248 21 (.nd (.nd .nil 16574014366878 16 .nil) 16574014368088 12 .nil)) 16574014381398 9 (.nd (.nd (.nd .nil 16574014394708 3 .nil) 16574014674218 36 .nil) 16574014833938 27 (.nd (.nd .nil 16574014980348 15 .nil) 16574018201368 60 .nil)))) 16574019811878 45 (.nd (.nd (.nd (.nd (.nd .nil 16574055243098 99 .nil) 16574250114808 162 (.nd .nil 16599951745160 2 .nil)) 16599951745170 1 (.nd (.nd .nil 16599951745280 1 .nil) 16599951749020 9 .nil)) 16599951749030 6 (.nd (.nd (.nd .nil 16599951750230 6 .nil) 16599951750350 4 .nil) 16599951750460 1 (.nd (.nd .nil 16599951751560 2 .nil) 16599951751670 1 .nil))) 16599951776850 30 (.nd (.nd (.nd (.nd .nil 16599951791490 21 .nil) 16599951792810 14 (.nd .nil 16599951806120 10 .nil)) 16599951807330 6 (.nd (.nd .nil 16599951820640 3 .nil) 16599952098940 51 .nil)) 16599952259870 35 (.nd (.nd (.nd .nil 16599952273180 23 .nil) 16599952419590 17 .nil) 16599952566000 5 (.nd (.nd .nil 16599955640610 87 .nil) 16599957397530 60 .nil))))
def kTr_28 : KTr := .nd kTr_26 16314640148698 2 kTr_27
def kTr_29 : KTr := .nd kTr_25 13746835085380 10 kTr_28
def kTr_30 : KTr := .nd kTr_22 12864962602362 1 kTr_29
def kTr_31 : KTr := .nd kTr_15 2049056591528 7 kTr_30
def kTr_32 : KTr := .nd (.nd (.nd (.nd (.nd (.nd .nil 16599994439260 150 .nil) 16600012154870 105 (.nd .nil 16600401898290 260 .nil)) 16602545487100 450 (.nd (.nd .nil 16859325991170 2 .nil) 16859325991180 2 .nil)) 16859325991290 1 (.nd (.nd (.nd .nil 16859325991300 1 .nil) 16859325995030 8 (.nd .nil 16859325995040 6 .nil)) 16859325996240 6 (.nd (.nd .nil 16859325996360 5 .nil) 16859325996470 4 .nil))) 16859325997570 2 (.nd (.nd (.nd (.nd .nil 16859325997680 2 .nil) 16859326022860 24 (.nd .nil 16859326037500 18 .nil)) 16859326038820 14 (.nd (.nd .nil 16859326052130 10 .nil) 16859326053340 9 .nil)) 16859326066650 3 (.nd (.nd (.nd .nil 16859326344950 40 .nil) 16859326505880 30 .nil) 16859326519190 24 (.nd (.nd .nil 16859326665600 16 .nil) 16859326812010 4 .nil)))) 16859329886620 66 (.nd (.nd (.nd (.nd (.nd .nil 16859331643540 49 .nil) 16859333254050 24 (.nd .nil 16859368685270 108 .nil)) 16859386400880 78 (.nd (.nd .nil 16859776144300 176 .nil) 16861919733110 288 .nil)) 19141819355936 1 (.nd (.nd (.nd .nil 19141819356046 1 .nil) 19141819356056 1 (.nd .nil 19141819356166 1 .nil)) 19141819356276 1 (.nd (.nd .nil 19141819358466 3 .nil) 19141819359796 3 .nil))) 19141819359906 3 (.nd (.nd (.nd (.nd .nil 19141819361116 3 .nil) 19141819362326 3 (.nd .nil 19141819387736 6 .nil)) 19141819402256 6 (.nd (.nd .nil 19141819415566 6 .nil) 19141819708386 10 .nil)) 19141819854796 10 (.nd (.nd (.nd .nil 19141823075816 15 .nil) 19141840791426 21 .nil) 19427131026548 2 (.nd (.nd .nil 19427131026668 2 .nil) 19427131026678 1 .nil))))
def kTr_33 : KTr := .nd (.nd (.nd (.nd (.nd (.nd .nil 19427131026788 1 .nil) 19427131026898 1 (.nd .nil 19427131030408 8 .nil)) 19427131030528 6 (.nd (.nd .nil 19427131031738 6 .nil) 19427131031848 4 .nil)) 19427131033058 4 (.nd (.nd (.nd .nil 19427131034268 2 .nil) 19427131058358 17 (.nd .nil 19427131072988 14 .nil)) 19427131074198 11 (.nd (.nd .nil 19427131087508 11 .nil) 19427131100818 8 .nil))) 19427131380328 28 (.nd (.nd (.nd (.nd .nil 19427131540048 24 .nil) 19427131686458 20 (.nd .nil 19427134907478 45 .nil)) 19427136517988 40 (.nd (.nd .nil 19427171949208 70 .nil) 19427366820918 105 .nil)) 19453068451270 1 (.nd (.nd (.nd .nil 19453068451280 1 .nil) 19453068451390 1 .nil) 19453068451500 1 (.nd (.nd .nil 19453068455130 6 .nil) 19453068455140 3 .nil)))) 19453068456340 6 (.nd (.nd (.nd (.nd (.nd .nil 19453068456460 3 .nil) 19453068456570 1 (.nd .nil 19453068457670 3 .nil)) 19453068457780 1 (.nd (.nd .nil 19453068458990 1 .nil) 19453068482960 20 .nil)) 19453068497600 14 (.nd (.nd (.nd .nil 19453068498920 9 .nil) 19453068512230 9 (.nd .nil 19453068513440 5 .nil)) 19453068526750 5 (.nd (.nd .nil 19453068540060 2 .nil) 19453068805050 31 .nil))) 19453068965980 23 (.nd (.nd (.nd (.nd .nil 19453068979290 16 .nil) 19453069125700 16 (.nd .nil 19453069272110 10 .nil)) 19453072346720 51 (.nd (.nd .nil 19453074103640 40 .nil) 19453075714150 30 .nil)) 19453111145370 85 (.nd (.nd (.nd .nil 19453128860980 70 .nil) 19453518604400 140 .nil) 19455662193210 225 (.nd (.nd .nil 19712442697280 3 .nil) 19712442697290 2 .nil))))
def kTr_34 : KTr := .nd kTr_32 19427131026778 2 kTr_33
def kTr_35 : KTr := .nd (.nd (.nd (.nd (.nd (.nd .nil 19712442697410 1 .nil) 19712442697510 1 (.nd .nil 19712442697520 1 .nil)) 19712442701140 11 (.nd (.nd .nil 19712442701150 9 .nil) 19712442702350 9 .nil)) 19712442702470 7 (.nd (.nd (.nd .nil 19712442702580 4 .nil) 19712442703680 5 (.nd .nil 19712442703790 4 .nil)) 19712442705000 2 (.nd (.nd .nil 19712442728970 30 .nil) 19712442743610 24 .nil))) 19712442744930 19 (.nd (.nd (.nd (.nd .nil 19712442758240 16 .nil) 19712442759450 12 (.nd .nil 19712442772760 9 .nil)) 19712442786070 3 (.nd (.nd .nil 19712443051060 50 .nil) 19712443211990 40 .nil)) 19712443225300 31 (.nd (.nd (.nd .nil 19712443371710 27 .nil) 19712443518120 15 .nil) 19712446592730 81 (.nd (.nd .nil 19712448349650 65 .nil) 19712449960160 45 .nil)))) 19712485391380 129 (.nd (.nd (.nd (.nd (.nd .nil 19712503106990 105 .nil) 19712892850410 203 (.nd .nil 19715036439220 315 .nil)) 22280247732658 1 (.nd (.nd .nil 22280247732778 1 .nil) 22280247732788 1 .nil)) 22280247732888 1 (.nd (.nd (.nd .nil 22280247732898 1 .nil) 22280247733008 1 (.nd .nil 22280247733118 1 .nil)) 22280247736518 3 (.nd (.nd .nil 22280247736638 3 .nil) 22280247737848 3 .nil))) 22280247737958 3 (.nd (.nd (.nd (.nd .nil 22280247739168 3 .nil) 22280247740378 3 (.nd .nil 22280247764468 6 .nil)) 22280247779098 6 (.nd (.nd .nil 22280247780308 6 .nil) 22280247793618 6 .nil)) 22280247806928 6 (.nd (.nd (.nd .nil 22280248086438 10 .nil) 22280248246158 10 .nil) 22280248392568 10 (.nd (.nd .nil 22280251613588 15 .nil) 22280253224098 15 .nil))))
def kTr_36 : KTr := .nd (.nd (.nd (.nd (.nd (.nd .nil 22280483527028 28 .nil) 22565559403390 2 (.nd .nil 22565559403400 2 .nil)) 22565559403510 2 (.nd (.nd .nil 22565559403520 1 .nil) 22565559403620 2 .nil)) 22565559403630 1 (.nd (.nd (.nd .nil 22565559403740 1 .nil) 22565559407250 8 (.nd .nil 22565559407260 6 .nil)) 22565559408460 8 (.nd (.nd .nil 22565559408580 6 .nil) 22565559408690 4 .nil))) 22565559409790 6 (.nd (.nd (.nd (.nd .nil 22565559409900 4 .nil) 22565559411110 4 (.nd .nil 22565559412320 2 .nil)) 22565559435080 20 (.nd (.nd .nil 22565559449720 17 .nil) 22565559451040 14 .nil)) 22565559464350 14 (.nd (.nd (.nd .nil 22565559465560 11 .nil) 22565559478870 11 .nil) 22565559492180 8 (.nd (.nd .nil 22565559757170 32 .nil) 22565559918100 28 .nil)))) 22565559931410 24 (.nd (.nd (.nd (.nd (.nd .nil 22565560077820 24 .nil) 22565560224230 20 (.nd .nil 22565563298840 50 .nil)) 22565565055760 45 (.nd (.nd .nil 22565566666270 40 .nil) 22565602097490 76 .nil)) 22565619813100 70 (.nd (.nd (.nd .nil 22566009556520 112 .nil) 22568153145330 160 .nil) 25418676109500 1 (.nd (.nd .nil 25418676109510 1 .nil) 25418676109620 1 .nil))) 25418676109630 1 (.nd (.nd (.nd (.nd .nil 25418676109730 1 .nil) 25418676109740 1 (.nd .nil 25418676109850 1 .nil)) 25418676109960 1 (.nd (.nd .nil 25418676113360 3 .nil) 25418676113370 3 .nil)) 25418676114570 3 (.nd (.nd (.nd .nil 25418676114690 3 .nil) 25418676114800 3 .nil) 25418676115900 3 (.nd (.nd .nil 25418676116010 3 .nil) 25418676117220 3 .nil))))
def kTr_37 : KTr := .nd kTr_35 22280288655318 21 kTr_36
def kTr_38 : KTr := .nd kTr_34 19712442697400 2 kTr_37
def kTr_39 : KTr := .nd (.nd (.nd (.nd (.nd (.nd .nil 25418676141190 6 .nil) 25418676155830 6 (.nd .nil 25418676157150 6 .nil)) 25418676170460 6 (.nd (.nd .nil 25418676171670 6 .nil) 25418676184980 6 .nil)) 25418676198290 6 (.nd (.nd (.nd .nil 25418676463280 10 .nil) 25418676624210 10 (.nd .nil 25418676637520 10 .nil)) 25418676783930 10 (.nd (.nd .nil 25418676930340 10 .nil) 25418680004950 15 .nil))) 25418681761870 15 (.nd (.nd (.nd (.nd .nil 25418683372380 15 .nil) 25418718803600 21 (.nd .nil 25418736519210 21 .nil)) 25419126262630 28 (.nd (.nd .nil 25421269851440 36 .nil) 37972389617328 1 .nil)) 72495101762590 1 (.nd (.nd (.nd .nil 72495101775900 4 .nil) 75633530139432 1 .nil) 75633530167262 3 (.nd (.nd .nil 75633530313672 9 .nil) 75918841810054 1 .nil)))) 75918841839204 2 (.nd (.nd (.nd (.nd (.nd .nil 75918842145334 5 .nil) 75918843755844 14 (.nd .nil 75944779234656 1 .nil)) 75944779263926 1 (.nd (.nd .nil 75944779584576 2 .nil) 75944782952006 5 .nil)) 75944800667616 14 (.nd (.nd (.nd .nil 107017813906642 1 .nil) 107017813907852 1 (.nd .nil 107017813934472 4 .nil)) 107017814080882 10 (.nd (.nd .nil 110156242283374 2 .nil) 110156242284694 1 .nil))) 110156242312524 6 (.nd (.nd (.nd (.nd .nil 110156242325834 3 .nil) 110156242618654 15 (.nd .nil 110156244229164 35 .nil)) 110441553953986 3 (.nd (.nd .nil 110441553955316 1 .nil) 110441553983256 6 .nil)) 110441553997776 2 (.nd (.nd (.nd .nil 110441554303906 13 .nil) 110441554450316 5 .nil) 110441557671336 30 (.nd (.nd .nil 110441575386946 70 .nil) 110467491379918 1 .nil))))
def kTr_40 : KTr := .nd (.nd (.nd (.nd (.nd (.nd .nil 110467491422498 1 .nil) 110467491729838 7 (.nd .nil 110467491889558 2 .nil)) 110467495256988 15 (.nd (.nd .nil 110467496867498 5 .nil) 110467532298718 35 .nil)) 110467727170428 84 (.nd (.nd (.nd .nil 113294670660096 2 .nil) 113294670661426 1 (.nd .nil 113294670661536 1 .nil)) 113294670689366 5 (.nd (.nd .nil 113294670703886 3 .nil) 113294671010016 12 .nil))) 113294671156426 6 (.nd (.nd (.nd (.nd .nil 113294674377446 26 .nil) 113294692093056 56 (.nd .nil 113579982332038 2 .nil)) 113579982332158 1 (.nd (.nd .nil 113579982359988 8 .nil) 113579982374618 4 .nil)) 113579982375828 2 (.nd (.nd (.nd .nil 113579982681958 17 .nil) 113579982841678 8 .nil) 113579986209108 36 (.nd (.nd .nil 113579987819618 16 .nil) 113580023250838 77 .nil)))) 113580218122548 168 (.nd (.nd (.nd (.nd (.nd .nil 113605919756760 1 .nil) 113605919784590 6 (.nd .nil 113605919799230 3 .nil)) 113605919800550 1 (.nd (.nd .nil 113605920106680 12 .nil) 113605920267610 5 .nil)) 113605920280920 2 (.nd (.nd (.nd .nil 113605923648350 24 .nil) 113605925405270 10 (.nd .nil 113605962447000 51 .nil)) 113605980162610 21 (.nd (.nd .nil 113606369906030 112 .nil) 113608513494840 252 .nil))) 113865294002770 1 (.nd (.nd (.nd (.nd .nil 113865294002780 1 .nil) 113865294030600 5 (.nd .nil 113865294045240 3 .nil)) 113865294046560 2 (.nd (.nd .nil 113865294352690 11 .nil) 113865294513620 6 .nil)) 113865294526930 3 (.nd (.nd (.nd .nil 113865297894360 23 .nil) 113865299651280 11 .nil) 113865336693010 47 (.nd (.nd .nil 113865354408620 21 .nil) 113865744152040 98 .nil))))
def kTr_41 : KTr := .nd kTr_39 110467491407868 4 kTr_40
def kTr_42 : KTr := .nd (.nd (.nd (.nd (.nd (.nd .nil 141540526050584 1 .nil) 141540526051904 1 (.nd .nil 141540526053114 1 .nil)) 141540526079734 4 (.nd (.nd .nil 141540526093044 4 .nil) 141540526385864 10 .nil)) 141540527996374 20 (.nd (.nd (.nd .nil 144678954427306 3 .nil) 144678954428636 2 (.nd .nil 144678954428746 1 .nil)) 144678954429956 1 (.nd (.nd .nil 144678954456576 9 .nil) 144678954471096 6 .nil))) 144678954484406 3 (.nd (.nd (.nd (.nd .nil 144678954777226 21 .nil) 144678954923636 15 (.nd .nil 144678958144656 45 .nil)) 144678975860266 90 (.nd (.nd .nil 144964266099248 3 .nil) 144964266099368 1 .nil)) 144964266100578 1 (.nd (.nd (.nd .nil 144964266127198 12 .nil) 144964266141828 6 .nil) 144964266143038 2 (.nd (.nd .nil 144964266156348 2 .nil) 144964266449168 24 .nil)))) 144964266608888 13 (.nd (.nd (.nd (.nd (.nd .nil 144964266755298 5 .nil) 144964269976318 50 (.nd .nil 144964271586828 30 .nil)) 144964307018048 105 (.nd (.nd .nil 144964501889758 216 .nil) 144990203523970 1 .nil)) 144990203525180 1 (.nd (.nd (.nd .nil 144990203551800 10 .nil) 144990203566440 4 (.nd .nil 144990203567760 1 .nil)) 144990203581070 1 (.nd (.nd .nil 144990203873890 16 .nil) 144990204034820 7 .nil))) 144990204048130 2 (.nd (.nd (.nd (.nd .nil 144990204194540 2 .nil) 144990207415560 31 (.nd .nil 144990209172480 15 .nil)) 144990210782990 5 (.nd (.nd .nil 144990246214210 65 .nil) 144990263929820 35 .nil)) 144990653673240 140 (.nd (.nd (.nd .nil 144992797262050 300 .nil) 147817382805358 3 .nil) 147817382805478 2 (.nd (.nd .nil 147817382806688 1 .nil) 147817382806798 1 .nil))))
def kTr_43 : KTr := .nd (.nd (.nd (.nd (.nd (.nd .nil 147817382847938 8 .nil) 147817382849148 6 (.nd .nil 147817382862458 3 .nil)) 147817383155278 27 (.nd (.nd .nil 147817383314998 18 .nil) 147817383461408 6 .nil)) 147817386682428 56 (.nd (.nd (.nd .nil 147817388292938 36 .nil) 147817423724158 111 (.nd .nil 147817618595868 216 .nil)) 148102694476090 4 (.nd (.nd .nil 148102694476100 2 .nil) 148102694477300 2 .nil))) 148102694477420 1 (.nd (.nd (.nd (.nd .nil 148102694503920 24 .nil) 148102694518560 14 (.nd .nil 148102694519880 8 .nil)) 148102694533190 4 (.nd (.nd .nil 148102694534400 2 .nil) 148102694826010 48 .nil)) 148102694986940 28 (.nd (.nd (.nd .nil 148102695000250 16 .nil) 148102695146660 8 .nil) 148102698367680 96 (.nd (.nd .nil 148102700124600 56 .nil) 148102701735110 16 .nil)))) 148102737166330 192 (.nd (.nd (.nd (.nd (.nd .nil 148102754881940 112 .nil) 148103144625360 384 (.nd .nil 148105288214170 768 .nil)) 150955811182200 2 (.nd (.nd .nil 150955811182210 1 .nil) 150955811183410 1 .nil)) 150955811183530 1 (.nd (.nd (.nd .nil 150955811183640 1 .nil) 150955811210030 10 .nil) 150955811224670 7 (.nd (.nd .nil 150955811225990 5 .nil) 150955811239300 3 .nil))) 150955811240510 3 (.nd (.nd (.nd (.nd .nil 150955811532120 22 .nil) 150955811693050 15 (.nd .nil 150955811706360 12 .nil)) 150955811852770 6 (.nd (.nd .nil 150955815073790 44 .nil) 150955816830710 30 .nil)) 150955818441220 10 (.nd (.nd (.nd .nil 150955853872440 85 .nil) 150955871588050 55 .nil) 150956261331470 160 (.nd (.nd .nil 150958404920280 300 .nil) 176063238194516 1 .nil))))
def kTr_44 : KTr := .nd kTr_42 147817382833308 12 kTr_43
def kTr_45 : KTr := .nd kTr_41 113867887740850 210 kTr_44
def kTr_46 : KTr := .nd kTr_38 25418676118430 3 kTr_45
def kTr_47 : KTr := .nd (.nd (.nd (.nd (.nd (.nd .nil 176063238195956 1 .nil) 176063238197166 1 (.nd .nil 176063238198376 1 .nil)) 176063238223786 4 (.nd (.nd .nil 176063238238306 4 .nil) 176063238251616 4 .nil)) 176063238544436 10 (.nd (.nd (.nd .nil 176063238690846 10 .nil) 176063241911866 20 (.nd .nil 176063259627476 35 .nil)) 179201666572568 3 (.nd (.nd .nil 179201666572688 2 .nil) 179201666573898 2 .nil))) 179201666574008 1 (.nd (.nd (.nd (.nd .nil 179201666575218 1 .nil) 179201666600518 12 (.nd .nil 179201666615148 9 .nil)) 179201666616358 6 (.nd (.nd .nil 179201666629668 6 .nil) 179201666642978 3 .nil)) 179201666922488 27 (.nd (.nd (.nd .nil 179201667082208 21 .nil) 179201667228618 15 .nil) 179201670449638 55 (.nd (.nd .nil 179201672060148 45 .nil) 179201707491368 105 .nil)))) 179201902363078 189 (.nd (.nd (.nd (.nd (.nd .nil 179486978243300 3 .nil) 179486978243310 1 (.nd .nil 179486978244510 3 .nil)) 179486978244630 1 (.nd (.nd .nil 179486978245840 1 .nil) 179486978271130 20 .nil)) 179486978285770 12 (.nd (.nd (.nd .nil 179486978287090 6 .nil) 179486978300400 6 (.nd .nil 179486978301610 2 .nil)) 179486978314920 2 (.nd (.nd .nil 179486978593220 38 .nil) 179486978754150 24 .nil))) 179486978767460 13 (.nd (.nd (.nd (.nd .nil 179486978913870 13 .nil) 179486979060280 5 (.nd .nil 179486982134890 74 .nil)) 179486983891810 50 (.nd (.nd .nil 179486985502320 30 .nil) 179487020933540 145 .nil)) 179487038649150 105 (.nd (.nd (.nd .nil 179487428392570 280 .nil) 179489571981380 525 .nil) 182340094949410 4 (.nd (.nd .nil 182340094949420 3 .nil) 182340094950620 3 .nil))))
def kTr_48 : KTr := .nd (.nd (.nd (.nd (.nd (.nd .nil 182340094950850 1 .nil) 182340094951950 1 (.nd .nil 182340094952060 1 .nil)) 182340094977240 21 (.nd (.nd .nil 182340094991880 15 .nil) 182340094993200 11 .nil)) 182340095006510 8 (.nd (.nd (.nd .nil 182340095007720 6 .nil) 182340095021030 3 (.nd .nil 182340095299330 45 .nil)) 182340095460260 33 (.nd (.nd .nil 182340095473570 24 .nil) 182340095619980 18 .nil))) 182340095766390 6 (.nd (.nd (.nd (.nd .nil 182340098841000 90 .nil) 182340100597920 66 (.nd .nil 182340102208430 36 .nil)) 182340137639650 171 (.nd (.nd .nil 182340155355260 126 .nil) 182340545098680 315 .nil)) 182342688687490 567 (.nd (.nd (.nd .nil 210585950339778 1 .nil) 210585950339898 1 .nil) 210585950341108 1 (.nd (.nd .nil 210585950341218 1 .nil) 210585950342428 1 .nil)))) 210585950343638 1 (.nd (.nd (.nd (.nd (.nd .nil 210585950367728 4 .nil) 210585950382358 4 (.nd .nil 210585950383568 4 .nil)) 210585950396878 4 (.nd (.nd .nil 210585950410188 4 .nil) 210585950689698 10 .nil)) 210585950849418 10 (.nd (.nd (.nd .nil 210585950995828 10 .nil) 210585954216848 20 (.nd .nil 210585955827358 20 .nil)) 210585991258578 35 (.nd (.nd .nil 210586186130288 56 .nil) 213724378716620 3 .nil))) 213724378716630 2 (.nd (.nd (.nd (.nd .nil 213724378717830 3 .nil) 213724378717950 2 (.nd .nil 213724378718060 1 .nil)) 213724378719160 2 (.nd (.nd .nil 213724378719270 1 .nil) 213724378720480 1 .nil)) 213724378744450 15 (.nd (.nd (.nd .nil 213724378759090 12 .nil) 213724378760410 9 .nil) 213724378773720 9 (.nd (.nd .nil 213724378774930 6 .nil) 213724378788240 6 .nil))))
def kTr_49 : KTr := .nd kTr_47 182340094950740 2 kTr_48
def kTr_50 : KTr := .nd (.nd (.nd (.nd (.nd (.nd .nil 213724379066540 33 .nil) 213724379227470 27 (.nd .nil 213724379240780 21 .nil)) 213724379387190 21 (.nd (.nd .nil 213724379533600 15 .nil) 213724382608210 65 .nil)) 213724384365130 55 (.nd (.nd (.nd .nil 213724385975640 45 .nil) 213724421406860 120 (.nd .nil 213724439122470 105 .nil)) 213724828865890 210 (.nd (.nd .nil 213726972454700 350 .nil) 245108662483830 1 .nil))) 245108662483840 1 (.nd (.nd (.nd (.nd .nil 245108662485040 1 .nil) 245108662485160 1 (.nd .nil 245108662485270 1 .nil)) 245108662486370 1 (.nd (.nd .nil 245108662486480 1 .nil) 245108662487690 1 .nil)) 245108662488900 1 (.nd (.nd (.nd .nil 245108662511660 4 .nil) 245108662526300 4 .nil) 245108662527620 4 (.nd (.nd .nil 245108662540930 4 .nil) 245108662542140 4 .nil)))) 245108662555450 4 (.nd (.nd (.nd (.nd (.nd .nil 245108662568760 4 .nil) 245108662833750 10 (.nd .nil 245108662994680 10 .nil)) 245108663007990 10 (.nd (.nd .nil 245108663154400 10 .nil) 245108663300810 10 .nil)) 245108666375420 20 (.nd (.nd (.nd .nil 245108668132340 20 .nil) 245108669742850 20 (.nd .nil 245108705174070 35 .nil)) 245108722889680 35 (.nd (.nd .nil 245109112633100 56 .nil) 245111256221910 84 .nil))) 417722223215210 1 (.nd (.nd (.nd (.nd .nil 797472056813092 1 .nil) 797472056959502 5 (.nd .nil 831994768958354 1 .nil)) 831994769264484 4 (.nd (.nd .nil 831994770874994 14 .nil) 835133197335196 1 .nil)) 835133197655846 3 (.nd (.nd (.nd .nil 835133201023276 9 .nil) 835133218738886 28 .nil) 835418509005818 1 (.nd (.nd .nil 835418509327788 2 .nil) 835418512854938 5 .nil))))
def kTr_51 : KTr := .nd (.nd (.nd (.nd (.nd (.nd .nil 835418744768378 42 .nil) 835444446430420 1 (.nd .nil 835444446752510 1 .nil)) 835444450294180 2 (.nd (.nd .nil 835444489092830 5 .nil) 835444896551860 14 .nil)) 835447040140670 42 (.nd (.nd (.nd .nil 1177221890397664 1 .nil) 1177221890410974 1 (.nd .nil 1177221890703794 5 .nil)) 1177221892314304 15 (.nd (.nd .nil 1211744602541716 2 .nil) 1211744602556236 1 .nil))) 1211744602862366 8 (.nd (.nd (.nd (.nd .nil 1211744603008776 4 .nil) 1211744606229796 24 (.nd .nil 1211744623945406 64 .nil)) 1214883030918448 3 (.nd (.nd .nil 1214883030933078 1 .nil) 1214883031240418 9 .nil)) 1214883031400138 3 (.nd (.nd (.nd .nil 1214883034767568 24 .nil) 1214883036378078 9 .nil) 1214883071809298 63 (.nd (.nd .nil 1214883266681008 162 .nil) 1215168342589060 4 .nil)))) 1215168342603700 1 (.nd (.nd (.nd (.nd (.nd .nil 1215168342911150 8 .nil) 1215168343072080 2 (.nd .nil 1215168346452820 18 .nil)) 1215168348209740 5 (.nd (.nd .nil 1215168385251470 44 .nil) 1215168402967080 14 .nil)) 1215168792710500 112 (.nd (.nd (.nd .nil 1215170936299310 288 .nil) 1246267314685658 2 .nil) 1246267314700288 1 (.nd (.nd .nil 1246267314701498 1 .nil) 1246267315007628 7 .nil))) 1246267315167348 4 (.nd (.nd (.nd (.nd .nil 1246267318534778 20 .nil) 1246267320145288 10 (.nd .nil 1246267355576508 50 .nil)) 1246267550448218 120 (.nd (.nd .nil 1249405743062380 5 .nil) 1249405743077020 2 .nil)) 1249405743078340 1 (.nd (.nd (.nd .nil 1249405743384470 13 .nil) 1249405743545400 6 .nil) 1249405743558710 3 (.nd (.nd .nil 1249405746926140 33 .nil) 1249405748683060 15 .nil))))
def kTr_52 : KTr := .nd kTr_50 835418549896668 14 kTr_51
def kTr_53 : KTr := .nd kTr_49 213724378801550 3 kTr_52
def kTr_54 : KTr := .nd (.nd (.nd (.nd (.nd (.nd .nil 1249405803440400 35 .nil) 1249406193183820 190 (.nd .nil 1249408336772630 450 .nil)) 1556971723981026 1 (.nd (.nd .nil 1556971723995546 1 .nil) 1556971724008856 1 .nil)) 1556971724301676 5 (.nd (.nd (.nd .nil 1556971724448086 5 .nil) 1556971727669106 15 (.nd .nil 1556971745384716 35 .nil)) 1591494436124968 3 (.nd (.nd .nil 1591494436139598 2 .nil) 1591494436140808 1 .nil))) 1591494436154118 1 (.nd (.nd (.nd (.nd .nil 1591494436446938 12 .nil) 1591494436606658 8 (.nd .nil 1591494436753068 4 .nil)) 1591494439974088 34 (.nd (.nd .nil 1591494441584598 24 .nil) 1591494477015818 84 .nil)) 1591494671887528 189 (.nd (.nd (.nd .nil 1594632864501690 6 .nil) 1594632864516330 3 .nil) 1594632864517650 1 (.nd (.nd .nil 1594632864530960 1 .nil) 1594632864823780 18 .nil)))) 1594632864984710 9 (.nd (.nd (.nd (.nd (.nd .nil 1594632864998020 3 .nil) 1594632865144430 3 (.nd .nil 1594632868365450 45 .nil)) 1594632870122370 24 (.nd (.nd .nil 1594632871732880 9 .nil) 1594632907164100 108 .nil)) 1594632924879710 63 (.nd (.nd (.nd .nil 1594633314623130 252 .nil) 1594635458211940 567 (.nd .nil 1626017148268900 5 .nil)) 1626017148283540 3 (.nd (.nd .nil 1626017148284860 2 .nil) 1626017148298170 1 .nil))) 1626017148299380 1 (.nd (.nd (.nd (.nd .nil 1626017148590990 17 .nil) 1626017148751920 11 (.nd .nil 1626017148765230 8 .nil)) 1626017148911640 4 (.nd (.nd .nil 1626017152132660 46 .nil) 1626017153889580 30 .nil)) 1626017155500090 10 (.nd (.nd (.nd .nil 1626017190931310 110 .nil) 1626017208646920 70 .nil) 1626017598390340 245 (.nd (.nd .nil 1626019741979150 525 .nil) 1936721557564278 1 .nil))))
def kTr_55 : KTr := .nd (.nd (.nd (.nd (.nd (.nd .nil 1936721557580118 1 .nil) 1936721557593428 1 (.nd .nil 1936721557606738 1 .nil)) 1936721557886248 5 (.nd (.nd .nil 1936721558045968 5 .nil) 1936721558192378 5 .nil)) 1936721561413398 15 (.nd (.nd (.nd .nil 1936721563023908 15 .nil) 1936721598455128 35 (.nd .nil 1936721793326838 70 .nil)) 1971244269708210 4 (.nd (.nd .nil 1971244269722850 3 .nil) 1971244269724170 2 .nil))) 1971244269737480 2 (.nd (.nd (.nd (.nd .nil 1971244269738690 1 .nil) 1971244269752000 1 (.nd .nil 1971244270030300 16 .nil)) 1971244270191230 12 (.nd (.nd .nil 1971244270204540 8 .nil) 1971244270350950 8 .nil)) 1971244270497360 4 (.nd (.nd (.nd .nil 1971244273571970 44 .nil) 1971244275328890 34 .nil) 1971244276939400 24 (.nd (.nd .nil 1971244312370620 104 .nil) 1971244330086230 84 .nil)))) 1971244719829650 224 (.nd (.nd (.nd (.nd (.nd .nil 1971246863418460 448 .nil) 2316471391147520 1 (.nd .nil 2316471391162160 1 .nil)) 2316471391163480 1 (.nd (.nd .nil 2316471391176790 1 .nil) 2316471391178000 1 .nil)) 2316471391191310 1 (.nd (.nd (.nd .nil 2316471391204620 1 .nil) 2316471391469610 5 (.nd .nil 2316471391630540 5 .nil)) 2316471391643850 5 (.nd (.nd .nil 2316471391790260 5 .nil) 2316471391936670 5 .nil))) 2316471395011280 15 (.nd (.nd (.nd (.nd .nil 2316471396768200 15 .nil) 2316471398378710 15 (.nd .nil 2316471433809930 35 .nil)) 2316471451525540 35 (.nd (.nd .nil 2316471841268960 70 .nil) 2316473984857770 126 .nil)) 4594970392791912 1 (.nd (.nd (.nd .nil 8772218562368614 1 .nil) 8772218563979124 6 .nil) 9151968395966496 1 (.nd (.nd .nil 9151968399333926 5 .nil) 9151968417049536 20 .nil))))
def kTr_56 : KTr := .nd kTr_54 1936721557578908 1 kTr_55
def kTr_57 : KTr := .nd (.nd (.nd (.nd (.nd (.nd .nil 9186491111638908 4 .nil) 9186491148680638 14 (.nd .nil 9186491343552348 48 .nil)) 9189629536488600 1 (.nd (.nd .nil 9189629540030270 3 .nil) 9189629578828920 9 .nil)) 9189629986287950 28 (.nd (.nd (.nd .nil 9189632129876760 90 .nil) 12949466731798906 1 (.nd .nil 12949466731945316 1 .nil)) 12949466735166336 6 (.nd (.nd .nil 12949466752881946 21 .nil) 13329216565383478 2 .nil))) 13329216565543198 1 (.nd (.nd (.nd (.nd .nil 13329216568910628 10 .nil) 13329216570521138 5 (.nd .nil 13329216605952358 35 .nil)) 13329216800824068 105 (.nd (.nd .nil 13363739277527530 3 .nil) 13363739277688460 1 .nil)) 13363739281069200 12 (.nd (.nd (.nd .nil 13363739282826120 4 .nil) 13363739319867850 38 .nil) 13363739337583460 14 (.nd (.nd .nil 13363739727326880 112 .nil) 13363741870915690 315 .nil)))) 13708966398966840 2 (.nd (.nd (.nd (.nd (.nd .nil 13708966399127770 1 .nil) 13708966399141080 1 (.nd .nil 13708966402508510 9 .nil)) 13708966404265430 5 (.nd (.nd .nil 13708966441307160 30 .nil) 13708966459022770 15 .nil)) 13708966848766190 85 (.nd (.nd (.nd .nil 13708968992355000 225 .nil) 17126714901215888 1 (.nd .nil 17126714901375608 1 .nil)) 17126714901522018 1 (.nd (.nd .nil 17126714904743038 6 .nil) 17126714906353548 6 .nil))) 17126714941784768 21 (.nd (.nd (.nd (.nd .nil 17126715136656478 56 .nil) 17506464734799250 3 (.nd .nil 17506464734960180 2 .nil)) 17506464734973490 1 (.nd (.nd .nil 17506464735119900 1 .nil) 17506464738340920 15 .nil)) 17506464740097840 10 (.nd (.nd (.nd .nil 17506464741708350 5 .nil) 17506464777139570 50 .nil) 17506464794855180 35 (.nd (.nd .nil 17506465184598600 140 .nil) 17506467328187410 350 .nil))))
def kTr_58 : KTr := .nd (.nd (.nd (.nd (.nd (.nd .nil 21303963070792590 1 .nil) 21303963070805900 1 (.nd .nil 21303963070952310 1 .nil)) 21303963071098720 1 (.nd (.nd .nil 21303963074173330 6 .nil) 21303963075930250 6 .nil)) 21303963077540760 6 (.nd (.nd (.nd .nil 21303963112971980 21 .nil) 21303963130687590 21 (.nd .nil 21303963520431010 56 .nil)) 21303965664019820 126 (.nd (.nd .nil 50544700258135634 1 .nil) 96494430123479356 1 .nil))) 96494430141194966 7 (.nd (.nd (.nd (.nd .nil 100671678293056058 1 .nil) 100671678330097788 6 (.nd .nil 100671678524969498 27 .nil)) 101051428126653940 1 (.nd (.nd .nil 101051428165452590 5 .nil) 101051428572911620 20 .nil)) 101051430716500430 75 (.nd (.nd (.nd .nil 142444159987212568 1 .nil) 142444159988823078 1 .nil) 142444160024254298 7 (.nd (.nd .nil 142444160219126008 28 .nil) 146621408156642860 2 .nil)))) 146621408158399780 1 (.nd (.nd (.nd (.nd (.nd .nil 146621408195441510 12 .nil) 146621408213157120 6 (.nd .nil 146621408602900540 48 .nil)) 146621410746489350 160 (.nd (.nd .nil 188393889850799370 1 .nil) 188393889852556290 1 .nil)) 188393889854166800 1 (.nd (.nd (.nd .nil 188393889889598020 7 .nil) 188393889907313630 7 .nil) 188393890297057050 28 (.nd (.nd .nil 188393892440645860 84 .nil) 555991728776916576 1 .nil))) 1061438757295697518 1 (.nd (.nd (.nd (.nd .nil 1061438757490569228 8 .nil) 1107388487161041240 1 (.nd .nil 1107388487568500270 7 .nil)) 1107388489712089080 35 (.nd (.nd .nil 1566885785796762850 1 .nil) 1566885785814478460 1 .nil)) 1566885786204221880 8 (.nd (.nd (.nd .nil 1566885788347810690 36 .nil) 6115909042483506938 1 .nil) 11675826356190097300 1 (.nd (.nd .nil 11675826358333686110 9 .nil) 67274999493256000920 1 .nil))))
def kTr_59 : KTr := .nd kTr_57 21303963070631660 1 kTr_58
def kTr_60 : KTr := .nd kTr_56 9186491108111758 1 kTr_59
def kTr_61 : KTr := .nd kTr_53 1249405785724790 80 kTr_60
def kTr_62 : KTr := .nd kTr_46 176063238195846 1 kTr_61
def kTr_63 : KTr := .nd kTr_31 16599959008040 30 kTr_62
def kTr : KTr := kTr_63
def PT : List (List (List Nat)) := [[[]],
  [[1]],
  [[2], [1, 1]],
  [[3], [2, 1], [1, 1, 1]],
  [[4], [3, 1], [2, 2], [2, 1, 1], [1, 1, 1, 1]],
  [[5], [4, 1], [3, 2], [3, 1, 1], [2, 2, 1], [2, 1, 1, 1], [1, 1, 1, 1, 1]],
  [[6], [5, 1], [4, 2], [4, 1, 1], [3, 3], [3, 2, 1], [3, 1, 1, 1], [2, 2, 2], [2, 2, 1, 1], [2, 1, 1, 1, 1], [1, 1, 1, 1, 1, 1]],
  [[7], [6, 1], [5, 2], [5, 1, 1], [4, 3], [4, 2, 1], [4, 1, 1, 1], [3, 3, 1], [3, 2, 2], [3, 2, 1, 1], [3, 1, 1, 1, 1], [2, 2, 2, 1], [2, 2, 1, 1, 1], [2, 1, 1, 1, 1, 1], [1, 1, 1, 1, 1, 1, 1]],
  [[8], [7, 1], [6, 2], [6, 1, 1], [5, 3], [5, 2, 1], [5, 1, 1, 1], [4, 4], [4, 3, 1], [4, 2, 2], [4, 2, 1, 1], [4, 1, 1, 1, 1], [3, 3, 2], [3, 3, 1, 1], [3, 2, 2, 1], [3, 2, 1, 1, 1], [3, 1, 1, 1, 1, 1], [2, 2, 2, 2], [2, 2, 2, 1, 1], [2, 2, 1, 1, 1, 1], [2, 1, 1, 1, 1, 1, 1], [1, 1, 1, 1, 1, 1, 1, 1]],
  [[9], [8, 1], [7, 2], [7, 1, 1], [6, 3], [6, 2, 1], [6, 1, 1, 1], [5, 4], [5, 3, 1], [5, 2, 2], [5, 2, 1, 1], [5, 1, 1, 1, 1], [4, 4, 1], [4, 3, 2], [4, 3, 1, 1], [4, 2, 2, 1], [4, 2, 1, 1, 1], [4, 1, 1, 1, 1, 1], [3, 3, 3], [3, 3, 2, 1], [3, 3, 1, 1, 1], [3, 2, 2, 2], [3, 2, 2, 1, 1], [3, 2, 1, 1, 1, 1], [3, 1, 1, 1, 1, 1, 1], [2, 2, 2, 2, 1], [2, 2, 2, 1, 1, 1], [2, 2, 1, 1, 1, 1, 1], [2, 1, 1, 1, 1, 1, 1, 1], [1, 1, 1, 1, 1, 1, 1, 1, 1]],
  [[10], [9, 1], [8, 2], [8, 1, 1], [7, 3], [7, 2, 1], [7, 1, 1, 1], [6, 4], [6, 3, 1], [6, 2, 2], [6, 2, 1, 1], [6, 1, 1, 1, 1], [5, 5], [5, 4, 1], [5, 3, 2], [5, 3, 1, 1], [5, 2, 2, 1], [5, 2, 1, 1, 1], [5, 1, 1, 1, 1, 1], [4, 4, 2], [4, 4, 1, 1], [4, 3, 3], [4, 3, 2, 1], [4, 3, 1, 1, 1], [4, 2, 2, 2], [4, 2, 2, 1, 1], [4, 2, 1, 1, 1, 1], [4, 1, 1, 1, 1, 1, 1], [3, 3, 3, 1], [3, 3, 2, 2], [3, 3, 2, 1, 1], [3, 3, 1, 1, 1, 1], [3, 2, 2, 2, 1], [3, 2, 2, 1, 1, 1], [3, 2, 1, 1, 1, 1, 1], [3, 1, 1, 1, 1, 1, 1, 1], [2, 2, 2, 2, 2], [2, 2, 2, 2, 1, 1], [2, 2, 2, 1, 1, 1, 1], [2, 2, 1, 1, 1, 1, 1, 1], [2, 1, 1, 1, 1, 1, 1, 1, 1], [1, 1, 1, 1, 1, 1, 1, 1, 1, 1]]]
def kN (l v : List Nat) : Nat := kTr.find (codeL l * 25937424601 + codeL v)
def ptn (n : Nat) : List (List Nat) := PT.getD n []
def sumK (L : List (List Nat)) (v : List Nat) : Nat := (L.map fun s => kN s v).sum
def ck1 : Bool := (List.range 11).all fun k => (List.range' 1 (10 - k)).all fun m => (ptn (k + m)).all fun l => (ptn k).all fun v => Nat.beq (kN l (insD m v)) (sumK (stripL l m) v)
def dom (v l : List Nat) : Bool := (List.range 11).all fun k => Nat.ble (v.take k).sum (l.take k).sum
def ck2 : Bool := (List.range 11).all fun k => (ptn k).all fun l => (ptn k).all fun v => (Nat.ble 1 (kN l v)) == dom v l
def ck3 : Bool := (List.range 11).all fun a => (List.range (min (a - 1) (11 - a))).all fun b => (List.range (11 - a - b)).all fun k => (ptn k).all fun v => (ptn (k + a + b)).all fun l => Nat.ble (kN l (ins0 a (ins0 b v))) (kN l (ins0 (a - 1) (ins0 (b + 1) v)))
def ck4 : Bool := (List.range 11).all fun k => (ptn k).all fun l => Nat.beq (kN l l) 1
def ck5 : Bool := (List.range 11).all fun k => (ptn k).all fun l => (List.range (k + 1)).all fun m => (stripL l m).all fun s => (ptn (k - m)).contains s
def ck6 : Bool := (List.range 11).all fun k => (ptn k).all fun l => stripL l 0 == [l]
def ck7 : Bool := (List.range 11).all fun k => (List.range' 1 (10 - k)).all fun m => (ptn k).all fun v => (ptn (k + m)).contains (insD m v)
def ck8 : Bool := (List.range 11).all fun k => (ptn k).all fun l => decide (l.sum = k) && decide (nrm l = l)
theorem k_ck1 : ck1 = true := by decide +kernel
theorem k_ck2 : ck2 = true := by decide +kernel
theorem k_ck3 : ck3 = true := by decide +kernel
theorem k_ck4 : ck4 = true := by decide +kernel
theorem k_ck5 : ck5 = true := by decide +kernel
theorem k_ck6 : ck6 = true := by decide +kernel
theorem k_ck7 : ck7 = true := by decide +kernel
theorem k_ck8 : ck8 = true := by decide +kernel
theorem ck1_use {k m : Nat} {l v : List Nat} (h : 1 ≤ m) (h2 : k + m ≤ 10) (hl : l ∈ ptn (k + m)) (hv : v ∈ ptn k) : kN l (insD m v) = sumK (stripL l m) v := by
  have := k_ck1
  unfold ck1 at this
  rw [List.all_eq_true] at this
  have := this k (List.mem_range.mpr (by omega))
  rw [List.all_eq_true] at this
  have := this m (List.mem_range'_1.mpr (by omega))
  rw [List.all_eq_true] at this
  have := this l hl
  rw [List.all_eq_true] at this
  exact Nat.eq_of_beq_eq_true (this v hv)
theorem ck2_use {k : Nat} {l v : List Nat} (h : k ≤ 10) (hl : l ∈ ptn k) (hv : v ∈ ptn k) : (0 < kN l v ↔ dom v l = true) := by
  have := k_ck2
  unfold ck2 at this
  rw [List.all_eq_true] at this
  have := this k (List.mem_range.mpr (by omega))
  rw [List.all_eq_true] at this
  have := this l hl
  rw [List.all_eq_true] at this
  have := eq_of_beq (this v hv)
  rw [← this]
  show 0 < _ ↔ Nat.ble 1 _ = true
  rw [Nat.ble_eq]
  exact Iff.rfl
theorem ck3_use {a b k : Nat} {l v : List Nat} (h : b + 1 < a) (h2 : k + a + b ≤ 10) (hl : l ∈ ptn (k + a + b)) (hv : v ∈ ptn k) : kN l (ins0 a (ins0 b v)) ≤ kN l (ins0 (a - 1) (ins0 (b + 1) v)) := by
  have := k_ck3
  unfold ck3 at this
  rw [List.all_eq_true] at this
  have := this a (List.mem_range.mpr (by omega))
  rw [List.all_eq_true] at this
  have := this b (List.mem_range.mpr (by omega))
  rw [List.all_eq_true] at this
  have := this k (List.mem_range.mpr (by omega))
  rw [List.all_eq_true] at this
  have := this v hv
  rw [List.all_eq_true] at this
  exact Nat.le_of_ble_eq_true (this l hl)
theorem ck4_use {k : Nat} {l : List Nat} (h : k ≤ 10) (hl : l ∈ ptn k) : kN l l = 1 := by
  have := k_ck4
  unfold ck4 at this
  rw [List.all_eq_true] at this
  have := this k (List.mem_range.mpr (by omega))
  rw [List.all_eq_true] at this
  exact Nat.eq_of_beq_eq_true (this l hl)
theorem ck5_use {k m : Nat} {l s : List Nat} (h : k ≤ 10) (h2 : m ≤ k) (hl : l ∈ ptn k) (hs : s ∈ stripL l m) : s ∈ ptn (k - m) := by
  have := k_ck5
  unfold ck5 at this
  rw [List.all_eq_true] at this
  have := this k (List.mem_range.mpr (by omega))
  rw [List.all_eq_true] at this
  have := this l hl
  rw [List.all_eq_true] at this
  have := this m (List.mem_range.mpr (by omega))
  rw [List.all_eq_true] at this
  have := this s hs
  rwa [List.contains_iff_mem] at this
theorem ck6_use {k : Nat} {l : List Nat} (h : k ≤ 10) (hl : l ∈ ptn k) : stripL l 0 = [l] := by
  have := k_ck6
  unfold ck6 at this
  rw [List.all_eq_true] at this
  have := this k (List.mem_range.mpr (by omega))
  rw [List.all_eq_true] at this
  exact eq_of_beq (this l hl)
theorem ck7_use {k m : Nat} {v : List Nat} (h : 1 ≤ m) (h2 : k + m ≤ 10) (hv : v ∈ ptn k) : insD m v ∈ ptn (k + m) := by
  have := k_ck7
  unfold ck7 at this
  rw [List.all_eq_true] at this
  have := this k (List.mem_range.mpr (by omega))
  rw [List.all_eq_true] at this
  have := this m (List.mem_range'_1.mpr (by omega))
  rw [List.all_eq_true] at this
  have := this v hv
  rwa [List.contains_iff_mem] at this
theorem ck8_use {k : Nat} {l : List Nat} (h : k ≤ 10) (hl : l ∈ ptn k) : l.sum = k ∧ nrm l = l := by
  have := k_ck8
  unfold ck8 at this
  rw [List.all_eq_true] at this
  have := this k (List.mem_range.mpr (by omega))
  rw [List.all_eq_true] at this
  have := this l hl
  simpa using this
theorem insD_comm (a b : Nat) (l : List Nat) : insD a (insD b l) = insD b (insD a l) := by
  induction l with
  | nil =>
    by_cases h3 : b ≤ a <;> by_cases h4 : a ≤ b
    · obtain rfl : a = b := by omega
      rfl
    · simp only [insD, h3, h4, if_true, if_false]
    · simp only [insD, h3, h4, if_true, if_false]
    · omega
  | cons x xs ih =>
    simp only [insD]
    by_cases h1 : x ≤ a <;> by_cases h2 : x ≤ b <;> simp only [h1, h2, if_true, if_false, insD]
    · by_cases h3 : b ≤ a <;> by_cases h4 : a ≤ b <;> simp only [h3, h4, if_true, if_false]
      · obtain rfl : a = b := by omega
        rfl
      · omega
    · by_cases h4 : a ≤ b
      · omega
      · simp only [h4, if_false]
    · by_cases h4 : b ≤ a
      · omega
      · simp only [h4, if_false]
    · rw [ih]
theorem ins0_comm (a b : Nat) (l : List Nat) : ins0 a (ins0 b l) = ins0 b (ins0 a l) := by
  unfold ins0
  by_cases h1 : a = 0 <;> by_cases h2 : b = 0 <;> simp only [h1, h2, if_true, if_false]
  exact insD_comm a b l
theorem nrm_perm {r s : List Nat} (h : r.Perm s) : nrm r = nrm s := by
  induction h with
  | nil => rfl
  | cons x _ ih => show ins0 x _ = ins0 x _; rw [ih]
  | swap x y l => exact ins0_comm y x (nrm l)
  | trans _ _ a b => exact a.trans b
theorem ins0_mem {k m : Nat} {v : List Nat} (h2 : k + m ≤ 10) (hv : v ∈ ptn k) : ins0 m v ∈ ptn (k + m) := by
  unfold ins0
  by_cases h : m = 0
  · rw [if_pos h, h]
    exact hv
  · rw [if_neg h]
    exact ck7_use (by omega) h2 hv
theorem nrm_mem : ∀ r : List Nat, r.sum ≤ 10 → nrm r ∈ ptn r.sum
  | [], _ => by decide
  | m :: r, h => by
    rw [List.sum_cons] at h ⊢
    have := ins0_mem (k := r.sum) (m := m) (by omega) (nrm_mem r (by omega))
    rwa [Nat.add_comm] at this
theorem nFil_nil (l : List Nat) (hl : l ∈ ptn 0) : nFil l [] = kN l [] := by
  have e : ptn 0 = [[]] := by decide
  rw [e, List.mem_singleton] at hl
  subst hl
  decide +kernel
theorem nFil_cons {m : Nat} {r l : List Nat} : nFil l (m :: r) = ((stripL l m).map fun s => nFil s r).sum := by rw [nFil]
theorem nFil_stepG {K : List Nat → List Nat → Nat} {m : Nat} {r l v : List Nat} {L : List (List Nat)} (e : stripL l m = L) (hn : nrm r = v) (ih : ∀ s ∈ L, nFil s r = K s v) (h0 : m = 0 → L = [l]) (h1 : m ≠ 0 → K l (insD m v) = (L.map fun s => K s v).sum) : nFil l (m :: r) = K l (nrm (m :: r)) := by
  rw [nFil_cons, e, List.map_congr_left ih]
  have : nrm (m :: r) = ins0 m v := by rw [nrm, hn]
  rw [this]
  unfold ins0
  by_cases q : m = 0
  · rw [if_pos q, h0 q]
    simp
  · rw [if_neg q, h1 q]
theorem nFil_step {m : Nat} {r l : List Nat} (h : m + r.sum ≤ 10) (hl : l ∈ ptn (m + r.sum)) (ih : ∀ s, s ∈ ptn r.sum → nFil s r = kN s (nrm r)) : nFil l (m :: r) = kN l (nrm (m :: r)) := by
  have hr := nrm_mem r (by omega)
  have h5 := fun s hs => ck5_use (s := s) (k := m + r.sum) (m := m) h (by omega) hl hs
  have h6 := fun (e : m = 0) => ck6_use (k := m + r.sum) h hl
  rw [Nat.add_sub_cancel_left] at h5
  have h1 := fun (e : m ≠ 0) => ck1_use (k := r.sum) (m := m) (l := l) (v := nrm r) (by omega) (by omega) (by rw [Nat.add_comm]; exact hl) hr
  exact nFil_stepG (K := kN) rfl rfl (fun s hs => ih s (h5 s hs)) (fun e => by rw [e]; exact h6 e) h1
theorem nFil_k (r : List Nat) : ∀ l : List Nat, r.sum ≤ 10 → l ∈ ptn r.sum → nFil l r = kN l (nrm r) := by
  induction r with
  | nil => exact fun l _ hl => nFil_nil l hl
  | cons m r ih =>
    intro l h hl
    rw [List.sum_cons] at h hl
    exact nFil_step h hl fun s hs => ih s (by omega) hs
theorem N_perm {r s l : List Nat} (p : r.Perm s) (h : r.sum ≤ 10) (hl : l ∈ ptn r.sum) : nFil l s = nFil l r := by
  have e : s.sum = r.sum := p.sum_nat.symm
  rw [nFil_k r l h hl, nFil_k s l (by omega) (by rw [e]; exact hl), nrm_perm p]
theorem N_zero {r l : List Nat} (h : r.sum ≤ 10) (hl : l ∈ ptn r.sum) : nFil l (0 :: r) = nFil l r := by
  rw [nFil_k r l h hl, nFil_k (0 :: r) l (by simpa using h) (by simpa using hl)]
  rfl
theorem N_zero2 {r l : List Nat} (h : r.sum ≤ 10) (hl : l ∈ ptn r.sum) : nFil l (r ++ [0]) = nFil l r := by
  rw [← N_zero h hl]
  exact N_perm (by exact (List.perm_append_comm (l₁ := [0]) (l₂ := r))) (by simpa using h) (by simpa using hl)
theorem N_dom {r l : List Nat} (h : r.sum ≤ 10) (hl : l ∈ ptn r.sum) : (0 < nFil l r ↔ dom (nrm r) l = true) := by
  rw [nFil_k r l h hl]
  exact ck2_use h hl (nrm_mem r h)
theorem N_mv {r s t l : List Nat} {a b : Nat} (p : r.Perm (a :: b :: t)) (q : s.Perm ((a - 1) :: (b + 1) :: t)) (hab : b + 1 < a) (h : r.sum ≤ 10) (hl : l ∈ ptn r.sum) : nFil l r ≤ nFil l s := by
  have e1 : r.sum = a + (b + t.sum) := by rw [p.sum_nat]; simp
  have e2 : s.sum = r.sum := by rw [q.sum_nat, e1]; simp; omega
  rw [nFil_k r l h hl, nFil_k s l (by omega) (by rw [e2]; exact hl), nrm_perm p, nrm_perm q]
  exact ck3_use (k := t.sum) hab (by omega) (by rwa [show t.sum + a + b = r.sum by omega]) (nrm_mem t (by omega))
theorem N_self {k : Nat} {l : List Nat} (h : k ≤ 10) (hl : l ∈ ptn k) : nFil l l = 1 := by
  obtain ⟨e1, e2⟩ := ck8_use h hl
  rw [nFil_k l l (by omega) (by rw [e1]; exact hl), e2, ck4_use h hl]
/-- a falling row of numbers from 1 on is its own -/
theorem nrm_fall : ∀ l : List Nat, l.Pairwise (fun a b => b ≤ a) → (∀ x ∈ l, 1 ≤ x) → nrm l = l
  | [], _, _ => rfl
  | x :: l, h, h1 => by
    rw [List.pairwise_cons] at h
    show ins0 x (nrm l) = _
    rw [nrm_fall l h.2 fun y hy => h1 y (List.mem_cons_of_mem _ hy)]
    have := h1 x List.mem_cons_self
    unfold ins0
    rw [if_neg (by omega)]
    cases l with
    | nil => rfl
    | cons y l => exact if_pos (h.1 y List.mem_cons_self)
theorem fall_mem {l : List Nat} (h : l.Pairwise (fun a b => b ≤ a)) (h1 : ∀ x ∈ l, 1 ≤ x) (h2 : l.sum ≤ 10) : l ∈ ptn l.sum := by
  have := nrm_mem l h2
  rwa [nrm_fall l h h1] at this
end DL
set_option maxHeartbeats 4000000
namespace DL
open PySem PySem.Spec PyProof.Rows L2
/-! ### rows of numbers -/
def zI (l : List Nat) : List Int := l.map fun k : Nat => (k : Int)
def zP (l : List Nat) : List P := (zI l).map P.int
abbrev tN (l : List Nat) : D := tI (zI l)
theorem zI_len {l : List Nat} : (zI l).length = l.length := by simp [zI]
theorem zP_len {l : List Nat} : (zP l).length = l.length := by simp [zP, zI]
theorem zI_sum : ∀ l : List Nat, (zI l).sum = (l.sum : Int)
  | [] => rfl
  | x :: l => by
    show (x : Int) + (zI l).sum = _
    rw [zI_sum l, List.sum_cons]
    omega
theorem zP_get {l : List Nat} {k : Nat} (h : k < l.length) : (zP l)[k]? = some (.int (l[k] : Int)) := by
  unfold zP zI
  rw [List.getElem?_map, List.getElem?_map, List.getElem?_eq_getElem h]
  rfl
theorem zP_set {l : List Nat} {k x : Nat} : (zP l).set k (.int (x : Int)) = zP (l.set k x) := by
  unfold zP zI
  rw [List.map_set, List.map_set]
theorem zP_app {l : List Nat} {x : Nat} : zP l ++ [.int (x : Int)] = zP (l ++ [x]) := by simp [zP, zI]
theorem zP_erase {l : List Nat} {k : Nat} : (zP l).eraseIdx k = zP (l.eraseIdx k) := by
  simp [zP, zI, List.eraseIdx_eq_take_drop_succ, List.map_take, List.map_drop]
theorem sum_set1 : ∀ {l : List Nat} {k : Nat} (h : k < l.length), (l.set k (l[k] + 1)).sum = l.sum + 1
  | x :: l, 0, h => by simp; omega
  | x :: l, k + 1, h => by
    have := sum_set1 (l := l) (k := k) (by simpa using h)
    simp only [List.set_cons_succ, List.getElem_cons_succ, List.sum_cons, this]
    omega
section
variable {S T U : Store} {r n : Nat} {v : List P} {ps qs : List P}
theorem setP_top : setP (SP S ps) S.objs.length qs = SP S qs := Store.ext' (by
  rw [setP_objs, SP_objs, SP_objs]
  simp)
theorem setP_topH (h : r < T.objs.length) : setP (SP (setP T r v) ps) T.objs.length qs = SP (setP T r v) qs := by
  have := setP_top (S := setP T r v) (ps := ps) (qs := qs)
  rwa [setP_len] at this
/-- a draw where a list lies above -/
theorem less_up {size : Int} (hr : r < T.objs.length) (ho : VOk n v) (hn : n ≤ 100000000) (h0 : 0 < size) (h1 : size ≤ 1000000000000) :
    ∃ (i : Nat) (v' : List P), m__law_less [.r r, .p (.int size)] (SP (setP T r v) ps) = .ok (.p (.int i)) (SP (setP T r v') ps) ∧ VOk (n + 1) v' ∧ (i : Int) < size := by
  have at1 : (SP (setP T r v) ps).objs[r]? = some (.lst (pD v)) := by
    rw [SP_old (by rw [setP_len]; exact hr)]
    exact setP_at hr
  obtain ⟨i, v1, e, h2, h3, h4⟩ := p_less (T := SP (setP T r v) ps) (r := r) (size := size) at1 ho hn h0 h1
  rw [setP_SP (by rw [setP_len]; exact hr), setP_setP] at e
  obtain ⟨k, rfl⟩ : ∃ k : Nat, i = k := ⟨i.toNat, by omega⟩
  exact ⟨k, v1, e, h2, h4⟩
theorem less_up2 {size : Int} (hr : r < T.objs.length) (ho : VOk n v) (hn : n ≤ 100000000) (h0 : 0 < size) (h1 : size ≤ 1000000000000) :
    ∃ (i : Nat) (v' : List P), m__law_less [.r r, .p (.int size)] (SP (SP (setP T r v) ps) qs) = .ok (.p (.int i)) (SP (SP (setP T r v') ps) qs) ∧ VOk (n + 1) v' ∧ (i : Int) < size := by
  have l1 : (SP (setP T r v) ps).objs.length = T.objs.length + 1 := by rw [SP_len, setP_len]
  have at1 : (SP (SP (setP T r v) ps) qs).objs[r]? = some (.lst (pD v)) := by
    rw [SP_old (by omega), SP_old (by rw [setP_len]; exact hr)]
    exact setP_at hr
  obtain ⟨i, v1, e, h2, h3, h4⟩ := p_less (T := SP (SP (setP T r v) ps) qs) (r := r) (size := size) at1 ho hn h0 h1
  rw [setP_SP (by omega), setP_SP (by rw [setP_len]; exact hr), setP_setP] at e
  obtain ⟨k, rfl⟩ : ∃ k : Nat, i = k := ⟨i.toNat, by omega⟩
  exact ⟨k, v1, e, h2, h4⟩
theorem up_at : (SP (setP T r v) ps).objs[T.objs.length]? = some (.lst (pD ps)) := by
  have := SP_at (S := setP T r v) (ps := ps)
  rwa [setP_len] at this
theorem xixN_nat {n k : Nat} (h : k < n) : ixN n (k : Int) = some k := by
  unfold ixN
  rw [if_pos (by omega), if_pos (by omega), Int.toNat_natCast]
/-! ### counts drawn -/
theorem counts_loop {lots : Nat} {z1 : Option D} (hl : 1 ≤ lots ∧ lots ≤ 10) (hr : r < T.objs.length) : ∀ (xs : List D) (v : List P) (n : Nat) (c : List Nat) (z4 z5 : Option D), VOk n v → n + xs.length ≤ 1000000 → c.length = lots →
    ∃ (c' : List Nat) (v' : List P) (y4 y5 : Option D), loopI [] (gNm 4) lb__law_counts xs [some (.r r), z1, some (.p (.int lots)), some (.r T.objs.length), z4, z5] (SP (setP T r v) (zP c)) =
      .ok (.nx [some (.r r), z1, some (.p (.int lots)), some (.r T.objs.length), y4, y5]) (SP (setP T r v') (zP c')) ∧ VOk (n + xs.length) v' ∧ c'.length = lots ∧ c'.sum = c.sum + xs.length
  | [], v, n, c, z4, z5, hv, _, hc => ⟨c, v, z4, z5, by rw [loopI_nil rfl], hv, hc, rfl⟩
  | x :: xs, v, n, c, z4, z5, hv, hn, hc => by
    rw [List.length_cons] at hn
    obtain ⟨i, v1, e, h2, h3⟩ := less_up (T := T) (r := r) (ps := zP c) (size := (lots : Int)) hr hv (by omega) (by omega) (by omega)
    have hi : i < c.length := by omega
    have ix : fIx (.r T.objs.length) (.p (.int (i : Int))) (SP (setP T r v1) (zP c)) = some (.p (.int (c[i] : Int)), SP (setP T r v1) (zP c)) := q_ixR ⟨up_at⟩ (zP_get hi)
    have pt : fPut (.r T.objs.length) (.p (.int (i : Int))) (.p (.int ((c[i] : Int) + 1))) (SP (setP T r v1) (zP c)) = some (SP (setP T r v1) (zP (c.set i (c[i] + 1)))) := by
      have := f_putR (T := SP (setP T r v1) (zP c)) (r := T.objs.length) (i := (i : Int)) (j := i) (p := .int ((c[i] : Int) + 1)) up_at (by
        rw [zP_len]
        exact xixN_nat hi)
      rw [this, setP_topH hr, ← zP_set]
      rfl
    obtain ⟨c', v', y4, y5, e2, a1, a2, a3⟩ := counts_loop hl hr xs v1 (n + 1) (c.set i (c[i] + 1)) (some x) (some (.p (.int i))) h2 (by omega) (by rw [List.length_set]; exact hc)
    refine ⟨c', v', y4, y5, ?_, a1.mono (by rw [List.length_cons]; omega), a2, by rw [a3, sum_set1 hi, List.length_cons]; omega⟩
    rw [loopI_cons rfl (ρ' := [some (.r r), z1, some (.p (.int lots)), some (.r T.objs.length), some x, z5]) rfl]
    have b : lb__law_counts [some (.r r), z1, some (.p (.int lots)), some (.r T.objs.length), some x, z5] (SP (setP T r v) (zP c)) = .ok (.nx [some (.r r), z1, some (.p (.int lots)), some (.r T.objs.length), some x, some (.p (.int i))]) (SP (setP T r v1) (zP (c.set i (c[i] + 1)))) := by
      unfold lb__law_counts
      simp only [r_ok, r_c, r_op2, r_op1, r_nil, r_cons, r_callB, r_call, r_and, r_or, r_not, r_asB, r_if, r_andT, r_orT, r_notT, r_test, r_chain, r_seq, r_nx, r_rt, r_bk, r_ct, r_next, r_break, r_cont, r_drop, r_ret, r_retN, r_asg, r_aug, r_ifS, r_par, r_sl, r_noPart, r_part, r_asInt, r_put, r_for, r_src, r_srcA, r_comp, r_meth, r_oNx, r_oCt, r_oBk, r_oRt, r_yes, r_var', r_lift', List.getElem?_cons_zero, List.getElem?_cons_succ, List.set_cons_zero, List.set_cons_succ, o_add, o_addI, o_sub, o_neg, o_lt, o_le, o_gt, o_ge, o_eq, o_ne, o_int, o_intB, o_abs, o_max, o_min, r_env, List.map_cons, List.map_nil, List.length_cons, List.length_nil, Nat.zero_add, Nat.reduceAdd, Nat.reduceSub, List.replicate_succ, List.replicate_zero, List.cons_append, List.nil_append, Bool.false_eq_true, if_true, if_false, gPar, List.zip_cons_cons, List.zip_nil_right, List.zip_nil_left, List.foldl_cons, List.foldl_nil, unsetE, r_err, e, ix, r_liftS pt]
    rw [b, r_ok, r_oNx, e2]
end
end DL
set_option maxHeartbeats 4000000
local macro_rules | `(tactic| walk_at "lst") => `(tactic| first | assumption | exact DL.lst_SP | (apply DL.Lst.set; walk_at "lst") | (apply DL.Lst.sp; walk_at "lst") | (apply DL.Lst.ne; focus walk_at "lst"; first | assumption | omega | (simp only [DL.SP_len, DL.setP_len]; omega)))
local macro_rules | `(tactic| walk_at "top") => `(tactic| first | assumption | exact DL.top_self | (apply DL.top_SP; walk_at "top") | (apply DL.top_setP; focus walk_at "top"; first | assumption | omega | (simp only [DL.SP_len, DL.setP_len]; omega)))
local macro_rules | `(tactic| walk_at "dl") => `(tactic| first | assumption | walk_at "lst" | omega | (simp only [List.length_append, List.length_map, List.length_cons, List.length_nil, List.length_set, List.length_take, List.length_drop, List.length_reverse, List.length_replicate, List.length_range, List.length_range', List.length_zip, List.length_eraseIdx, DL.dInts_len, DL.setP_len, DL.SP_len, DL.rangeD_length]; omega) | decide | (refine id ?_; with_unfolding_all rfl))
namespace DL
open PySem PySem.Spec PyProof.Rows L2
section
variable {S T U : Store} {r n : Nat} {v : List P} {ps qs : List P} {c : List Nat}
theorem rep_new {k : Nat} (h : k ≤ 100) : fMulA fLst (lI [0]) (.p (.int (k : Int))) S = some (.r S.objs.length, SP S (zP (List.replicate k 0))) := by
  have e1 : fRep1 (lI [0]) (.p (.int (k : Int))) S = none := rfl
  have e2 : fMulI (lI [0]) (.p (.int (k : Int))) S = none := rfl
  have e3 : fRepT (lI [0]) (.p (.int (k : Int))) S = none := rfl
  have e4 : fRepL fLst (lI [0]) (.p (.int (k : Int))) S = some (.r S.objs.length, SP S (zP (List.replicate k 0))) := by
    show (if (decide (-1000 ≤ (k : Int)) && decide ((k : Int) ≤ 100000) && decide ([D.p (.int 0)].length * (k : Int).toNat ≤ 100000)) = true then fLst (List.replicate (k : Int).toNat [D.p (.int 0)]).flatten S else none) = _
    rw [if_pos (by
      simp only [Bool.and_eq_true, decide_eq_true_eq]
      refine ⟨⟨by omega, by omega⟩, ?_⟩
      show 1 * _ ≤ _
      omega), Int.toNat_natCast]
    have : (List.replicate k [D.p (.int 0)]).flatten = pD (zP (List.replicate k 0)) := by
      simp [pD, zP, zI, List.flatten_replicate_singleton]
    rw [this]
    exact f_new (by rw [zP_len]; simp; omega)
  simp only [fMulA, fMulG, e1, e2, e3, e4]
theorem p_counts {lots total : Nat} (hv : T.objs[r]? = some (.lst (pD v))) (ho : VOk n v) (hn : n ≤ 100000) (hl : 1 ≤ lots ∧ lots ≤ 10) (ht : total ≤ 1000) :
    ∃ (c : List Nat) (v' : List P), m__law_counts [.r r, .p (.int total), .p (.int lots)] T = .ok (tN c) (setP T r v') ∧ VOk (n + total) v' ∧ c.length = lots ∧ c.sum = total := by
  have hr := at_lt hv
  obtain ⟨c, v', y4, y5, e, a1, a2, a3⟩ := counts_loop (T := T) (r := r) (z1 := some (.p (.int total))) hl hr (rangeD 0 total) v n (List.replicate lots 0) none none ho (by rw [rangeD_length]; omega) (by simp)
  rw [setP_same hv] at e
  rw [rangeD_length] at a1 a3
  have f0 : fLstF [.p (.int 0)] T = some (lI [0], T) := f_lstF (ns := [0]) (by simp)
  have nw := rep_new (S := T) (k := lots) (by omega)
  have rg : srcR1 [.p (.int (total : Int))] (SP T (zP (List.replicate lots 0))) = some (⟨rangeD 0 total, []⟩, SP T (zP (List.replicate lots 0))) := by
    rw [o_range1 (fit_small (by omega) (by omega)), Int.toNat_natCast]
  have tt : fToT [.r T.objs.length] (SP (setP T r v') (zP c)) = some (tN c, SP (setP T r v') (zP c)) := q_toTR ⟨up_at⟩
  refine ⟨c, v', ?_, a1, a2, by rw [a3]; simp⟩
  refine fn_to (S2 := setP T r v') (S' := SP (setP T r v') (zP c)) ?_ (by rw [← setP_len (r := r) (ps := v'), SP_take]) setP_len
  unfold b__law_counts
  simp only [r_ok, r_c, r_op2, r_op1, r_nil, r_cons, r_callB, r_call, r_and, r_or, r_not, r_asB, r_if, r_andT, r_orT, r_notT, r_test, r_chain, r_seq, r_nx, r_rt, r_bk, r_ct, r_next, r_break, r_cont, r_drop, r_ret, r_retN, r_asg, r_aug, r_ifS, r_par, r_sl, r_noPart, r_part, r_asInt, r_put, r_for, r_src, r_srcA, r_comp, r_meth, r_oNx, r_oCt, r_oBk, r_oRt, r_yes, r_var', r_lift', List.getElem?_cons_zero, List.getElem?_cons_succ, List.set_cons_zero, List.set_cons_succ, o_add, o_addI, o_sub, o_neg, o_lt, o_le, o_gt, o_ge, o_eq, o_ne, o_int, o_intB, o_abs, o_max, o_min, r_env, List.map_cons, List.map_nil, List.length_cons, List.length_nil, Nat.zero_add, Nat.reduceAdd, Nat.reduceSub, List.replicate_succ, List.replicate_zero, List.cons_append, List.nil_append, Bool.false_eq_true, if_true, if_false, gPar, List.zip_cons_cons, List.zip_nil_right, List.zip_nil_left, List.foldl_cons, List.foldl_nil, unsetE, r_err, f0, nw, rg, e, tt]
  rfl
/-! ### in another order -/
theorem setP_top2 (h : r < T.objs.length) : setP (SP (SP (setP T r v) ps) qs) T.objs.length (pq : List P) = SP (SP (setP T r v) pq) qs := by
  rw [setP_SP (by rw [SP_len, setP_len]; omega), setP_topH h]
theorem setP_top3 (h : r < T.objs.length) : setP (SP (SP (setP T r v) ps) qs) (T.objs.length + 1) (pq : List P) = SP (SP (setP T r v) ps) pq := by
  have := setP_top (S := SP (setP T r v) ps) (ps := qs) (qs := pq)
  rwa [SP_len, setP_len] at this
theorem up_at2 : (SP (SP (setP T r v) ps) qs).objs[T.objs.length]? = some (.lst (pD ps)) := by
  rw [SP_old (by rw [SP_len, setP_len]; omega), up_at]
theorem up_at3 : (SP (SP (setP T r v) ps) qs).objs[T.objs.length + 1]? = some (.lst (pD qs)) := by
  have := SP_at (S := SP (setP T r v) ps) (ps := qs)
  rwa [SP_len, setP_len] at this
/-- a def that answers a list of the store, made in it, what was there before being changed -/
theorem fn_toR {N : Nat} {a : MS} {ds : List D} {S' S2 : Store} {f : Nat} (h : a (env0 N ds) S = .ok (.rt (.r f)) S') (hs : S'.objs.take S.objs.length = S2.objs) (hl : S2.objs.length = S.objs.length) (hf : S.objs.length ≤ f) (ho : S'.objs[f]? = some (.lst (pD ps))) : mFn N finP a ds S = .ok (.p (.lst ps)) S2 := by
  have e : frzD S.objs.length S' 8 (.r f) = some (.lst ps) := by
    have all : ∀ (n : Nat) (ps : List P), frzDs S.objs.length S' n (pD ps) = some ps := by
      intro n ps
      induction ps with
      | nil => rfl
      | cons p ps ih =>
        show frzDs S.objs.length S' n (D.p p :: pD ps) = _
        have e1 : frzD S.objs.length S' n (.p p) = some p := @frzD_p ⟨[]⟩ _ _ _ _
        show (match frzD S.objs.length S' n (.p p), frzDs S.objs.length S' n (pD ps) with
          | some p, some ps => some (p :: ps)
          | _, _ => none) = _
        rw [e1, ih]
    show (if S.objs.length ≤ f then (match S'.objs[f]? with
      | some (.lst ds) => (frzDs S.objs.length S' 7 ds).map P.lst
      | some (.ins c fs) => (frzDs S.objs.length S' 7 (fs.map (·.2))).map fun ps => P.ins c ((fs.map (·.1)).zip ps)
      | some (.dct fs) => (frzDs S.objs.length S' 7 (fs.map (·.2))).map fun ps => P.dic ((fs.map (·.1)).zip ps)
      | _ => none) else none) = _
    rw [if_pos hf, ho]
    show (frzDs S.objs.length S' 7 (pD ps)).map P.lst = _
    rw [all]
    rfl
  have e2 : finP S.objs.length (.r f) S' = (.p (.lst ps), S2) := by
    unfold finP
    rw [cut_to' hs hl]
    simp only [e]
  rw [r_fn, h, r_ok, r_asRt, r_finOk, e2]
theorem order_loop {z1 : Option D} (hr : r < T.objs.length) : ∀ (xs : List D) (v : List P) (n : Nat) (left got : List Nat) (z4 : Option D), VOk n v → n + xs.length ≤ 1000000 → xs.length = left.length → got.length + xs.length ≤ 1000 →
    ∃ (c' : List Nat) (v' : List P) (y4 : Option D), loopI [] (gNm 4) lb__law_order xs [some (.r r), z1, some (.r T.objs.length), some (.r (T.objs.length + 1)), z4] (SP (SP (setP T r v) (zP left)) (zP got)) =
      .ok (.nx [some (.r r), z1, some (.r T.objs.length), some (.r (T.objs.length + 1)), y4]) (SP (SP (setP T r v') (zP [])) (zP c')) ∧ VOk (n + xs.length) v' ∧ c'.Perm (got ++ left)
  | [], v, n, left, got, z4, hv, _, hx, _ => by
    obtain rfl : left = [] := List.eq_nil_of_length_eq_zero hx.symm
    exact ⟨got, v, z4, by rw [loopI_nil rfl], hv, by rw [List.append_nil]⟩
  | x :: xs, v, n, left, got, z4, hv, hn, hx, hg => by
    rw [List.length_cons] at hn hx hg
    obtain ⟨i, v1, e, h2, h3⟩ := less_up2 (T := T) (r := r) (ps := zP left) (qs := zP got) (size := (left.length : Int)) hr hv (by omega) (by omega) (by omega)
    have hi : i < left.length := by omega
    have hl : (left.eraseIdx i).length = left.length - 1 := by rw [List.length_eraseIdx, if_pos hi]
    obtain ⟨c', v', y4, e2, a1, a2⟩ := order_loop (z1 := z1) hr xs v1 (n + 1) (left.eraseIdx i) (got ++ [left[i]]) (some x) h2 (by omega) (by omega) (by simp; omega)
    refine ⟨c', v', y4, ?_, a1.mono (by rw [List.length_cons]; omega), a2.trans ?_⟩
    · rw [loopI_cons rfl (ρ' := [some (.r r), z1, some (.r T.objs.length), some (.r (T.objs.length + 1)), some x]) rfl]
      have l2 : fLen [.r T.objs.length] (SP (SP (setP T r v) (zP left)) (zP got)) = some (.p (.int (left.length : Int)), SP (SP (setP T r v) (zP left)) (zP got)) := by
        rw [q_lenR ⟨up_at2⟩, zP_len]
      have pp := f_popAtR (T := SP (SP (setP T r v1) (zP left)) (zP got)) (r := T.objs.length) (i := (i : Int)) (k := i) up_at2 rfl (by omega) (zP_get hi)
      rw [setP_top2 hr, zP_erase] at pp
      have pa : fAppend (.r (T.objs.length + 1)) [.p (.int (left[i] : Int))] (SP (SP (setP T r v1) (zP (left.eraseIdx i))) (zP got)) = some (.p .non, SP (SP (setP T r v1) (zP (left.eraseIdx i))) (zP (got ++ [left[i]]))) := by
        rw [q_append ⟨up_at3⟩ (by rw [zP_len]; omega), setP_top3 hr, zP_app]
      have w2 : lstO (.r T.objs.length) (SP (SP (setP T r v) (zP left)) (zP got)) = fun (k : Unit → M D) => k () (SP (SP (setP T r v) (zP left)) (zP got)) := funext fun k => t_lstO ⟨up_at2⟩
      have w3 : lstO (.r (T.objs.length + 1)) (SP (SP (setP T r v) (zP left)) (zP got)) = fun (k : Unit → M D) => k () (SP (SP (setP T r v) (zP left)) (zP got)) := funext fun k => t_lstO ⟨up_at3⟩
      have b : lb__law_order [some (.r r), z1, some (.r T.objs.length), some (.r (T.objs.length + 1)), some x] (SP (SP (setP T r v) (zP left)) (zP got)) = .ok (.nx [some (.r r), z1, some (.r T.objs.length), some (.r (T.objs.length + 1)), some x]) (SP (SP (setP T r v1) (zP (left.eraseIdx i))) (zP (got ++ [left[i]]))) := by
        unfold lb__law_order
        simp -implicitDefEqProofs (disch := walk_at "dl") only [r_ok, r_c, r_op2, r_op1, r_nil, r_cons, r_callB, r_call, r_and, r_or, r_not, r_asB, r_if, r_andT, r_orT, r_notT, r_test, r_chain, r_seq, r_nx, r_rt, r_bk, r_ct, r_next, r_break, r_cont, r_drop, r_ret, r_retN, r_asg, r_aug, r_ifS, r_par, r_sl, r_noPart, r_part, r_asInt, r_put, r_for, r_src, r_srcA, r_comp, r_oNx, r_oCt, r_oBk, r_oRt, r_yes, t_lift, t_some, t_var, t_vsome, t_liftS, t_ssome, t_meth, t_lstO, t_lstOF, List.getElem?_cons_zero, List.getElem?_cons_succ, List.set_cons_zero, List.set_cons_succ, o_add, o_addI, o_sub, o_neg, o_lt, o_le, o_gt, o_ge, o_eq, o_ne, o_int, o_intB, o_abs, o_max, o_min, r_env, List.map_cons, List.map_nil, List.length_cons, List.length_nil, Nat.zero_add, Nat.reduceAdd, Nat.reduceSub, Nat.reduceLeDiff, List.replicate_succ, List.replicate_zero, List.cons_append, List.nil_append, Bool.false_eq_true, if_true, if_false, gPar, List.zip_cons_cons, List.zip_nil_right, List.zip_nil_left, List.foldl_cons, List.foldl_nil, unsetE, r_err, r_assoc, r_iteB, wp_ok, q_lstI, q_mul, q_div, q_range1, q_range2, q_lenT, q_lenL, q_sumT, q_sumL, q_srcT, q_srcL, q_new0, q_lst, q_append, q_extend, q_lenR, q_toTR, q_l1, q_l2, q_l3, q_l4, q_addL, q_addT, q_srtT, q_srtL, f_toT_l, f_toT_t, o_mod, Bool.not_true, Bool.not_false, Bool.true_and, Bool.false_and, w2, w3, l2, e, pp, pa]
      rw [b, r_ok, r_oNx, e2]
    · rw [List.append_assoc]
      exact List.Perm.append_left got (erase_perm hi)
theorem p_order (hv : T.objs[r]? = some (.lst (pD v))) (ho : VOk n v) (hn : n ≤ 100000) (hc : c.length ≤ 100) :
    ∃ (c' : List Nat) (v' : List P), m__law_order [.r r, tN c] T = .ok (.p (.lst (zP c'))) (setP T r v') ∧ VOk (n + c.length) v' ∧ c'.Perm c := by
  have hr := at_lt hv
  obtain ⟨c', v', y4, e, a1, a2⟩ := order_loop (T := T) (r := r) (z1 := some (tN c)) hr (rangeD 0 c.length) v n c [] none ho (by rw [rangeD_length]; omega) (by rw [rangeD_length]) (by simp [rangeD_length]; omega)
  rw [setP_same hv] at e
  rw [rangeD_length] at a1
  have n1 : fToL fLst [tN c] T = some (.r T.objs.length, SP T (zP c)) := by
    show (match (tN c).seq? T with | some xs => fLst xs T | none => none) = _
    have : (tN c).seq? T = some (pD (zP c)) := rfl
    rw [this]
    exact f_new (by rw [zP_len]; omega)
  have n2 : fLst [] (SP T (zP c)) = some (.r (T.objs.length + 1), SP (SP T (zP c)) (zP [])) := by
    have := q_new0 (T := SP T (zP c))
    rw [SP_len] at this
    exact this
  have ln : fLen [tN c] (SP (SP T (zP c)) (zP [])) = some (.p (.int (c.length : Int)), SP (SP T (zP c)) (zP [])) := by rw [q_lenT, zI_len]
  have rg : srcR1 [.p (.int (c.length : Int))] (SP (SP T (zP c)) (zP [])) = some (⟨rangeD 0 c.length, []⟩, SP (SP T (zP c)) (zP [])) := by
    rw [o_range1 (fit_small (by omega) (by omega)), Int.toNat_natCast]
  refine ⟨c', v', ?_, a1, by rw [List.nil_append] at a2; exact a2⟩
  refine fn_toR (S2 := setP T r v') (S' := SP (SP (setP T r v') (zP [])) (zP c')) (f := T.objs.length + 1) ?_ ?_ setP_len (by omega) up_at3
  · unfold b__law_order
    simp only [r_ok, r_c, r_op2, r_op1, r_nil, r_cons, r_callB, r_call, r_and, r_or, r_not, r_asB, r_if, r_andT, r_orT, r_notT, r_test, r_chain, r_seq, r_nx, r_rt, r_bk, r_ct, r_next, r_break, r_cont, r_drop, r_ret, r_retN, r_asg, r_aug, r_ifS, r_par, r_sl, r_noPart, r_part, r_asInt, r_put, r_for, r_src, r_srcA, r_comp, r_meth, r_oNx, r_oCt, r_oBk, r_oRt, r_yes, r_var', r_lift', List.getElem?_cons_zero, List.getElem?_cons_succ, List.set_cons_zero, List.set_cons_succ, o_add, o_addI, o_sub, o_neg, o_lt, o_le, o_gt, o_ge, o_eq, o_ne, o_int, o_intB, o_abs, o_max, o_min, r_env, List.map_cons, List.map_nil, List.length_cons, List.length_nil, Nat.zero_add, Nat.reduceAdd, Nat.reduceSub, List.replicate_succ, List.replicate_zero, List.cons_append, List.nil_append, Bool.false_eq_true, if_true, if_false, gPar, List.zip_cons_cons, List.zip_nil_right, List.zip_nil_left, List.foldl_cons, List.foldl_nil, unsetE, r_err, n1, n2, ln, rg, e]
  · have t1 := SP_take (S := setP T r v') (ps := zP [])
    rw [setP_len] at t1
    rw [SP_objs, List.take_append_of_le_length (by rw [SP_len, setP_len]; omega), t1]
end
end DL
set_option maxHeartbeats 4000000
namespace DL
open PySem PySem.Spec PyProof.Rows L2
section
variable {S T U : Store} {r n : Nat} {v : List P} {ps qs : List P} {c : List Nat}
/-! ### shapes drawn -/
theorem shape_while {z1 : Option D} (hr : r < T.objs.length) : ∀ (k : Nat) (left wid : Nat) (v : List P) (n : Nat) (l : List Nat) (z5 : Option D), VOk n v → n + k ≤ 1000000 → left ≤ k → 1 ≤ wid → l.length + k ≤ 1000 → wid ≤ 1000 →
    ∃ (t : List Nat) (v' : List P) (y3 y5 : Option D), mWhile wt__law_shape wb__law_shape (k + 1) [some (.r r), z1, some (.p (.int left)), some (.p (.int wid)), some (.r T.objs.length), z5] (SP (setP T r v) (zP l)) =
      .ok (.nx [some (.r r), z1, some (.p (.int 0)), y3, some (.r T.objs.length), y5]) (SP (setP T r v') (zP (l ++ t))) ∧ VOk (n + k) v' ∧ t.sum = left ∧ t.Pairwise (fun a b => b ≤ a) ∧ ∀ x ∈ t, 1 ≤ x ∧ x ≤ wid
  | k, 0, wid, v, n, l, z5, hv, _, _, _, _, _ => ⟨[], v, _, _, by
    rw [r_while]
    have w : wt__law_shape [some (.r r), z1, some (.p (.int (0 : Nat))), some (.p (.int wid)), some (.r T.objs.length), z5] (SP (setP T r v) (zP l)) = .ok false (SP (setP T r v) (zP l)) := rfl
    rw [w, r_ok, List.append_nil]
    rfl, hv.mono (by omega), rfl, .nil, fun x hx => absurd hx List.not_mem_nil⟩
  | 0, left + 1, wid, v, n, l, z5, _, _, h, _, _, _ => by omega
  | k + 1, left + 1, wid, v, n, l, z5, hv, hn, hk, hw, hl, hw2 => by
    have q : (0 : Int) < min ((left + 1 : Nat) : Int) (wid : Int) := by omega
    obtain ⟨i, v1, e, h2, h3⟩ := less_up (T := T) (r := r) (ps := zP l) (size := min ((left + 1 : Nat) : Int) (wid : Int)) hr hv (by omega) q (by omega)
    obtain ⟨t, v', y3, y5, e2, a1, a2, a3, a4⟩ := shape_while (z1 := z1) hr k (left - i) (i + 1) v1 (n + 1) (l ++ [i + 1]) (some (.p (.int ((i + 1 : Nat) : Int)))) h2 (by omega) (by omega) (by omega) (by simp; omega) (by omega)
    refine ⟨(i + 1) :: t, v', y3, y5, ?_, a1.mono (by omega), by rw [List.sum_cons, a2]; omega, List.pairwise_cons.mpr ⟨fun x hx => (a4 x hx).2, a3⟩, fun x hx => ?_⟩
    · rw [r_while]
      have w : wt__law_shape [some (.r r), z1, some (.p (.int (left + 1 : Nat))), some (.p (.int wid)), some (.r T.objs.length), z5] (SP (setP T r v) (zP l)) = .ok true (SP (setP T r v) (zP l)) := by
        unfold wt__law_shape
        simp only [r_ok, r_c, r_op2, r_op1, r_nil, r_cons, r_callB, r_call, r_and, r_or, r_not, r_asB, r_if, r_andT, r_orT, r_notT, r_test, r_chain, r_seq, r_nx, r_rt, r_bk, r_ct, r_next, r_break, r_cont, r_drop, r_ret, r_retN, r_asg, r_aug, r_ifS, r_par, r_sl, r_noPart, r_part, r_asInt, r_put, r_for, r_src, r_srcA, r_comp, r_meth, r_oNx, r_oCt, r_oBk, r_oRt, r_yes, r_var', r_lift', List.getElem?_cons_zero, List.getElem?_cons_succ, List.set_cons_zero, List.set_cons_succ, o_add, o_addI, o_sub, o_neg, o_lt, o_le, o_gt, o_ge, o_eq, o_ne, o_int, o_intB, o_abs, o_max, o_min, r_env, List.map_cons, List.map_nil, List.length_cons, List.length_nil, Nat.zero_add, Nat.reduceAdd, Nat.reduceSub, List.replicate_succ, List.replicate_zero, List.cons_append, List.nil_append, Bool.false_eq_true, if_true, if_false, gPar, List.zip_cons_cons, List.zip_nil_right, List.zip_nil_left, List.foldl_cons, List.foldl_nil, unsetE, r_err]
        congr 1
        simp
      have pa : fAppend (.r T.objs.length) [.p (.int ((i + 1 : Nat) : Int))] (SP (setP T r v1) (zP l)) = some (.p .non, SP (setP T r v1) (zP (l ++ [i + 1]))) := by
        rw [q_append ⟨up_at⟩ (by rw [zP_len]; omega), setP_topH hr, zP_app]
      have w3 : lstO (.r T.objs.length) (SP (setP T r v1) (zP l)) = fun (k : Unit → M D) => k () (SP (setP T r v1) (zP l)) := funext fun k => t_lstO ⟨up_at⟩
      have mn : fMin [.p (.int ((left + 1 : Nat) : Int)), .p (.int (wid : Int))] (SP (setP T r v) (zP l)) = some (.p (.int (min ((left + 1 : Nat) : Int) (wid : Int))), SP (setP T r v) (zP l)) := o_min
      have ad : fAddG fLstF (.p (.int 1)) (.p (.int (i : Int))) (SP (setP T r v1) (zP l)) = some (.p (.int ((i + 1 : Nat) : Int)), SP (setP T r v1) (zP l)) := by
        rw [o_add]
        congr 4
        omega
      have sb : fSub (.p (.int ((left + 1 : Nat) : Int))) (.p (.int ((i + 1 : Nat) : Int))) (SP (setP T r v1) (zP (l ++ [i + 1]))) = some (.p (.int ((left - i : Nat) : Int)), SP (setP T r v1) (zP (l ++ [i + 1]))) := by
        rw [o_sub]
        congr 4
        omega
      have b : wb__law_shape [some (.r r), z1, some (.p (.int (left + 1 : Nat))), some (.p (.int wid)), some (.r T.objs.length), z5] (SP (setP T r v) (zP l)) = .ok (.nx [some (.r r), z1, some (.p (.int (left - i : Nat))), some (.p (.int (i + 1 : Nat))), some (.r T.objs.length), some (.p (.int (i + 1 : Nat)))]) (SP (setP T r v1) (zP (l ++ [i + 1]))) := by
        unfold wb__law_shape
        simp -implicitDefEqProofs (disch := walk_at "dl") only [r_ok, r_c, r_op2, r_op1, r_nil, r_cons, r_callB, r_call, r_and, r_or, r_not, r_asB, r_if, r_andT, r_orT, r_notT, r_test, r_chain, r_seq, r_nx, r_rt, r_bk, r_ct, r_next, r_break, r_cont, r_drop, r_ret, r_retN, r_asg, r_aug, r_ifS, r_par, r_sl, r_noPart, r_part, r_asInt, r_put, r_for, r_src, r_srcA, r_comp, r_oNx, r_oCt, r_oBk, r_oRt, r_yes, t_lift, t_some, t_var, t_vsome, t_liftS, t_ssome, t_meth, t_lstO, t_lstOF, List.getElem?_cons_zero, List.getElem?_cons_succ, List.set_cons_zero, List.set_cons_succ, o_neg, o_lt, o_le, o_gt, o_ge, o_eq, o_ne, o_int, o_intB, o_abs, o_max, r_env, List.map_cons, List.map_nil, List.length_cons, List.length_nil, Nat.zero_add, Nat.reduceSub, Nat.reduceLeDiff, List.replicate_succ, List.replicate_zero, List.cons_append, List.nil_append, Bool.false_eq_true, if_true, if_false, gPar, List.zip_cons_cons, List.zip_nil_right, List.zip_nil_left, List.foldl_cons, List.foldl_nil, unsetE, r_err, r_assoc, r_iteB, wp_ok, q_lstI, q_mul, q_div, q_range1, q_range2, q_lenT, q_lenL, q_sumT, q_sumL, q_srcT, q_srcL, q_new0, q_lst, q_append, q_extend, q_lenR, q_toTR, q_l1, q_l2, q_l3, q_l4, q_addL, q_addT, q_srtT, q_srtL, f_toT_l, f_toT_t, o_mod, Bool.not_true, Bool.not_false, Bool.true_and, Bool.false_and, mn, e, ad, w3, pa, sb]
      rw [w, r_ok, if_pos rfl, b, r_ok, r_oNx, e2, List.append_assoc]
      rfl
    · rcases List.mem_cons.mp hx with rfl | hx
      · exact ⟨by omega, by omega⟩
      · have := a4 x hx
        exact ⟨this.1, by omega⟩
theorem p_shape {most : Nat} (hv : T.objs[r]? = some (.lst (pD v))) (ho : VOk n v) (hn : n ≤ 100000) (hm : 1 ≤ most ∧ most ≤ 100) :
    ∃ (l : List Nat) (v' : List P), m__law_shape [.r r, .p (.int most)] T = .ok (tN l) (setP T r v') ∧ VOk (n + 1000) v' ∧ l.sum ≤ most ∧ l.Pairwise (fun a b => b ≤ a) ∧ ∀ x ∈ l, 1 ≤ x := by
  have hr := at_lt hv
  obtain ⟨i, v1, e, h2, h3, h4⟩ := p_less (size := ((most : Int) + 1)) hv ho (by omega) (by omega) (by omega)
  obtain ⟨k, rfl⟩ : ∃ k : Nat, i = k := ⟨i.toNat, by omega⟩
  obtain ⟨t, v', y3, y5, e2, a1, a2, a3, a4⟩ := shape_while (T := T) (r := r) (z1 := some (.p (.int most))) hr 999 k most v1 (n + 1) [] none h2 (by omega) (by omega) (by omega) (by simp) (by omega)
  rw [List.nil_append] at e2
  have n2 : fLst [] (setP T r v1) = some (.r T.objs.length, SP (setP T r v1) (zP [])) := by
    have := q_new0 (T := setP T r v1)
    rw [setP_len] at this
    exact this
  have tt : fToT [.r T.objs.length] (SP (setP T r v') (zP t)) = some (tN t, SP (setP T r v') (zP t)) := q_toTR ⟨up_at⟩
  refine ⟨t, v', ?_, a1.mono (by omega), by omega, a3, fun x hx => (a4 x hx).1⟩
  refine fn_to (S2 := setP T r v') (S' := SP (setP T r v') (zP t)) ?_ (by rw [← setP_len (r := r) (ps := v'), SP_take]) setP_len
  unfold b__law_shape
  simp only [r_ok, r_c, r_op2, r_op1, r_nil, r_cons, r_callB, r_call, r_and, r_or, r_not, r_asB, r_if, r_andT, r_orT, r_notT, r_test, r_chain, r_seq, r_nx, r_rt, r_bk, r_ct, r_next, r_break, r_cont, r_drop, r_ret, r_retN, r_asg, r_aug, r_ifS, r_par, r_sl, r_noPart, r_part, r_asInt, r_put, r_for, r_src, r_srcA, r_comp, r_meth, r_oNx, r_oCt, r_oBk, r_oRt, r_yes, r_var', r_lift', List.getElem?_cons_zero, List.getElem?_cons_succ, List.set_cons_zero, List.set_cons_succ, o_add, o_addI, o_sub, o_neg, o_lt, o_le, o_gt, o_ge, o_eq, o_ne, o_int, o_intB, o_abs, o_max, o_min, r_env, List.map_cons, List.map_nil, List.length_cons, List.length_nil, Nat.zero_add, Nat.reduceAdd, Nat.reduceSub, List.replicate_succ, List.replicate_zero, List.cons_append, List.nil_append, Bool.false_eq_true, if_true, if_false, gPar, List.zip_cons_cons, List.zip_nil_right, List.zip_nil_left, List.foldl_cons, List.foldl_nil, unsetE, r_err, e, n2, e2, tt]
  rfl
end
end DL
set_option maxHeartbeats 4000000
namespace DL
open PySem PySem.Spec PyProof.Rows L2
/-! ### strips, shapes: by the kernel -/
def okTr (r : Res D) : Bool := match r with
  | .ok (.p (.bl true)) _ => true
  | _ => false
abbrev zT (l : List Nat) : P := .tup (zP l)
theorem okTr_ok {r : Res D} (h : okTr r = true) : ∃ S', r = .ok (.p (.bl true)) S' := by
  unfold okTr at h
  split at h
  · rename_i S'
    exact ⟨S', rfl⟩
  · cases h
abbrev S0k : Store := ⟨[], rfl⟩
def ckH : Bool := (List.range 11).all fun k => (ptn k).all fun l => okTr (n_is_shape [tN l] S0k)
theorem k_ckH : ckH = true := by decide +kernel
section
variable {S : Store}
theorem p_is_shape {k : Nat} {l : List Nat} (h : k ≤ 10) (hl : l ∈ ptn k) : m_is_shape [tN l] S = .ok (.p (.bl true)) S := by
  have e := k_ckH
  unfold ckH at e
  rw [List.all_eq_true] at e
  have e := e k (List.mem_range.mpr (by omega))
  rw [List.all_eq_true] at e
  obtain ⟨S', e⟩ := okTr_ok (e l hl)
  exact @cl_ok ⟨[]⟩ _ _ _ _ _ rfl e
end
end DL
set_option maxHeartbeats 4000000
namespace DL
open PySem PySem.Spec PyProof.Rows L2
section
variable {S T U : Store}
/-! ### comprehensions -/
theorem compI_mapD {α : Type} {g : MG} {e : ME D} {ρ : Env} {h f : α → D} : ∀ (L : List α) (acc : List D), acc.length + L.length ≤ 99999 →
    (∀ x ∈ L, ∃ ρ', g (h x) ρ S = some ρ' ∧ e ρ' S = .ok (f x) S) → compI [] g mYes e ρ acc (L.map h) S = .ok (acc ++ L.map f) S
  | [], acc, _, _ => by
    show compI [] _ _ _ _ acc [] S = _
    rw [compI_nil rfl]
    simp
  | x :: L, acc, hl, q => by
    rw [List.length_cons] at hl
    obtain ⟨ρ', e1, e3⟩ := q x List.mem_cons_self
    rw [List.map_cons, compI_keep rfl e1 rfl e3 (by omega), compI_mapD L _ (by simp; omega) fun y hy => q y (List.mem_cons_of_mem _ hy), List.map_cons]
    simp
theorem compI_ifD {α : Type} {g : MG} {t : ME Bool} {e : ME D} {ρ : Env} {p : α → Bool} {h f : α → D} : ∀ (L : List α) (acc : List D), acc.length + L.length ≤ 99999 →
    (∀ x ∈ L, ∃ ρ', g (h x) ρ S = some ρ' ∧ t ρ' S = .ok (p x) S ∧ (p x = true → e ρ' S = .ok (f x) S)) → compI [] g t e ρ acc (L.map h) S = .ok (acc ++ (L.filter p).map f) S
  | [], acc, _, _ => by
    show compI [] _ _ _ _ acc [] S = _
    rw [compI_nil rfl]
    simp
  | x :: L, acc, hl, q => by
    rw [List.length_cons] at hl
    obtain ⟨ρ', e1, e2, e3⟩ := q x List.mem_cons_self
    rw [List.map_cons]
    cases k : p x with
    | true =>
      rw [k] at e2
      rw [compI_keep rfl e1 e2 (e3 k) (by omega), compI_ifD L _ (by simp; omega) fun y hy => q y (List.mem_cons_of_mem _ hy), List.filter_cons_of_pos k, List.map_cons]
      simp
    | false =>
      rw [k] at e2
      rw [compI_skip rfl e1 e2, compI_ifD L acc (by omega) fun y hy => q y (List.mem_cons_of_mem _ hy), List.filter_cons_of_neg (by rw [k]; decide)]
theorem q_lstM {α : Type} {f : α → P} {L : List α} (h : L.length ≤ 100000) : fLstF (L.map fun x => D.p (f x)) S = some (.p (.lst (L.map f)), S) := by
  have e : (L.map fun x => D.p (f x)) = pD (L.map f) := by
    unfold pD
    rw [List.map_map]
    rfl
  rw [e]
  exact q_lstP (by rw [List.length_map]; exact h)
theorem top_append {ps : List P} {x : P} (hl : ps.length < 100000) : fAppend (.r S.objs.length) [.p x] (SP S ps) = some (.p .non, SP S (ps ++ [x])) := by
  rw [q_append lst_SP hl, setP_top]
theorem compA_cons {k : Nat} {g : MG} {t : ME Bool} {e : ME D} {ρ ρ' : Env} {x : D} {xs : List D} (h : g x ρ S = some ρ') : compA k [] g t e ρ (x :: xs) S = (noErr (t ρ' S)).bind fun b => if b = true then fun S => (noErr (e ρ' S)).bind fun y => fun S => (lift (fAppend (.r k) [y]) S).bind fun _ => compA k [] g t e ρ xs else compA k [] g t e ρ xs := by
  have : compA k [] g t e ρ (x :: xs) S = (match g x ρ S with
    | none => Res.stuck
    | some ρ' => (noErr (t ρ' S)).bind fun b => if b = true then fun S => (noErr (e ρ' S)).bind fun y => fun S => (lift (fAppend (.r k) [y]) S).bind fun _ => compA k [] g t e ρ xs else compA k [] g t e ρ xs) := rfl
  rw [this, h]
theorem comp2I_cons {g : MG} {t : ME Bool} {inn : Env → M Unit} {ρ ρ' : Env} {x : D} {xs : List D} (h : g x ρ S = some ρ') : comp2I [] g t inn ρ (x :: xs) S = (noErr (t ρ' S)).bind fun b => if b = true then fun S => (inn ρ' S).bind fun _ => comp2I [] g t inn ρ xs else comp2I [] g t inn ρ xs := by
  have : comp2I [] g t inn ρ (x :: xs) S = (match g x ρ S with
    | none => Res.stuck
    | some ρ' => (noErr (t ρ' S)).bind fun b => if b = true then fun S => (inn ρ' S).bind fun _ => comp2I [] g t inn ρ xs else comp2I [] g t inn ρ xs) := rfl
  rw [this, h]
theorem compA_run {α : Type} {g : MG} {t : ME Bool} {e : ME D} {ρ : Env} {p : α → Bool} {h : α → D} {f : α → P} : ∀ (L : List α) (acc : List P), acc.length + L.length ≤ 99999 →
    (∀ x ∈ L, ∀ ps, ∃ ρ', g (h x) ρ (SP S ps) = some ρ' ∧ t ρ' (SP S ps) = .ok (p x) (SP S ps) ∧ (p x = true → e ρ' (SP S ps) = .ok (.p (f x)) (SP S ps))) → compA S.objs.length [] g t e ρ (L.map h) (SP S acc) = .ok () (SP S (acc ++ (L.filter p).map f))
  | [], acc, _, _ => by
    rw [List.map_nil, List.filter_nil, List.map_nil, List.append_nil]
    rfl
  | x :: L, acc, hl, q => by
    rw [List.length_cons] at hl
    obtain ⟨ρ', e1, e2, e3⟩ := q x List.mem_cons_self acc
    rw [List.map_cons]
    rw [compA_cons e1]
    simp only [e2, noErr, r_ok]
    cases k : p x with
    | true =>
      have ap := top_append (S := S) (ps := acc) (x := f x) (by omega)
      simp only [e3 k, noErr, r_ok, if_true, r_lift ap]
      rw [compA_run L _ (by simp; omega) fun y hy => q y (List.mem_cons_of_mem _ hy), List.filter_cons_of_pos k, List.map_cons]
      simp
    | false =>
      simp only [Bool.false_eq_true, if_false]
      rw [compA_run L acc (by omega) fun y hy => q y (List.mem_cons_of_mem _ hy), List.filter_cons_of_neg (by rw [k]; decide)]
theorem comp2I_run {α : Type} {g : MG} {inn : Env → M Unit} {ρ : Env} {h : α → D} {F : α → List P} : ∀ (L : List α) (acc : List P), acc.length + (L.flatMap F).length ≤ 99000 →
    (∀ x ∈ L, ∀ ps, ps.length + (F x).length ≤ 99000 → ∃ ρ', g (h x) ρ (SP S ps) = some ρ' ∧ inn ρ' (SP S ps) = .ok () (SP S (ps ++ F x))) → comp2I [] g mYes inn ρ (L.map h) (SP S acc) = .ok () (SP S (acc ++ L.flatMap F))
  | [], acc, _, _ => by
    rw [List.map_nil, List.flatMap_nil, List.append_nil]
    rfl
  | x :: L, acc, hl, q => by
    rw [List.flatMap_cons, List.length_append] at hl
    obtain ⟨ρ', e1, e2⟩ := q x List.mem_cons_self acc (by omega)
    rw [List.map_cons]
    rw [comp2I_cons e1]
    simp only [r_yes, noErr, r_ok, if_true, e2]
    rw [comp2I_run L _ (by rw [List.length_append]; omega) fun y hy => q y (List.mem_cons_of_mem _ hy), List.flatMap_cons]
    simp
theorem finP_top {ps : List P} : finP S.objs.length (.r S.objs.length) (SP S ps) = (.p (.lst ps), S) := by
  have e : frzD S.objs.length (SP S ps) 8 (.r S.objs.length) = some (.lst ps) := by
    have all : ∀ (n : Nat) (qs : List P), frzDs S.objs.length (SP S ps) n (pD qs) = some qs := by
      intro n qs
      induction qs with
      | nil => rfl
      | cons p qs ih =>
        show frzDs S.objs.length (SP S ps) n (D.p p :: pD qs) = _
        have e1 : frzD S.objs.length (SP S ps) n (.p p) = some p := @frzD_p ⟨[]⟩ _ _ _ _
        show (match frzD S.objs.length (SP S ps) n (.p p), frzDs S.objs.length (SP S ps) n (pD qs) with
          | some p, some qs => some (p :: qs)
          | _, _ => none) = _
        rw [e1, ih]
    show (if S.objs.length ≤ S.objs.length then (match (SP S ps).objs[S.objs.length]? with
      | some (.lst ds) => (frzDs S.objs.length (SP S ps) 7 ds).map P.lst
      | some (.ins c fs) => (frzDs S.objs.length (SP S ps) 7 (fs.map (·.2))).map fun ps => P.ins c ((fs.map (·.1)).zip ps)
      | some (.dct fs) => (frzDs S.objs.length (SP S ps) 7 (fs.map (·.2))).map fun ps => P.dic ((fs.map (·.1)).zip ps)
      | _ => none) else none) = _
    rw [if_pos (Nat.le_refl _), SP_at]
    show (frzDs S.objs.length (SP S ps) 7 (pD ps)).map P.lst = _
    rw [all]
    rfl
  unfold finP
  rw [cut_pre SP_take]
  simp only [e]
theorem comp2_run {α : Type} {mi mi1 : ME Src} {vs vs1 : List Nat} {g g1 : MG} {t1 : ME Bool} {e : ME D} {ρ : Env} {h : α → D} {F : α → List P} (L : List α) (hm : mi ρ S = .ok ⟨L.map h, []⟩ S) (hl : (L.flatMap F).length ≤ 99000)
    (q : ∀ x ∈ L, ∀ ps, ps.length + (F x).length ≤ 99000 → ∃ ρ', g (h x) (unsetE ρ vs) (SP S ps) = some ρ' ∧ innC S.objs.length mi1 vs1 g1 t1 e ρ' (SP S ps) = .ok () (SP S (ps ++ F x))) : mComp2 finP mi vs g mYes mi1 vs1 g1 t1 e ρ S = .ok (.p (.lst (L.flatMap F))) S := by
  have r := comp2I_run (S := S) (g := g) (ρ := unsetE ρ vs) (h := h) L [] (by simpa using hl) q
  rw [List.nil_append] at r
  unfold mComp2
  rw [hm, r_ok]
  show (comp2I [] g mYes (innC S.objs.length mi1 vs1 g1 t1 e) (unsetE ρ vs) (L.map h) (SP S [])).bind _ = _
  rw [r, r_ok, finP_top]
/-! ### a shape less a strip -/
abbrev fP (q : List Nat × Nat) : P := .tup [zT q.1, .int q.2]
def cutsOf (row least left : Nat) : List Nat := (List.range (row - least + 1)).filter fun c => decide (c ≤ left)
def stepF (row least : Nat) (q : List Nat × Nat) : List (List Nat × Nat) := (cutsOf row least q.2).map fun c => (q.1 ++ [row - c], q.2 - c)
def goF : List Nat → List (List Nat × Nat) → List (List Nat × Nat)
  | [], F => F
  | row :: rest, F => goF rest (F.flatMap (stepF row (rest.headD 0)))
def stripF : List Nat → Nat → List (List Nat × Nat)
  | [], m => [([], m)]
  | row :: rest, m => (cutsOf row (rest.headD 0) m).flatMap fun c => (stripF rest (m - c)).map fun q => ((row - c) :: q.1, q.2)
theorem goF_strip : ∀ (l : List Nat) (F : List (List Nat × Nat)), goF l F = F.flatMap fun q => (stripF l q.2).map fun s => (q.1 ++ s.1, s.2)
  | [], F => by
    show F = F.flatMap fun q => [(q.1 ++ [], q.2)]
    induction F with
    | nil => rfl
    | cons q F ih =>
      rw [List.flatMap_cons, ← ih, List.append_nil]
      rfl
  | row :: rest, F => by
    show goF rest (F.flatMap _) = _
    rw [goF_strip rest, List.flatMap_assoc]
    congr 1
    funext q
    show List.flatMap _ ((cutsOf row (rest.headD 0) q.2).map _) = ((cutsOf row (rest.headD 0) q.2).flatMap _).map _
    rw [List.flatMap_map, List.map_flatMap]
    congr 1
    funext c
    rw [List.map_map]
    congr 1
    funext s
    simp
theorem filt_pos_cons (x : Nat) (l : List Nat) : (x :: l).filter (fun r => decide (0 < r)) = consP x (l.filter fun r => decide (0 < r)) := by
  unfold consP
  by_cases h : x = 0
  · rw [if_pos h, List.filter_cons_of_neg (by simp [h])]
  · rw [if_neg h, List.filter_cons_of_pos (by simp; omega)]
theorem stripF_L : ∀ (l : List Nat) (m : Nat), ((stripF l m).filter fun q => decide (q.2 = 0)).map (fun q => q.1.filter fun r => decide (0 < r)) = stripL l m
  | [], 0 => rfl
  | [], m + 1 => rfl
  | row :: rest, m => by
    show (((cutsOf row (rest.headD 0) m).flatMap _).filter _).map _ = (cutsOf row (rest.headD 0) m).flatMap _
    rw [List.filter_flatMap, List.map_flatMap]
    congr 1
    funext c
    rw [← stripF_L rest (m - c), List.filter_map, List.map_map, List.map_map]
    congr 1
    funext q
    exact filt_pos_cons (row - c) q.1
end
end DL
set_option maxHeartbeats 4000000
namespace DL
open PySem PySem.Spec PyProof.Rows L2
def fallB : List Nat → Bool
  | [] => true
  | x :: r => Nat.ble (r.headD 0) x && Nat.ble x 10 && fallB r
def ckF : Bool := (List.range 11).all fun k => (ptn k).all fun l => fallB l && Nat.ble l.length 10
theorem k_ckF : ckF = true := by decide +kernel
theorem ptn_fall {k : Nat} {l : List Nat} (h : k ≤ 10) (hl : l ∈ ptn k) : fallB l = true ∧ l.length ≤ 10 := by
  have := k_ckF
  unfold ckF at this
  rw [List.all_eq_true] at this
  have := this k (List.mem_range.mpr (by omega))
  rw [List.all_eq_true] at this
  have := this l hl
  rwa [Bool.and_eq_true, Nat.ble_eq] at this
theorem fallB_cons {x : Nat} {r : List Nat} : fallB (x :: r) = true ↔ (r.headD 0 ≤ x ∧ x ≤ 10) ∧ fallB r = true := by
  show (Nat.ble (r.headD 0) x && Nat.ble x 10 && fallB r) = true ↔ _
  rw [Bool.and_eq_true, Bool.and_eq_true, Nat.ble_eq, Nat.ble_eq]
theorem flat_le {α β : Type} {f : α → List β} {b : Nat} : ∀ (F : List α), (∀ x ∈ F, (f x).length ≤ b) → (F.flatMap f).length ≤ F.length * b
  | [], _ => by simp
  | x :: F, h => by
    rw [List.flatMap_cons, List.length_append, List.length_cons, Nat.add_mul, Nat.one_mul]
    have h1 := h x List.mem_cons_self
    have h2 := flat_le F fun y hy => h y (List.mem_cons_of_mem _ hy)
    omega
theorem cuts_len {row least left : Nat} : (cutsOf row least left).length ≤ row - least + 1 := by
  unfold cutsOf
  exact Nat.le_trans (List.length_filter_le _ _) (by rw [List.length_range]; omega)
theorem cuts_mem {row least left c : Nat} (h : c ∈ cutsOf row least left) : c ≤ row - least ∧ c ≤ left := by
  unfold cutsOf at h
  rw [List.mem_filter, List.mem_range, decide_eq_true_eq] at h
  omega
theorem pow_fit {row least : Nat} (h : least ≤ row) (h2 : row ≤ 10) {n : Nat} (hn : n ≤ 2 ^ (10 - row)) : n * (row - least + 1) ≤ 2 ^ (10 - least) := by
  have e : 2 ^ (10 - least) = 2 ^ (10 - row) * 2 ^ (row - least) := by
    rw [← Nat.pow_add]
    congr 1
    omega
  rw [e]
  exact Nat.mul_le_mul hn (Nat.lt_two_pow_self (n := row - least))
section
variable {S T U : Store}
theorem q_listRg {n : Nat} (h : n ≤ 1000) : fListRg1 fLstF (.p (.int (n : Int))) S = some (lI (zI (List.range n)), S) := by
  show fLR fLstF 0 (n : Int) S = _
  unfold fLR
  have : rgSmall 0 (n : Int) = true := by
    unfold rgSmall
    simp only [Bool.and_eq_true, decide_eq_true_eq]
    omega
  rw [if_pos this]
  have e : (rgP 0 (n : Int)).map D.p = dInts (zI (List.range n)) := by
    unfold rgP dInts zI
    rw [List.map_map, List.map_map, show ((n : Int) - 0).toNat = n by omega]
    refine List.map_congr_left fun k _ => ?_
    show D.p (.int (0 + (k : Int))) = D.p (.int (k : Int))
    rw [Int.zero_add]
  rw [e]
  exact f_lstF (by rw [zI_len, List.length_range]; omega)
theorem dz_map {l : List Nat} : dInts (zI l) = l.map fun c : Nat => D.p (.int (c : Int)) := by
  unfold dInts zI
  rw [List.map_map]
  rfl
def enumN : Nat → List Nat → List D
  | _, [] => []
  | k, x :: r => .p (.tup [.int k, .int x]) :: enumN (k + 1) r
theorem enumN_eq (l : List Nat) : enumD (dInts (zI l)) = enumN 0 l := by
  have key : ∀ (l : List Nat) (k : Nat), (((List.range' k l.length).zip (dInts (zI l))).map fun q => mkTup [.p (.int q.1), q.2]) = enumN k l := by
    intro l
    induction l with
    | nil => intro k; rfl
    | cons x r ih =>
      intro k
      show _ :: _ = _ :: enumN (k + 1) r
      congr 1
      exact ih (k + 1)
  have := key l 0
  unfold enumD
  rw [dInts_len, zI_len, List.range_eq_range']
  exact this
abbrev foundD (F : List (List Nat × Nat)) : D := .p (.lst (F.map fP))
abbrev trP (x : (List Nat × Nat) × Nat) : P := .tup [zT x.1.1, .int x.1.2, .int x.2]
def prsOf (row least : Nat) (F : List (List Nat × Nat)) : List ((List Nat × Nat) × Nat) := F.flatMap fun q => (cutsOf row least q.2).map fun c => (q, c)
theorem prs_step {row least : Nat} {F : List (List Nat × Nat)} : (prsOf row least F).map (fun x => (x.1.1 ++ [row - x.2], x.1.2 - x.2)) = F.flatMap (stepF row least) := by
  unfold prsOf stepF
  rw [List.map_flatMap]
  congr 1
  funext q
  rw [List.map_map]
  rfl
theorem prs_mem {row least : Nat} {F : List (List Nat × Nat)} {x} (h : x ∈ prsOf row least F) : x.2 ≤ row - least ∧ x.2 ≤ x.1.2 := by
  unfold prsOf at h
  obtain ⟨q, _, h⟩ := List.mem_flatMap.mp h
  obtain ⟨c, hc, rfl⟩ := List.mem_map.mp h
  exact cuts_mem hc
theorem least_run {pre rest : List Nat} {row : Nat} {z1 z2 z5 z6 z7 : Option D} (hl : (pre ++ row :: rest).length ≤ 1000) : (mIf (mTest (mOp2 fLt (mOp2 (fAddG fLstF) (mVar 3) (mC (.int 1))) (mCallB fLen (mCons (mVar 0) mNil)))) (mOp2 fIx (mVar 0) (mOp2 (fAddG fLstF) (mVar 3) (mC (.int 1)))) (mC (.int 0))) [some (tN (pre ++ row :: rest)), z1, z2, some (.p (.int pre.length)), some (.p (.int row)), z5, z6, z7, none, none, none, none] S = .ok (.p (.int (rest.headD 0 : Nat))) S := by
  have ln : fLen [tN (pre ++ row :: rest)] S = some (.p (.int ((pre.length : Int) + 1 + rest.length)), S) := by
    rw [q_lenT, zI_len]
    congr 4
    simp
    omega
  cases rest with
  | nil =>
    have q : decide ((pre.length : Int) + 1 < (pre.length : Int) + 1 + (([] : List Nat).length : Nat)) = false := by simp
    simp -implicitDefEqProofs (disch := walk_at "dl") only [r_ok, r_c, r_op2, r_op1, r_nil, r_cons, r_callB, r_call, r_and, r_or, r_not, r_asB, r_if, r_andT, r_orT, r_notT, r_test, r_chain, r_seq, r_nx, r_rt, r_bk, r_ct, r_next, r_break, r_cont, r_drop, r_ret, r_retN, r_asg, r_aug, r_ifS, r_par, r_sl, r_noPart, r_part, r_asInt, r_put, r_for, r_src, r_srcA, r_comp, r_oNx, r_oCt, r_oBk, r_oRt, r_yes, t_lift, t_some, t_var, t_vsome, t_liftS, t_ssome, t_meth, t_lstO, t_lstOF, List.getElem?_cons_zero, List.getElem?_cons_succ, List.set_cons_zero, List.set_cons_succ, o_add, o_addI, o_sub, o_neg, o_lt, o_le, o_gt, o_ge, o_eq, o_ne, o_int, o_intB, o_abs, o_max, o_min, r_env, List.map_cons, List.map_nil, List.length_cons, Nat.zero_add, Nat.reduceAdd, Nat.reduceSub, Nat.reduceLeDiff, List.replicate_succ, List.replicate_zero, List.cons_append, List.nil_append, Bool.false_eq_true, if_true, if_false, gPar, List.zip_cons_cons, List.zip_nil_right, List.zip_nil_left, List.foldl_cons, List.foldl_nil, unsetE, r_err, r_assoc, r_iteB, wp_ok, q_lstI, q_mul, q_div, q_range1, q_range2, q_lenL, q_sumT, q_sumL, q_srcT, q_srcL, q_new0, q_lst, q_append, q_extend, q_lenR, q_toTR, q_l1, q_l2, q_l3, q_l4, q_addL, q_addT, q_srtT, q_srtL, f_toT_l, f_toT_t, o_mod, Bool.not_true, Bool.not_false, Bool.true_and, Bool.false_and, ln, q]
    rfl
  | cons y rest =>
    have q : decide ((pre.length : Int) + 1 < (pre.length : Int) + 1 + ((y :: rest : List Nat).length : Nat)) = true := by
      rw [decide_eq_true_eq, List.length_cons]
      omega
    have ix : fIx (tN (pre ++ row :: y :: rest)) (.p (.int ((pre.length : Int) + 1))) S = some (.p (.int (y : Int)), S) := by
      have h : pre.length + 1 < (pre ++ row :: y :: rest).length := by simp
      have := q_ixT (T := S) (ns := zI (pre ++ row :: y :: rest)) (k := pre.length + 1) (by rw [zI_len]; exact h)
      have e : (zI (pre ++ row :: y :: rest))[pre.length + 1]'(by rw [zI_len]; exact h) = (y : Int) := by
        unfold zI
        rw [List.getElem_map]
        congr 1
        rw [List.getElem_append_right (by omega)]
        simp
      rw [e] at this
      exact this
    simp -implicitDefEqProofs (disch := walk_at "dl") only [r_ok, r_c, r_op2, r_op1, r_nil, r_cons, r_callB, r_call, r_and, r_or, r_not, r_asB, r_if, r_andT, r_orT, r_notT, r_test, r_chain, r_seq, r_nx, r_rt, r_bk, r_ct, r_next, r_break, r_cont, r_drop, r_ret, r_retN, r_asg, r_aug, r_ifS, r_par, r_sl, r_noPart, r_part, r_asInt, r_put, r_for, r_src, r_srcA, r_comp, r_oNx, r_oCt, r_oBk, r_oRt, r_yes, t_lift, t_some, t_var, t_vsome, t_liftS, t_ssome, t_meth, t_lstO, t_lstOF, List.getElem?_cons_zero, List.getElem?_cons_succ, List.set_cons_zero, List.set_cons_succ, o_add, o_addI, o_sub, o_neg, o_lt, o_le, o_gt, o_ge, o_eq, o_ne, o_int, o_intB, o_abs, o_max, o_min, r_env, List.map_cons, List.map_nil, List.length_nil, Nat.zero_add, Nat.reduceAdd, Nat.reduceSub, Nat.reduceLeDiff, List.replicate_succ, List.replicate_zero, List.cons_append, List.nil_append, Bool.false_eq_true, if_true, if_false, gPar, List.zip_cons_cons, List.zip_nil_right, List.zip_nil_left, List.foldl_cons, List.foldl_nil, unsetE, r_err, r_assoc, r_iteB, wp_ok, q_lstI, q_mul, q_div, q_range1, q_range2, q_lenL, q_sumT, q_sumL, q_srcT, q_srcL, q_new0, q_lst, q_append, q_extend, q_lenR, q_toTR, q_l1, q_l2, q_l3, q_l4, q_addL, q_addT, q_srtT, q_srtL, f_toT_l, f_toT_t, o_mod, Bool.not_true, Bool.not_false, Bool.true_and, Bool.false_and, ln, q, ix]
    rfl
end
end DL
set_option maxHeartbeats 4000000
namespace DL
open PySem PySem.Spec PyProof.Rows L2
section
variable {S T U : Store}
theorem strip_inner {z0 z1 z2 z3 z5 z7 : Option D} {row least : Nat} {q : List Nat × Nat} {ps : List P} (hr : row - least ≤ 10) (hl : ps.length + (cutsOf row least q.2).length ≤ 99900) :
    innC S.objs.length (mSrc srcSeq (mVar 6)) [10] (gNm 10) ct_without_strip ce_without_strip [z0, z1, z2, z3, some (.p (.int row)), z5, some (lI (zI (List.range (row - least + 1)))), z7, some (.p (zT q.1)), some (.p (.int q.2)), none, none] (SP S ps) = .ok () (SP S (ps ++ (cutsOf row least q.2).map fun c => trP (q, c))) := by
  have cr := compA_run (S := S) (g := gNm 10) (t := ct_without_strip) (e := ce_without_strip) (ρ := [z0, z1, z2, z3, some (.p (.int row)), z5, some (lI (zI (List.range (row - least + 1)))), z7, some (.p (zT q.1)), some (.p (.int q.2)), none, none]) (p := fun c : Nat => decide (c ≤ q.2)) (h := fun c : Nat => D.p (.int (c : Int))) (f := fun c => trP (q, c)) (List.range (row - least + 1)) ps (by rw [List.length_range]; omega) fun c hc ps => ⟨_, rfl, by
      show ct_without_strip [z0, z1, z2, z3, some (.p (.int row)), z5, some (lI (zI (List.range (row - least + 1)))), z7, some (.p (zT q.1)), some (.p (.int q.2)), some (.p (.int (c : Int))), none] _ = _
      have e : decide ((c : Int) ≤ (q.2 : Int)) = decide (c ≤ q.2) := by
        rw [Bool.eq_iff_iff, decide_eq_true_eq, decide_eq_true_eq]
        omega
      unfold ct_without_strip
      simp -implicitDefEqProofs (disch := walk_at "dl") only [r_ok, r_c, r_op2, r_op1, r_nil, r_cons, r_callB, r_call, r_and, r_or, r_not, r_asB, r_if, r_andT, r_orT, r_notT, r_test, r_chain, r_seq, r_nx, r_rt, r_bk, r_ct, r_next, r_break, r_cont, r_drop, r_ret, r_retN, r_asg, r_aug, r_ifS, r_par, r_sl, r_noPart, r_part, r_asInt, r_put, r_for, r_src, r_srcA, r_comp, r_oNx, r_oCt, r_oBk, r_oRt, r_yes, t_lift, t_some, t_var, t_vsome, t_liftS, t_ssome, t_meth, t_lstO, t_lstOF, List.getElem?_cons_zero, List.getElem?_cons_succ, List.set_cons_zero, List.set_cons_succ, o_add, o_addI, o_sub, o_neg, o_lt, o_le, o_gt, o_ge, o_eq, o_ne, o_int, o_intB, o_abs, o_max, o_min, r_env, List.map_cons, List.map_nil, List.length_cons, List.length_nil, Nat.zero_add, Nat.reduceAdd, Nat.reduceSub, Nat.reduceLeDiff, List.replicate_succ, List.replicate_zero, List.cons_append, List.nil_append, Bool.false_eq_true, if_true, if_false, gPar, List.zip_cons_cons, List.zip_nil_right, List.zip_nil_left, List.foldl_cons, List.foldl_nil, unsetE, r_err, r_assoc, r_iteB, wp_ok, q_lstI, q_mul, q_div, q_range1, q_range2, q_lenT, q_lenL, q_sumT, q_sumL, q_srcT, q_srcL, q_new0, q_lst, q_append, q_extend, q_lenR, q_toTR, q_l1, q_l2, q_l3, q_l4, q_addL, q_addT, q_srtT, q_srtL, f_toT_l, f_toT_t, o_mod, Bool.not_true, Bool.not_false, Bool.true_and, Bool.false_and, e], fun _ => by
      show ce_without_strip [z0, z1, z2, z3, some (.p (.int row)), z5, some (lI (zI (List.range (row - least + 1)))), z7, some (.p (zT q.1)), some (.p (.int q.2)), some (.p (.int (c : Int))), none] _ = _
      unfold ce_without_strip
      simp -implicitDefEqProofs (disch := walk_at "dl") only [r_ok, r_c, r_op2, r_op1, r_nil, r_cons, r_callB, r_call, r_and, r_or, r_not, r_asB, r_if, r_andT, r_orT, r_notT, r_test, r_chain, r_seq, r_nx, r_rt, r_bk, r_ct, r_next, r_break, r_cont, r_drop, r_ret, r_retN, r_asg, r_aug, r_ifS, r_par, r_sl, r_noPart, r_part, r_asInt, r_put, r_for, r_src, r_srcA, r_comp, r_oNx, r_oCt, r_oBk, r_oRt, r_yes, t_lift, t_some, t_var, t_vsome, t_liftS, t_ssome, t_meth, t_lstO, t_lstOF, List.getElem?_cons_zero, List.getElem?_cons_succ, List.set_cons_zero, List.set_cons_succ, o_add, o_addI, o_sub, o_neg, o_lt, o_le, o_gt, o_ge, o_eq, o_ne, o_int, o_intB, o_abs, o_max, o_min, r_env, List.map_cons, List.map_nil, List.length_cons, List.length_nil, Nat.zero_add, Nat.reduceAdd, Nat.reduceSub, Nat.reduceLeDiff, List.replicate_succ, List.replicate_zero, List.cons_append, List.nil_append, Bool.false_eq_true, if_true, if_false, gPar, List.zip_cons_cons, List.zip_nil_right, List.zip_nil_left, List.foldl_cons, List.foldl_nil, unsetE, r_err, r_assoc, r_iteB, wp_ok, q_lstI, q_mul, q_div, q_range1, q_range2, q_lenT, q_lenL, q_sumT, q_sumL, q_srcT, q_srcL, q_new0, q_lst, q_append, q_extend, q_lenR, q_toTR, q_l1, q_l2, q_l3, q_l4, q_addL, q_addT, q_srtT, q_srtL, f_toT_l, f_toT_t, o_mod, Bool.not_true, Bool.not_false, Bool.true_and, Bool.false_and, t_insO, t_insP, t_seqL, t_seqT, t_seqLP, t_seqTP, t_seqR, t_methO, t_methS, t_prop, t_noErr, t_star, t_make, t_callK, t_callD, t_eqS, t_neS, t_tup3]⟩
  rw [← dz_map] at cr
  unfold innC
  have sr : mSrc srcSeq (mVar 6) [z0, z1, z2, z3, some (.p (.int row)), z5, some (lI (zI (List.range (row - least + 1)))), z7, some (.p (zT q.1)), some (.p (.int q.2)), none, none] (SP S ps) = .ok ⟨dInts (zI (List.range (row - least + 1))), []⟩ (SP S ps) := by
    simp -implicitDefEqProofs (disch := walk_at "dl") only [r_ok, r_c, r_op2, r_op1, r_nil, r_cons, r_callB, r_call, r_and, r_or, r_not, r_asB, r_if, r_andT, r_orT, r_notT, r_test, r_chain, r_seq, r_nx, r_rt, r_bk, r_ct, r_next, r_break, r_cont, r_drop, r_ret, r_retN, r_asg, r_aug, r_ifS, r_par, r_sl, r_noPart, r_part, r_asInt, r_put, r_for, r_src, r_srcA, r_comp, r_oNx, r_oCt, r_oBk, r_oRt, r_yes, t_lift, t_some, t_var, t_vsome, t_liftS, t_ssome, t_meth, t_lstO, t_lstOF, List.getElem?_cons_zero, List.getElem?_cons_succ, List.set_cons_zero, List.set_cons_succ, o_add, o_addI, o_sub, o_neg, o_lt, o_le, o_gt, o_ge, o_eq, o_ne, o_int, o_intB, o_abs, o_max, o_min, r_env, List.map_cons, List.map_nil, List.length_cons, List.length_nil, Nat.zero_add, Nat.reduceAdd, Nat.reduceSub, Nat.reduceLeDiff, List.replicate_succ, List.replicate_zero, List.cons_append, List.nil_append, Bool.false_eq_true, if_true, if_false, gPar, List.zip_cons_cons, List.zip_nil_right, List.zip_nil_left, List.foldl_cons, List.foldl_nil, unsetE, r_err, r_assoc, r_iteB, wp_ok, q_lstI, q_mul, q_div, q_range1, q_range2, q_lenT, q_lenL, q_sumT, q_sumL, q_srcT, q_srcL, q_new0, q_lst, q_append, q_extend, q_lenR, q_toTR, q_l1, q_l2, q_l3, q_l4, q_addL, q_addT, q_srtT, q_srtL, f_toT_l, f_toT_t, o_mod, Bool.not_true, Bool.not_false, Bool.true_and, Bool.false_and, q_srcL]
  rw [sr]
  exact cr
theorem fTup_star {l : List Nat} {x : Nat} (h : l.length ≤ 1000) : fTup (pD (zP l) ++ [.p (.int (x : Int))]) S = some (.p (zT (l ++ [x])), S) := by
  have e : pD (zP l) ++ [.p (.int (x : Int))] = pD (zP (l ++ [x])) := by
    unfold pD zP zI
    simp [Function.comp_def]
  rw [e]
  unfold fTup
  rw [if_pos (by rw [List.length_map, zP_len]; simp; omega), mkTup_pD]
theorem strip_step {pre rest : List Nat} {row m : Nat} {F : List (List Nat × Nat)} {z5 z6 z7 : Option D} (hl : (pre ++ row :: rest).length ≤ 1000) (hr : rest.headD 0 ≤ row ∧ row ≤ 10) (hF : F.length ≤ 2 ^ (10 - row)) (hq : ∀ q ∈ F, q.1.length = pre.length) :
    lb_without_strip [some (tN (pre ++ row :: rest)), some (.p (.int m)), some (foundD F), some (.p (.int pre.length)), some (.p (.int row)), z5, z6, z7, none, none, none, none] S =
      .ok (.nx [some (tN (pre ++ row :: rest)), some (.p (.int m)), some (foundD (F.flatMap (stepF row (rest.headD 0)))), some (.p (.int pre.length)), some (.p (.int row)), some (.p (.int (rest.headD 0 : Nat))), some (lI (zI (List.range (row - rest.headD 0 + 1)))), some (.p (.lst ((prsOf row (rest.headD 0) F).map trP))), none, none, none, none]) S := by
  have e1 := least_run (S := S) (pre := pre) (rest := rest) (row := row) (z1 := some (.p (.int m))) (z2 := some (foundD F)) (z5 := z5) (z6 := z6) (z7 := z7) hl
  generalize rest.headD 0 = least at *
  have hb : F.length ≤ 1024 := Nat.le_trans hF (Nat.le_trans (Nat.pow_le_pow_right (by decide) (Nat.sub_le 10 row)) (by decide))
  have hp : (prsOf row least F).length ≤ 12000 := by
    unfold prsOf
    have h1 := flat_le (f := fun q : List Nat × Nat => (cutsOf row least q.2).map fun c => (q, c)) (b := 11) F fun q _ => by
      rw [List.length_map]
      have := cuts_len (row := row) (least := least) (left := q.2)
      omega
    omega
  have a1 : (mAsg (gNm 6) (mOp1 (fListRg1 fLstF) (mOp2 (fAddG fLstF) (mOp2 fSub (mVar 4) (mVar 5)) (mC (.int 1))))) [some (tN (pre ++ row :: rest)), some (.p (.int m)), some (foundD F), some (.p (.int pre.length)), some (.p (.int row)), some (.p (.int (least : Nat))), z6, z7, none, none, none, none] S = .ok (.nx [some (tN (pre ++ row :: rest)), some (.p (.int m)), some (foundD F), some (.p (.int pre.length)), some (.p (.int row)), some (.p (.int (least : Nat))), some (lI (zI (List.range (row - least + 1)))), z7, none, none, none, none]) S := by
    have e : (row : Int) - (least : Int) + 1 = ((row - least + 1 : Nat) : Int) := by omega
    have rg := q_listRg (S := S) (n := row - least + 1) (by omega)
    simp -implicitDefEqProofs (disch := walk_at "dl") only [r_ok, r_c, r_op2, r_op1, r_nil, r_cons, r_callB, r_call, r_and, r_or, r_not, r_asB, r_if, r_andT, r_orT, r_notT, r_test, r_chain, r_seq, r_nx, r_rt, r_bk, r_ct, r_next, r_break, r_cont, r_drop, r_ret, r_retN, r_asg, r_aug, r_ifS, r_par, r_sl, r_noPart, r_part, r_asInt, r_put, r_for, r_src, r_srcA, r_comp, r_oNx, r_oCt, r_oBk, r_oRt, r_yes, t_lift, t_some, t_var, t_vsome, t_liftS, t_ssome, t_meth, t_lstO, t_lstOF, List.getElem?_cons_zero, List.getElem?_cons_succ, List.set_cons_zero, List.set_cons_succ, o_add, o_addI, o_sub, o_neg, o_lt, o_le, o_gt, o_ge, o_eq, o_ne, o_int, o_intB, o_abs, o_max, o_min, r_env, List.map_cons, List.map_nil, List.length_cons, List.length_nil, Nat.zero_add, Nat.reduceAdd, Nat.reduceSub, Nat.reduceLeDiff, List.replicate_succ, List.replicate_zero, List.cons_append, List.nil_append, Bool.false_eq_true, if_true, if_false, gPar, List.zip_cons_cons, List.zip_nil_right, List.zip_nil_left, List.foldl_cons, List.foldl_nil, unsetE, r_err, r_assoc, r_iteB, wp_ok, q_lstI, q_mul, q_div, q_range1, q_range2, q_lenT, q_lenL, q_sumT, q_sumL, q_srcT, q_srcL, q_new0, q_lst, q_append, q_extend, q_lenR, q_toTR, q_l1, q_l2, q_l3, q_l4, q_addL, q_addT, q_srtT, q_srtL, f_toT_l, f_toT_t, o_mod, Bool.not_true, Bool.not_false, Bool.true_and, Bool.false_and, e, rg]
  have a2 : mComp2 finP (mSrc srcSeq (mVar 2)) [8, 9, 10] (gTp 2 (gsCons (gNm 8) (gsCons (gNm 9) gsNil))) mYes (mSrc srcSeq (mVar 6)) [10] (gNm 10) ct_without_strip ce_without_strip [some (tN (pre ++ row :: rest)), some (.p (.int m)), some (foundD F), some (.p (.int pre.length)), some (.p (.int row)), some (.p (.int (least : Nat))), some (lI (zI (List.range (row - least + 1)))), z7, none, none, none, none] S = .ok (.p (.lst ((prsOf row least F).map trP))) S := by
    have sr : mSrc srcSeq (mVar 2) [some (tN (pre ++ row :: rest)), some (.p (.int m)), some (foundD F), some (.p (.int pre.length)), some (.p (.int row)), some (.p (.int (least : Nat))), some (lI (zI (List.range (row - least + 1)))), z7, none, none, none, none] S = .ok ⟨F.map fun q => D.p (fP q), []⟩ S := by
      have : srcSeq (foundD F) S = some (⟨F.map fun q => D.p (fP q), []⟩, S) := by
        have : srcSeq (foundD F) S = some (⟨pD (F.map fP), []⟩, S) := rfl
        rw [this]
        unfold pD
        rw [List.map_map]
        rfl
      simp -implicitDefEqProofs (disch := walk_at "dl") only [r_ok, r_c, r_op2, r_op1, r_nil, r_cons, r_callB, r_call, r_and, r_or, r_not, r_asB, r_if, r_andT, r_orT, r_notT, r_test, r_chain, r_seq, r_nx, r_rt, r_bk, r_ct, r_next, r_break, r_cont, r_drop, r_ret, r_retN, r_asg, r_aug, r_ifS, r_par, r_sl, r_noPart, r_part, r_asInt, r_put, r_for, r_src, r_srcA, r_comp, r_oNx, r_oCt, r_oBk, r_oRt, r_yes, t_lift, t_some, t_var, t_vsome, t_liftS, t_ssome, t_meth, t_lstO, t_lstOF, List.getElem?_cons_zero, List.getElem?_cons_succ, List.set_cons_zero, List.set_cons_succ, o_add, o_addI, o_sub, o_neg, o_lt, o_le, o_gt, o_ge, o_eq, o_ne, o_int, o_intB, o_abs, o_max, o_min, r_env, List.map_cons, List.map_nil, List.length_cons, List.length_nil, Nat.zero_add, Nat.reduceAdd, Nat.reduceSub, Nat.reduceLeDiff, List.replicate_succ, List.replicate_zero, List.cons_append, List.nil_append, Bool.false_eq_true, if_true, if_false, gPar, List.zip_cons_cons, List.zip_nil_right, List.zip_nil_left, List.foldl_cons, List.foldl_nil, unsetE, r_err, r_assoc, r_iteB, wp_ok, q_lstI, q_mul, q_div, q_range1, q_range2, q_lenT, q_lenL, q_sumT, q_sumL, q_srcT, q_srcL, q_new0, q_lst, q_append, q_extend, q_lenR, q_toTR, q_l1, q_l2, q_l3, q_l4, q_addL, q_addT, q_srtT, q_srtL, f_toT_l, f_toT_t, o_mod, Bool.not_true, Bool.not_false, Bool.true_and, Bool.false_and, this]
    have fe : (F.flatMap fun q => (cutsOf row least q.2).map fun c => trP (q, c)) = (prsOf row least F).map trP := by
      unfold prsOf
      rw [List.map_flatMap]
      congr 1
      funext q
      rw [List.map_map]
      rfl
    have := comp2_run (S := S) (g := gTp 2 (gsCons (gNm 8) (gsCons (gNm 9) gsNil))) (mi1 := mSrc srcSeq (mVar 6)) (vs := [8, 9, 10]) (vs1 := [10]) (g1 := gNm 10) (t1 := ct_without_strip) (e := ce_without_strip) (h := fun q => D.p (fP q)) (F := fun q : List Nat × Nat => (cutsOf row least q.2).map fun c => trP (q, c)) F sr (by rw [fe, List.length_map]; omega) fun q hq ps hps => ⟨[some (tN (pre ++ row :: rest)), some (.p (.int m)), some (foundD F), some (.p (.int pre.length)), some (.p (.int row)), some (.p (.int (least : Nat))), some (lI (zI (List.range (row - least + 1)))), z7, some (.p (zT q.1)), some (.p (.int q.2)), none, none], rfl, strip_inner (S := S) (by omega) (by rw [List.length_map] at hps; omega)⟩
    rw [fe] at this
    exact this
  have a3 : compI [] (gTp 3 (gsCons (gNm 8) (gsCons (gNm 9) (gsCons (gNm 10) gsNil)))) mYes ce_without_strip_1 [some (tN (pre ++ row :: rest)), some (.p (.int m)), some (foundD F), some (.p (.int pre.length)), some (.p (.int row)), some (.p (.int (least : Nat))), some (lI (zI (List.range (row - least + 1)))), some (.p (.lst ((prsOf row least F).map trP))), none, none, none, none] [] ((prsOf row least F).map fun x => D.p (trP x)) S = .ok ([] ++ (prsOf row least F).map fun x => D.p (fP (x.1.1 ++ [row - x.2], x.1.2 - x.2))) S :=
    compI_mapD (prsOf row least F) [] (by rw [List.length_nil]; omega) fun x hx => ⟨[some (tN (pre ++ row :: rest)), some (.p (.int m)), some (foundD F), some (.p (.int pre.length)), some (.p (.int row)), some (.p (.int (least : Nat))), some (lI (zI (List.range (row - least + 1)))), some (.p (.lst ((prsOf row least F).map trP))), some (.p (zT x.1.1)), some (.p (.int x.1.2)), some (.p (.int x.2)), none], rfl, by
      have := prs_mem hx
      have hx1 : x.1 ∈ F := by
        unfold prsOf at hx
        obtain ⟨q, h1, h2⟩ := List.mem_flatMap.mp hx
        obtain ⟨c, _, rfl⟩ := List.mem_map.mp h2
        exact h1
      have st := fTup_star (S := S) (l := x.1.1) (x := row - x.2) (by
        rw [hq _ hx1]
        rw [List.length_append] at hl
        omega)
      have s1 : (row : Int) - (x.2 : Int) = ((row - x.2 : Nat) : Int) := by omega
      have s2 : (x.1.2 : Int) - (x.2 : Int) = ((x.1.2 - x.2 : Nat) : Int) := by omega
      unfold ce_without_strip_1
      simp -implicitDefEqProofs (disch := walk_at "dl") only [r_ok, r_c, r_op2, r_op1, r_nil, r_cons, r_callB, r_call, r_and, r_or, r_not, r_asB, r_if, r_andT, r_orT, r_notT, r_test, r_chain, r_seq, r_nx, r_rt, r_bk, r_ct, r_next, r_break, r_cont, r_drop, r_ret, r_retN, r_asg, r_aug, r_ifS, r_par, r_sl, r_noPart, r_part, r_asInt, r_put, r_for, r_src, r_srcA, r_comp, r_oNx, r_oCt, r_oBk, r_oRt, r_yes, t_lift, t_some, t_var, t_vsome, t_liftS, t_ssome, t_meth, t_lstO, t_lstOF, List.getElem?_cons_zero, List.getElem?_cons_succ, List.set_cons_zero, List.set_cons_succ, o_add, o_addI, o_sub, o_neg, o_lt, o_le, o_gt, o_ge, o_eq, o_ne, o_int, o_intB, o_abs, o_max, o_min, r_env, List.map_cons, List.map_nil, List.length_cons, List.length_nil, Nat.zero_add, Nat.reduceAdd, Nat.reduceSub, Nat.reduceLeDiff, List.replicate_succ, List.replicate_zero, List.cons_append, List.nil_append, Bool.false_eq_true, if_true, if_false, gPar, List.zip_cons_cons, List.zip_nil_right, List.zip_nil_left, List.foldl_cons, List.foldl_nil, unsetE, r_err, r_assoc, r_iteB, wp_ok, q_lstI, q_mul, q_div, q_range1, q_range2, q_lenT, q_lenL, q_sumT, q_sumL, q_srcT, q_srcL, q_new0, q_lst, q_append, q_extend, q_lenR, q_toTR, q_l1, q_l2, q_l3, q_l4, q_addL, q_addT, q_srtT, q_srtL, f_toT_l, f_toT_t, o_mod, Bool.not_true, Bool.not_false, Bool.true_and, Bool.false_and, t_insO, t_insP, t_seqL, t_seqT, t_seqLP, t_seqTP, t_seqR, t_methO, t_methS, t_prop, t_noErr, t_star, t_make, t_callK, t_callD, t_eqS, t_neS, s1, s2, st, t_tup2]⟩
  have s3 : srcSeq (.p (.lst ((prsOf row least F).map trP))) S = some (⟨(prsOf row least F).map fun x => D.p (trP x), []⟩, S) := by
    have : srcSeq (.p (.lst ((prsOf row least F).map trP))) S = some (⟨pD ((prsOf row least F).map trP), []⟩, S) := rfl
    rw [this]
    unfold pD
    rw [List.map_map]
    rfl
  have f3 : fLstF ((prsOf row least F).map fun x => D.p (fP (x.1.1 ++ [row - x.2], x.1.2 - x.2))) S = some (foundD (F.flatMap (stepF row least)), S) := by
    rw [q_lstM (f := fun x : (List Nat × Nat) × Nat => fP (x.1.1 ++ [row - x.2], x.1.2 - x.2)) (by omega), ← prs_step]
    show _ = some (D.p (.lst (List.map fP (List.map _ _))), S)
    rw [List.map_map]
    rfl
  rw [List.nil_append] at a3
  unfold lb_without_strip
  rw [r_seq, r_asg, e1]
  simp only [r_ok, r_nx, List.set_cons_succ, List.set_cons_zero]
  rw [r_seq, a1]
  simp only [r_ok, r_nx]
  rw [r_seq, r_asg, a2]
  simp only [r_ok, r_nx, List.set_cons_succ, List.set_cons_zero]
  simp -implicitDefEqProofs (disch := walk_at "dl") only [r_ok, r_c, r_op2, r_op1, r_nil, r_cons, r_callB, r_call, r_and, r_or, r_not, r_asB, r_if, r_andT, r_orT, r_notT, r_test, r_chain, r_seq, r_nx, r_rt, r_bk, r_ct, r_next, r_break, r_cont, r_drop, r_ret, r_retN, r_asg, r_aug, r_ifS, r_par, r_sl, r_noPart, r_part, r_asInt, r_put, r_for, r_src, r_srcA, r_comp, r_oNx, r_oCt, r_oBk, r_oRt, r_yes, t_lift, t_some, t_var, t_vsome, t_liftS, t_ssome, t_meth, t_lstO, t_lstOF, List.getElem?_cons_zero, List.getElem?_cons_succ, List.set_cons_zero, List.set_cons_succ, o_add, o_addI, o_sub, o_neg, o_lt, o_le, o_gt, o_ge, o_eq, o_ne, o_int, o_intB, o_abs, o_max, o_min, r_env, List.map_cons, List.map_nil, List.length_cons, List.length_nil, Nat.zero_add, Nat.reduceAdd, Nat.reduceSub, Nat.reduceLeDiff, List.replicate_succ, List.replicate_zero, List.cons_append, List.nil_append, Bool.false_eq_true, if_true, if_false, gPar, List.zip_cons_cons, List.zip_nil_right, List.zip_nil_left, List.foldl_cons, List.foldl_nil, unsetE, r_err, r_assoc, r_iteB, wp_ok, q_lstI, q_mul, q_div, q_range1, q_range2, q_lenT, q_lenL, q_sumT, q_sumL, q_srcT, q_srcL, q_new0, q_lst, q_append, q_extend, q_lenR, q_toTR, q_l1, q_l2, q_l3, q_l4, q_addL, q_addT, q_srtT, q_srtL, f_toT_l, f_toT_t, o_mod, Bool.not_true, Bool.not_false, Bool.true_and, Bool.false_and, s3, a3, f3]
theorem strip_loop {l : List Nat} {m : Nat} (hn : l.length ≤ 1000) : ∀ (rest pre : List Nat) (F : List (List Nat × Nat)) (z3 z4 z5 z6 z7 : Option D), l = pre ++ rest → fallB rest = true → F.length ≤ 2 ^ (10 - rest.headD 0) → (∀ q ∈ F, q.1.length = pre.length) →
    ∃ y3 y4 y5 y6 y7, loopI [] (gTp 2 (gsCons (gNm 3) (gsCons (gNm 4) gsNil))) lb_without_strip (enumN pre.length rest) [some (tN l), some (.p (.int m)), some (foundD F), z3, z4, z5, z6, z7, none, none, none, none] S = .ok (.nx [some (tN l), some (.p (.int m)), some (foundD (goF rest F)), y3, y4, y5, y6, y7, none, none, none, none]) S ∧ (goF rest F).length ≤ 1024 ∧ ∀ q ∈ goF rest F, q.1.length = l.length
  | [], pre, F, z3, z4, z5, z6, z7, e, _, hF, hq => ⟨z3, z4, z5, z6, z7, loopI_nil rfl, hF, by
    subst e
    rw [List.append_nil]
    exact hq⟩
  | row :: rest, pre, F, z3, z4, z5, z6, z7, e, hf, hF, hq => by
    obtain ⟨h1, h2⟩ := fallB_cons.mp hf
    have st := strip_step (S := S) (pre := pre) (rest := rest) (row := row) (m := m) (F := F) (z5 := z5) (z6 := z6) (z7 := z7) (by rw [← e]; exact hn) h1 hF hq
    rw [← e] at st
    have hl : (F.flatMap (stepF row (rest.headD 0))).length ≤ 2 ^ (10 - rest.headD 0) := by
      have := flat_le (f := stepF row (rest.headD 0)) (b := row - rest.headD 0 + 1) F fun q _ => by
        unfold stepF
        rw [List.length_map]
        exact cuts_len
      exact Nat.le_trans this (pow_fit h1.1 h1.2 hF)
    obtain ⟨y3, y4, y5, y6, y7, e2, e3, e4⟩ := strip_loop hn rest (pre ++ [row]) (F.flatMap (stepF row (rest.headD 0))) (some (.p (.int pre.length))) (some (.p (.int row))) (some (.p (.int (rest.headD 0 : Nat)))) (some (lI (zI (List.range (row - rest.headD 0 + 1))))) (some (.p (.lst ((prsOf row (rest.headD 0) F).map trP)))) (by rw [e, List.append_assoc]; rfl) h2 hl fun q hq2 => by
      obtain ⟨p, hp1, hp2⟩ := List.mem_flatMap.mp hq2
      unfold stepF at hp2
      obtain ⟨c, _, rfl⟩ := List.mem_map.mp hp2
      show (p.1 ++ [row - c]).length = _
      rw [List.length_append, List.length_append, hq p hp1]
      rfl
    refine ⟨y3, y4, y5, y6, y7, ?_, e3, e4⟩
    rw [List.length_append] at e2
    show loopI [] _ _ (.p (.tup [.int pre.length, .int row]) :: enumN (pre.length + 1) rest) _ S = _
    rw [loopI_cons rfl (ρ' := [some (tN l), some (.p (.int m)), some (foundD F), some (.p (.int pre.length)), some (.p (.int row)), z5, z6, z7, none, none, none, none]) rfl, st, r_ok, r_oNx]
    exact e2
theorem pos_comp {z0 z1 z2 z3 z5 z6 z7 z8 z9 z10 : Option D} {a : List Nat} {z4 : Option D} (ha : a.length ≤ 1000) : ce_without_strip_3 [z0, z1, z2, z3, z4, z5, z6, z7, z8, z9, z10, some (.p (zT a))] S = .ok (.p (zT (a.filter fun r => decide (0 < r)))) S := by
  have c := compI_ifD (S := S) (g := gNm 4) (t := ct_without_strip_1) (e := ce_without_strip_2) (ρ := [z0, z1, z2, z3, none, z5, z6, z7, z8, z9, z10, some (.p (zT a))]) (p := fun r : Nat => decide (0 < r)) (h := fun r : Nat => D.p (.int (r : Int))) (f := fun r : Nat => D.p (.int (r : Int))) a [] (by rw [List.length_nil]; omega) fun r hr => ⟨_, rfl, by
    show ct_without_strip_1 [z0, z1, z2, z3, some (.p (.int (r : Int))), z5, z6, z7, z8, z9, z10, some (.p (zT a))] S = _
    have e : decide ((0 : Int) < (r : Int)) = decide (0 < r) := by
      rw [Bool.eq_iff_iff, decide_eq_true_eq, decide_eq_true_eq]
      omega
    unfold ct_without_strip_1
    simp -implicitDefEqProofs (disch := walk_at "dl") only [r_ok, r_c, r_op2, r_op1, r_nil, r_cons, r_callB, r_call, r_and, r_or, r_not, r_asB, r_if, r_andT, r_orT, r_notT, r_test, r_chain, r_seq, r_nx, r_rt, r_bk, r_ct, r_next, r_break, r_cont, r_drop, r_ret, r_retN, r_asg, r_aug, r_ifS, r_par, r_sl, r_noPart, r_part, r_asInt, r_put, r_for, r_src, r_srcA, r_comp, r_oNx, r_oCt, r_oBk, r_oRt, r_yes, t_lift, t_some, t_var, t_vsome, t_liftS, t_ssome, t_meth, t_lstO, t_lstOF, List.getElem?_cons_zero, List.getElem?_cons_succ, List.set_cons_zero, List.set_cons_succ, o_add, o_addI, o_sub, o_neg, o_lt, o_le, o_gt, o_ge, o_eq, o_ne, o_int, o_intB, o_abs, o_max, o_min, r_env, List.map_cons, List.map_nil, List.length_cons, List.length_nil, Nat.zero_add, Nat.reduceAdd, Nat.reduceSub, Nat.reduceLeDiff, List.replicate_succ, List.replicate_zero, List.cons_append, List.nil_append, Bool.false_eq_true, if_true, if_false, gPar, List.zip_cons_cons, List.zip_nil_right, List.zip_nil_left, List.foldl_cons, List.foldl_nil, unsetE, r_err, r_assoc, r_iteB, wp_ok, q_lstI, q_mul, q_div, q_range1, q_range2, q_lenT, q_lenL, q_sumT, q_sumL, q_srcT, q_srcL, q_new0, q_lst, q_append, q_extend, q_lenR, q_toTR, q_l1, q_l2, q_l3, q_l4, q_addL, q_addT, q_srtT, q_srtL, f_toT_l, f_toT_t, o_mod, Bool.not_true, Bool.not_false, Bool.true_and, Bool.false_and, e], fun _ => rfl⟩
  rw [← dz_map, ← dz_map, List.nil_append] at c
  have hf : (a.filter fun r => decide (0 < r)).length ≤ 1000 := Nat.le_trans (List.length_filter_le _ _) ha
  have f1 : fLstF (dInts (zI (a.filter fun r => decide (0 < r)))) S = some (lI (zI (a.filter fun r => decide (0 < r))), S) := f_lstF (by rw [zI_len]; omega)
  have s1 : srcSeq (.p (zT a)) S = some (⟨dInts (zI a), []⟩, S) := q_srcT
  unfold ce_without_strip_3
  simp -implicitDefEqProofs (disch := walk_at "dl") only [r_ok, r_c, r_op2, r_op1, r_nil, r_cons, r_callB, r_call, r_and, r_or, r_not, r_asB, r_if, r_andT, r_orT, r_notT, r_test, r_chain, r_seq, r_nx, r_rt, r_bk, r_ct, r_next, r_break, r_cont, r_drop, r_ret, r_retN, r_asg, r_aug, r_ifS, r_par, r_sl, r_noPart, r_part, r_asInt, r_put, r_for, r_src, r_srcA, r_comp, r_oNx, r_oCt, r_oBk, r_oRt, r_yes, t_lift, t_some, t_var, t_vsome, t_liftS, t_ssome, t_meth, t_lstO, t_lstOF, List.getElem?_cons_zero, List.getElem?_cons_succ, List.set_cons_zero, List.set_cons_succ, o_add, o_addI, o_sub, o_neg, o_lt, o_le, o_gt, o_ge, o_eq, o_ne, o_int, o_intB, o_abs, o_max, o_min, r_env, List.map_cons, List.map_nil, List.length_cons, List.length_nil, Nat.zero_add, Nat.reduceAdd, Nat.reduceSub, Nat.reduceLeDiff, List.replicate_succ, List.replicate_zero, List.cons_append, List.nil_append, Bool.false_eq_true, if_true, if_false, gPar, List.zip_cons_cons, List.zip_nil_right, List.zip_nil_left, List.foldl_cons, List.foldl_nil, unsetE, r_err, r_assoc, r_iteB, wp_ok, q_lstI, q_mul, q_div, q_range1, q_range2, q_lenT, q_lenL, q_sumT, q_sumL, q_srcT, q_srcL, q_new0, q_lst, q_append, q_extend, q_lenR, q_toTR, q_l1, q_l2, q_l3, q_l4, q_addL, q_addT, q_srtT, q_srtL, f_toT_l, f_toT_t, o_mod, Bool.not_true, Bool.not_false, Bool.true_and, Bool.false_and, s1, c, f1, f_toT_l]
  rfl
theorem p_strip {k m : Nat} {l : List Nat} (h : k ≤ 10) (hm : m ≤ 1000) (hl : l ∈ ptn k) : m_without_strip [tN l, .p (.int (m : Int))] S = .ok (.p (.lst ((stripL l m).map zT))) S := by
  obtain ⟨hf, hn⟩ := ptn_fall h hl
  obtain ⟨y3, y4, y5, y6, y7, e, e2, e3⟩ := strip_loop (S := S) (l := l) (m := m) (by omega) l [] [([], m)] none none none none none rfl hf (by
    show 1 ≤ _
    exact Nat.one_le_two_pow) fun q hq => by
      rw [List.mem_singleton] at hq
      subst hq
      rfl
  have eg : goF l [([], m)] = stripF l m := by
    rw [goF_strip]
    show (stripF l m).map _ ++ [] = _
    rw [List.append_nil]
    exact List.map_id' _
  rw [eg] at e e2 e3
  have c := compI_ifD (S := S) (g := gTp 2 (gsCons (gNm 11) (gsCons (gNm 9) gsNil))) (t := ct_without_strip_2) (e := ce_without_strip_3) (ρ := [some (tN l), some (.p (.int m)), some (foundD (stripF l m)), y3, y4, y5, y6, y7, none, none, none, none]) (p := fun q : List Nat × Nat => decide (q.2 = 0)) (h := fun q => D.p (fP q)) (f := fun q => D.p (zT (q.1.filter fun r => decide (0 < r)))) (stripF l m) [] (by rw [List.length_nil]; omega) fun q hq => ⟨[some (tN l), some (.p (.int m)), some (foundD (stripF l m)), y3, y4, y5, y6, y7, none, some (.p (.int q.2)), none, some (.p (zT q.1))], rfl, by
    have e : decide ((q.2 : Int) = 0) = decide (q.2 = 0) := by
      rw [Bool.eq_iff_iff, decide_eq_true_eq, decide_eq_true_eq]
      omega
    unfold ct_without_strip_2
    simp -implicitDefEqProofs (disch := walk_at "dl") only [r_ok, r_c, r_op2, r_op1, r_nil, r_cons, r_callB, r_call, r_and, r_or, r_not, r_asB, r_if, r_andT, r_orT, r_notT, r_test, r_chain, r_seq, r_nx, r_rt, r_bk, r_ct, r_next, r_break, r_cont, r_drop, r_ret, r_retN, r_asg, r_aug, r_ifS, r_par, r_sl, r_noPart, r_part, r_asInt, r_put, r_for, r_src, r_srcA, r_comp, r_oNx, r_oCt, r_oBk, r_oRt, r_yes, t_lift, t_some, t_var, t_vsome, t_liftS, t_ssome, t_meth, t_lstO, t_lstOF, List.getElem?_cons_zero, List.getElem?_cons_succ, List.set_cons_zero, List.set_cons_succ, o_add, o_addI, o_sub, o_neg, o_lt, o_le, o_gt, o_ge, o_eq, o_ne, o_int, o_intB, o_abs, o_max, o_min, r_env, List.map_cons, List.map_nil, List.length_cons, List.length_nil, Nat.zero_add, Nat.reduceAdd, Nat.reduceSub, Nat.reduceLeDiff, List.replicate_succ, List.replicate_zero, List.cons_append, List.nil_append, Bool.false_eq_true, if_true, if_false, gPar, List.zip_cons_cons, List.zip_nil_right, List.zip_nil_left, List.foldl_cons, List.foldl_nil, unsetE, r_err, r_assoc, r_iteB, wp_ok, q_lstI, q_mul, q_div, q_range1, q_range2, q_lenT, q_lenL, q_sumT, q_sumL, q_srcT, q_srcL, q_new0, q_lst, q_append, q_extend, q_lenR, q_toTR, q_l1, q_l2, q_l3, q_l4, q_addL, q_addT, q_srtT, q_srtL, f_toT_l, f_toT_t, o_mod, Bool.not_true, Bool.not_false, Bool.true_and, Bool.false_and, e], fun _ => pos_comp (by rw [e3 q hq]; omega)⟩
  rw [List.nil_append] at c
  have ff : ((stripF l m).filter fun q => decide (q.2 = 0)).length ≤ 1024 := Nat.le_trans (List.length_filter_le _ _) e2
  have fl : fLstF (((stripF l m).filter fun q => decide (q.2 = 0)).map fun q => D.p (zT (q.1.filter fun r => decide (0 < r)))) S = some (.p (.lst ((stripL l m).map zT)), S) := by
    rw [q_lstM (f := fun q : List Nat × Nat => zT (q.1.filter fun r => decide (0 < r))) (by omega), ← stripF_L, List.map_map]
    rfl
  have f0 : fTup [] S = some (.p (.tup []), S) := rfl
  have f1 : fTup [.p (.tup []), .p (.int m)] S = some (.p (fP ([], m)), S) := rfl
  have f2 : fLstF [.p (fP ([], m))] S = some (foundD [([], m)], S) := rfl
  have en : srcEnum [tN l] S = some (⟨enumN 0 l, []⟩, S) := by rw [← enumN_eq]; exact o_enumT tI_tup
  have sr : srcSeq (foundD (stripF l m)) S = some (⟨(stripF l m).map fun q => D.p (fP q), []⟩, S) := by
    have : srcSeq (foundD (stripF l m)) S = some (⟨pD ((stripF l m).map fP), []⟩, S) := rfl
    rw [this]
    unfold pD
    rw [List.map_map]
    rfl
  refine fn_pure0 ?_
  unfold b_without_strip
  simp only [r_ok, r_c, r_op2, r_op1, r_nil, r_cons, r_callB, r_call, r_and, r_or, r_not, r_asB, r_if, r_andT, r_orT, r_notT, r_test, r_chain, r_seq, r_nx, r_rt, r_bk, r_ct, r_next, r_break, r_cont, r_drop, r_ret, r_retN, r_asg, r_aug, r_ifS, r_par, r_sl, r_noPart, r_part, r_asInt, r_put, r_for, r_src, r_srcA, r_comp, r_meth, r_oNx, r_oCt, r_oBk, r_oRt, r_yes, r_var', r_lift', List.getElem?_cons_zero, List.getElem?_cons_succ, List.set_cons_zero, List.set_cons_succ, o_add, o_addI, o_sub, o_neg, o_lt, o_le, o_gt, o_ge, o_eq, o_ne, o_int, o_intB, o_abs, o_max, o_min, r_env, List.map_cons, List.map_nil, List.length_cons, List.length_nil, Nat.zero_add, Nat.reduceAdd, Nat.reduceSub, List.replicate_succ, List.replicate_zero, List.cons_append, List.nil_append, Bool.false_eq_true, if_true, if_false, gPar, List.zip_cons_cons, List.zip_nil_right, List.zip_nil_left, List.foldl_cons, List.foldl_nil, unsetE, r_err, f0, f1, f2, en]
  rw [show enumN 0 l = enumN ([] : List Nat).length l from rfl, e]
  simp only [r_ok, r_c, r_op2, r_op1, r_nil, r_cons, r_callB, r_call, r_and, r_or, r_not, r_asB, r_if, r_andT, r_orT, r_notT, r_test, r_chain, r_seq, r_nx, r_rt, r_bk, r_ct, r_next, r_break, r_cont, r_drop, r_ret, r_retN, r_asg, r_aug, r_ifS, r_par, r_sl, r_noPart, r_part, r_asInt, r_put, r_for, r_src, r_srcA, r_comp, r_meth, r_oNx, r_oCt, r_oBk, r_oRt, r_yes, r_var', r_lift', List.getElem?_cons_zero, List.getElem?_cons_succ, List.set_cons_zero, List.set_cons_succ, o_add, o_addI, o_sub, o_neg, o_lt, o_le, o_gt, o_ge, o_eq, o_ne, o_int, o_intB, o_abs, o_max, o_min, r_env, List.map_cons, List.map_nil, List.length_cons, List.length_nil, Nat.zero_add, Nat.reduceAdd, Nat.reduceSub, List.replicate_succ, List.replicate_zero, List.cons_append, List.nil_append, Bool.false_eq_true, if_true, if_false, gPar, List.zip_cons_cons, List.zip_nil_right, List.zip_nil_left, List.foldl_cons, List.foldl_nil, unsetE, r_err, sr, c, fl]
end
end DL
set_option maxHeartbeats 4000000
namespace DL
open PySem PySem.Spec PyProof.Rows L2
/-! ### counts by shapes, plainly -/
abbrev Cts := List (List Nat × Nat)
def addR : Cts → List Nat → Nat → Cts
  | [], l, c => [(l, c)]
  | (k, x) :: E, l, c => if k = l then (k, x + c) :: E else (k, x) :: addR E l c
def wgt (f : List Nat → Nat) (E : Cts) : Nat := (E.map fun e => e.2 * f e.1).sum
def lookE (E : Cts) (l : List Nat) : Option Nat := (E.find? fun e => decide (e.1 = l)).map (·.2)
def keysE (E : Cts) : List (List Nat) := E.map (·.1)
theorem wgt_cons {f : List Nat → Nat} {e : List Nat × Nat} {E : Cts} : wgt f (e :: E) = e.2 * f e.1 + wgt f E := by
  unfold wgt
  rw [List.map_cons, List.sum_cons]
theorem wgt_add {f : List Nat → Nat} {l : List Nat} {c : Nat} : ∀ E : Cts, wgt f (addR E l c) = wgt f E + c * f l
  | [] => by
    show wgt f [(l, c)] = _
    rw [wgt_cons]
    show c * f l + 0 = 0 + _
    omega
  | (k, x) :: E => by
    unfold addR
    split
    · rename_i h
      subst h
      rw [wgt_cons, wgt_cons]
      show (x + c) * f k + wgt f E = x * f k + wgt f E + c * f k
      rw [Nat.add_mul]
      omega
    · rw [wgt_cons, wgt_cons, wgt_add E]
      omega
theorem keys_add {l : List Nat} {c : Nat} : ∀ E : Cts, keysE (addR E l c) = if l ∈ keysE E then keysE E else keysE E ++ [l]
  | [] => by simp [addR, keysE]
  | (k, x) :: E => by
    have ih := keys_add (l := l) (c := c) E
    unfold addR
    by_cases h : k = l
    · subst h
      rw [if_pos rfl, if_pos (by simp [keysE])]
      rfl
    · rw [if_neg h]
      show k :: keysE (addR E l c) = if l ∈ k :: keysE E then k :: keysE E else k :: keysE E ++ [l]
      rw [ih]
      by_cases q : l ∈ keysE E
      · rw [if_pos q, if_pos (List.mem_cons_of_mem _ q)]
      · rw [if_neg q, if_neg (by
          rw [List.mem_cons]
          rintro (z | z)
          · exact h z.symm
          · exact q z)]
        rfl
theorem nd_add {l : List Nat} {c : Nat} {E : Cts} (h : (keysE E).Nodup) : (keysE (addR E l c)).Nodup := by
  rw [keys_add]
  split
  · exact h
  · rename_i q
    rw [List.nodup_append]
    refine ⟨h, by simp, ?_⟩
    intro a ha b hb
    rw [List.mem_singleton] at hb
    subst hb
    intro e
    exact q (e ▸ ha)
theorem sub_add {l : List Nat} {c : Nat} {E : Cts} {Z : List (List Nat)} (h : ∀ k ∈ keysE E, k ∈ Z) (hl : l ∈ Z) : ∀ k ∈ keysE (addR E l c), k ∈ Z := by
  rw [keys_add]
  split
  · exact h
  · intro k hk
    rcases List.mem_append.mp hk with q | q
    · exact h k q
    · rw [List.mem_singleton] at q
      exact q ▸ hl
theorem nd_len : ∀ {A Z : List (List Nat)}, A.Nodup → (∀ a ∈ A, a ∈ Z) → A.length ≤ Z.length
  | [], _, _, _ => Nat.zero_le _
  | a :: A, Z, h, h2 => by
    rw [List.nodup_cons] at h
    have ha := h2 a List.mem_cons_self
    have := nd_len (A := A) (Z := Z.erase a) h.2 fun b hb => (List.mem_erase_of_ne (by
      rintro rfl
      exact h.1 hb)).mpr (h2 b (List.mem_cons_of_mem _ hb))
    rw [List.length_erase_of_mem ha] at this
    have : 0 < Z.length := List.length_pos_of_mem ha
    rw [List.length_cons]
    omega
theorem look_nil {l : List Nat} : ∀ {E : Cts}, l ∉ keysE E → lookE E l = none
  | [], _ => rfl
  | (k, x) :: E, h => by
    have hk : ¬ k = l := fun z => h (z ▸ List.mem_cons_self)
    unfold lookE
    rw [List.find?_cons_of_neg (by simpa using hk)]
    exact look_nil fun z => h (List.mem_cons_of_mem _ z)
theorem look_wgt {l : List Nat} : ∀ {E : Cts}, (keysE E).Nodup → (lookE E l).getD 0 = wgt (fun k => if k = l then 1 else 0) E
  | [], _ => rfl
  | (k, x) :: E, h => by
    have h' : (k :: keysE E).Nodup := h
    rw [List.nodup_cons] at h'
    rw [wgt_cons, ← look_wgt h'.2]
    by_cases q : k = l
    · subst q
      have e1 : lookE ((k, x) :: E) k = some x := by
        unfold lookE
        rw [List.find?_cons_of_pos (by simp)]
        rfl
      rw [e1, look_nil h'.1]
      simp
    · have e1 : lookE ((k, x) :: E) l = lookE E l := by
        unfold lookE
        rw [List.find?_cons_of_neg (by simpa using q)]
      rw [e1]
      simp [q]
def putE (E : Cts) (l : List Nat) (v : Nat) : Cts := if (E.any fun e => decide (e.1 = l)) = true then E.map (fun e => if e.1 = l then (e.1, v) else e) else E ++ [(l, v)]
theorem put_id {l : List Nat} {v : Nat} : ∀ {E : Cts}, l ∉ keysE E → E.map (fun e => if e.1 = l then (e.1, v) else e) = E
  | [], _ => rfl
  | (k, x) :: E, h => by
    have hk : ¬ k = l := fun z => h (z ▸ List.mem_cons_self)
    rw [List.map_cons, put_id fun z => h (List.mem_cons_of_mem _ z)]
    simp [hk]
theorem put_add {l : List Nat} {c : Nat} : ∀ {E : Cts}, (keysE E).Nodup → putE E l ((lookE E l).getD 0 + c) = addR E l c
  | [], _ => by
    show [(l, 0 + c)] = [(l, c)]
    rw [Nat.zero_add]
  | (k, x) :: E, h => by
    have h' : (k :: keysE E).Nodup := h
    rw [List.nodup_cons] at h'
    by_cases q : k = l
    · subst q
      have e1 : lookE ((k, x) :: E) k = some x := by
        unfold lookE
        rw [List.find?_cons_of_pos (by simp)]
        rfl
      unfold putE
      rw [if_pos (by simp), e1, List.map_cons, put_id h'.1, if_pos rfl]
      unfold addR
      rw [if_pos rfl]
      rfl
    · have e1 : lookE ((k, x) :: E) l = lookE E l := by
        unfold lookE
        rw [List.find?_cons_of_neg (by simpa using q)]
      have ih := put_add (l := l) (c := c) h'.2
      unfold addR
      rw [if_neg q, ← ih, e1]
      generalize (lookE E l).getD 0 + c = v
      unfold putE
      rw [List.any_cons, decide_eq_false q, Bool.false_or]
      split
      · rw [List.map_cons, if_neg q]
      · rfl
def addAll (E : Cts) (L : List (List Nat)) (c : Nat) : Cts := L.foldl (fun E l => addR E l c) E
def stepC (E : Cts) (m : Nat) (F : Cts) : Cts := F.foldl (fun E e => addAll E (stripL e.1 m) e.2) E
theorem wgt_all {f : List Nat → Nat} {c : Nat} : ∀ (L : List (List Nat)) (E : Cts), wgt f (addAll E L c) = wgt f E + c * (L.map f).sum
  | [], E => by
    show wgt f E = wgt f E + c * 0
    omega
  | l :: L, E => by
    show wgt f (addAll (addR E l c) L c) = _
    rw [wgt_all L, wgt_add, List.map_cons, List.sum_cons, Nat.mul_add]
    omega
theorem wgt_step {f : List Nat → Nat} {m : Nat} : ∀ (F E : Cts), wgt f (stepC E m F) = wgt f E + wgt (fun l => ((stripL l m).map f).sum) F
  | [], E => rfl
  | e :: F, E => by
    show wgt f (stepC (addAll E (stripL e.1 m) e.2) m F) = _
    rw [wgt_step F, wgt_all, wgt_cons]
    omega
end DL
set_option maxHeartbeats 4000000
namespace DL
open PySem PySem.Spec PyProof.Rows L2
/-! ### dicts by shapes in the store -/
def kLs (l : List Nat) : List Key := l.map fun k : Nat => Sum.inl (k : Int)
theorem kLs_inj : ∀ {a b : List Nat}, kLs a = kLs b → a = b
  | [], [], _ => rfl
  | [], _ :: _, h => by cases h
  | _ :: _, [], h => by cases h
  | x :: a, y :: b, h => by
    have h' : (Sum.inl (x : Int) : Key) :: kLs a = Sum.inl (y : Int) :: kLs b := h
    rw [List.cons.injEq] at h'
    have e := Sum.inl.inj h'.1
    rw [kLs_inj h'.2, show x = y by omega]
theorem kLs_eq {a b : List Nat} : decide (kLs a = kLs b) = decide (a = b) := by
  rw [Bool.eq_iff_iff, decide_eq_true_eq, decide_eq_true_eq]
  exact ⟨kLs_inj, fun h => by rw [h]⟩
abbrev entD (e : List Nat × Nat) : List Key × D := (kLs e.1, .p (.int (e.2 : Int)))
abbrev entP (e : List Nat × Nat) : List Key × P := (kLs e.1, .int (e.2 : Int))
theorem los_ent (k : Nat) : ∀ E : Cts, D.los k ((E.map entD).map (·.2)) = true
  | [] => rfl
  | e :: E => by
    show (true && D.los k ((E.map entD).map (·.2))) = true
    rw [los_ent k E]
    rfl
def SD (S : Store) (E : Cts) : Store := S.new (.dit (E.map entD)) (los_ent _ E)
theorem keysP_z : ∀ l : List Nat, keysP (zP l) = some (kLs l)
  | [] => rfl
  | x :: l => by
    show keysP (P.int (x : Int) :: zP l) = _
    unfold keysP
    rw [keysP_z l]
    rfl
theorem keyT_z {l : List Nat} : keyT (.p (zT l)) = some (kLs l) := keysP_z l
section
variable {S T U : Store} {E : Cts} {l : List Nat} {c : Nat}
theorem SD_objs : (SD S E).objs = S.objs ++ [.dit (E.map entD)] := rfl
theorem SD_at : (SD S E).objs[S.objs.length]? = some (.dit (E.map entD)) := by
  rw [SD_objs]
  simp
theorem SD_take : (SD S E).objs.take S.objs.length = S.objs := by
  rw [SD_objs]
  simp
theorem dLook_D : dLook (E.map entD) (kLs l) = (lookE E l).map fun c : Nat => D.p (.int (c : Int)) := by
  unfold dLook lookE
  rw [List.find?_map]
  have : ((fun kv : List Key × D => decide (kv.1 = kLs l)) ∘ entD) = fun e : List Nat × Nat => decide (e.1 = l) := by
    funext e
    exact kLs_eq
  rw [this, Option.map_map, Option.map_map]
  rfl
theorem look_SD : fDLook (.r S.objs.length) (.p (zT l)) (SD S E) = some ((lookE E l).map fun c : Nat => D.p (.int (c : Int))) := by
  have e1 : (D.r S.objs.length).dct? (SD S E) = none := by
    unfold D.dct?
    simp only [SD_at]
  have e2 : (D.r S.objs.length).dit? (SD S E) = some (E.map entD) := by
    unfold D.dit?
    simp only [SD_at]
  unfold fDLook
  rw [e1]
  simp only [e2, keyT_z, dLook_D]
theorem isDic_SD : isDicB (.r S.objs.length) (SD S E) = true := by
  have e2 : (D.r S.objs.length).dit? (SD S E) = some (E.map entD) := by
    unfold D.dit?
    simp only [SD_at]
  unfold isDicB
  rw [e2]
  simp
theorem dPut_D : dPut (E.map entD) (kLs l) (.p (.int (c : Int))) = (putE E l c).map entD := by
  unfold dPut putE
  have e1 : ((E.map entD).any fun kv => decide (kv.1 = kLs l)) = E.any fun e => decide (e.1 = l) := by
    rw [List.any_map]
    congr 1
    funext e
    exact kLs_eq
  rw [e1]
  split
  · rw [List.map_map, List.map_map]
    congr 1
    funext e
    show (if kLs e.1 = kLs l then (kLs e.1, D.p (.int (c : Int))) else entD e) = entD (if e.1 = l then (e.1, c) else e)
    by_cases q : e.1 = l
    · rw [if_pos q, if_pos (by rw [q])]
    · rw [if_neg q, if_neg fun z => q (kLs_inj z)]
  · rw [List.map_append]
    rfl
theorem put_SD (h : E.length < 100000) : fDPut (.r S.objs.length) (.p (zT l)) (.p (.int (c : Int))) (SD S E) = some (SD S (putE E l c)) := by
  unfold fDPut
  simp only [SD_at, keyT_z]
  rw [if_pos (by simpa using h)]
  unfold putO
  have hl : (O.dit (dPut (E.map entD) (kLs l) (.p (.int (c : Int))))).lo (SD S E).objs.length = true := by
    rw [dPut_D]
    exact los_ent _ _
  rw [dif_pos hl]
  congr 1
  refine Store.ext' ?_
  show (SD S E).objs.set S.objs.length (.dit (dPut (E.map entD) (kLs l) (.p (.int (c : Int))))) = (SD S (putE E l c)).objs
  rw [SD_objs, SD_objs, dPut_D]
  simp
/-! ### locked -/
abbrev dE (E : Cts) : D := .p (.dit (E.map entP))
theorem frzDs_ent (k n : Nat) (S' : Store) : ∀ E : Cts, frzDs k S' n ((E.map entD).map (·.2)) = some (E.map fun e => P.int (e.2 : Int))
  | [] => rfl
  | e :: E => by
    show frzDs k S' n (D.p (.int (e.2 : Int)) :: (E.map entD).map (·.2)) = _
    have e1 : frzD k S' n (.p (.int (e.2 : Int))) = some (.int (e.2 : Int)) := @frzD_p ⟨[]⟩ _ _ _ _
    show (match frzD k S' n (.p (.int (e.2 : Int))), frzDs k S' n ((E.map entD).map (·.2)) with
      | some p, some ps => some (p :: ps)
      | _, _ => none) = _
    rw [e1, frzDs_ent k n S' E]
    rfl
theorem boxDit_SD {i : Nat} {ρ : Env} (h : ρ[i]? = some (some (.r S.objs.length))) : boxDit S.objs.length (SD S E) i ρ = some (S.objs.length, .dit (E.map entP)) := by
  unfold boxDit
  rw [h]
  show (if S.objs.length ≤ S.objs.length then (match (SD S E).objs[S.objs.length]? with
    | some (.dit fs) => (frzDs S.objs.length (SD S E) 8 (fs.map (·.2))).map fun ps => (S.objs.length, P.dit ((fs.map (·.1)).zip ps))
    | _ => none) else none) = _
  rw [if_pos (Nat.le_refl _), SD_at]
  show (frzDs S.objs.length (SD S E) 8 ((E.map entD).map (·.2))).map _ = _
  rw [frzDs_ent]
  show some (S.objs.length, P.dit (((E.map entD).map (·.1)).zip (E.map fun e => P.int (e.2 : Int)))) = _
  congr 3
  rw [List.map_map, List.zip_map']
  rfl
theorem r_boxD {i n : Nat} {p : P} {b : MS} {ρ ρ' : Env} {S' : Store} (h : b ρ S = .ok (.nx ρ') S') (hc : Store.cut S.objs.length S' = some U) (hd : boxDit S.objs.length S' i ρ' = some (n, p)) : mBoxD i b ρ S = .ok (.nx ((boxE S.objs.length S' ρ').set i (some (.p p)))) U := by
  unfold mBoxD
  rw [h]
  simp only [hc, hd]
theorem items_dE : srcItems (dE E) S = some (⟨E.map fun e => D.p (.tup [zT e.1, .int (e.2 : Int)]), []⟩, S) := by
  show some ((⟨(E.map entP).map fun kv => D.p (itemP kv), []⟩ : Src), S) = _
  rw [List.map_map]
  congr 4
  funext e
  show D.p (.tup [.tup ((kLs e.1).map kP), .int (e.2 : Int)]) = _
  have : (kLs e.1).map kP = zP e.1 := by
    unfold kLs zP zI
    rw [List.map_map, List.map_map]
    rfl
  rw [this]
theorem look_dE : fDLook (dE E) (.p (zT l)) S = some ((lookE E l).map fun c : Nat => D.p (.int (c : Int))) := by
  have e1 : (dE E).dct? S = none := rfl
  have e2 : (dE E).dit? S = some (E.map entD) := by
    show some ((E.map entP).map fun kv => (kv.1, D.p kv.2)) = _
    rw [List.map_map]
    rfl
  unfold fDLook
  rw [e1]
  simp only [e2, keyT_z, dLook_D]
theorem isDic_dE : isDicB (dE E) S = true := rfl
def oP (z : Option P) : Option D := z.map D.p
theorem boxE_oP {k : Nat} {z : Option P} {ρ : Env} : boxE k S (oP z :: ρ) = oP z :: boxE k S ρ := by
  cases z <;> rfl
theorem boxE_p {k : Nat} {x : P} {ρ : Env} : boxE k S (some (.p x) :: ρ) = some (.p x) :: boxE k S ρ := rfl
theorem SD_cut : Store.cut S.objs.length (SD S E) = some S := cut_pre SD_take
end
end DL
set_option maxHeartbeats 4000000
namespace DL
open PySem PySem.Spec PyProof.Rows L2
section
variable {S T U : Store} {E F : Cts} {l : List Nat} {c m k : Nat}
theorem num_turn {z0 z1 z2 z3 z5 : Option D} (h : (keysE E).Nodup) (hl : E.length < 100000) :
    lb_number_of [z0, z1, z2, z3, some (.r S.objs.length), z5, some (.p (.int c)), some (.p (zT l))] (SD S E) = .ok (.nx [z0, z1, z2, z3, some (.r S.objs.length), z5, some (.p (.int c)), some (.p (zT l))]) (SD S (addR E l c)) := by
  have g : mGet2 (mVar 4) (mVar 7) (mC (.int 0)) [z0, z1, z2, z3, some (.r S.objs.length), z5, some (.p (.int c)), some (.p (zT l))] (SD S E) = .ok (.p (.int ((lookE E l).getD 0 : Nat))) (SD S E) := by
    unfold mGet2
    simp -implicitDefEqProofs (disch := walk_at "dl") only [r_ok, r_c, r_op2, r_op1, r_nil, r_cons, r_callB, r_call, r_and, r_or, r_not, r_asB, r_if, r_andT, r_orT, r_notT, r_test, r_chain, r_seq, r_nx, r_rt, r_bk, r_ct, r_next, r_break, r_cont, r_drop, r_ret, r_retN, r_asg, r_aug, r_ifS, r_par, r_sl, r_noPart, r_part, r_asInt, r_put, r_for, r_src, r_srcA, r_comp, r_oNx, r_oCt, r_oBk, r_oRt, r_yes, t_lift, t_some, t_var, t_vsome, t_liftS, t_ssome, t_meth, t_lstO, t_lstOF, List.getElem?_cons_zero, List.getElem?_cons_succ, List.set_cons_zero, List.set_cons_succ, o_add, o_addI, o_sub, o_neg, o_lt, o_le, o_gt, o_ge, o_eq, o_ne, o_int, o_intB, o_abs, o_max, o_min, r_env, List.map_cons, List.map_nil, List.length_cons, List.length_nil, Nat.zero_add, Nat.reduceAdd, Nat.reduceSub, Nat.reduceLeDiff, List.replicate_succ, List.replicate_zero, List.cons_append, List.nil_append, Bool.false_eq_true, if_true, if_false, gPar, List.zip_cons_cons, List.zip_nil_right, List.zip_nil_left, List.foldl_cons, List.foldl_nil, unsetE, r_err, r_assoc, r_iteB, wp_ok, q_lstI, q_mul, q_div, q_range1, q_range2, q_lenT, q_lenL, q_sumT, q_sumL, q_srcT, q_srcL, q_new0, q_lst, q_append, q_extend, q_lenR, q_toTR, q_l1, q_l2, q_l3, q_l4, q_addL, q_addT, q_srtT, q_srtL, f_toT_l, f_toT_t, o_mod, Bool.not_true, Bool.not_false, Bool.true_and, Bool.false_and]
    rw [if_pos isDic_SD, look_SD]
    cases lookE E l <;> rfl
  have pt := put_SD (S := S) (E := E) (l := l) (c := (lookE E l).getD 0 + c) hl
  rw [put_add h] at pt
  have e : (((lookE E l).getD 0 : Nat) : Int) + (c : Int) = (((lookE E l).getD 0 + c : Nat) : Int) := by omega
  unfold lb_number_of mDPut
  rw [r_op2, g]
  simp -implicitDefEqProofs (disch := walk_at "dl") only [r_ok, r_c, r_op2, r_op1, r_nil, r_cons, r_callB, r_call, r_and, r_or, r_not, r_asB, r_if, r_andT, r_orT, r_notT, r_test, r_chain, r_seq, r_nx, r_rt, r_bk, r_ct, r_next, r_break, r_cont, r_drop, r_ret, r_retN, r_asg, r_aug, r_ifS, r_par, r_sl, r_noPart, r_part, r_asInt, r_put, r_for, r_src, r_srcA, r_comp, r_oNx, r_oCt, r_oBk, r_oRt, r_yes, t_lift, t_some, t_var, t_vsome, t_liftS, t_ssome, t_meth, t_lstO, t_lstOF, List.getElem?_cons_zero, List.getElem?_cons_succ, List.set_cons_zero, List.set_cons_succ, o_add, o_addI, o_sub, o_neg, o_lt, o_le, o_gt, o_ge, o_eq, o_ne, o_int, o_intB, o_abs, o_max, o_min, r_env, List.map_cons, List.map_nil, List.length_cons, List.length_nil, Nat.zero_add, Nat.reduceAdd, Nat.reduceSub, Nat.reduceLeDiff, List.replicate_succ, List.replicate_zero, List.cons_append, List.nil_append, Bool.false_eq_true, if_true, if_false, gPar, List.zip_cons_cons, List.zip_nil_right, List.zip_nil_left, List.foldl_cons, List.foldl_nil, unsetE, r_err, r_assoc, r_iteB, wp_ok, q_lstI, q_mul, q_div, q_range1, q_range2, q_lenT, q_lenL, q_sumT, q_sumL, q_srcT, q_srcL, q_new0, q_lst, q_append, q_extend, q_lenR, q_toTR, q_l1, q_l2, q_l3, q_l4, q_addL, q_addT, q_srtT, q_srtL, f_toT_l, f_toT_t, o_mod, Bool.not_true, Bool.not_false, Bool.true_and, Bool.false_and, e, t_liftS, pt]
theorem pD_z {L : List (List Nat)} : pD (L.map zT) = L.map fun l => D.p (zT l) := by
  unfold pD
  rw [List.map_map]
  rfl
theorem len_keys : E.length = (keysE E).length := by
  unfold keysE
  rw [List.length_map]
theorem inner_loop {z0 z1 z2 z3 z5 : Option D} {Z : List (List Nat)} (hZ : Z.length < 1000) : ∀ (L : List (List Nat)) (E : Cts) (z7 : Option P), (keysE E).Nodup → (∀ k ∈ keysE E, k ∈ Z) → (∀ l ∈ L, l ∈ Z) →
    (∃ y7, loopI [] (gNm 7) lb_number_of (L.map fun l => D.p (zT l)) [z0, z1, z2, z3, some (.r S.objs.length), z5, some (.p (.int c)), oP z7] (SD S E) = .ok (.nx [z0, z1, z2, z3, some (.r S.objs.length), z5, some (.p (.int c)), oP y7]) (SD S (addAll E L c))) ∧ (keysE (addAll E L c)).Nodup ∧ ∀ k ∈ keysE (addAll E L c), k ∈ Z
  | [], E, z7, h, h2, _ => ⟨⟨z7, loopI_nil rfl⟩, h, h2⟩
  | l :: L, E, z7, h, h2, h3 => by
    have hl : E.length < 100000 := by
      rw [len_keys]
      have := nd_len h h2
      omega
    have hm := h3 l List.mem_cons_self
    obtain ⟨⟨y7, e⟩, a, b⟩ := inner_loop (z0 := z0) (z1 := z1) (z2 := z2) (z3 := z3) (z5 := z5) hZ L (addR E l c) (some (zT l)) (nd_add h) (sub_add h2 hm) fun x hx => h3 x (List.mem_cons_of_mem _ hx)
    refine ⟨⟨y7, ?_⟩, a, b⟩
    rw [List.map_cons, loopI_cons rfl (ρ' := [z0, z1, z2, z3, some (.r S.objs.length), z5, some (.p (.int c)), some (.p (zT l))]) rfl, num_turn h hl, r_ok, r_oNx]
    exact e
theorem ptn_len {k : Nat} (h : k ≤ 10) : (ptn k).length < 1000 := by
  have : ∀ k : _root_.Fin 11, (ptn k.1).length < 1000 := by decide +kernel
  exact this ⟨k, by omega⟩
theorem items_loop {z0 z1 z2 : Option D} (hk : k ≤ 10) (hm : m ≤ k) : ∀ (F E : Cts) (z5 z6 z7 : Option P), (keysE E).Nodup → (∀ x ∈ keysE E, x ∈ ptn (k - m)) → (∀ e ∈ F, e.1 ∈ ptn k) →
    (∃ y5 y6 y7, loopI [] (gTp 2 (gsCons (gNm 5) (gsCons (gNm 6) gsNil))) lb_number_of_1 (F.map fun e => D.p (.tup [zT e.1, .int (e.2 : Int)])) [z0, z1, z2, some (.p (.int m)), some (.r S.objs.length), oP z5, oP z6, oP z7] (SD S E) = .ok (.nx [z0, z1, z2, some (.p (.int m)), some (.r S.objs.length), oP y5, oP y6, oP y7]) (SD S (stepC E m F))) ∧ (keysE (stepC E m F)).Nodup ∧ ∀ x ∈ keysE (stepC E m F), x ∈ ptn (k - m)
  | [], E, z5, z6, z7, h, h2, _ => ⟨⟨z5, z6, z7, loopI_nil rfl⟩, h, h2⟩
  | e :: F, E, z5, z6, z7, h, h2, h3 => by
    have he := h3 e List.mem_cons_self
    obtain ⟨⟨y7, r⟩, a, b⟩ := inner_loop (S := S) (c := e.2) (z0 := z0) (z1 := z1) (z2 := z2) (z3 := some (.p (.int m))) (z5 := some (.p (zT e.1))) (ptn_len (k := k - m) (by omega)) (stripL e.1 m) E z7 h h2 fun s hs => ck5_use hk hm he hs
    obtain ⟨⟨y5', y6', y7', r2⟩, a2, b2⟩ := items_loop (z0 := z0) (z1 := z1) (z2 := z2) hk hm F (addAll E (stripL e.1 m) e.2) (some (zT e.1)) (some (.int e.2)) y7 a b fun x hx => h3 x (List.mem_cons_of_mem _ hx)
    refine ⟨⟨y5', y6', y7', ?_⟩, a2, b2⟩
    have st : m_without_strip [.p (zT e.1), .p (.int (m : Int))] (SD S E) = .ok (.p (.lst ((stripL e.1 m).map zT))) (SD S E) := p_strip (S := SD S E) (k := k) (m := m) (l := e.1) hk (by omega) he
    have body : lb_number_of_1 [z0, z1, z2, some (.p (.int m)), some (.r S.objs.length), some (.p (zT e.1)), some (.p (.int e.2)), oP z7] (SD S E) = .ok (.nx [z0, z1, z2, some (.p (.int m)), some (.r S.objs.length), some (.p (zT e.1)), some (.p (.int e.2)), oP y7]) (SD S (addAll E (stripL e.1 m) e.2)) := by
      unfold lb_number_of_1
      refine r_forE (xs := (stripL e.1 m).map fun l => D.p (zT l)) (w := []) (S1 := SD S E) ?_ r
      have sr : srcSeq (.p (.lst ((stripL e.1 m).map zT))) (SD S E) = some (⟨(stripL e.1 m).map fun l => D.p (zT l), []⟩, SD S E) := by rw [← pD_z]; rfl
      simp -implicitDefEqProofs (disch := walk_at "dl") only [r_ok, r_c, r_op2, r_op1, r_nil, r_cons, r_callB, r_call, r_and, r_or, r_not, r_asB, r_if, r_andT, r_orT, r_notT, r_test, r_chain, r_seq, r_nx, r_rt, r_bk, r_ct, r_next, r_break, r_cont, r_drop, r_ret, r_retN, r_asg, r_aug, r_ifS, r_par, r_sl, r_noPart, r_part, r_asInt, r_put, r_for, r_src, r_srcA, r_comp, r_oNx, r_oCt, r_oBk, r_oRt, r_yes, t_lift, t_some, t_var, t_vsome, t_liftS, t_ssome, t_meth, t_lstO, t_lstOF, List.getElem?_cons_zero, List.getElem?_cons_succ, List.set_cons_zero, List.set_cons_succ, o_add, o_addI, o_sub, o_neg, o_lt, o_le, o_gt, o_ge, o_eq, o_ne, o_int, o_intB, o_abs, o_max, o_min, r_env, List.map_cons, List.map_nil, List.length_cons, List.length_nil, Nat.zero_add, Nat.reduceAdd, Nat.reduceSub, Nat.reduceLeDiff, List.replicate_succ, List.replicate_zero, List.cons_append, List.nil_append, Bool.false_eq_true, if_true, if_false, gPar, List.zip_cons_cons, List.zip_nil_right, List.zip_nil_left, List.foldl_cons, List.foldl_nil, unsetE, r_err, r_assoc, r_iteB, wp_ok, q_lstI, q_mul, q_div, q_range1, q_range2, q_lenT, q_lenL, q_sumT, q_sumL, q_srcT, q_srcL, q_new0, q_lst, q_append, q_extend, q_lenR, q_toTR, q_l1, q_l2, q_l3, q_l4, q_addL, q_addT, q_srtT, q_srtL, f_toT_l, f_toT_t, o_mod, Bool.not_true, Bool.not_false, Bool.true_and, Bool.false_and, st, sr]
    rw [List.map_cons, loopI_cons rfl (ρ' := [z0, z1, z2, some (.p (.int m)), some (.r S.objs.length), some (.p (zT e.1)), some (.p (.int e.2)), oP z7]) rfl, body, r_ok, r_oNx]
    exact r2
theorem num_loop {z0 z1 : P} : ∀ (r : List Nat) (F : Cts) (z3 z4 z5 z6 z7 : Option P), r.sum ≤ 10 → (keysE F).Nodup → (∀ x ∈ keysE F, x ∈ ptn r.sum) →
    ∃ (F' : Cts) (y3 y4 y5 y6 y7 : Option P), loopI [] (gNm 3) lb_number_of_2 (r.map fun x : Nat => D.p (.int (x : Int))) [some (.p z0), some (.p z1), some (dE F), oP z3, oP z4, oP z5, oP z6, oP z7] S = .ok (.nx [some (.p z0), some (.p z1), some (dE F'), oP y3, oP y4, oP y5, oP y6, oP y7]) S ∧ (keysE F').Nodup ∧ wgt (fun l => nFil l []) F' = wgt (fun l => nFil l r) F
  | [], F, z3, z4, z5, z6, z7, _, h, _ => ⟨F, z3, z4, z5, z6, z7, loopI_nil rfl, h, rfl⟩
  | m :: r, F, z3, z4, z5, z6, z7, hs, h, h2 => by
    rw [List.sum_cons] at hs h2
    obtain ⟨⟨y5, y6, y7, e⟩, a, b⟩ := items_loop (S := S) (z0 := some (.p z0)) (z1 := some (.p z1)) (z2 := some (dE F)) (k := m + r.sum) (m := m) hs (by omega) F [] z5 z6 z7 List.nodup_nil (fun x hx => absurd hx List.not_mem_nil) fun x hx => h2 x.1 (List.mem_map.mpr ⟨x, hx, rfl⟩)
    rw [Nat.add_sub_cancel_left] at b
    obtain ⟨F', y3', y4', y5', y6', y7', e2, a2, b2⟩ := num_loop (z0 := z0) (z1 := z1) r (stepC [] m F) (some (.int m)) (some (.dit ((stepC [] m F).map entP))) y5 y6 y7 (by omega) a b
    refine ⟨F', y3', y4', y5', y6', y7', ?_, a2, ?_⟩
    · have bd : (mSeq (mAsg (gNm 4) mDicT) (mFor (mSrc srcItems (mVar 2)) (gTp 2 (gsCons (gNm 5) (gsCons (gNm 6) gsNil))) lb_number_of_1)) [some (.p z0), some (.p z1), some (dE F), some (.p (.int m)), oP z4, oP z5, oP z6, oP z7] S = .ok (.nx [some (.p z0), some (.p z1), some (dE F), some (.p (.int m)), some (.r S.objs.length), oP y5, oP y6, oP y7]) (SD S (stepC [] m F)) := by
        have md : ∀ ρ : Env, mDicT ρ S = .ok (.r S.objs.length) (SD S []) := fun _ => rfl
        rw [r_seq, r_asg, md]
        simp only [r_ok, r_nx, List.set_cons_succ, List.set_cons_zero]
        show mFor _ _ _ [some (.p z0), some (.p z1), some (dE F), some (.p (.int m)), some (.r S.objs.length), oP z5, oP z6, oP z7] (SD S []) = _
        refine r_forE (xs := F.map fun e => D.p (.tup [zT e.1, .int (e.2 : Int)])) (w := []) (S1 := SD S []) ?_ e
        simp -implicitDefEqProofs (disch := walk_at "dl") only [r_ok, r_c, r_op2, r_op1, r_nil, r_cons, r_callB, r_call, r_and, r_or, r_not, r_asB, r_if, r_andT, r_orT, r_notT, r_test, r_chain, r_seq, r_nx, r_rt, r_bk, r_ct, r_next, r_break, r_cont, r_drop, r_ret, r_retN, r_asg, r_aug, r_ifS, r_par, r_sl, r_noPart, r_part, r_asInt, r_put, r_for, r_src, r_srcA, r_comp, r_oNx, r_oCt, r_oBk, r_oRt, r_yes, t_lift, t_some, t_var, t_vsome, t_liftS, t_ssome, t_meth, t_lstO, t_lstOF, List.getElem?_cons_zero, List.getElem?_cons_succ, List.set_cons_zero, List.set_cons_succ, o_add, o_addI, o_sub, o_neg, o_lt, o_le, o_gt, o_ge, o_eq, o_ne, o_int, o_intB, o_abs, o_max, o_min, r_env, List.map_cons, List.map_nil, List.length_cons, List.length_nil, Nat.zero_add, Nat.reduceAdd, Nat.reduceSub, Nat.reduceLeDiff, List.replicate_succ, List.replicate_zero, List.cons_append, List.nil_append, Bool.false_eq_true, if_true, if_false, gPar, List.zip_cons_cons, List.zip_nil_right, List.zip_nil_left, List.foldl_cons, List.foldl_nil, unsetE, r_err, r_assoc, r_iteB, wp_ok, q_lstI, q_mul, q_div, q_range1, q_range2, q_lenT, q_lenL, q_sumT, q_sumL, q_srcT, q_srcL, q_new0, q_lst, q_append, q_extend, q_lenR, q_toTR, q_l1, q_l2, q_l3, q_l4, q_addL, q_addT, q_srtT, q_srtL, f_toT_l, f_toT_t, o_mod, Bool.not_true, Bool.not_false, Bool.true_and, Bool.false_and, items_dE]
      have bx := r_boxD (S := S) (i := 4) bd SD_cut (boxDit_SD rfl)
      have body : lb_number_of_2 [some (.p z0), some (.p z1), some (dE F), some (.p (.int m)), oP z4, oP z5, oP z6, oP z7] S = .ok (.nx [some (.p z0), some (.p z1), some (dE (stepC [] m F)), some (.p (.int m)), some (dE (stepC [] m F)), oP y5, oP y6, oP y7]) S := by
        unfold lb_number_of_2
        rw [r_seq, bx]
        have eb : (boxE S.objs.length (SD S (stepC [] m F)) [some (.p z0), some (.p z1), some (dE F), some (.p (.int m)), some (.r S.objs.length), oP y5, oP y6, oP y7]).set 4 (some (dE (stepC [] m F))) = [some (.p z0), some (.p z1), some (dE F), some (.p (.int m)), some (dE (stepC [] m F)), oP y5, oP y6, oP y7] := by
          rw [boxE_p, boxE_p, boxE_p, boxE_p]
          show some (.p z0) :: some (.p z1) :: some (dE F) :: some (.p (.int m)) :: some (dE (stepC [] m F)) :: boxE S.objs.length (SD S (stepC [] m F)) [oP y5, oP y6, oP y7] = _
          rw [boxE_oP, boxE_oP, boxE_oP]
          rfl
        rw [r_ok, r_nx, eb]
        simp -implicitDefEqProofs (disch := walk_at "dl") only [r_ok, r_c, r_op2, r_op1, r_nil, r_cons, r_callB, r_call, r_and, r_or, r_not, r_asB, r_if, r_andT, r_orT, r_notT, r_test, r_chain, r_seq, r_nx, r_rt, r_bk, r_ct, r_next, r_break, r_cont, r_drop, r_ret, r_retN, r_asg, r_aug, r_ifS, r_par, r_sl, r_noPart, r_part, r_asInt, r_put, r_for, r_src, r_srcA, r_comp, r_oNx, r_oCt, r_oBk, r_oRt, r_yes, t_lift, t_some, t_var, t_vsome, t_liftS, t_ssome, t_meth, t_lstO, t_lstOF, List.getElem?_cons_zero, List.getElem?_cons_succ, List.set_cons_zero, List.set_cons_succ, o_add, o_addI, o_sub, o_neg, o_lt, o_le, o_gt, o_ge, o_eq, o_ne, o_int, o_intB, o_abs, o_max, o_min, r_env, List.map_cons, List.map_nil, List.length_cons, List.length_nil, Nat.zero_add, Nat.reduceAdd, Nat.reduceSub, Nat.reduceLeDiff, List.replicate_succ, List.replicate_zero, List.cons_append, List.nil_append, Bool.false_eq_true, if_true, if_false, gPar, List.zip_cons_cons, List.zip_nil_right, List.zip_nil_left, List.foldl_cons, List.foldl_nil, unsetE, r_err, r_assoc, r_iteB, wp_ok, q_lstI, q_mul, q_div, q_range1, q_range2, q_lenT, q_lenL, q_sumT, q_sumL, q_srcT, q_srcL, q_new0, q_lst, q_append, q_extend, q_lenR, q_toTR, q_l1, q_l2, q_l3, q_l4, q_addL, q_addT, q_srtT, q_srtL, f_toT_l, f_toT_t, o_mod, Bool.not_true, Bool.not_false, Bool.true_and, Bool.false_and]
      rw [List.map_cons, loopI_cons rfl (ρ' := [some (.p z0), some (.p z1), some (dE F), some (.p (.int m)), oP z4, oP z5, oP z6, oP z7]) rfl, body, r_ok, r_oNx]
      exact e2
    · rw [b2, wgt_step]
      show 0 + _ = _
      rw [Nat.zero_add]
      rfl
theorem p_number {r : List Nat} (hr : r.sum ≤ 10) (hl : l ∈ ptn r.sum) (hn : r.length ≤ 1000) : m_number_of [tN l, tN r] S = .ok (.p (.int (nFil l r.reverse : Nat))) S := by
  have hs : r.reverse.sum = r.sum := (List.reverse_perm r).sum_nat
  obtain ⟨F', y3, y4, y5, y6, y7, e, a, b⟩ := num_loop (S := S) (z0 := .tup (zP l)) (z1 := .tup (zP r)) r.reverse [(l, 1)] none none none none none (by omega) (by simp [keysE]) (fun x hx => by
    have : x = l := by simpa [keysE] using hx
    rw [this, hs]
    exact hl)
  have w1 : wgt (fun l => nFil l r.reverse) [(l, 1)] = nFil l r.reverse := by
    rw [wgt_cons]
    show 1 * nFil l r.reverse + 0 = _
    omega
  have dd : mDispT (mVar 0) (mC (.int 1)) [some (tN l), some (tN r), none, none, none, none, none, none] S = .ok (.r S.objs.length) (SD S [(l, 1)]) := by
    have e1 : (SD S []).objs[S.objs.length]? = some (.dit []) := SD_at
    have e2 : putO S.objs.length (.dit [(kLs l, .p (.int 1))]) (SD S []) = some (SD S [(l, 1)]) := by
      unfold putO
      have hl : (O.dit [(kLs l, D.p (.int 1))]).lo (SD S []).objs.length = true := rfl
      rw [dif_pos hl]
      congr 1
      refine Store.ext' ?_
      show (SD S []).objs.set S.objs.length _ = (SD S [(l, 1)]).objs
      rw [SD_objs, SD_objs]
      simp
    have e3 : keyT (tN l) = some (kLs l) := keyT_z
    show (Res.bind (mVar 0 _ (SD S [])) _) = _
    simp -implicitDefEqProofs (disch := walk_at "dl") only [r_ok, r_c, r_op2, r_op1, r_nil, r_cons, r_callB, r_call, r_and, r_or, r_not, r_asB, r_if, r_andT, r_orT, r_notT, r_test, r_chain, r_seq, r_nx, r_rt, r_bk, r_ct, r_next, r_break, r_cont, r_drop, r_ret, r_retN, r_asg, r_aug, r_ifS, r_par, r_sl, r_noPart, r_part, r_asInt, r_put, r_for, r_src, r_srcA, r_comp, r_oNx, r_oCt, r_oBk, r_oRt, r_yes, t_lift, t_some, t_var, t_vsome, t_liftS, t_ssome, t_meth, t_lstO, t_lstOF, List.getElem?_cons_zero, List.getElem?_cons_succ, List.set_cons_zero, List.set_cons_succ, o_add, o_addI, o_sub, o_neg, o_lt, o_le, o_gt, o_ge, o_eq, o_ne, o_int, o_intB, o_abs, o_max, o_min, r_env, List.map_cons, List.map_nil, List.length_cons, List.length_nil, Nat.zero_add, Nat.reduceAdd, Nat.reduceSub, Nat.reduceLeDiff, List.replicate_succ, List.replicate_zero, List.cons_append, List.nil_append, Bool.false_eq_true, if_true, if_false, gPar, List.zip_cons_cons, List.zip_nil_right, List.zip_nil_left, List.foldl_cons, List.foldl_nil, unsetE, r_err, r_assoc, r_iteB, wp_ok, q_lstI, q_mul, q_div, q_range1, q_range2, q_lenT, q_lenL, q_sumT, q_sumL, q_srcT, q_srcL, q_new0, q_lst, q_append, q_extend, q_lenR, q_toTR, q_l1, q_l2, q_l3, q_l4, q_addL, q_addT, q_srtT, q_srtL, f_toT_l, f_toT_t, o_mod, Bool.not_true, Bool.not_false, Bool.true_and, Bool.false_and]
    show (match (SD S []).objs[S.objs.length]?, keyT (tN l) with
      | some (.dit []), some kk => (match putO S.objs.length (.dit [(kk, .p (.int 1))]) (SD S []) with
        | some S3 => Res.ok (D.r S.objs.length) S3
        | none => Res.stuck)
      | _, _ => Res.stuck) = _
    rw [e1, e3]
    simp only [e2]
  have bx := r_boxD (S := S) (i := 2) (b := mAsg (gNm 2) (mDispT (mVar 0) (mC (.int 1)))) (ρ := [some (tN l), some (tN r), none, none, none, none, none, none]) (ρ' := [some (tN l), some (tN r), some (.r S.objs.length), none, none, none, none, none]) (by
    rw [r_asg, dd]
    rfl) SD_cut (boxDit_SD rfl)
  have rv : fRevA fLstF (tN r) S = some (tN r.reverse, S) := by
    show (match (none : Option (D × Store)) with | some z => some z | none => match (tN r).tup? with | some xs => some (mkTup xs.reverse, S) | none => none) = _
    rw [tI_tup]
    show some (mkTup (dInts (zI r)).reverse, S) = _
    have : (dInts (zI r)).reverse = pD (zP r.reverse) := by
      unfold dInts pD zP zI
      simp
    rw [this, mkTup_pD]
    rfl
  have sr : srcSeq (tN r.reverse) S = some (⟨r.reverse.map fun x : Nat => D.p (.int (x : Int)), []⟩, S) := by
    rw [← dz_map]
    exact q_srcT
  have en : lookE F' [] = none ∨ ∃ c, lookE F' [] = some c := by
    cases lookE F' [] with
    | none => exact .inl rfl
    | some c => exact .inr ⟨c, rfl⟩
  have val : (lookE F' []).getD 0 = nFil l r.reverse := by
    rw [look_wgt a, ← w1, ← b]
    congr 1
    funext k
    cases k <;> rfl
  have gt : mGet2 (mVar 2) (mCallB fTup mNil) (mC (.int 0)) [some (tN l), some (tN r), some (dE F'), oP y3, oP y4, oP y5, oP y6, oP y7] S = .ok (.p (.int (nFil l r.reverse : Nat))) S := by
    have f0 : fTup [] S = some (.p (zT []), S) := rfl
    unfold mGet2
    simp -implicitDefEqProofs (disch := walk_at "dl") only [r_ok, r_c, r_op2, r_op1, r_nil, r_cons, r_callB, r_call, r_and, r_or, r_not, r_asB, r_if, r_andT, r_orT, r_notT, r_test, r_chain, r_seq, r_nx, r_rt, r_bk, r_ct, r_next, r_break, r_cont, r_drop, r_ret, r_retN, r_asg, r_aug, r_ifS, r_par, r_sl, r_noPart, r_part, r_asInt, r_put, r_for, r_src, r_srcA, r_comp, r_oNx, r_oCt, r_oBk, r_oRt, r_yes, t_lift, t_some, t_var, t_vsome, t_liftS, t_ssome, t_meth, t_lstO, t_lstOF, List.getElem?_cons_zero, List.getElem?_cons_succ, List.set_cons_zero, List.set_cons_succ, o_add, o_addI, o_sub, o_neg, o_lt, o_le, o_gt, o_ge, o_eq, o_ne, o_int, o_intB, o_abs, o_max, o_min, r_env, List.map_cons, List.map_nil, List.length_cons, List.length_nil, Nat.zero_add, Nat.reduceAdd, Nat.reduceSub, Nat.reduceLeDiff, List.replicate_succ, List.replicate_zero, List.cons_append, List.nil_append, Bool.false_eq_true, if_true, if_false, gPar, List.zip_cons_cons, List.zip_nil_right, List.zip_nil_left, List.foldl_cons, List.foldl_nil, unsetE, r_err, r_assoc, r_iteB, wp_ok, q_lstI, q_mul, q_div, q_range1, q_range2, q_lenT, q_lenL, q_sumT, q_sumL, q_srcT, q_srcL, q_new0, q_lst, q_append, q_extend, q_lenR, q_toTR, q_l1, q_l2, q_l3, q_l4, q_addL, q_addT, q_srtT, q_srtL, f_toT_l, f_toT_t, o_mod, Bool.not_true, Bool.not_false, Bool.true_and, Bool.false_and, f0]
    rw [if_pos isDic_dE, look_dE, ← val]
    cases lookE F' [] <;> rfl
  refine fn_pure0 ?_
  unfold b_number_of
  show (mSeq _ _ [some (tN l), some (tN r), none, none, none, none, none, none] S) = _
  rw [r_seq, bx, r_ok, r_nx]
  show (mSeq _ _ [some (tN l), some (tN r), some (dE [(l, 1)]), none, none, none, none, none] S) = _
  have ff : mFor (mSrc srcSeq (mOp1 (fRevA fLstF) (mVar 1))) (gNm 3) lb_number_of_2 [some (tN l), some (tN r), some (dE [(l, 1)]), none, none, none, none, none] S = .ok (.nx [some (tN l), some (tN r), some (dE F'), oP y3, oP y4, oP y5, oP y6, oP y7]) S := r_forE (xs := r.reverse.map fun x : Nat => D.p (.int (x : Int))) (w := []) (S1 := S) (by simp -implicitDefEqProofs (disch := walk_at "dl") only [r_ok, r_c, r_op2, r_op1, r_nil, r_cons, r_callB, r_call, r_and, r_or, r_not, r_asB, r_if, r_andT, r_orT, r_notT, r_test, r_chain, r_seq, r_nx, r_rt, r_bk, r_ct, r_next, r_break, r_cont, r_drop, r_ret, r_retN, r_asg, r_aug, r_ifS, r_par, r_sl, r_noPart, r_part, r_asInt, r_put, r_for, r_src, r_srcA, r_comp, r_oNx, r_oCt, r_oBk, r_oRt, r_yes, t_lift, t_some, t_var, t_vsome, t_liftS, t_ssome, t_meth, t_lstO, t_lstOF, List.getElem?_cons_zero, List.getElem?_cons_succ, List.set_cons_zero, List.set_cons_succ, o_add, o_addI, o_sub, o_neg, o_lt, o_le, o_gt, o_ge, o_eq, o_ne, o_int, o_intB, o_abs, o_max, o_min, r_env, List.map_cons, List.map_nil, List.length_cons, List.length_nil, Nat.zero_add, Nat.reduceAdd, Nat.reduceSub, Nat.reduceLeDiff, List.replicate_succ, List.replicate_zero, List.cons_append, List.nil_append, Bool.false_eq_true, if_true, if_false, gPar, List.zip_cons_cons, List.zip_nil_right, List.zip_nil_left, List.foldl_cons, List.foldl_nil, unsetE, r_err, r_assoc, r_iteB, wp_ok, q_lstI, q_mul, q_div, q_range1, q_range2, q_lenT, q_lenL, q_sumT, q_sumL, q_srcT, q_srcL, q_new0, q_lst, q_append, q_extend, q_lenR, q_toTR, q_l1, q_l2, q_l3, q_l4, q_addL, q_addT, q_srtT, q_srtL, f_toT_l, f_toT_t, o_mod, Bool.not_true, Bool.not_false, Bool.true_and, Bool.false_and, rv, sr]) e
  rw [r_seq, ff, r_ok, r_nx]
  show mRet _ [some (tN l), some (tN r), some (dE F'), oP y3, oP y4, oP y5, oP y6, oP y7] S = _
  rw [r_ret, gt]
  rfl
end
end DL
set_option maxHeartbeats 4000000
namespace DL
open PySem PySem.Spec PyProof.Rows L2
theorem le_sumN {x : Nat} : ∀ {l : List Nat}, x ∈ l → x ≤ l.sum
  | y :: l, h => by
    rw [List.sum_cons]
    rcases List.mem_cons.mp h with rfl | h
    · omega
    · have := le_sumN h
      omega
section
variable {S T U : Store} {l r : List Nat} {ns : List Int}
theorem xisi_tI : fIsi [tI ns, .p (.ty "tuple")] S = some (.p (.bl true), S) := rfl
theorem xall_true {n : Nat} : fAll [.p (.lst (List.replicate n (.bl true)))] S = some (.p (.bl true), S) := by
  have e : pD (List.replicate n (.bl true)) = (List.replicate n true).map fun b => D.p (.bl b) := by
    unfold pD
    rw [List.map_replicate, List.map_replicate]
  have := o_allL (S := S) (d := .p (.lst (List.replicate n (.bl true)))) rfl (by
    show bools (pD (List.replicate n (.bl true))) = _
    rw [e]
    exact bools_map _)
  rw [this]
  congr 4
  rw [List.all_eq_true]
  intro b hb
  exact (List.mem_replicate.mp hb).2
theorem p_req_shape {k : Nat} (h : k ≤ 10) (hl : l ∈ ptn k) : m_require_shape [tN l] S = .ok (.p .non) S := by
  have e := p_is_shape (S := S) h hl
  refine fn_none (ρ := env0 1 [tN l]) (S' := S) ?_ List.take_length
  unfold b_require_shape
  simp -implicitDefEqProofs (disch := walk_at "dl") only [r_ok, r_c, r_op2, r_op1, r_nil, r_cons, r_callB, r_call, r_and, r_or, r_not, r_asB, r_if, r_andT, r_orT, r_notT, r_test, r_chain, r_seq, r_nx, r_rt, r_bk, r_ct, r_next, r_break, r_cont, r_drop, r_ret, r_retN, r_asg, r_aug, r_ifS, r_par, r_sl, r_noPart, r_part, r_asInt, r_put, r_for, r_src, r_srcA, r_comp, r_oNx, r_oCt, r_oBk, r_oRt, r_yes, t_lift, t_some, t_var, t_vsome, t_liftS, t_ssome, t_meth, t_lstO, t_lstOF, List.getElem?_cons_zero, List.getElem?_cons_succ, List.set_cons_zero, List.set_cons_succ, o_add, o_addI, o_sub, o_neg, o_lt, o_le, o_gt, o_ge, o_eq, o_ne, o_int, o_intB, o_abs, o_max, o_min, r_env, List.map_cons, List.map_nil, List.length_cons, List.length_nil, Nat.zero_add, Nat.reduceAdd, Nat.reduceSub, Nat.reduceLeDiff, List.replicate_succ, List.replicate_zero, List.cons_append, List.nil_append, Bool.false_eq_true, if_true, if_false, gPar, List.zip_cons_cons, List.zip_nil_right, List.zip_nil_left, List.foldl_cons, List.foldl_nil, unsetE, r_err, r_assoc, r_iteB, wp_ok, q_lstI, q_mul, q_div, q_range1, q_range2, q_lenT, q_lenL, q_sumT, q_sumL, q_srcT, q_srcL, q_new0, q_lst, q_append, q_extend, q_lenR, q_toTR, q_l1, q_l2, q_l3, q_l4, q_addL, q_addT, q_srtT, q_srtL, f_toT_l, f_toT_t, o_mod, Bool.not_true, Bool.not_false, Bool.true_and, Bool.false_and, e]
theorem p_req_counts (h : r.sum ≤ 10) (hn : r.length ≤ 8) : m_require_counts [tN r] S = .ok (.p .non) S := by
  have c := compI_mapD (S := S) (g := gNm 1) (e := ce_require_counts) (ρ := [some (tN r), none]) (h := fun x : Nat => D.p (.int (x : Int))) (f := fun _ => D.p (.bl true)) r [] (by rw [List.length_nil]; omega) fun x hx => ⟨_, rfl, by
    have hx := le_sumN hx
    show ce_require_counts [some (tN r), some (.p (.int (x : Int)))] S = _
    have f := p_is_fromI (S := S) (i := (x : Int)) (a := 0) (b := 42)
    have d1 : decide ((0 : Int) ≤ (x : Int)) = true := decide_eq_true (by omega)
    have d2 : decide ((x : Int) ≤ 42) = true := decide_eq_true (by omega)
    rw [d1, d2] at f
    unfold ce_require_counts
    simp -implicitDefEqProofs (disch := walk_at "dl") only [r_ok, r_c, r_op2, r_op1, r_nil, r_cons, r_callB, r_call, r_and, r_or, r_not, r_asB, r_if, r_andT, r_orT, r_notT, r_test, r_chain, r_seq, r_nx, r_rt, r_bk, r_ct, r_next, r_break, r_cont, r_drop, r_ret, r_retN, r_asg, r_aug, r_ifS, r_par, r_sl, r_noPart, r_part, r_asInt, r_put, r_for, r_src, r_srcA, r_comp, r_oNx, r_oCt, r_oBk, r_oRt, r_yes, t_lift, t_some, t_var, t_vsome, t_liftS, t_ssome, t_meth, t_lstO, t_lstOF, List.getElem?_cons_zero, List.getElem?_cons_succ, List.set_cons_zero, List.set_cons_succ, o_add, o_addI, o_sub, o_neg, o_lt, o_le, o_gt, o_ge, o_eq, o_ne, o_int, o_intB, o_abs, o_max, o_min, r_env, List.map_cons, List.map_nil, List.length_cons, List.length_nil, Nat.zero_add, Nat.reduceAdd, Nat.reduceSub, Nat.reduceLeDiff, List.replicate_succ, List.replicate_zero, List.cons_append, List.nil_append, Bool.false_eq_true, if_true, if_false, gPar, List.zip_cons_cons, List.zip_nil_right, List.zip_nil_left, List.foldl_cons, List.foldl_nil, unsetE, r_err, r_assoc, r_iteB, wp_ok, q_lstI, q_mul, q_div, q_range1, q_range2, q_lenT, q_lenL, q_sumT, q_sumL, q_srcT, q_srcL, q_new0, q_lst, q_append, q_extend, q_lenR, q_toTR, q_l1, q_l2, q_l3, q_l4, q_addL, q_addT, q_srtT, q_srtL, f_toT_l, f_toT_t, o_mod, Bool.not_true, Bool.not_false, Bool.true_and, Bool.false_and, f]⟩
  rw [← dz_map, List.nil_append] at c
  have fl : fLstF (r.map fun _ => D.p (.bl true)) S = some (.p (.lst (List.replicate r.length (.bl true))), S) := by
    rw [q_lstM (f := fun _ => P.bl true) (by omega), List.map_const']
  have ln : fLen [tN r] S = some (.p (.int (r.length : Int)), S) := by rw [q_lenT, zI_len]
  have d : decide ((8 : Int) < (r.length : Int)) = false := decide_eq_false (by omega)
  refine fn_none (ρ := env0 2 [tN r]) (S' := S) ?_ List.take_length
  unfold b_require_counts
  simp -implicitDefEqProofs (disch := walk_at "dl") only [r_ok, r_c, r_op2, r_op1, r_nil, r_cons, r_callB, r_call, r_and, r_or, r_not, r_asB, r_if, r_andT, r_orT, r_notT, r_test, r_chain, r_seq, r_nx, r_rt, r_bk, r_ct, r_next, r_break, r_cont, r_drop, r_ret, r_retN, r_asg, r_aug, r_ifS, r_par, r_sl, r_noPart, r_part, r_asInt, r_put, r_for, r_src, r_srcA, r_comp, r_oNx, r_oCt, r_oBk, r_oRt, r_yes, t_lift, t_some, t_var, t_vsome, t_liftS, t_ssome, t_meth, t_lstO, t_lstOF, List.getElem?_cons_zero, List.getElem?_cons_succ, List.set_cons_zero, List.set_cons_succ, o_add, o_addI, o_sub, o_neg, o_lt, o_le, o_gt, o_ge, o_eq, o_ne, o_int, o_intB, o_abs, o_max, o_min, r_env, List.map_cons, List.map_nil, List.length_cons, List.length_nil, Nat.zero_add, Nat.reduceAdd, Nat.reduceSub, Nat.reduceLeDiff, List.replicate_succ, List.replicate_zero, List.cons_append, List.nil_append, Bool.false_eq_true, if_true, if_false, gPar, List.zip_cons_cons, List.zip_nil_right, List.zip_nil_left, List.foldl_cons, List.foldl_nil, unsetE, r_err, r_assoc, r_iteB, wp_ok, q_lstI, q_mul, q_div, q_range1, q_range2, q_lenL, q_sumT, q_sumL, q_srcT, q_srcL, q_new0, q_lst, q_append, q_extend, q_lenR, q_toTR, q_l1, q_l2, q_l3, q_l4, q_addL, q_addT, q_srtT, q_srtL, f_toT_l, f_toT_t, o_mod, Bool.not_true, Bool.not_false, Bool.true_and, Bool.false_and, xisi_tI, ln, d, q_srcT, c, fl, xall_true]
theorem p_count (h : r.sum ≤ 10) (hn : r.length ≤ 8) (hl : l ∈ ptn r.sum) : m_count_fillings [tN l, tN r] S = .ok (.p (.int (nFil l r : Nat))) S := by
  have e1 := p_req_shape (S := S) h hl
  have e2 := p_req_counts (S := S) h hn
  have e3 := p_number (S := S) h hl (by omega)
  rw [N_perm (List.reverse_perm r).symm h hl] at e3
  have s1 : fSum [tN r] S = some (.p (.int (r.sum : Int)), S) := by rw [q_sumT, zI_sum]
  have s2 : fSum [tN l] S = some (.p (.int (r.sum : Int)), S) := by rw [q_sumT, zI_sum, (ck8_use h hl).1]
  refine fn_pure0 ?_
  unfold b_count_fillings
  simp -implicitDefEqProofs (disch := walk_at "dl") only [r_ok, r_c, r_op2, r_op1, r_nil, r_cons, r_callB, r_call, r_and, r_or, r_not, r_asB, r_if, r_andT, r_orT, r_notT, r_test, r_chain, r_seq, r_nx, r_rt, r_bk, r_ct, r_next, r_break, r_cont, r_drop, r_ret, r_retN, r_asg, r_aug, r_ifS, r_par, r_sl, r_noPart, r_part, r_asInt, r_put, r_for, r_src, r_srcA, r_comp, r_oNx, r_oCt, r_oBk, r_oRt, r_yes, t_lift, t_some, t_var, t_vsome, t_liftS, t_ssome, t_meth, t_lstO, t_lstOF, List.getElem?_cons_zero, List.getElem?_cons_succ, List.set_cons_zero, List.set_cons_succ, o_add, o_addI, o_sub, o_neg, o_lt, o_le, o_gt, o_ge, o_eq, o_ne, o_int, o_intB, o_abs, o_max, o_min, r_env, List.map_cons, List.map_nil, List.length_cons, List.length_nil, Nat.zero_add, Nat.reduceAdd, Nat.reduceSub, Nat.reduceLeDiff, List.replicate_succ, List.replicate_zero, List.cons_append, List.nil_append, Bool.false_eq_true, if_true, if_false, gPar, List.zip_cons_cons, List.zip_nil_right, List.zip_nil_left, List.foldl_cons, List.foldl_nil, unsetE, r_err, r_assoc, r_iteB, wp_ok, q_lstI, q_mul, q_div, q_range1, q_range2, q_lenT, q_lenL, q_sumL, q_srcT, q_srcL, q_new0, q_lst, q_append, q_extend, q_lenR, q_toTR, q_l1, q_l2, q_l3, q_l4, q_addL, q_addT, q_srtT, q_srtL, f_toT_l, f_toT_t, o_mod, Bool.not_true, Bool.not_false, Bool.true_and, Bool.false_and, e1, e2, s1, s2, e3, decide_true]
/-! ### a unit moved -/
def mvN (c : List Nat) (i j : Nat) : List Nat := c.zipIdx.map fun q => q.1 - (if q.2 = i then 1 else 0) + (if q.2 = j then 1 else 0)
theorem enumN_zip : ∀ (l : List Nat) (k : Nat), enumN k l = (l.zipIdx k).map fun q => D.p (.tup [.int (q.2 : Int), .int (q.1 : Int)])
  | [], _ => rfl
  | x :: l, k => by
    rw [List.zipIdx_cons, List.map_cons, ← enumN_zip l (k + 1)]
    rfl
theorem p_moved {i j : Nat} (hn : r.length ≤ 1000) (hi : ∀ q ∈ r.zipIdx, q.2 = i → 1 ≤ q.1) : m__law_moved [tN r, .p (.int (i : Int)), .p (.int (j : Int))] S = .ok (tN (mvN r i j)) S := by
  have c := compI_mapD (S := S) (g := gTp 2 (gsCons (gNm 3) (gsCons (gNm 4) gsNil))) (e := ce__law_moved) (ρ := [some (tN r), some (.p (.int (i : Int))), some (.p (.int (j : Int))), none, none]) (h := fun q : Nat × Nat => D.p (.tup [.int (q.2 : Int), .int (q.1 : Int)])) (f := fun q : Nat × Nat => D.p (.int ((q.1 - (if q.2 = i then 1 else 0) + (if q.2 = j then 1 else 0) : Nat) : Int))) r.zipIdx [] (by rw [List.length_nil, List.length_zipIdx]; omega) fun q hq => ⟨[some (tN r), some (.p (.int (i : Int))), some (.p (.int (j : Int))), some (.p (.int (q.2 : Int))), some (.p (.int (q.1 : Int)))], rfl, by
    have h := hi q hq
    have d1 : decide ((q.2 : Int) = (i : Int)) = decide (q.2 = i) := by
      rw [Bool.eq_iff_iff, decide_eq_true_eq, decide_eq_true_eq]
      omega
    have d2 : decide ((q.2 : Int) = (j : Int)) = decide (q.2 = j) := by
      rw [Bool.eq_iff_iff, decide_eq_true_eq, decide_eq_true_eq]
      omega
    have e : (q.1 : Int) - (if decide (q.2 = i) = true then 1 else 0) + (if decide (q.2 = j) = true then 1 else 0) = ((q.1 - (if q.2 = i then 1 else 0) + (if q.2 = j then 1 else 0) : Nat) : Int) := by
      simp only [decide_eq_true_eq]
      by_cases q1 : q.2 = i
      · have := h q1
        by_cases q2 : q.2 = j
        · rw [if_pos q1, if_pos q2, if_pos q1, if_pos q2]
          omega
        · rw [if_pos q1, if_neg q2, if_pos q1, if_neg q2]
          omega
      · by_cases q2 : q.2 = j
        · rw [if_neg q1, if_pos q2, if_neg q1, if_pos q2]
          omega
        · rw [if_neg q1, if_neg q2, if_neg q1, if_neg q2]
          omega
    unfold ce__law_moved
    simp -implicitDefEqProofs (disch := walk_at "dl") only [r_ok, r_c, r_op2, r_op1, r_nil, r_cons, r_callB, r_call, r_and, r_or, r_not, r_asB, r_if, r_andT, r_orT, r_notT, r_test, r_chain, r_seq, r_nx, r_rt, r_bk, r_ct, r_next, r_break, r_cont, r_drop, r_ret, r_retN, r_asg, r_aug, r_ifS, r_par, r_sl, r_noPart, r_part, r_asInt, r_put, r_for, r_src, r_srcA, r_comp, r_oNx, r_oCt, r_oBk, r_oRt, r_yes, t_lift, t_some, t_var, t_vsome, t_liftS, t_ssome, t_meth, t_lstO, t_lstOF, List.getElem?_cons_zero, List.getElem?_cons_succ, List.set_cons_zero, List.set_cons_succ, o_add, o_addI, o_sub, o_neg, o_lt, o_le, o_gt, o_ge, o_eq, o_ne, o_int, o_intB, o_abs, o_max, o_min, r_env, List.map_cons, List.map_nil, List.length_cons, List.length_nil, Nat.zero_add, Nat.reduceAdd, Nat.reduceSub, Nat.reduceLeDiff, List.replicate_succ, List.replicate_zero, List.cons_append, List.nil_append, Bool.false_eq_true, if_true, if_false, gPar, List.zip_cons_cons, List.zip_nil_right, List.zip_nil_left, List.foldl_cons, List.foldl_nil, unsetE, r_err, r_assoc, r_iteB, wp_ok, q_lstI, q_mul, q_div, q_range1, q_range2, q_lenT, q_lenL, q_sumT, q_sumL, q_srcT, q_srcL, q_new0, q_lst, q_append, q_extend, q_lenR, q_toTR, q_l1, q_l2, q_l3, q_l4, q_addL, q_addT, q_srtT, q_srtL, f_toT_l, f_toT_t, o_mod, Bool.not_true, Bool.not_false, Bool.true_and, Bool.false_and, d1, d2, e]⟩
  rw [← enumN_zip, List.nil_append] at c
  have fl : fLstF (r.zipIdx.map fun q : Nat × Nat => D.p (.int ((q.1 - (if q.2 = i then 1 else 0) + (if q.2 = j then 1 else 0) : Nat) : Int))) S = some (lI (zI (mvN r i j)), S) := by
    rw [q_lstM (f := fun q : Nat × Nat => P.int ((q.1 - (if q.2 = i then 1 else 0) + (if q.2 = j then 1 else 0) : Nat) : Int)) (by rw [List.length_zipIdx]; omega)]
    unfold mvN lI zI
    rw [List.map_map, List.map_map]
    rfl
  have en : srcEnum [tN r] S = some (⟨enumN 0 r, []⟩, S) := by rw [← enumN_eq]; exact o_enumT tI_tup
  refine fn_pure0 ?_
  unfold b__law_moved
  simp -implicitDefEqProofs (disch := walk_at "dl") only [r_ok, r_c, r_op2, r_op1, r_nil, r_cons, r_callB, r_call, r_and, r_or, r_not, r_asB, r_if, r_andT, r_orT, r_notT, r_test, r_chain, r_seq, r_nx, r_rt, r_bk, r_ct, r_next, r_break, r_cont, r_drop, r_ret, r_retN, r_asg, r_aug, r_ifS, r_par, r_sl, r_noPart, r_part, r_asInt, r_put, r_for, r_src, r_srcA, r_comp, r_oNx, r_oCt, r_oBk, r_oRt, r_yes, t_lift, t_some, t_var, t_vsome, t_liftS, t_ssome, t_meth, t_lstO, t_lstOF, List.getElem?_cons_zero, List.getElem?_cons_succ, List.set_cons_zero, List.set_cons_succ, o_add, o_addI, o_sub, o_neg, o_lt, o_le, o_gt, o_ge, o_eq, o_ne, o_int, o_intB, o_abs, o_max, o_min, r_env, List.map_cons, List.map_nil, List.length_cons, List.length_nil, Nat.zero_add, Nat.reduceAdd, Nat.reduceSub, Nat.reduceLeDiff, List.replicate_succ, List.replicate_zero, List.cons_append, List.nil_append, Bool.false_eq_true, if_true, if_false, gPar, List.zip_cons_cons, List.zip_nil_right, List.zip_nil_left, List.foldl_cons, List.foldl_nil, unsetE, r_err, r_assoc, r_iteB, wp_ok, q_lstI, q_mul, q_div, q_range1, q_range2, q_lenT, q_lenL, q_sumT, q_sumL, q_srcT, q_srcL, q_new0, q_lst, q_append, q_extend, q_lenR, q_toTR, q_l1, q_l2, q_l3, q_l4, q_addL, q_addT, q_srtT, q_srtL, f_toT_l, f_toT_t, o_mod, Bool.not_true, Bool.not_false, Bool.true_and, Bool.false_and, en, c, fl, f_toT_l]
  rfl
theorem set2_perm : ∀ {c : List Nat} {i j : Nat}, i < c.length → j < c.length → i ≠ j → ∃ t, ∀ x y, ((c.set i x).set j y).Perm (x :: y :: t)
  | z :: c, 0, j + 1, _, hj, _ => by
    have hj : j < c.length := by simpa using hj
    refine ⟨c.eraseIdx j, fun x y => ?_⟩
    show (x :: c.set j y).Perm _
    refine List.Perm.cons x ?_
    have h := erase_perm (l := c.set j y) (k := j) (by simpa using hj)
    rw [List.eraseIdx_set_eq] at h
    simpa using h.symm
  | z :: c, i + 1, 0, hi, _, _ => by
    have hi : i < c.length := by simpa using hi
    refine ⟨c.eraseIdx i, fun x y => ?_⟩
    show (y :: c.set i x).Perm _
    refine (List.Perm.cons y ?_).trans (List.Perm.swap x y _)
    have h := erase_perm (l := c.set i x) (k := i) (by simpa using hi)
    rw [List.eraseIdx_set_eq] at h
    simpa using h.symm
  | z :: c, i + 1, j + 1, hi, hj, hne => by
    obtain ⟨t, ht⟩ := set2_perm (c := c) (i := i) (j := j) (by simpa using hi) (by simpa using hj) (by omega)
    refine ⟨z :: t, fun x y => ?_⟩
    show (z :: (c.set i x).set j y).Perm _
    exact ((ht x y).cons z).trans ((List.Perm.swap x z _).trans ((List.Perm.swap y z t).cons x))
  | [], _, _, hi, _, _ => by simp at hi
  | z :: c, 0, 0, _, _, hne => absurd rfl hne
theorem mvN_set {c : List Nat} {i j : Nat} (hi : i < c.length) (hj : j < c.length) (hne : i ≠ j) : mvN c i j = (c.set i (c[i] - 1)).set j (c[j] + 1) := by
  unfold mvN
  apply List.ext_getElem
  · simp
  · intro n h1 h2
    rw [List.getElem_map, List.getElem_zipIdx, List.getElem_set, List.getElem_set]
    simp only [Nat.zero_add]
    by_cases q1 : n = j
    · subst q1
      have q2 : ¬ n = i := fun z => hne z.symm
      rw [if_neg q2, if_pos rfl, if_pos rfl]
      rfl
    · have q1' : ¬ j = n := fun z => q1 z.symm
      by_cases q2 : n = i
      · subst q2
        rw [if_pos rfl, if_neg q1, if_neg q1', if_pos rfl]
        rfl
      · have q2' : ¬ i = n := fun z => q2 z.symm
        rw [if_neg q1, if_neg q2, if_neg q1', if_neg q2']
        rfl
end
end DL
set_option maxHeartbeats 4000000
namespace DL
open PySem PySem.Spec PyProof.Rows L2
/-! ### rows under one another -/
theorem insD_perm (m : Nat) : ∀ l : List Nat, (insD m l).Perm (m :: l)
  | [] => List.Perm.refl _
  | x :: xs => by
    unfold insD
    split
    · exact List.Perm.refl _
    · exact ((insD_perm m xs).cons x).trans (List.Perm.swap m x xs)
theorem insD_fall {m : Nat} : ∀ {l : List Nat}, l.Pairwise (fun a b => b ≤ a) → (insD m l).Pairwise (fun a b => b ≤ a)
  | [], _ => by simp [insD]
  | x :: xs, h => by
    rw [List.pairwise_cons] at h
    unfold insD
    split
    · rename_i q
      rw [List.pairwise_cons, List.pairwise_cons]
      refine ⟨fun y hy => ?_, h⟩
      rcases List.mem_cons.mp hy with rfl | hy
      · exact q
      · have := h.1 y hy
        omega
    · rename_i q
      rw [List.pairwise_cons]
      refine ⟨fun y hy => ?_, insD_fall h.2⟩
      rcases List.mem_cons.mp ((insD_perm m xs).mem_iff.mp hy) with rfl | hy
      · omega
      · exact h.1 y hy
theorem nrm_fall' : ∀ c : List Nat, (nrm c).Pairwise (fun a b => b ≤ a)
  | [] => .nil
  | m :: c => by
    show (ins0 m (nrm c)).Pairwise _
    unfold ins0
    split
    · exact nrm_fall' c
    · exact insD_fall (nrm_fall' c)
theorem nrm_rep : ∀ c : List Nat, ∃ k, (nrm c ++ List.replicate k 0).Perm c
  | [] => ⟨0, List.Perm.refl _⟩
  | m :: c => by
    obtain ⟨k, h⟩ := nrm_rep c
    show ∃ k, (ins0 m (nrm c) ++ List.replicate k 0).Perm (m :: c)
    unfold ins0
    split
    · rename_i q
      subst q
      refine ⟨k + 1, ?_⟩
      rw [List.replicate_succ]
      exact List.perm_middle.trans (h.cons 0)
    · exact ⟨k, ((insD_perm m (nrm c)).append_right _).trans (h.cons m)⟩
theorem nrm_len (c : List Nat) : (nrm c).length ≤ c.length := by
  obtain ⟨k, h⟩ := nrm_rep c
  have := h.length_eq
  rw [List.length_append] at this
  omega
theorem take_rep (l : List Nat) (j k : Nat) : ((l ++ List.replicate j 0).take k).sum = (l.take k).sum := by
  rw [List.take_append, List.sum_append, List.take_replicate, List.sum_replicate_nat]
  simp
def padN (c : List Nat) (lots : Nat) : List Nat := c ++ List.replicate (lots - c.length) 0
theorem zI_app {a b : List Nat} : zI (a ++ b) = zI a ++ zI b := by
  unfold zI
  rw [List.map_append]
theorem zI_take {a : List Nat} {k : Nat} : (zI a).take k = zI (a.take k) := by
  unfold zI
  rw [List.map_take]
theorem zI_perm {a b : List Nat} (h : a.Perm b) : (zI a).Perm (zI b) := h.map _
/-- the padded row sorted down -/
theorem down_pad (c : List Nat) (lots : Nat) : ∃ j, sortDn (zI (padN c lots)) = zI (nrm c ++ List.replicate j 0) := by
  obtain ⟨k, h⟩ := nrm_rep c
  refine ⟨k + (lots - c.length), ?_⟩
  have hp : (nrm c ++ List.replicate (k + (lots - c.length)) 0).Perm (padN c lots) := by
    unfold padN
    rw [← List.replicate_append_replicate, ← List.append_assoc]
    exact h.append_right _
  generalize k + (lots - c.length) = j at *
  have hf : (nrm c ++ List.replicate j 0).Pairwise (fun a b => b ≤ a) := by
    rw [List.pairwise_append]
    refine ⟨nrm_fall' c, ?_, fun a ha b hb => ?_⟩
    · rw [List.pairwise_replicate]
      exact .inr (Nat.le_refl _)
    · rw [(List.mem_replicate.mp hb).2]
      exact Nat.zero_le _
  have hu : ((zI (nrm c ++ List.replicate j 0)).reverse).Pairwise (· ≤ ·) := by
    rw [List.pairwise_reverse]
    unfold zI
    rw [List.pairwise_map]
    exact hf.imp fun h => by omega
  have := srtUp_eq ((List.reverse_perm _).trans (zI_perm hp)) hu
  unfold sortDn
  rw [← this, List.reverse_reverse]
section
variable {S T U : Store} {l c : List Nat} {ns : List Int}
theorem rep_F {k : Nat} (h : k ≤ 100) : fMulA fLstF (lI [0]) (.p (.int (k : Int))) S = some (lI (zI (List.replicate k 0)), S) := by
  have e1 : fRep1 (lI [0]) (.p (.int (k : Int))) S = none := rfl
  have e2 : fMulI (lI [0]) (.p (.int (k : Int))) S = none := rfl
  have e3 : fRepT (lI [0]) (.p (.int (k : Int))) S = none := rfl
  have e4 : fRepL fLstF (lI [0]) (.p (.int (k : Int))) S = some (lI (zI (List.replicate k 0)), S) := by
    show (if (decide (-1000 ≤ (k : Int)) && decide ((k : Int) ≤ 100000) && decide ([D.p (.int 0)].length * (k : Int).toNat ≤ 100000)) = true then fLstF (List.replicate (k : Int).toNat [D.p (.int 0)]).flatten S else none) = _
    rw [if_pos (by
      simp only [Bool.and_eq_true, decide_eq_true_eq]
      refine ⟨⟨by omega, by omega⟩, ?_⟩
      show 1 * _ ≤ _
      omega), Int.toNat_natCast]
    have : (List.replicate k [D.p (.int 0)]).flatten = dInts (zI (List.replicate k 0)) := by
      simp [dInts, zI, List.flatten_replicate_singleton]
    rw [this]
    exact f_lstF (by rw [zI_len]; simp; omega)
  simp only [fMulA, fMulG, e1, e2, e3, e4]
theorem q_revUp (h : ns.length ≤ 1000) : fRevL fLstF (lI (sortUp ns)) S = some (lI (sortDn ns), S) := by
  have hn : (sortUp ns).length = ns.length := (sortUp_perm ns).length_eq
  show (match (lI (sortUp ns)).lst? S with | some xs => fLstF xs.reverse S | none => none) = _
  rw [lI_lst]
  show fLstF (dInts (sortUp ns)).reverse S = _
  have : (dInts (sortUp ns)).reverse = dInts (sortDn ns) := by
    unfold dInts sortDn
    rw [List.map_reverse]
  rw [this]
  exact f_lstF (by unfold sortDn; rw [List.length_reverse]; omega)
theorem q_cutTo {k : Nat} (h : ns.length ≤ 1000) : fCut fLstF (lI ns) none (some (k : Int)) S = some (lI (ns.take k), S) := by
  rw [o_cutL rfl lI_lst, cut_to, dInts_take]
  exact f_lstF (by rw [List.length_take]; omega)
/-- the list of the places where the one is ahead -/
def aheadN (a b : List Nat) (lots : Nat) : List Nat := (List.range' 0 lots).filter fun k => decide ((b.take k).sum < (a.take k).sum)
theorem xshaped_listI (ns : List Int) : SeqAt.shaped (.list (ns.map PyData.int)) = true := by
  show (PyData.canLay0 _ && decide (PyData.depth _ ≤ 64)) = true
  simp [PyData.canLay0, lay_ints, PyData.depth, dep_ints]
theorem xeq_intsNil : fEq (lI ns) (.p (.lst [])) S = some (.p (.bl ns.isEmpty), S) := by
  have e1 : (lI ns).py? S = some (.list (ns.map PyData.int)) := by
    show P.py (.lst (ns.map P.int)) = _
    simp [P.py, pys_ints ns]
  have e2 : (D.p (.lst [])).py? S = some (.list []) := rfl
  have e3 : SeqAt.shaped (.list []) = true := by decide +kernel
  unfold fEq
  simp only [e1, e2, xshaped_listI, e3, Bool.and_self, if_true]
  cases ns <;> rfl
theorem ahead_comp {z0 z1 : Option D} {a b : List Nat} {lots : Nat} (h : lots ≤ 100) (ha : a.length ≤ 1000) (hb : b.length ≤ 1000) : compI [] (gNm 5) ct__law_under ce__law_under [z0, z1, some (.p (.int lots)), some (lI (zI a)), some (lI (zI b)), none] [] ((List.range' 0 lots).map fun k : Nat => D.p (.int (k : Int))) S = .ok (dInts (zI (aheadN a b lots))) S := by
  have c := compI_ifD (S := S) (g := gNm 5) (t := ct__law_under) (e := ce__law_under) (ρ := [z0, z1, some (.p (.int lots)), some (lI (zI a)), some (lI (zI b)), none]) (p := fun k : Nat => decide ((b.take k).sum < (a.take k).sum)) (h := fun k : Nat => D.p (.int (k : Int))) (f := fun k : Nat => D.p (.int (k : Int))) (List.range' 0 lots) [] (by rw [List.length_nil, List.length_range']; omega) fun k hk => ⟨_, rfl, by
    show ct__law_under [z0, z1, some (.p (.int lots)), some (lI (zI a)), some (lI (zI b)), some (.p (.int (k : Int)))] S = _
    have c1 := q_cutTo (S := S) (ns := zI a) (k := k) (by rw [zI_len]; exact ha)
    have c2 := q_cutTo (S := S) (ns := zI b) (k := k) (by rw [zI_len]; exact hb)
    rw [zI_take] at c1 c2
    have s1 : fSum [lI (zI (a.take k))] S = some (.p (.int ((a.take k).sum : Nat)), S) := by rw [q_sumL, zI_sum]
    have s2 : fSum [lI (zI (b.take k))] S = some (.p (.int ((b.take k).sum : Nat)), S) := by rw [q_sumL, zI_sum]
    have e : decide (((b.take k).sum : Int) < ((a.take k).sum : Int)) = decide ((b.take k).sum < (a.take k).sum) := by
      rw [Bool.eq_iff_iff, decide_eq_true_eq, decide_eq_true_eq]
      omega
    unfold ct__law_under
    simp -implicitDefEqProofs (disch := walk_at "dl") only [r_ok, r_c, r_op2, r_op1, r_nil, r_cons, r_callB, r_call, r_and, r_or, r_not, r_asB, r_if, r_andT, r_orT, r_notT, r_test, r_chain, r_seq, r_nx, r_rt, r_bk, r_ct, r_next, r_break, r_cont, r_drop, r_ret, r_retN, r_asg, r_aug, r_ifS, r_par, r_sl, r_noPart, r_part, r_asInt, r_put, r_for, r_src, r_srcA, r_comp, r_oNx, r_oCt, r_oBk, r_oRt, r_yes, t_lift, t_some, t_var, t_vsome, t_liftS, t_ssome, t_meth, t_lstO, t_lstOF, List.getElem?_cons_zero, List.getElem?_cons_succ, List.set_cons_zero, List.set_cons_succ, o_add, o_addI, o_sub, o_neg, o_lt, o_le, o_gt, o_ge, o_eq, o_ne, o_int, o_intB, o_abs, o_max, o_min, r_env, List.map_cons, List.map_nil, List.length_cons, List.length_nil, Nat.zero_add, Nat.reduceAdd, Nat.reduceSub, Nat.reduceLeDiff, List.replicate_succ, List.replicate_zero, List.cons_append, List.nil_append, Bool.false_eq_true, if_true, if_false, gPar, List.zip_cons_cons, List.zip_nil_right, List.zip_nil_left, List.foldl_cons, List.foldl_nil, unsetE, r_err, r_assoc, r_iteB, wp_ok, q_lstI, q_mul, q_div, q_range1, q_range2, q_lenT, q_lenL, q_sumT, q_srcT, q_srcL, q_new0, q_lst, q_append, q_extend, q_lenR, q_toTR, q_l1, q_l2, q_l3, q_l4, q_addL, q_addT, q_srtT, q_srtL, f_toT_l, f_toT_t, o_mod, Bool.not_true, Bool.not_false, Bool.true_and, Bool.false_and, c1, c2, s1, s2, e], fun _ => rfl⟩
  rw [c, List.nil_append, dz_map]
  rfl
theorem p_under {a b : List Nat} {lots : Nat} (hl : lots = max c.length l.length) (h10 : lots ≤ 100) (h1 : sortDn (zI (padN c lots)) = zI a) (h2 : sortDn (zI (padN l lots)) = zI b) (hs : a.sum = b.sum) :
    m__law_under [tN c, tN l] S = .ok (.p (.bl (aheadN a b lots).isEmpty)) S := by
  have mx : fMax [.p (.int (c.length : Int)), .p (.int (l.length : Int))] S = some (.p (.int (lots : Int)), S) := by
    rw [o_max]
    congr 4
    omega
  have tl : ∀ r : List Nat, r.length ≤ 1000 → fToL fLstF [tN r] S = some (lI (zI r), S) := fun r hr => by
    show (match (tN r).seq? S with | some xs => fLstF xs S | none => none) = _
    rw [show (tN r).seq? S = some (dInts (zI r)) from tI_seq]
    exact f_lstF (by rw [zI_len]; omega)
  have t1 := tl c (by omega)
  have t2 := tl l (by omega)
  have l1 : fLen [tN c] S = some (.p (.int (c.length : Int)), S) := by rw [q_lenT, zI_len]
  have l2 : fLen [tN l] S = some (.p (.int (l.length : Int)), S) := by rw [q_lenT, zI_len]
  have b1 : (lots : Int) - (c.length : Int) = ((lots - c.length : Nat) : Int) := by omega
  have b2 : (lots : Int) - (l.length : Int) = ((lots - l.length : Nat) : Int) := by omega
  have f0 : fLstF [.p (.int 0)] S = some (lI [0], S) := rfl
  have r1 := rep_F (S := S) (k := lots - c.length) (by omega)
  have r2 := rep_F (S := S) (k := lots - l.length) (by omega)
  have pl : ∀ r : List Nat, r.length ≤ 100 → (padN r lots).length ≤ 200 := fun r hr => by
    unfold padN
    rw [List.length_append, List.length_replicate]
    omega
  have a1 : fAddG fLstF (lI (zI c)) (lI (zI (List.replicate (lots - c.length) 0))) S = some (lI (zI (padN c lots)), S) := by
    rw [q_addL (by rw [zI_len, zI_len, List.length_replicate]; omega), ← zI_app]
    rfl
  have a2 : fAddG fLstF (lI (zI l)) (lI (zI (List.replicate (lots - l.length) 0))) S = some (lI (zI (padN l lots)), S) := by
    rw [q_addL (by rw [zI_len, zI_len, List.length_replicate]; omega), ← zI_app]
    rfl
  have pc := pl c (by omega)
  have pq := pl l (by omega)
  have st : ∀ r : List Nat, (padN r lots).length ≤ 200 → fSrt false fLstF [lI (zI (padN r lots))] S = some (lI (sortUp (zI (padN r lots))), S) := fun r hr => f_srt (b := false) lI_seq (by rw [zI_len]; omega)
  have s1 := st c pc
  have s2 := st l pq
  have v1 := q_revUp (S := S) (ns := zI (padN c lots)) (by rw [zI_len]; omega)
  have v2 := q_revUp (S := S) (ns := zI (padN l lots)) (by rw [zI_len]; omega)
  rw [h1] at v1
  rw [h2] at v2
  have ha : a.length ≤ 1000 := by
    have := congrArg List.length h1
    rw [sortDn_len, zI_len, zI_len] at this
    omega
  have hb : b.length ≤ 1000 := by
    have := congrArg List.length h2
    rw [sortDn_len, zI_len, zI_len] at this
    omega
  have m1 : fSum [lI (zI a)] S = some (.p (.int (b.sum : Nat)), S) := by rw [q_sumL, zI_sum, hs]
  have m2 : fSum [lI (zI b)] S = some (.p (.int (b.sum : Nat)), S) := by rw [q_sumL, zI_sum]
  have rg : srcR1 [.p (.int (lots : Int))] S = some (⟨(List.range' 0 lots).map fun k : Nat => D.p (.int (k : Int)), []⟩, S) := by
    rw [o_range1 (fit_small (by omega) (by omega)), Int.toNat_natCast]
    congr 3
    unfold rangeD
    rw [List.range_eq_range']
    congr 1
    funext k
    rw [Int.zero_add]
  have cp := ahead_comp (S := S) (z0 := some (tN c)) (z1 := some (tN l)) (a := a) (b := b) (lots := lots) h10 ha hb
  have fl : fLstF (dInts (zI (aheadN a b lots))) S = some (lI (zI (aheadN a b lots)), S) := f_lstF (by
    rw [zI_len]
    unfold aheadN
    exact Nat.le_trans (List.length_filter_le _ _) (by rw [List.length_range']; omega))
  have f9 : fLstF [] S = some (.p (.lst []), S) := rfl
  have eq := xeq_intsNil (S := S) (ns := zI (aheadN a b lots))
  have em : (zI (aheadN a b lots)).isEmpty = (aheadN a b lots).isEmpty := by
    cases aheadN a b lots <;> rfl
  rw [em] at eq
  refine fn_pure0 ?_
  unfold b__law_under
  simp -implicitDefEqProofs (disch := walk_at "dl") only [r_ok, r_c, r_op2, r_op1, r_nil, r_cons, r_callB, r_call, r_and, r_or, r_not, r_asB, r_if, r_andT, r_orT, r_notT, r_test, r_chain, r_seq, r_nx, r_rt, r_bk, r_ct, r_next, r_break, r_cont, r_drop, r_ret, r_retN, r_asg, r_aug, r_ifS, r_par, r_sl, r_noPart, r_part, r_asInt, r_put, r_for, r_src, r_srcA, r_comp, r_oNx, r_oCt, r_oBk, r_oRt, r_yes, t_lift, t_some, t_var, t_vsome, t_liftS, t_ssome, t_meth, t_lstO, t_lstOF, List.getElem?_cons_zero, List.getElem?_cons_succ, List.set_cons_zero, List.set_cons_succ, o_add, o_addI, o_sub, o_neg, o_lt, o_le, o_gt, o_ge, o_eq, o_ne, o_int, o_intB, o_abs, o_min, r_env, List.map_cons, List.map_nil, List.length_cons, List.length_nil, Nat.zero_add, Nat.reduceAdd, Nat.reduceSub, Nat.reduceLeDiff, List.replicate_succ, List.replicate_zero, List.cons_append, List.nil_append, Bool.false_eq_true, if_true, if_false, gPar, List.zip_cons_cons, List.zip_nil_right, List.zip_nil_left, List.foldl_cons, List.foldl_nil, unsetE, r_err, r_assoc, r_iteB, wp_ok, q_lstI, q_mul, q_div, q_range2, q_lenL, q_sumT, q_srcT, q_srcL, q_new0, q_lst, q_append, q_extend, q_lenR, q_toTR, q_l1, q_l2, q_l3, q_l4, q_addT, q_srtT, f_toT_l, f_toT_t, o_mod, Bool.not_true, Bool.not_false, Bool.true_and, Bool.false_and, l1, l2, mx, t1, t2, b1, b2, f0, r1, r2, a1, a2, s1, s2, v1, v2, m1, m2, decide_true, rg, cp, fl, f9, eq]
end
end DL
set_option maxHeartbeats 4000000
namespace DL
open PySem PySem.Spec PyProof.Rows L2
section
variable {S T U : Store} {l c : List Nat} {v : List P} {r n : Nat}
theorem p_underN (h : c.sum ≤ 10) (hl : l ∈ ptn c.sum) (hc : c.length ≤ 10) : m__law_under [tN c, tN l] S = .ok (.p (.bl (dom (nrm c) l))) S := by
  obtain ⟨hs, hn⟩ := ck8_use h hl
  have hl2 := (ptn_fall h hl).2
  obtain ⟨j1, e1⟩ := down_pad c (max c.length l.length)
  obtain ⟨j2, e2⟩ := down_pad l (max c.length l.length)
  rw [hn] at e2
  obtain ⟨k, hk⟩ := nrm_rep c
  have hcs : (nrm c).sum = c.sum := by
    have := hk.sum_nat
    rw [List.sum_append, List.sum_replicate_nat] at this
    omega
  have e := p_under (S := S) (c := c) (l := l) (lots := max c.length l.length) rfl (by omega) e1 e2 (by
    rw [List.sum_append, List.sum_append, List.sum_replicate_nat, List.sum_replicate_nat, hcs, hs]
    omega)
  rw [e]
  congr 3
  rw [Bool.eq_iff_iff, List.isEmpty_iff]
  unfold aheadN dom
  rw [List.filter_eq_nil_iff, List.all_eq_true]
  have hnl := nrm_len c
  constructor
  · intro h1 k hk
    rw [Nat.ble_eq]
    by_cases q : k < max c.length l.length
    · have := h1 k (by rw [List.mem_range'_1]; omega)
      rw [decide_eq_true_eq, take_rep, take_rep] at this
      omega
    · rw [List.take_of_length_le (by omega), List.take_of_length_le (by omega), hcs, hs]
      exact Nat.le_refl _
  · intro h1 k hk
    rw [List.mem_range'_1] at hk
    have := h1 k (List.mem_range.mpr (by omega))
    rw [Nat.ble_eq] at this
    rw [decide_eq_true_eq, take_rep, take_rep]
    omega
theorem ne_int {i : Int} : fNe (.p (.int i)) (.p (.int i)) S = some (.p (.bl false), S) := by
  rw [o_ne]
  simp
theorem ne_bl {b : Bool} : fNe (.p (.bl b)) (.p (.bl b)) S = some (.p (.bl false), S) := by cases b <;> rfl
/-- a pair of places: moved, there are not fewer -/
theorem right_pair {z0 z5 : Option D} {i j : Nat} (h : c.sum ≤ 10) (hl : l ∈ ptn c.sum) (hc : c.length ≤ 8) (hi : i < c.length) (hj : j < c.length) :
    lb__law_right [z0, some (tN l), some (tN c), some (.p (.int (nFil l c : Nat))), some (.p (.int (i : Int))), some (.p (.int (j : Int)))] S = .ok (.nx [z0, some (tN l), some (tN c), some (.p (.int (nFil l c : Nat))), some (.p (.int (i : Int))), some (.p (.int (j : Int)))]) S := by
  have x : ∀ k : Nat, (hk : k < c.length) → fIx (tN c) (.p (.int (k : Int))) S = some (.p (.int (c[k] : Int)), S) := fun k hk => by
    have := q_ixT (T := S) (ns := zI c) (k := k) (by rw [zI_len]; exact hk)
    have e : (zI c)[k]'(by rw [zI_len]; exact hk) = (c[k] : Int) := by
      unfold zI
      rw [List.getElem_map]
    rw [e] at this
    exact this
  have x1 := x i hi
  have x2 := x j hj
  by_cases q : c[j] + 1 < c[i]
  · have hne : i ≠ j := fun z => by
      subst z
      omega
    have d : decide ((c[j] : Int) + 1 < (c[i] : Int)) = true := decide_eq_true (by omega)
    obtain ⟨t, ht⟩ := set2_perm hi hj hne
    have p1 := ht c[i] c[j]
    rw [List.set_getElem_self, List.set_getElem_self] at p1
    have p2 := ht (c[i] - 1) (c[j] + 1)
    rw [← mvN_set hi hj hne] at p2
    have hs : (mvN c i j).sum = c.sum := by
      rw [p2.sum_nat, p1.sum_nat]
      simp only [List.sum_cons]
      omega
    have hm := p_moved (S := S) (r := c) (i := i) (j := j) (by omega) fun p hp e => by
      obtain ⟨a, b⟩ := p
      simp only at e
      subst e
      obtain ⟨h1, h2, h3⟩ := List.mem_zipIdx hp
      simp only [Nat.sub_zero] at h3
      show 1 ≤ a
      rw [h3]
      omega
    have hcn := p_count (S := S) (l := l) (r := mvN c i j) (by omega) (by unfold mvN; rw [List.length_map, List.length_zipIdx]; exact hc) (by rw [hs]; exact hl)
    have le := N_mv (l := l) p1 p2 q h hl
    have d2 : decide (((nFil l (mvN c i j) : Nat) : Int) < ((nFil l c : Nat) : Int)) = false := decide_eq_false (by omega)
    unfold lb__law_right
    simp -implicitDefEqProofs (disch := walk_at "dl") only [r_ok, r_c, r_op2, r_op1, r_nil, r_cons, r_callB, r_call, r_and, r_or, r_not, r_asB, r_if, r_andT, r_orT, r_notT, r_test, r_chain, r_seq, r_nx, r_rt, r_bk, r_ct, r_next, r_break, r_cont, r_drop, r_ret, r_retN, r_asg, r_aug, r_ifS, r_par, r_sl, r_noPart, r_part, r_asInt, r_put, r_for, r_src, r_srcA, r_comp, r_oNx, r_oCt, r_oBk, r_oRt, r_yes, t_lift, t_some, t_var, t_vsome, t_liftS, t_ssome, t_meth, t_lstO, t_lstOF, List.getElem?_cons_zero, List.getElem?_cons_succ, List.set_cons_zero, List.set_cons_succ, o_add, o_addI, o_sub, o_neg, o_lt, o_le, o_gt, o_ge, o_eq, o_ne, o_int, o_intB, o_abs, o_max, o_min, r_env, List.map_cons, List.map_nil, List.length_cons, List.length_nil, Nat.zero_add, Nat.reduceAdd, Nat.reduceSub, Nat.reduceLeDiff, List.replicate_succ, List.replicate_zero, List.cons_append, List.nil_append, Bool.false_eq_true, if_true, if_false, gPar, List.zip_cons_cons, List.zip_nil_right, List.zip_nil_left, List.foldl_cons, List.foldl_nil, unsetE, r_err, r_assoc, r_iteB, wp_ok, q_lstI, q_mul, q_div, q_range1, q_range2, q_lenT, q_lenL, q_sumT, q_sumL, q_srcT, q_srcL, q_new0, q_lst, q_append, q_extend, q_lenR, q_toTR, q_l1, q_l2, q_l3, q_l4, q_addL, q_addT, q_srtT, q_srtL, f_toT_l, f_toT_t, o_mod, Bool.not_true, Bool.not_false, Bool.true_and, Bool.false_and, x1, x2, d, hm, hcn, d2]
  · have d : decide ((c[j] : Int) + 1 < (c[i] : Int)) = false := decide_eq_false (by omega)
    unfold lb__law_right
    simp -implicitDefEqProofs (disch := walk_at "dl") only [r_ok, r_c, r_op2, r_op1, r_nil, r_cons, r_callB, r_call, r_and, r_or, r_not, r_asB, r_if, r_andT, r_orT, r_notT, r_test, r_chain, r_seq, r_nx, r_rt, r_bk, r_ct, r_next, r_break, r_cont, r_drop, r_ret, r_retN, r_asg, r_aug, r_ifS, r_par, r_sl, r_noPart, r_part, r_asInt, r_put, r_for, r_src, r_srcA, r_comp, r_oNx, r_oCt, r_oBk, r_oRt, r_yes, t_lift, t_some, t_var, t_vsome, t_liftS, t_ssome, t_meth, t_lstO, t_lstOF, List.getElem?_cons_zero, List.getElem?_cons_succ, List.set_cons_zero, List.set_cons_succ, o_add, o_addI, o_sub, o_neg, o_lt, o_le, o_gt, o_ge, o_eq, o_ne, o_int, o_intB, o_abs, o_max, o_min, r_env, List.map_cons, List.map_nil, List.length_cons, List.length_nil, Nat.zero_add, Nat.reduceAdd, Nat.reduceSub, Nat.reduceLeDiff, List.replicate_succ, List.replicate_zero, List.cons_append, List.nil_append, Bool.false_eq_true, if_true, if_false, gPar, List.zip_cons_cons, List.zip_nil_right, List.zip_nil_left, List.foldl_cons, List.foldl_nil, unsetE, r_err, r_assoc, r_iteB, wp_ok, q_lstI, q_mul, q_div, q_range1, q_range2, q_lenT, q_lenL, q_sumT, q_sumL, q_srcT, q_srcL, q_new0, q_lst, q_append, q_extend, q_lenR, q_toTR, q_l1, q_l2, q_l3, q_l4, q_addL, q_addT, q_srtT, q_srtL, f_toT_l, f_toT_t, o_mod, Bool.not_true, Bool.not_false, Bool.true_and, Bool.false_and, x1, x2, d]
theorem nats_range (k : Nat) : rangeD 0 k = (List.range' 0 k).map fun i : Nat => D.p (.int (i : Int)) := by
  unfold rangeD
  rw [List.range_eq_range']
  congr 1
  funext i
  rw [Int.zero_add]
theorem right_in {z0 : Option D} {i : Nat} (h : c.sum ≤ 10) (hl : l ∈ ptn c.sum) (hc : c.length ≤ 8) (hi : i < c.length) : ∀ (ks : List Nat) (z5 : Option D), (∀ k ∈ ks, k < c.length) →
    ∃ y5, loopI [] (gNm 5) lb__law_right (ks.map fun k : Nat => D.p (.int (k : Int))) [z0, some (tN l), some (tN c), some (.p (.int (nFil l c : Nat))), some (.p (.int (i : Int))), z5] S = .ok (.nx [z0, some (tN l), some (tN c), some (.p (.int (nFil l c : Nat))), some (.p (.int (i : Int))), y5]) S
  | [], z5, _ => ⟨z5, loopI_nil rfl⟩
  | k :: ks, z5, hk => by
    obtain ⟨y5, e⟩ := right_in (z0 := z0) h hl hc hi ks (some (.p (.int (k : Int)))) fun x hx => hk x (List.mem_cons_of_mem _ hx)
    refine ⟨y5, ?_⟩
    rw [List.map_cons, loopI_cons rfl (ρ' := [z0, some (tN l), some (tN c), some (.p (.int (nFil l c : Nat))), some (.p (.int (i : Int))), some (.p (.int (k : Int)))]) rfl, right_pair (z5 := none) h hl hc hi (hk k List.mem_cons_self), r_ok, r_oNx, e]
theorem right_out {z0 : Option D} (h : c.sum ≤ 10) (hl : l ∈ ptn c.sum) (hc : c.length ≤ 8) : ∀ (is : List Nat) (z4 z5 : Option D), (∀ k ∈ is, k < c.length) →
    ∃ y4 y5, loopI [] (gNm 4) lb__law_right_1 (is.map fun k : Nat => D.p (.int (k : Int))) [z0, some (tN l), some (tN c), some (.p (.int (nFil l c : Nat))), z4, z5] S = .ok (.nx [z0, some (tN l), some (tN c), some (.p (.int (nFil l c : Nat))), y4, y5]) S
  | [], z4, z5, _ => ⟨z4, z5, loopI_nil rfl⟩
  | i :: is, z4, z5, hk => by
    obtain ⟨y5, e⟩ := right_in (S := S) (z0 := z0) h hl hc (hk i List.mem_cons_self) (List.range' 0 c.length) z5 fun x hx => by
      rw [List.mem_range'_1] at hx
      omega
    obtain ⟨x4, x5, e2⟩ := right_out (z0 := z0) h hl hc is (some (.p (.int (i : Int)))) y5 fun x hx => hk x (List.mem_cons_of_mem _ hx)
    refine ⟨x4, x5, ?_⟩
    have rg : srcR1 [.p (.int (c.length : Int))] S = some (⟨(List.range' 0 c.length).map fun k : Nat => D.p (.int (k : Int)), []⟩, S) := by
      rw [o_range1 (fit_small (by omega) (by omega)), Int.toNat_natCast, nats_range]
    have ln : fLen [tN c] S = some (.p (.int (c.length : Int)), S) := by rw [q_lenT, zI_len]
    have body : lb__law_right_1 [z0, some (tN l), some (tN c), some (.p (.int (nFil l c : Nat))), some (.p (.int (i : Int))), z5] S = .ok (.nx [z0, some (tN l), some (tN c), some (.p (.int (nFil l c : Nat))), some (.p (.int (i : Int))), y5]) S := by
      unfold lb__law_right_1
      refine r_forE (w := []) (S1 := S) ?_ e
      simp -implicitDefEqProofs (disch := walk_at "dl") only [r_ok, r_c, r_op2, r_op1, r_nil, r_cons, r_callB, r_call, r_and, r_or, r_not, r_asB, r_if, r_andT, r_orT, r_notT, r_test, r_chain, r_seq, r_nx, r_rt, r_bk, r_ct, r_next, r_break, r_cont, r_drop, r_ret, r_retN, r_asg, r_aug, r_ifS, r_par, r_sl, r_noPart, r_part, r_asInt, r_put, r_for, r_src, r_srcA, r_comp, r_oNx, r_oCt, r_oBk, r_oRt, r_yes, t_lift, t_some, t_var, t_vsome, t_liftS, t_ssome, t_meth, t_lstO, t_lstOF, List.getElem?_cons_zero, List.getElem?_cons_succ, List.set_cons_zero, List.set_cons_succ, o_add, o_addI, o_sub, o_neg, o_lt, o_le, o_gt, o_ge, o_eq, o_ne, o_int, o_intB, o_abs, o_max, o_min, r_env, List.map_cons, List.map_nil, List.length_cons, List.length_nil, Nat.zero_add, Nat.reduceAdd, Nat.reduceSub, Nat.reduceLeDiff, List.replicate_succ, List.replicate_zero, List.cons_append, List.nil_append, Bool.false_eq_true, if_true, if_false, gPar, List.zip_cons_cons, List.zip_nil_right, List.zip_nil_left, List.foldl_cons, List.foldl_nil, unsetE, r_err, r_assoc, r_iteB, wp_ok, q_lstI, q_mul, q_div, q_range2, q_lenL, q_sumT, q_sumL, q_srcT, q_srcL, q_new0, q_lst, q_append, q_extend, q_lenR, q_toTR, q_l1, q_l2, q_l3, q_l4, q_addL, q_addT, q_srtT, q_srtL, f_toT_l, f_toT_t, o_mod, Bool.not_true, Bool.not_false, Bool.true_and, Bool.false_and, ln, rg]
    rw [List.map_cons, loopI_cons rfl (ρ' := [z0, some (tN l), some (tN c), some (.p (.int (nFil l c : Nat))), some (.p (.int (i : Int))), z5]) rfl, body, r_ok, r_oNx, e2]
end
end DL
set_option maxHeartbeats 4000000
namespace DL
open PySem PySem.Spec PyProof.Rows L2
section
variable {S T U : Store} {l c : List Nat} {v : List P} {r n : Nat}
theorem tN_app {a b : List Nat} {fin : FL} (h : a.length + b.length ≤ 1000) : fAddG fin (tN a) (tN b) S = some (tN (a ++ b), S) := by
  rw [q_addT (by rw [zI_len, zI_len]; omega), ← zI_app]
theorem p_right (hv : T.objs[r]? = some (.lst (pD v))) (ho : VOk n v) (hn : n ≤ 90000) :
    ∃ v' : List P, m__law_right [.r r] T = .ok (.p (.bl true)) (setP T r v') ∧ VOk (n + 2000) v' := by
  have hr := at_lt hv
  obtain ⟨l, v1, e1, o1, h10, hf, hp⟩ := p_shape (most := 10) hv ho (by omega) (by omega)
  have hl := fall_mem hf hp h10
  have e1 : m__law_shape [.r r, .p (.int 10)] T = .ok (tN l) (setP T r v1) := e1
  have a1 := setP_at (T := T) (ps := v1) hr
  obtain ⟨i0, v2, e2, o2, hi1, hi2⟩ := p_less (T := setP T r v1) (r := r) (size := 5) a1 o1 (by omega) (by omega) (by omega)
  rw [setP_setP] at e2
  obtain ⟨i, rfl⟩ : ∃ i : Nat, i0 = i := ⟨i0.toNat, by omega⟩
  have a2 := setP_at (T := T) (ps := v2) hr
  obtain ⟨c, v3, e3, o3, hc, hs⟩ := p_counts (T := setP T r v2) (r := r) (lots := 1 + i) (total := l.sum) a2 o2 (by omega) (by omega) (by omega)
  rw [setP_setP] at e3
  have a3 := setP_at (T := T) (ps := v3) hr
  rw [← hs] at hl h10
  obtain ⟨c', v4, e4, o4, pm⟩ := p_order (T := setP T r v3) (r := r) (c := c) a3 o3 (by omega) (by omega)
  rw [setP_setP] at e4
  refine ⟨v4, ?_, o4.mono (by omega)⟩
  have cs : c'.sum = c.sum := pm.sum_nat
  have cl : c'.length = c.length := pm.length_eq
  have n0 := p_count (S := setP T r v3) (l := l) (r := c) h10 (by omega) hl
  have n1 := p_count (S := setP T r v4) (l := l) (r := c') (by omega) (by omega) (by rw [cs]; exact hl)
  rw [N_perm (s := c') pm.symm h10 hl] at n1
  have n2 := p_count (S := setP T r v4) (l := l) (r := c ++ [0]) (by simpa using h10) (by simp; omega) (by simpa using hl)
  rw [N_zero2 h10 hl] at n2
  have n3 := p_count (S := setP T r v4) (l := l) (r := 0 :: c) (by simpa using h10) (by simp; omega) (by simpa using hl)
  rw [N_zero h10 hl] at n3
  have un := p_underN (S := setP T r v4) h10 hl (by omega)
  have dm : decide ((0 : Int) < ((nFil l c : Nat) : Int)) = dom (nrm c) l := by
    rw [Bool.eq_iff_iff, decide_eq_true_eq, ← N_dom h10 hl]
    omega
  obtain ⟨y4, y5, lp⟩ := right_out (S := setP T r v4) (z0 := some (.r r)) h10 hl (by omega) (List.range' 0 c.length) none none fun k hk => by
    rw [List.mem_range'_1] at hk
    omega
  have s1 : fSum [tN l] (setP T r v1) = some (.p (.int (l.sum : Int)), setP T r v1) := by rw [q_sumT, zI_sum]
  have ai : fAddG fLstF (.p (.int 1)) (.p (.int (i : Int))) (setP T r v2) = some (.p (.int ((1 + i : Nat) : Int)), setP T r v2) := by
    rw [o_add]
    congr 4
  have tt : fToT [.p (.lst (zP c'))] (setP T r v4) = some (tN c', setP T r v4) := f_toT_l
  have t0 : fTup [.p (.int 0)] (setP T r v4) = some (tN [0], setP T r v4) := rfl
  have ap1 := tN_app (S := setP T r v4) (fin := fLstF) (a := c) (b := [0]) (by simp; omega)
  have ap2 : fAddG fLstF (tN [0]) (tN c) (setP T r v4) = some (tN (0 :: c), setP T r v4) := tN_app (S := setP T r v4) (fin := fLstF) (a := [0]) (b := c) (by simp; omega)
  have ln : fLen [tN c] (setP T r v4) = some (.p (.int (c.length : Int)), setP T r v4) := by rw [q_lenT, zI_len]
  have ll : fLen [tN l] (setP T r v4) = some (.p (.int (l.length : Int)), setP T r v4) := by rw [q_lenT, zI_len]
  have rg : srcR1 [.p (.int (c.length : Int))] (setP T r v4) = some (⟨(List.range' 0 c.length).map fun k : Nat => D.p (.int (k : Int)), []⟩, setP T r v4) := by
    rw [o_range1 (fit_small (by omega) (by omega)), Int.toNat_natCast, nats_range]
  have ni := ne_int (S := setP T r v4) (i := ((nFil l c : Nat) : Int))
  have nb := ne_bl (S := setP T r v4) (b := dom (nrm c) l)
  have mf : mFor (mSrcA srcR1 (mCons (mCallB fLen (mCons (mVar 2) mNil)) mNil)) (gNm 4) lb__law_right_1 [some (.r r), some (tN l), some (tN c), some (.p (.int (nFil l c : Nat))), none, none] (setP T r v4) = .ok (.nx [some (.r r), some (tN l), some (tN c), some (.p (.int (nFil l c : Nat))), y4, y5]) (setP T r v4) := by
    refine r_forE (w := []) (S1 := setP T r v4) ?_ lp
    simp -implicitDefEqProofs (disch := walk_at "dl") only [r_ok, r_c, r_op2, r_op1, r_nil, r_cons, r_callB, r_call, r_and, r_or, r_not, r_asB, r_if, r_andT, r_orT, r_notT, r_test, r_chain, r_seq, r_nx, r_rt, r_bk, r_ct, r_next, r_break, r_cont, r_drop, r_ret, r_retN, r_asg, r_aug, r_ifS, r_par, r_sl, r_noPart, r_part, r_asInt, r_put, r_for, r_src, r_srcA, r_comp, r_oNx, r_oCt, r_oBk, r_oRt, r_yes, t_lift, t_some, t_var, t_vsome, t_liftS, t_ssome, t_meth, t_lstO, t_lstOF, List.getElem?_cons_zero, List.getElem?_cons_succ, List.set_cons_zero, List.set_cons_succ, o_add, o_addI, o_sub, o_neg, o_lt, o_le, o_gt, o_ge, o_eq, o_ne, o_int, o_intB, o_abs, o_max, o_min, r_env, List.map_cons, List.map_nil, List.length_cons, List.length_nil, Nat.zero_add, Nat.reduceAdd, Nat.reduceSub, Nat.reduceLeDiff, List.replicate_succ, List.replicate_zero, List.cons_append, List.nil_append, Bool.false_eq_true, if_true, if_false, gPar, List.zip_cons_cons, List.zip_nil_right, List.zip_nil_left, List.foldl_cons, List.foldl_nil, unsetE, r_err, r_assoc, r_iteB, wp_ok, q_lstI, q_mul, q_div, q_range2, q_lenL, q_sumT, q_sumL, q_srcT, q_srcL, q_new0, q_lst, q_append, q_extend, q_lenR, q_toTR, q_l1, q_l2, q_l3, q_l4, q_addL, q_addT, q_srtT, q_srtL, f_toT_l, f_toT_t, o_mod, Bool.not_true, Bool.not_false, Bool.true_and, Bool.false_and, ln, rg]
  have last : (mRet (mOr (mOp2 fGt (mCallB fLen (mCons (mVar 1) mNil)) (mC (.int 8))) (mOp2 fEq (mCall m_count_fillings (mCons (mVar 1) (mCons (mVar 1) mNil))) (mC (.int 1))))) [some (.r r), some (tN l), some (tN c), some (.p (.int (nFil l c : Nat))), y4, y5] (setP T r v4) = .ok (.rt (.p (.bl true))) (setP T r v4) := by
    by_cases q : 8 < l.length
    · have d : decide ((8 : Int) < (l.length : Int)) = true := decide_eq_true (by omega)
      simp -implicitDefEqProofs (disch := walk_at "dl") only [r_ok, r_c, r_op2, r_op1, r_nil, r_cons, r_callB, r_call, r_and, r_or, r_not, r_asB, r_if, r_andT, r_orT, r_notT, r_test, r_chain, r_seq, r_nx, r_rt, r_bk, r_ct, r_next, r_break, r_cont, r_drop, r_ret, r_retN, r_asg, r_aug, r_ifS, r_par, r_sl, r_noPart, r_part, r_asInt, r_put, r_for, r_src, r_srcA, r_comp, r_oNx, r_oCt, r_oBk, r_oRt, r_yes, t_lift, t_some, t_var, t_vsome, t_liftS, t_ssome, t_meth, t_lstO, t_lstOF, List.getElem?_cons_zero, List.getElem?_cons_succ, List.set_cons_zero, List.set_cons_succ, o_add, o_addI, o_sub, o_neg, o_lt, o_le, o_gt, o_ge, o_eq, o_ne, o_int, o_intB, o_abs, o_max, o_min, r_env, List.map_cons, List.map_nil, List.length_cons, List.length_nil, Nat.zero_add, Nat.reduceAdd, Nat.reduceSub, Nat.reduceLeDiff, List.replicate_succ, List.replicate_zero, List.cons_append, List.nil_append, Bool.false_eq_true, if_true, if_false, gPar, List.zip_cons_cons, List.zip_nil_right, List.zip_nil_left, List.foldl_cons, List.foldl_nil, unsetE, r_err, r_assoc, r_iteB, wp_ok, q_lstI, q_mul, q_div, q_range1, q_range2, q_lenL, q_sumT, q_sumL, q_srcT, q_srcL, q_new0, q_lst, q_append, q_extend, q_lenR, q_toTR, q_l1, q_l2, q_l3, q_l4, q_addL, q_addT, q_srtT, q_srtL, f_toT_l, f_toT_t, o_mod, Bool.not_true, Bool.not_false, Bool.true_and, Bool.false_and, ll, d]
    · have d : decide ((8 : Int) < (l.length : Int)) = false := decide_eq_false (by omega)
      have hls : l.sum = c.sum := (ck8_use h10 hl).1
      have n4 := p_count (S := setP T r v4) (l := l) (r := l) (by omega) (by omega) (by rw [hls]; exact hl)
      rw [N_self h10 hl] at n4
      have d1 : decide (((1 : Nat) : Int) = 1) = true := rfl
      simp -implicitDefEqProofs (disch := walk_at "dl") only [r_ok, r_c, r_op2, r_op1, r_nil, r_cons, r_callB, r_call, r_and, r_or, r_not, r_asB, r_if, r_andT, r_orT, r_notT, r_test, r_chain, r_seq, r_nx, r_rt, r_bk, r_ct, r_next, r_break, r_cont, r_drop, r_ret, r_retN, r_asg, r_aug, r_ifS, r_par, r_sl, r_noPart, r_part, r_asInt, r_put, r_for, r_src, r_srcA, r_comp, r_oNx, r_oCt, r_oBk, r_oRt, r_yes, t_lift, t_some, t_var, t_vsome, t_liftS, t_ssome, t_meth, t_lstO, t_lstOF, List.getElem?_cons_zero, List.getElem?_cons_succ, List.set_cons_zero, List.set_cons_succ, o_add, o_addI, o_sub, o_neg, o_lt, o_le, o_gt, o_ge, o_eq, o_ne, o_int, o_intB, o_abs, o_max, o_min, r_env, List.map_cons, List.map_nil, List.length_cons, List.length_nil, Nat.zero_add, Nat.reduceAdd, Nat.reduceSub, Nat.reduceLeDiff, List.replicate_succ, List.replicate_zero, List.cons_append, List.nil_append, Bool.false_eq_true, if_true, if_false, gPar, List.zip_cons_cons, List.zip_nil_right, List.zip_nil_left, List.foldl_cons, List.foldl_nil, unsetE, r_err, r_assoc, r_iteB, wp_ok, q_lstI, q_mul, q_div, q_range1, q_range2, q_lenL, q_sumT, q_sumL, q_srcT, q_srcL, q_new0, q_lst, q_append, q_extend, q_lenR, q_toTR, q_l1, q_l2, q_l3, q_l4, q_addL, q_addT, q_srtT, q_srtL, f_toT_l, f_toT_t, o_mod, Bool.not_true, Bool.not_false, Bool.true_and, Bool.false_and, ll, d, n4, d1]
  refine fn_same ?_ setP_len
  unfold b__law_right
  simp -implicitDefEqProofs (disch := walk_at "dl") only [r_ok, r_c, r_op2, r_op1, r_nil, r_cons, r_callB, r_call, r_and, r_or, r_not, r_asB, r_if, r_andT, r_orT, r_notT, r_test, r_chain, r_seq, r_nx, r_rt, r_bk, r_ct, r_next, r_break, r_cont, r_drop, r_retN, r_asg, r_aug, r_ifS, r_par, r_sl, r_noPart, r_part, r_asInt, r_put, r_src, r_srcA, r_comp, r_oNx, r_oCt, r_oBk, r_oRt, r_yes, t_lift, t_some, t_var, t_vsome, t_liftS, t_ssome, t_meth, t_lstO, t_lstOF, List.getElem?_cons_zero, List.getElem?_cons_succ, List.set_cons_zero, List.set_cons_succ, o_sub, o_neg, o_lt, o_le, o_gt, o_ge, o_eq, o_int, o_intB, o_abs, o_max, o_min, r_env, List.map_cons, List.map_nil, List.length_cons, List.length_nil, Nat.zero_add, Nat.reduceAdd, Nat.reduceSub, Nat.reduceLeDiff, List.replicate_succ, List.replicate_zero, List.cons_append, List.nil_append, Bool.false_eq_true, if_true, if_false, gPar, List.zip_cons_cons, List.zip_nil_right, List.zip_nil_left, List.foldl_cons, List.foldl_nil, unsetE, r_err, r_assoc, r_iteB, wp_ok, q_lstI, q_mul, q_div, q_range1, q_range2, q_lenL, q_sumL, q_srcT, q_srcL, q_new0, q_lst, q_append, q_extend, q_lenR, q_toTR, q_l1, q_l2, q_l3, q_l4, q_addL, q_srtT, q_srtL, f_toT_l, f_toT_t, o_mod, Bool.not_true, Bool.not_false, Bool.true_and, Bool.false_and, e1, s1, e2, ai, e3, n0, e4, tt, n1, ni, dm, un, nb, t0, ap1, n2, ap2, n3, mf, last]
end
end DL
set_option maxHeartbeats 4000000
namespace DL
open PySem PySem.Spec PyProof.Rows L2
section
variable {S : Store}
theorem xrangeD_succ {lo n : Nat} : rangeD (lo : Int) (n + 1) = .p (.int lo) :: rangeD ((lo + 1 : Nat) : Int) n := by
  unfold rangeD
  rw [List.range_succ_eq_map, List.map_cons, List.map_map]
  have : ((lo : Int) + ((0 : Nat) : Int)) = lo := by omega
  rw [this]
  refine congrArg _ (List.map_congr_left fun k _ => ?_)
  show D.p (.int ((lo : Int) + ((k + 1 : Nat) : Int))) = D.p (.int (((lo + 1 : Nat) : Int) + (k : Int)))
  congr 2
  omega
theorem law_loop {sc : Option D} {ns : List Int} {rest : List (Option D)} (hs : sc = some (.p (.scr (ns.map P.int)))) {m : Nat} (hm : m ≤ 100) : Wp (loopI [] (gNm 1) lb_law (rangeD ((0 : Nat) : Int) m) (sc :: none :: none :: rest) S) fun o T => ∃ z z2, o = .nx (sc :: z :: z2 :: rest) ∧ Top T S := by
  subst hs
  refine wp_loop0 (I := fun xs ρ T => ∃ k z z2, k ≤ m ∧ xs = rangeD ((k : Nat) : Int) (m - k) ∧ ρ = some (.p (.scr (ns.map P.int))) :: z :: z2 :: rest ∧ Top T S) ?_ ?_ ⟨0, none, none, by omega, rfl, rfl, top_self⟩
  · rintro x xs ρ T ⟨k, z, z2, hk, ex, rfl, tp⟩
    obtain ⟨l, hl⟩ : ∃ l, m - k = l + 1 := by
      cases q : m - k with
      | zero => rw [q] at ex; cases ex
      | succ l => exact ⟨l, rfl⟩
    rw [hl, xrangeD_succ] at ex
    cases ex
    refine ⟨_, rfl, ?_⟩
    obtain ⟨v, e1, o1⟩ := p_heap (S := T) (ns := ns) (spot := k) (by omega)
    obtain ⟨v2, e2, o2⟩ := p_right (T := SP T v) (r := T.objs.length) SP_at o1 (by omega)
    rw [setP_top] at e2
    obtain ⟨v3, e3, o3⟩ := p_right (T := SP T v2) (r := T.objs.length) SP_at o2 (by omega)
    rw [setP_top] at e3
    have lT := top_len tp
    unfold lb_law
    simp only [List.set_cons_succ, List.set_cons_zero]
    simp -implicitDefEqProofs (disch := walk_at "dl") only [r_ok, r_c, r_op2, r_op1, r_nil, r_cons, r_callB, r_call, r_and, r_or, r_not, r_asB, r_if, r_andT, r_orT, r_notT, r_test, r_chain, r_seq, r_nx, r_rt, r_bk, r_ct, r_next, r_break, r_cont, r_drop, r_ret, r_retN, r_asg, r_aug, r_ifS, r_par, r_sl, r_noPart, r_part, r_asInt, r_put, r_for, r_src, r_srcA, r_comp, r_oNx, r_oCt, r_oBk, r_oRt, r_yes, t_lift, t_some, t_var, t_vsome, t_liftS, t_ssome, t_meth, t_lstO, t_lstOF, List.getElem?_cons_zero, List.getElem?_cons_succ, List.set_cons_zero, List.set_cons_succ, o_add, o_addI, o_sub, o_neg, o_lt, o_le, o_gt, o_ge, o_eq, o_ne, o_int, o_intB, o_abs, o_max, o_min, r_env, List.map_cons, List.map_nil, List.length_cons, List.length_nil, Nat.zero_add, Nat.reduceAdd, Nat.reduceSub, Nat.reduceLeDiff, List.replicate_succ, List.replicate_zero, List.cons_append, List.nil_append, Bool.false_eq_true, if_true, if_false, gPar, List.zip_cons_cons, List.zip_nil_right, List.zip_nil_left, List.foldl_cons, List.foldl_nil, unsetE, r_err, r_assoc, r_iteB, wp_ok, q_lstI, q_mul, q_div, q_range1, q_range2, q_lenT, q_lenL, q_sumT, q_sumL, q_srcT, q_srcL, q_new0, q_lst, q_append, q_extend, q_lenR, q_toTR, q_l1, q_l2, q_l3, q_l4, q_addL, q_addT, q_srtT, q_srtL, f_toT_l, f_toT_t, o_mod, Bool.not_true, Bool.not_false, Bool.true_and, Bool.false_and, t_insO, t_insP, t_seqL, t_seqT, t_seqLP, t_seqTP, t_seqR, t_methO, t_methS, t_prop, t_noErr, t_star, t_make, t_callK, t_callD, t_eqS, t_neS, e1, e2, e3]
    exact ⟨k + 1, _, _, by omega, by rw [show m - (k + 1) = l by omega], rfl, top_SP tp⟩
  · rintro ρ T ⟨k, z, z2, hk, ex, rfl, tp⟩
    exact ⟨z, z2, rfl, tp⟩
theorem law_plain (ns : List Int) (h1 : ns.length ≤ 63) (h2 : ∀ z ∈ ns, Builtin.Int.intBits z ≤ 1048576) : ∃ S', m_law [.p (.scr (ns.map P.int))] ⟨[], rfl⟩ = .ok (.p (.bl true)) S' := by
  generalize (⟨[], rfl⟩ : Store) = S
  have ln : fLen [.p (.scr (ns.map P.int))] S = some (.p (.int ns.length), S) := by
    have := f_len (S := S) (d := .p (.scr (ns.map P.int))) (xs := pD (ns.map P.int)) rfl
    simpa [pD] using this
  refine ⟨S, eq_fnP ?_⟩
  unfold b_law
  simp -implicitDefEqProofs (disch := walk_at "dl") only [r_ok, r_c, r_op2, r_op1, r_nil, r_cons, r_callB, r_call, r_and, r_or, r_not, r_asB, r_if, r_andT, r_orT, r_notT, r_test, r_chain, r_seq, r_nx, r_rt, r_bk, r_ct, r_next, r_break, r_cont, r_drop, r_ret, r_retN, r_asg, r_aug, r_ifS, r_par, r_sl, r_noPart, r_part, r_asInt, r_put, r_for, r_src, r_srcA, r_comp, r_oNx, r_oCt, r_oBk, r_oRt, r_yes, t_lift, t_some, t_var, t_vsome, t_liftS, t_ssome, t_meth, t_lstO, t_lstOF, List.getElem?_cons_zero, List.getElem?_cons_succ, List.set_cons_zero, List.set_cons_succ, o_add, o_addI, o_sub, o_neg, o_lt, o_le, o_gt, o_ge, o_eq, o_ne, o_int, o_intB, o_abs, o_max, o_min, r_env, List.map_cons, List.map_nil, List.length_cons, List.length_nil, Nat.zero_add, Nat.reduceAdd, Nat.reduceSub, Nat.reduceLeDiff, List.replicate_succ, List.replicate_zero, List.cons_append, List.nil_append, Bool.false_eq_true, if_true, if_false, gPar, List.zip_cons_cons, List.zip_nil_right, List.zip_nil_left, List.foldl_cons, List.foldl_nil, unsetE, r_err, r_assoc, r_iteB, wp_ok, q_lstI, q_mul, q_div, q_range1, q_range2, q_lenT, q_lenL, q_sumT, q_sumL, q_srcT, q_srcL, q_new0, q_lst, q_append, q_extend, q_lenR, q_toTR, q_l1, q_l2, q_l3, q_l4, q_addL, q_addT, q_srtT, q_srtL, f_toT_l, f_toT_t, o_mod, Bool.not_true, Bool.not_false, Bool.true_and, Bool.false_and, t_insO, t_insP, t_seqL, t_seqT, t_seqLP, t_seqTP, t_seqR, t_methO, t_methS, t_prop, t_noErr, t_star, t_make, t_callK, t_callD, t_eqS, t_neS, ln]
  refine wp_with (law_loop (S := S) (ns := ns) rfl (by omega)) fun o T ⟨z, z2, e, tp⟩ => ?_
  subst e
  have c1 : m_count_fillings [.p (.tup [.int 2, .int 1]), .p (.tup [.int 1, .int 1, .int 1])] T = .ok (.p (.int 2)) T := by
    have e := p_count (S := T) (l := [2, 1]) (r := [1, 1, 1]) (by decide) (by decide) (by decide +kernel)
    rw [show nFil [2, 1] [1, 1, 1] = 2 by decide +kernel] at e
    exact e
  have c2 : m_count_fillings [.p (.tup [.int 2, .int 1]), .p (.tup [.int 2, .int 1])] T = .ok (.p (.int 1)) T := by
    have e := p_count (S := T) (l := [2, 1]) (r := [2, 1]) (by decide) (by decide) (by decide +kernel)
    rw [show nFil [2, 1] [2, 1] = 1 by decide +kernel] at e
    exact e
  have c3 : m_count_fillings [.p (.tup [.int 2, .int 1]), .p (.tup [.int 3])] T = .ok (.p (.int 0)) T := by
    have e := p_count (S := T) (l := [2, 1]) (r := [3]) (by decide) (by decide) (by decide +kernel)
    rw [show nFil [2, 1] [3] = 0 by decide +kernel] at e
    exact e
  have t1 : fTup [.p (.int 1), .p (.int 1), .p (.int 1)] T = some (.p (.tup [.int 1, .int 1, .int 1]), T) := rfl
  have t2 : fTup [.p (.int 2), .p (.int 1)] T = some (.p (.tup [.int 2, .int 1]), T) := rfl
  have t3 : fTup [.p (.int 3)] T = some (.p (.tup [.int 3]), T) := rfl
  have f1 : fLstF [.p (.int 2), .p (.int 1), .p (.int 0)] T = some (.p (.lst [.int 2, .int 1, .int 0]), T) := rfl
  have eq : fEq (.p (.lst [.int 2, .int 1, .int 0])) (.p (.lst [.int 2, .int 1, .int 0])) T = some (.p (.bl true), T) := o_eqSame rfl (by decide +kernel)
  simp -implicitDefEqProofs (disch := walk_at "dl") only [r_ok, r_c, r_op2, r_op1, r_nil, r_cons, r_callB, r_call, r_and, r_or, r_not, r_asB, r_if, r_andT, r_orT, r_notT, r_test, r_chain, r_seq, r_nx, r_rt, r_bk, r_ct, r_next, r_break, r_cont, r_drop, r_ret, r_retN, r_asg, r_aug, r_ifS, r_par, r_sl, r_noPart, r_part, r_asInt, r_put, r_for, r_src, r_srcA, r_comp, r_oNx, r_oCt, r_oBk, r_oRt, r_yes, t_lift, t_some, t_var, t_vsome, t_liftS, t_ssome, t_meth, t_lstO, t_lstOF, List.getElem?_cons_zero, List.getElem?_cons_succ, List.set_cons_zero, List.set_cons_succ, o_add, o_addI, o_sub, o_neg, o_lt, o_le, o_gt, o_ge, o_eq, o_ne, o_int, o_intB, o_abs, o_max, o_min, r_env, List.map_cons, List.map_nil, List.length_cons, List.length_nil, Nat.zero_add, Nat.reduceAdd, Nat.reduceSub, Nat.reduceLeDiff, List.replicate_succ, List.replicate_zero, List.cons_append, List.nil_append, Bool.false_eq_true, if_true, if_false, gPar, List.zip_cons_cons, List.zip_nil_right, List.zip_nil_left, List.foldl_cons, List.foldl_nil, unsetE, r_err, r_assoc, r_iteB, wp_ok, q_lstI, q_mul, q_div, q_range1, q_range2, q_lenT, q_lenL, q_sumT, q_sumL, q_srcT, q_srcL, q_new0, q_lst, q_append, q_extend, q_lenR, q_toTR, q_l1, q_l2, q_l4, q_addL, q_addT, q_srtT, q_srtL, f_toT_l, f_toT_t, o_mod, Bool.not_true, Bool.not_false, Bool.true_and, Bool.false_and, t_insO, t_insP, t_seqL, t_seqT, t_seqLP, t_seqTP, t_seqR, t_methO, t_methS, t_prop, t_noErr, t_star, t_make, t_callK, t_callD, t_eqS, t_neS, t1, t2, t3, c1, c2, c3, f1, eq]
  exact ⟨by first | trivial | rfl, tp⟩
end
end DL
set_option maxHeartbeats 0
namespace DL
open PySem PySem.Spec PyProof.Rows L2 LamX
/-! ### the head -/
def ddf (x : Str) (i : Nat) : He.DefD := ⟨(x, none), x, x, defArgs (top i), defBody (top i), defScope (top i), [], []⟩
def hfn : List He.DefD := [ddf "_law_heap" 17, ddf "_law_less" 18, ddf "_law_counts" 21, ddf "_law_moved" 23, ddf "_law_order" 19, ddf "_law_shape" 20, ddf "_law_under" 22, ddf "without_strip" 12, ddf "number_of" 13, ddf "is_integer" 1, ddf "is_from" 2, ddf "require_counts" 14, ddf "is_shape" 10, ddf "require_shape" 11, ddf "count_fillings" 15, ddf "_law_right" 24, ddf "law" 25]
def hfa : List He.Fa := [.free "abs", .free "all", .free "bool", .free "enumerate", .free "int", .free "isinstance", .free "len", .free "list", .free "max", .free "min", .free "range", .free "sorted", .free "sum", .free "super", .free "tuple", .int "MAX_CELLS" 42, .int "MAX_ENTRIES" 8, .glo "_law_heap", .glo "_law_less", .glo "_law_counts", .glo "_law_moved", .glo "_law_order", .glo "_law_shape", .glo "_law_under", .glo "without_strip", .glo "number_of", .glo "is_integer", .glo "is_from", .glo "require_counts", .glo "is_shape", .glo "require_shape", .glo "count_fillings", .glo "_law_right", .glo "law", .glo "InvalidFilling", .glo "InvalidSums", .exc "InvalidFilling", .exc "InvalidSums"]
def htf : List He.Defn := []
def hex (K : PySem.W.Frag) : Bool := decide ((htf.map fun p => (He.cT K p).2).Nodup)
def hins : List IniD := []
abbrev hrow : PySem.W.OpenRow := PySem.W.OpenLaw.row PySem.Challenge.rw_arrowsums_k74_whole_fillings_and_order
abbrev hhk : PySem.W.Hook := hookI 4 hfa hfn [] htf hex hins
def hob (s : PySem.W.SharedT) : AlI := obsI 4 hfa hfn [] htf hex hins (HandSHeadRun.getT s)
theorem hob_eq (s : PySem.W.SharedT) : hob s = hhk.obs s.abs := obsI_eq (HandSHeadRun.getT_eq s)
def loose0 : List Str := ["is_integer", "is_from", "SumError", "InvalidSums", "InvalidFilling", "MAX_CELLS", "MAX_ENTRIES", "is_shape", "require_shape", "without_strip", "number_of", "require_counts", "count_fillings", "_law_heap", "_law_less", "_law_order", "_law_shape", "_law_counts", "_law_under", "_law_moved", "_law_right"]
def loose : List Str := loose0
theorem hrun (w : World) : HandSHeadRun.RunEq hrow (PySem.W.view hrow.prog [25]) hhk hob 10000 loose w := by
  intro os
  kernel_rfl
theorem chA_it {mg : Str → Option Value} {x : Str} {a : Addr} (h : mg x = some (.ref a)) : mg x = some (.ref (chA mg x)) := by rw [chA_of h]; exact h
theorem htxt {w : World} {K : PySem.W.Frag} {h : Heap} {mg : Str → Option Value} (X : K.In h) (G : h.Ns mainGlobals mg) (c : He.SaysD hfa hfn K) (m : hex K = true) (ci : (hins.map fun d => iniW K d) = hins.map IniD.val) : Txt TopR w K mg where
  k_InvalidFilling := chA_it (He.glo_ok X G (c.fact 34 (f := .glo "InvalidFilling") rfl))
  k_InvalidSums := chA_it (He.glo_ok X G (c.fact 35 (f := .glo "InvalidSums") rfl))
  e_InvalidFilling := let z := He.exc_ok (c.fact 36 (f := .exc "InvalidFilling") rfl); ⟨_, (He.glo_ok X G (c.fact 34 (f := .glo "InvalidFilling") rfl)), z.1, z.2.1, z.2.2.1, z.2.2.2⟩
  e_InvalidSums := let z := He.exc_ok (c.fact 37 (f := .exc "InvalidSums") rfl); ⟨_, (He.glo_ok X G (c.fact 35 (f := .glo "InvalidSums") rfl)), z.1, z.2.1, z.2.2.1, z.2.2.2⟩
  hmt := fun _ z => absurd z List.not_mem_nil
  f_abs := He.free_ok X G (c.fact 0 (f := .free "abs") rfl)
  f_all := He.free_ok X G (c.fact 1 (f := .free "all") rfl)
  f_bool := He.free_ok X G (c.fact 2 (f := .free "bool") rfl)
  f_enumerate := He.free_ok X G (c.fact 3 (f := .free "enumerate") rfl)
  f_int := He.free_ok X G (c.fact 4 (f := .free "int") rfl)
  f_isinstance := He.free_ok X G (c.fact 5 (f := .free "isinstance") rfl)
  f_len := He.free_ok X G (c.fact 6 (f := .free "len") rfl)
  f_list := He.free_ok X G (c.fact 7 (f := .free "list") rfl)
  f_max := He.free_ok X G (c.fact 8 (f := .free "max") rfl)
  f_min := He.free_ok X G (c.fact 9 (f := .free "min") rfl)
  f_range := He.free_ok X G (c.fact 10 (f := .free "range") rfl)
  f_sorted := He.free_ok X G (c.fact 11 (f := .free "sorted") rfl)
  f_sum := He.free_ok X G (c.fact 12 (f := .free "sum") rfl)
  f_super := He.free_ok X G (c.fact 13 (f := .free "super") rfl)
  f_tuple := He.free_ok X G (c.fact 14 (f := .free "tuple") rfl)
  i_MAX_CELLS := He.int_ok X G (c.fact 15 (f := .int "MAX_CELLS" 42) rfl)
  i_MAX_ENTRIES := He.int_ok X G (c.fact 16 (f := .int "MAX_ENTRIES" 8) rfl)
  d__law_heap := let ⟨fd, F⟩ := c.def_ 0 (d := ddf "_law_heap" 17) rfl; ⟨_, fd, (He.glo_ok X G (c.fact 17 (f := .glo "_law_heap") rfl)), F⟩
  d__law_less := let ⟨fd, F⟩ := c.def_ 1 (d := ddf "_law_less" 18) rfl; ⟨_, fd, (He.glo_ok X G (c.fact 18 (f := .glo "_law_less") rfl)), F⟩
  d__law_counts := let ⟨fd, F⟩ := c.def_ 2 (d := ddf "_law_counts" 21) rfl; ⟨_, fd, (He.glo_ok X G (c.fact 19 (f := .glo "_law_counts") rfl)), F⟩
  d__law_moved := let ⟨fd, F⟩ := c.def_ 3 (d := ddf "_law_moved" 23) rfl; ⟨_, fd, (He.glo_ok X G (c.fact 20 (f := .glo "_law_moved") rfl)), F⟩
  d__law_order := let ⟨fd, F⟩ := c.def_ 4 (d := ddf "_law_order" 19) rfl; ⟨_, fd, (He.glo_ok X G (c.fact 21 (f := .glo "_law_order") rfl)), F⟩
  d__law_shape := let ⟨fd, F⟩ := c.def_ 5 (d := ddf "_law_shape" 20) rfl; ⟨_, fd, (He.glo_ok X G (c.fact 22 (f := .glo "_law_shape") rfl)), F⟩
  d__law_under := let ⟨fd, F⟩ := c.def_ 6 (d := ddf "_law_under" 22) rfl; ⟨_, fd, (He.glo_ok X G (c.fact 23 (f := .glo "_law_under") rfl)), F⟩
  d_without_strip := let ⟨fd, F⟩ := c.def_ 7 (d := ddf "without_strip" 12) rfl; ⟨_, fd, (He.glo_ok X G (c.fact 24 (f := .glo "without_strip") rfl)), F⟩
  d_number_of := let ⟨fd, F⟩ := c.def_ 8 (d := ddf "number_of" 13) rfl; ⟨_, fd, (He.glo_ok X G (c.fact 25 (f := .glo "number_of") rfl)), F⟩
  d_is_integer := let ⟨fd, F⟩ := c.def_ 9 (d := ddf "is_integer" 1) rfl; ⟨_, fd, (He.glo_ok X G (c.fact 26 (f := .glo "is_integer") rfl)), F⟩
  d_is_from := let ⟨fd, F⟩ := c.def_ 10 (d := ddf "is_from" 2) rfl; ⟨_, fd, (He.glo_ok X G (c.fact 27 (f := .glo "is_from") rfl)), F⟩
  d_require_counts := let ⟨fd, F⟩ := c.def_ 11 (d := ddf "require_counts" 14) rfl; ⟨_, fd, (He.glo_ok X G (c.fact 28 (f := .glo "require_counts") rfl)), F⟩
  d_is_shape := let ⟨fd, F⟩ := c.def_ 12 (d := ddf "is_shape" 10) rfl; ⟨_, fd, (He.glo_ok X G (c.fact 29 (f := .glo "is_shape") rfl)), F⟩
  d_require_shape := let ⟨fd, F⟩ := c.def_ 13 (d := ddf "require_shape" 11) rfl; ⟨_, fd, (He.glo_ok X G (c.fact 30 (f := .glo "require_shape") rfl)), F⟩
  d_count_fillings := let ⟨fd, F⟩ := c.def_ 14 (d := ddf "count_fillings" 15) rfl; ⟨_, fd, (He.glo_ok X G (c.fact 31 (f := .glo "count_fillings") rfl)), F⟩
  d__law_right := let ⟨fd, F⟩ := c.def_ 15 (d := ddf "_law_right" 24) rfl; ⟨_, fd, (He.glo_ok X G (c.fact 32 (f := .glo "_law_right") rfl)), F⟩
  d_law := let ⟨fd, F⟩ := c.def_ 16 (d := ddf "law" 25) rfl; ⟨_, fd, (He.glo_ok X G (c.fact 33 (f := .glo "law") rfl)), F⟩
theorem hlam {K : PySem.W.Frag} {h base : Heap} {mg : Str → Option Value} (X : K.In h) (G : h.Ns mainGlobals mg) (c : He.SaysD hfa hfn K) (m : hex K = true) (TB : ∀ p ∈ htf.map (fun p => (He.cT K p, lamQ p.1)), TabB base mg p.1.1 p.1.2) : @Lams ⟨(htf.map (fun p => (He.cT K p, lamQ p.1))).map fun p => (p.1.2, p.2)⟩ K mg base := by
  letI I : HasT := ⟨(htf.map (fun p => (He.cT K p, lamQ p.1))).map fun p => (p.1.2, p.2)⟩
  have nd : (HasT.T.map (·.1)).Nodup := by
    show (((htf.map (fun p => (He.cT K p, lamQ p.1))).map fun p => (p.1.2, p.2)).map (·.1)).Nodup
    rw [List.map_map, List.map_map]
    exact of_decide_eq_true m
  refine ⟨⟩
end DL
open PySem PySem.W PySem.Calls PyProof.Rows
theorem PySem.Challenge.cw_arrowsums_k74_whole_fillings_and_order_holds : PySem.Challenge.rw_arrowsums_k74_whole_fillings_and_order.Holds := by
  w_on; o_law
  refine HandSHeadRun.head_any (r := DL.hrow) (q := view DL.hrow.prog [25]) (H := DL.hhk) (ob := DL.hob) (M := 10000) (loose := DL.loose) (d := HandSHeadRun.topDef DL.hrow.prog 25) (kwd := []) DL.hob_eq
    (by kernel_rfl) (fun s => by kernel_rfl) DL.hrun (by kernel_rfl) (by kernel_rfl) (by kernel_rfl) (by rfl) (by first | assumption | decide +kernel) (by decide +kernel) ⟨rfl, rfl, rfl, rfl, rfl, by decide +kernel⟩ ?hw ?hc
  case hw => w_witness2
  case hc =>
    refine DL.walk_G (l := PySem.Challenge.rw_arrowsums_k74_whole_fillings_and_order) (n := 63) (k := 7) (x := "script") (mf := DL.m_law) rfl (by decide) (by kernel_rfl) ⟨rfl, by decide, by decide⟩ DL.law_plain ?_
    intro w mg fa h Y G hmg0
    obtain ⟨K, KX, c, ci⟩ := Y
    have hmg : mg ("law" : PySem.Str) = some (.ref fa) := by
      have e : (HandSHeadRun.topDef DL.hrow.prog 25).name = ("law" : PySem.Str) := by kernel_rfl
      rw [← e]
      exact hmg0
    have T := DL.htxt (w := w) KX G c.t.d c.more ci
    obtain ⟨f, fd, hg, Fd⟩ := T.d_law
    have ef : fa = f := by
      rw [hg] at hmg
      cases hmg
      rfl
    subst ef
    refine ⟨K, fd, DL.htf.map (fun p => (He.cT K p, DL.lamQ p.1)), KX, fun p hp => ?_, fun p hp => ?_, fun p hp => ?_, fun s v => L2.FunD.bindsA (ps := ["script"]) Fd (fun _ _ _ _ _ _ us hl => match us, hl with | [_], _ => rfl) s [v] rfl, fun base _ _ TB => ?_⟩
    · obtain ⟨q, hq, rfl⟩ := List.mem_map.mp hp
      exact c.empty q hq
    · obtain ⟨q, hq, rfl⟩ := List.mem_map.mp hp
      exact c.out q hq
    · obtain ⟨q, hq, rfl⟩ := List.mem_map.mp hp
      exact codeHd_of_K KX (c.hd q hq)
    letI : DL.HasT := ⟨(DL.htf.map (fun p => (He.cT K p, DL.lamQ p.1))).map fun p => (p.1.2, p.2)⟩
    exact DL.G_law T (DL.hlam KX G c.t.d c.more TB) Fd
