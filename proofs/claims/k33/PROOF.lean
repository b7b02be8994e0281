import PyProof.Rows.All
import Wide.All
import OpenK.AllK
import Wide.FinOn
import PySem.Challenge.RW_arrowsums_k33_whole_nearest_rows
import HandS.ForMost
import HandS.ForExc
import HandS.WordsExc
import HandS.Lambda
import HandS.Wide
import HandS.Style
import HandS.TupAny
import HandS.TupMul
import HandS.SortInts
import HandS.IsInst
import HandS.Zip
import HandS.Rev
import HandS.Defaults
import HandS.ExcOwn
import HandS.Deep
import HandS.RaiseMore
import PyProof.ReprReads
import HandS.SortKw
import KE.KTupSum
import KE.DataAny
import KE.DataMinMax
import KE.OsSort
import HandS.Set
import HandS.More
import HandS.SetFor
import KE.GoesEnum
import HandS.Conv
import HandS.Dict
import HandS.EndTab
import HandS.HeadEnd
import KE.KStateDown
import HandS.Words
import HandS.Head0
import HandS.Head1
import HandS.Head2
import HandS.HeadHook1
import HandS.HeadHook2
set_option Elab.async false
set_option linter.all false
set_option maxRecDepth 100000
set_option maxHeartbeats 2000000
/-! DLBase: plain data, a store of changeable things, and what a reading of plain functions over them means in the layer's heap. -/
namespace DL
open PySem PySem.Spec PyProof.Rows L2

/-- data that never changes (a list here is one that nobody changes any more) -/
inductive P where
  | non | bl (b : Bool) | int (i : Int) | str (s : Str) | tup (xs : List P) | lst (xs : List P) | scr (xs : List P) | ins (c : Str) (fs : List (Str × P)) | dic (fs : List (Key × P)) | glo (x : Str) | ty (n : String)

/-- a value: data, a thing of the store, a tuple with such -/
inductive D where
  | p (x : P) | r (n : Nat) | t (xs : List D)

/-- a thing of the store -/
inductive O where
  | lst (xs : List D)
  | ins (c : Str) (fs : List (Str × D))

mutual
def D.lo (k : Nat) : D → Bool
  | .p _ => true
  | .r n => decide (n < k)
  | .t xs => D.los k xs
def D.los (k : Nat) : List D → Bool
  | [] => true
  | x :: xs => D.lo k x && D.los k xs
end
def O.lo (k : Nat) : O → Bool
  | .lst xs => D.los k xs
  | .ins _ fs => D.los k (fs.map (·.2))
def allBelow (k : Nat) : List O → Bool
  | [] => true
  | o :: os => o.lo k && allBelow k os

structure Store where
  objs : List O
  wf : allBelow objs.length objs = true

theorem Store.ext' {S S' : Store} (h : S.objs = S'.objs) : S = S' := by
  cases S; cases S'; cases h; rfl

mutual
theorem D.lo_mono {j k : Nat} (h : j ≤ k) : ∀ {d : D}, d.lo j = true → d.lo k = true
  | .p _, _ => rfl
  | .r n, e => by
    simp only [D.lo, decide_eq_true_eq] at e ⊢
    omega
  | .t xs, e => by
    simp only [D.lo] at e ⊢
    exact D.los_mono h e
theorem D.los_mono {j k : Nat} (h : j ≤ k) : ∀ {ds : List D}, D.los j ds = true → D.los k ds = true
  | [], _ => rfl
  | x :: xs, e => by
    simp only [D.los, Bool.and_eq_true] at e ⊢
    exact ⟨D.lo_mono h e.1, D.los_mono h e.2⟩
end
theorem O.lo_mono {j k : Nat} (h : j ≤ k) {o : O} (e : o.lo j = true) : o.lo k = true := by
  cases o with
  | lst xs => exact D.los_mono h e
  | ins c fs => exact D.los_mono h e
theorem allBelow_mono {j k : Nat} (h : j ≤ k) : ∀ {os : List O}, allBelow j os = true → allBelow k os = true
  | [], _ => rfl
  | o :: os, e => by
    simp only [allBelow, Bool.and_eq_true] at e ⊢
    exact ⟨O.lo_mono h e.1, allBelow_mono h e.2⟩
theorem allBelow_append {k : Nat} : ∀ {a b : List O}, allBelow k a = true → allBelow k b = true → allBelow k (a ++ b) = true
  | [], _, _, h => h
  | o :: a, b, e, h => by
    simp only [allBelow, Bool.and_eq_true, List.cons_append] at e ⊢
    exact ⟨e.1, allBelow_append e.2 h⟩
theorem allBelow_set {k : Nat} {o : O} (ho : o.lo k = true) : ∀ {a : List O} {n : Nat}, allBelow k a = true → allBelow k (a.set n o) = true
  | [], _, _ => rfl
  | x :: a, 0, e => by
    simp only [allBelow, Bool.and_eq_true, List.set] at e ⊢
    exact ⟨ho, e.2⟩
  | x :: a, n + 1, e => by
    simp only [allBelow, Bool.and_eq_true, List.set] at e ⊢
    exact ⟨e.1, allBelow_set ho e.2⟩

/-- a new thing -/
def Store.new (S : Store) (o : O) (h : o.lo S.objs.length = true) : Store :=
  ⟨S.objs ++ [o], by
    rw [List.length_append]
    exact allBelow_append (allBelow_mono (Nat.le_add_right _ _) S.wf) (by simp only [allBelow, Bool.and_true]; exact O.lo_mono (Nat.le_add_right _ _) h)⟩
/-- a changed thing -/
def Store.put (S : Store) (n : Nat) (o : O) (h : o.lo S.objs.length = true) : Store :=
  ⟨S.objs.set n o, by
    rw [List.length_set]
    exact allBelow_set h S.wf⟩

/-- an error in the air: its class, what it keeps -/
structure Exc where
  cls : Str
  fs : List (Str × D)

inductive Res (α : Type) where
  | ok (a : α) (S : Store)
  | err (e : Exc) (S : Store)
  | stuck
abbrev M (α : Type) := Store → Res α
def M.pure {α : Type} (a : α) : M α := fun S => .ok a S
def Res.bind {α β : Type} : Res α → (α → M β) → Res β
  | .ok a S, k => k a S
  | .err e S, _ => .err e S
  | .stuck, _ => .stuck
def M.bind {α β : Type} (m : M α) (k : α → M β) : M β := fun S => (m S).bind k
instance : Monad M where
  pure := M.pure
  bind := M.bind
abbrev Env := List (Option D)
abbrev ME (α : Type) := Env → M α

/-! ### what stands in the layer's heap -/
/-- the tables of code objects, with the name that their code objects bear -/
class HasT where
  T : List (Addr × Str)
variable [HasT]
def isTbl : HO → Bool
  | .tbl _ => true
  | _ => false
/-- a list or an instance -/
def isThing : HO → Bool
  | .lst _ => true
  | .dK _ => true
  | .ins _ _ _ => true
  | _ => false
structure Gb where
  K : PySem.W.Frag
  mg : Str → Option Value

/-- a list that is known to the object (the script), or one of the module -/
def SqC (K : PySem.W.Frag) (H : Hp) (a : Addr) (xs : List V) : Prop :=
  (∃ o, H a = some (.frz o (.lst xs))) ∨
    ∃ (o : Obj) (its : Array Value) (n : Nat), K.lookup a = some o ∧ o.cls = .type "list" ∧ o.dict = none ∧ o.data = .seq its n ∧ its.size ≤ sizeLine ∧ Vals xs its.toList
theorem SqC.sq {K : PySem.W.Frag} {H : Hp} {a : Addr} {xs : List V} (h : SqC K H a xs) : SqL K H a xs := by
  rcases h with h | h
  · exact .inl (.inr h)
  · exact .inr h

mutual
def RelP (G : Gb) (F : Addr → Prop) (H : Hp) : P → V → Prop
  | .non, v => v = .non
  | .bl b, v => v = .bl b
  | .int i, v => v = .int i
  | .str s, v => v = .str s
  | .tup xs, v => ∃ a vs, v = .ref a ∧ SqT G.K H a vs ∧ RelPs G F H xs vs
  | .lst xs, v => ∃ a vs, v = .ref a ∧ F a ∧ H a = some (.lst vs) ∧ RelPs G F H xs vs
  | .scr xs, v => ∃ a vs, v = .ref a ∧ SqC G.K H a vs ∧ RelPs G F H xs vs
  | .ins c fs, v => ∃ a C dx fvs, v = .ref a ∧ F a ∧ G.mg c = some (.ref C) ∧ H a = some (.ins C dx fvs) ∧ RelPf G F H fs fvs
  | .dic fs, v => ∃ a fvs, v = .ref a ∧ F a ∧ H a = some (.dK fvs) ∧ RelPk G F H fs fvs
  | .glo x, v => ∃ u, G.mg x = some u ∧ RelV v u
  | .ty n, v => v = .ty n
def RelPs (G : Gb) (F : Addr → Prop) (H : Hp) : List P → List V → Prop
  | [], vs => vs = []
  | x :: xs, vs => ∃ v ws, vs = v :: ws ∧ RelP G F H x v ∧ RelPs G F H xs ws
def RelPf (G : Gb) (F : Addr → Prop) (H : Hp) : List (Str × P) → List (Str × V) → Prop
  | [], vs => vs = []
  | (f, x) :: xs, vs => ∃ v ws, vs = (f, v) :: ws ∧ RelP G F H x v ∧ RelPf G F H xs ws
def RelPk (G : Gb) (F : Addr → Prop) (H : Hp) : List (Key × P) → List (Key × V) → Prop
  | [], vs => vs = []
  | (f, x) :: xs, vs => ∃ v ws, vs = (f, v) :: ws ∧ RelP G F H x v ∧ RelPk G F H xs ws
end
mutual
def RelD (G : Gb) (F : Addr → Prop) (ι : List Addr) (H : Hp) : D → V → Prop
  | .p x, v => RelP G F H x v
  | .r n, v => ∃ a, v = .ref a ∧ ι[n]? = some a
  | .t xs, v => ∃ a vs, v = .ref a ∧ SqT G.K H a vs ∧ RelDs G F ι H xs vs
def RelDs (G : Gb) (F : Addr → Prop) (ι : List Addr) (H : Hp) : List D → List V → Prop
  | [], vs => vs = []
  | x :: xs, vs => ∃ v ws, vs = v :: ws ∧ RelD G F ι H x v ∧ RelDs G F ι H xs ws
end
def RelDf (G : Gb) (F : Addr → Prop) (ι : List Addr) (H : Hp) : List (Str × D) → List (Str × V) → Prop
  | [], vs => vs = []
  | (f, x) :: xs, vs => ∃ v ws, vs = (f, v) :: ws ∧ RelD G F ι H x v ∧ RelDf G F ι H xs ws
def RelO (G : Gb) (F : Addr → Prop) (ι : List Addr) (H : Hp) (a : Addr) : O → Prop
  | .lst ds => ∃ vs, H a = some (.lst vs) ∧ RelDs G F ι H ds vs
  | .ins c fs => ∃ C dx fvs, G.mg c = some (.ref C) ∧ H a = some (.ins C dx fvs) ∧ RelDf G F ι H fs fvs

/-- the store S, its things at the addresses ι, what is frozen at F -/
structure R (G : Gb) (F : Addr → Prop) (ι : List Addr) (S : Store) (H : Hp) : Prop where
  len : ι.length = S.objs.length
  nd : ι.Nodup
  nf : ∀ a ∈ ι, ¬ F a
  fz : ∀ a, F a → ∃ o, H a = some o ∧ isThing o = true
  tb : LamX.Tabs HasT.T H
  ob : ∀ (n : Nat) (a : Addr) (o : O), ι[n]? = some a → S.objs[n]? = some o → RelO G F ι H a o

def isImm : HO → Bool
  | .tup _ => true
  | .frz _ _ => true
  | _ => false
/-- what is not of the store stays -/
def Keep (F : Addr → Prop) (ι : List Addr) (H H' : Hp) : Prop := ∀ a o, H a = some o → (F a ∨ isImm o = true ∨ (a ∉ ι ∧ isTbl o = false)) → H' a = some o
theorem Keep.refl {F : Addr → Prop} {ι : List Addr} {H : Hp} : Keep F ι H H := fun _ _ e _ => e
theorem Keep.trans {F F' : Addr → Prop} {ι ι' : List Addr} {H H1 H2 : Hp} (a : Keep F ι H H1) (s : ∀ x, F x → F' x) (nw : ∀ x ∈ ι', x ∉ ι → H x = none) (b : Keep F' ι' H1 H2) : Keep F ι H H2 := fun x o e h =>
  b x o (a x o e h) (h.imp (s x) (Or.imp id fun z => ⟨(fun y => by
    rw [nw x y z.1] at e
    cases e), z.2⟩))
/-- what data leans on stays -/
def KeepW (F : Addr → Prop) (H H' : Hp) : Prop := ∀ a o, H a = some o → (F a ∨ isImm o = true) → H' a = some o
theorem Keep.w {F : Addr → Prop} {ι : List Addr} {H H' : Hp} (k : Keep F ι H H') : KeepW F H H' := fun a o e h => k a o e (h.imp id Or.inl)
theorem KeepW.rdT {F : Addr → Prop} {H H' : Hp} (k : KeepW F H H') {a : Addr} {vs : List V} (h : Rd H a (.tup vs)) : Rd H' a (.tup vs) := by
  rcases h with h | ⟨o, h⟩
  · exact .inl (k _ _ h (.inr rfl))
  · exact .inr ⟨o, k _ _ h (.inr rfl)⟩
theorem KeepW.sqT {G : Gb} {F : Addr → Prop} {H H' : Hp} (k : KeepW F H H') {a : Addr} {vs : List V} (h : SqT G.K H a vs) : SqT G.K H' a vs := by
  rcases h with h | h
  · exact .inl (k.rdT h)
  · exact .inr h
theorem KeepW.sqC {K : PySem.W.Frag} {F : Addr → Prop} {H H' : Hp} (k : KeepW F H H') {a : Addr} {vs : List V} (h : SqC K H a vs) : SqC K H' a vs := by
  rcases h with ⟨o, h⟩ | h
  · exact .inl ⟨o, k _ _ h (.inr rfl)⟩
  · exact .inr h

section mono
variable {G : Gb} {F F' : Addr → Prop} {H H' : Hp} {ι ι' : List Addr}
mutual
theorem RelP.mono (k : KeepW F H H') (s : ∀ a, F a → F' a) : ∀ {x : P} {v : V}, RelP G F H x v → RelP G F' H' x v
  | .non, _, h => by simpa only [RelP] using h
  | .bl _, _, h => by simpa only [RelP] using h
  | .int _, _, h => by simpa only [RelP] using h
  | .str _, _, h => by simpa only [RelP] using h
  | .ty _, _, h => by simpa only [RelP] using h
  | .glo _, _, h => by simpa only [RelP] using h
  | .tup xs, _, h => by
    simp only [RelP] at h ⊢
    obtain ⟨a, vs, e, q, r⟩ := h
    exact ⟨a, vs, e, k.sqT q, RelPs.mono k s r⟩
  | .lst xs, _, h => by
    simp only [RelP] at h ⊢
    obtain ⟨a, vs, e, f, q, r⟩ := h
    exact ⟨a, vs, e, s a f, k _ _ q (.inl f), RelPs.mono k s r⟩
  | .scr xs, _, h => by
    simp only [RelP] at h ⊢
    obtain ⟨a, vs, e, q, r⟩ := h
    exact ⟨a, vs, e, k.sqC q, RelPs.mono k s r⟩
  | .ins c fs, _, h => by
    simp only [RelP] at h ⊢
    obtain ⟨a, C, dx, fvs, e, f, m, q, r⟩ := h
    exact ⟨a, C, dx, fvs, e, s a f, m, k _ _ q (.inl f), RelPf.mono k s r⟩
  | .dic fs, _, h => by
    simp only [RelP] at h ⊢
    obtain ⟨a, fvs, e, f, q, r⟩ := h
    exact ⟨a, fvs, e, s a f, k _ _ q (.inl f), RelPk.mono k s r⟩
theorem RelPs.mono (k : KeepW F H H') (s : ∀ a, F a → F' a) : ∀ {xs : List P} {vs : List V}, RelPs G F H xs vs → RelPs G F' H' xs vs
  | [], _, h => by simpa only [RelPs] using h
  | x :: xs, _, h => by
    simp only [RelPs] at h ⊢
    obtain ⟨v, ws, e, a, b⟩ := h
    exact ⟨v, ws, e, RelP.mono k s a, RelPs.mono k s b⟩
theorem RelPf.mono (k : KeepW F H H') (s : ∀ a, F a → F' a) : ∀ {xs : List (Str × P)} {vs : List (Str × V)}, RelPf G F H xs vs → RelPf G F' H' xs vs
  | [], _, h => by simpa only [RelPf] using h
  | (f, x) :: xs, _, h => by
    simp only [RelPf] at h ⊢
    obtain ⟨v, ws, e, a, b⟩ := h
    exact ⟨v, ws, e, RelP.mono k s a, RelPf.mono k s b⟩
theorem RelPk.mono (k : KeepW F H H') (s : ∀ a, F a → F' a) : ∀ {xs : List (Key × P)} {vs : List (Key × V)}, RelPk G F H xs vs → RelPk G F' H' xs vs
  | [], _, h => by simpa only [RelPk] using h
  | (f, x) :: xs, _, h => by
    simp only [RelPk] at h ⊢
    obtain ⟨v, ws, e, a, b⟩ := h
    exact ⟨v, ws, e, RelP.mono k s a, RelPk.mono k s b⟩
end
theorem pre_get {n : Nat} {a : Addr} (p : ι <+: ι') (h : ι[n]? = some a) : ι'[n]? = some a := by
  obtain ⟨t, rfl⟩ := p
  rw [List.getElem?_append_left (List.getElem?_eq_some_iff.mp h).1]
  exact h
mutual
theorem RelD.mono (k : KeepW F H H') (s : ∀ a, F a → F' a) (p : ι <+: ι') : ∀ {x : D} {v : V}, RelD G F ι H x v → RelD G F' ι' H' x v
  | .p x, _, h => by
    simp only [RelD] at h ⊢
    exact h.mono k s
  | .r n, _, h => by
    simp only [RelD] at h ⊢
    obtain ⟨a, e, q⟩ := h
    exact ⟨a, e, pre_get p q⟩
  | .t xs, _, h => by
    simp only [RelD] at h ⊢
    obtain ⟨a, vs, e, q, r⟩ := h
    exact ⟨a, vs, e, k.sqT q, RelDs.mono k s p r⟩
theorem RelDs.mono (k : KeepW F H H') (s : ∀ a, F a → F' a) (p : ι <+: ι') : ∀ {xs : List D} {vs : List V}, RelDs G F ι H xs vs → RelDs G F' ι' H' xs vs
  | [], _, h => by simpa only [RelDs] using h
  | x :: xs, _, h => by
    simp only [RelDs] at h ⊢
    obtain ⟨v, ws, e, a, b⟩ := h
    exact ⟨v, ws, e, RelD.mono k s p a, RelDs.mono k s p b⟩
end
theorem RelDf.mono (k : KeepW F H H') (s : ∀ a, F a → F' a) (p : ι <+: ι') : ∀ {xs : List (Str × D)} {vs : List (Str × V)}, RelDf G F ι H xs vs → RelDf G F' ι' H' xs vs
  | [], _, h => h
  | (f, x) :: xs, _, h => by
    obtain ⟨v, ws, e, a, b⟩ := h
    exact ⟨v, ws, e, RelD.mono k s p a, RelDf.mono k s p b⟩
end mono

theorem R.thing {G : Gb} {F : Addr → Prop} {ι : List Addr} {S : Store} {H : Hp} (r : R G F ι S H) {a : Addr} (h : a ∈ ι) : ∃ o, H a = some o ∧ isThing o = true := by
  obtain ⟨n, hn, e⟩ := List.getElem_of_mem h
  have hs : n < S.objs.length := by rw [← r.len]; exact hn
  have q := r.ob n a S.objs[n] (by rw [List.getElem?_eq_getElem hn, e]) (List.getElem?_eq_getElem hs)
  cases eo : S.objs[n] with
  | lst ds => rw [eo] at q; obtain ⟨vs, h, _⟩ := q; exact ⟨_, h, rfl⟩
  | ins c fs => rw [eo] at q; obtain ⟨C, dx, fvs, _, h, _⟩ := q; exact ⟨_, h, rfl⟩
theorem R.there {G : Gb} {F : Addr → Prop} {ι : List Addr} {S : Store} {H : Hp} (r : R G F ι S H) {a : Addr} (h : a ∈ ι) : ∃ o, H a = some o := let ⟨o, e, _⟩ := r.thing h; ⟨o, e⟩

/-- a later state -/
structure Nxt (G : Gb) (F : Addr → Prop) (ι : List Addr) (H : Hp) (F' : Addr → Prop) (ι' : List Addr) (S' : Store) (H' : Hp) : Prop where
  sub : ∀ a, F a → F' a
  keep : Keep F ι H H'
  pre : ι <+: ι'
  nw : ∀ x ∈ ι', x ∉ ι → H x = none
  nF : ∀ x, F' x → ¬ F x → H x = none
  old : ∀ x o, H x = some o → ∃ o', H' x = some o'
  r : R G F' ι' S' H'
theorem Nxt.none_back {G : Gb} {F F' : Addr → Prop} {ι ι' : List Addr} {H H' : Hp} {S' : Store} (n : Nxt G F ι H F' ι' S' H') {x : Addr} (h : H' x = none) : H x = none := by
  cases e : H x with
  | none => rfl
  | some o =>
    obtain ⟨o', e'⟩ := n.old x o e
    rw [h] at e'
    cases e'
section
variable {G : Gb} {F F1 F2 : Addr → Prop} {ι ι1 ι2 : List Addr} {H H1 H2 : Hp} {S S1 S2 : Store}
theorem Nxt.refl (r : R G F ι S H) : Nxt G F ι H F ι S H := ⟨fun _ h => h, Keep.refl, List.prefix_refl _, fun x a b => absurd a b, fun x a b => absurd a b, fun _ o e => ⟨o, e⟩, r⟩
theorem Nxt.trans (a : Nxt G F ι H F1 ι1 S1 H1) (b : Nxt G F1 ι1 H1 F2 ι2 S2 H2) : Nxt G F ι H F2 ι2 S2 H2 where
  sub := fun x h => b.sub x (a.sub x h)
  keep := a.keep.trans a.sub a.nw b.keep
  pre := a.pre.trans b.pre
  nw := fun x h n => by
    by_cases z : x ∈ ι1
    · exact a.nw x z n
    · exact a.none_back (b.nw x h z)
  nF := fun x h n => by
    by_cases z : F1 x
    · exact a.nF x z n
    · exact a.none_back (b.nF x h z)
  old := fun x o e => let ⟨o', e'⟩ := a.old x o e; b.old x o' e'
  r := b.r
theorem Nxt.d (n : Nxt G F ι H F1 ι1 S1 H1) {x : D} {v : V} (h : RelD G F ι H x v) : RelD G F1 ι1 H1 x v := h.mono n.keep.w n.sub n.pre
theorem Nxt.ds (n : Nxt G F ι H F1 ι1 S1 H1) {x : List D} {v : List V} (h : RelDs G F ι H x v) : RelDs G F1 ι1 H1 x v := h.mono n.keep.w n.sub n.pre
theorem Nxt.pp (n : Nxt G F ι H F1 ι1 S1 H1) {x : P} {v : V} (h : RelP G F H x v) : RelP G F1 H1 x v := h.mono n.keep.w n.sub
end

/-- an error: its class, its own dict -/
def RelX (G : Gb) (F : Addr → Prop) (ι : List Addr) (H : Hp) (e : Exc) (c : Value) (d : Option Addr) : Prop :=
  ∃ C, G.mg e.cls = some (.ref C) ∧ c = .ref C ∧ match e.fs with
    | [] => d = none
    | fs => ∃ dd fvs, d = some dd ∧ H dd = some (.xd fvs) ∧ RelDf G F ι H fs fvs

/-- what is wanted behind a plain run -/
def Then (G : Gb) (W : Value → Option Addr → Hp → Prop) (F : Addr → Prop) (ι : List Addr) (H : Hp) {α : Type} (r : Res α) (Q : α → Store → (Addr → Prop) → List Addr → Hp → Prop) : Prop :=
  match r with
  | .ok a S' => ∀ F' ι' H', Nxt G F ι H F' ι' S' H' → Q a S' F' ι' H'
  | .err e S' => ∀ F' ι' H' c d, Nxt G F ι H F' ι' S' H' → RelX G F' ι' H' e c d → W c d H'
  | .stuck => False
section
variable {G : Gb} {W : Value → Option Addr → Hp → Prop} {F F1 : Addr → Prop} {ι ι1 : List Addr} {H H1 : Hp} {S S1 : Store} {α β : Type}
theorem Then.mono {r : Res α} {Q Q' : α → Store → (Addr → Prop) → List Addr → Hp → Prop} (h : Then G W F ι H r Q)
    (q : ∀ a S' F' ι' H', Nxt G F ι H F' ι' S' H' → Q a S' F' ι' H' → Q' a S' F' ι' H') : Then G W F ι H r Q' := by
  cases r with
  | ok a S' => exact fun F' ι' H' n => q _ _ _ _ _ n (h F' ι' H' n)
  | err e S' => exact h
  | stuck => exact h
theorem Then.later {r : Res α} {Q : α → Store → (Addr → Prop) → List Addr → Hp → Prop} (h : Then G W F ι H r Q) (n : Nxt G F ι H F1 ι1 S1 H1) : Then G W F1 ι1 H1 r Q := by
  cases r with
  | ok a S' => exact fun F' ι' H' n' => h F' ι' H' (n.trans n')
  | err e S' => exact fun F' ι' H' c d n' => h F' ι' H' c d (n.trans n')
  | stuck => exact h
theorem Then.bind {r : Res α} {k : α → M β} {Q : β → Store → (Addr → Prop) → List Addr → Hp → Prop} (h : Then G W F ι H (r.bind k) Q) :
    Then G W F ι H r (fun a S' F' ι' H' => Then G W F' ι' H' (k a S') Q) := by
  cases r with
  | ok a S' => exact fun F' ι' H' n => Then.later (show Then G W F ι H (k a S') Q from h) n
  | err e S' => exact h
  | stuck => exact h
theorem Then.now {a : α} {Q : α → Store → (Addr → Prop) → List Addr → Hp → Prop} (h : Then G W F ι H (.ok a S) Q) (r : R G F ι S H) : Q a S F ι H := h F ι H (Nxt.refl r)
end

/-! ### slots -/
def RelE (G : Gb) (F : Addr → Prop) (ι : List Addr) (H : Hp) : Env → L2.St → Prop
  | [], σ => σ = []
  | none :: ρ, σ => ∃ o τ, σ = o :: τ ∧ RelE G F ι H ρ τ
  | some d :: ρ, σ => ∃ v τ, σ = some v :: τ ∧ RelD G F ι H d v ∧ RelE G F ι H ρ τ
section
variable {G : Gb} {F F1 : Addr → Prop} {ι ι1 : List Addr} {H H1 : Hp} {S S1 : Store}
theorem RelE.mono (n : Nxt G F ι H F1 ι1 S1 H1) : ∀ {ρ : Env} {σ : L2.St}, RelE G F ι H ρ σ → RelE G F1 ι1 H1 ρ σ
  | [], _, h => h
  | none :: ρ, _, ⟨o, τ, e, h⟩ => ⟨o, τ, e, h.mono n⟩
  | some d :: ρ, _, ⟨v, τ, e, r, h⟩ => ⟨v, τ, e, n.d r, h.mono n⟩
theorem RelE.get : ∀ {ρ : Env} {σ : L2.St} {i : Nat} {d : D}, RelE G F ι H ρ σ → ρ[i]? = some (some d) → ∃ v, σ[i]? = some (some v) ∧ RelD G F ι H d v
  | [], _, _, _, _, e => by simp at e
  | none :: ρ, _, 0, d, _, e => by simp at e
  | none :: ρ, _, i + 1, d, ⟨o, τ, es, h⟩, e => by
    subst es
    obtain ⟨v, a, b⟩ := RelE.get h (show ρ[i]? = some (some d) by simpa using e)
    exact ⟨v, by simpa using a, b⟩
  | some d' :: ρ, _, 0, d, ⟨v, τ, es, r, h⟩, e => by
    subst es
    simp at e
    subst e
    exact ⟨v, rfl, r⟩
  | some d' :: ρ, _, i + 1, d, ⟨v, τ, es, r, h⟩, e => by
    subst es
    obtain ⟨v, a, b⟩ := RelE.get h (show ρ[i]? = some (some d) by simpa using e)
    exact ⟨v, by simpa using a, b⟩
theorem RelE.set {d : D} {v : V} (r : RelD G F ι H d v) : ∀ {ρ : Env} {σ : L2.St} (i : Nat), RelE G F ι H ρ σ → RelE G F ι H (ρ.set i (some d)) (σ.set i (some v))
  | [], _, i, h => by
    cases h
    cases i <;> rfl
  | none :: ρ, _, 0, ⟨o, τ, es, h⟩ => by subst es; exact ⟨v, τ, rfl, r, h⟩
  | none :: ρ, _, i + 1, ⟨o, τ, es, h⟩ => by subst es; exact ⟨o, τ.set i (some v), rfl, h.set r i⟩
  | some d' :: ρ, _, 0, ⟨w, τ, es, q, h⟩ => by subst es; exact ⟨v, τ, rfl, r, h⟩
  | some d' :: ρ, _, i + 1, ⟨w, τ, es, q, h⟩ => by subst es; exact ⟨w, τ.set i (some v), rfl, q, h.set r i⟩
theorem RelE.unset : ∀ {ρ : Env} {σ : L2.St} (i : Nat), RelE G F ι H ρ σ → RelE G F ι H (ρ.set i none) (σ.set i none)
  | [], _, i, h => by
    cases h
    cases i <;> rfl
  | none :: ρ, _, 0, ⟨o, τ, es, h⟩ => by subst es; exact ⟨none, τ, rfl, h⟩
  | none :: ρ, _, i + 1, ⟨o, τ, es, h⟩ => by subst es; exact ⟨o, τ.set i none, rfl, h.unset i⟩
  | some d' :: ρ, _, 0, ⟨w, τ, es, q, h⟩ => by subst es; exact ⟨none, τ, rfl, h⟩
  | some d' :: ρ, _, i + 1, ⟨w, τ, es, q, h⟩ => by subst es; exact ⟨w, τ.set i none, rfl, q, h.unset i⟩
theorem RelE.forget : ∀ {ρ : Env} {σ : L2.St} (i : Nat), RelE G F ι H ρ σ → RelE G F ι H (ρ.set i none) σ
  | [], _, i, h => by
    cases h
    cases i <;> rfl
  | none :: ρ, _, 0, h => h
  | none :: ρ, _, i + 1, ⟨o, τ, es, h⟩ => ⟨o, τ, es, h.forget i⟩
  | some d' :: ρ, _, 0, ⟨w, τ, es, q, h⟩ => ⟨some w, τ, es, h⟩
  | some d' :: ρ, _, i + 1, ⟨w, τ, es, q, h⟩ => ⟨w, τ, es, q, h.forget i⟩
end

/-! ### readings -/
/-- the state at hand -/
structure At (G : Gb) (F : Addr → Prop) (ι : List Addr) (H : Hp) (σ : L2.St) (ρ : Env) (S : Store) : Prop where
  e : RelE G F ι H ρ σ
  r : R G F ι S H
theorem At.next {G : Gb} {F F1 : Addr → Prop} {ι ι1 : List Addr} {H H1 : Hp} {S S1 : Store} {σ : L2.St} {ρ : Env} (a : At G F ι H σ ρ S) (n : Nxt G F ι H F1 ι1 S1 H1) : At G F1 ι1 H1 σ ρ S1 := ⟨a.e.mono n, n.r⟩

def T (G : Gb) (W : WX) (m : ME D) : TE := fun σ H Q => ∃ ρ S ι F, At G F ι H σ ρ S ∧ Then G (fun c d H' => W c d σ H') F ι H (m ρ S) fun d _ F' ι' H' => ∀ v, RelD G F' ι' H' d v → Q v H'
def TB (G : Gb) (W : WX) (m : ME Bool) : TT := fun σ H Q => ∃ ρ S ι F, At G F ι H σ ρ S ∧ Then G (fun c d H' => W c d σ H') F ι H (m ρ S) fun b _ _ _ H' => Q b H'
def TL (G : Gb) (W : WX) (m : ME (List D)) : TA := fun σ H Q => ∃ ρ S ι F, At G F ι H σ ρ S ∧ Then G (fun c d H' => W c d σ H') F ι H (m ρ S) fun ds _ F' ι' H' => ∀ vs, RelDs G F' ι' H' ds vs → Q vs H'

/-- an expression's plain run -/
abbrev DE (X : Cx) (W : WX) (e : Expr) (m : ME D) : Prop := PE X e (T ⟨X.K, X.mg⟩ W m)
abbrev DT (X : Cx) (W : WX) (e : Expr) (m : ME Bool) : Prop := PT X e (TB ⟨X.K, X.mg⟩ W m)
abbrev DA (X : Cx) (W : WX) (es : List Expr) (m : ME (List D)) : Prop := PA X es (TL ⟨X.K, X.mg⟩ W m)

/-! weaker readings -/
theorem PE.imp {X : Cx} {e : Expr} {t t' : TE} (h : PE X e t) (i : ∀ σ H Q, t' σ H Q → t σ H Q) : PE X e t' := ⟨fun pins s σ H Q I q => h.run pins s σ H Q I (i σ H Q q)⟩
theorem PT.imp {X : Cx} {e : Expr} {t t' : TT} (h : PT X e t) (i : ∀ σ H Q, t' σ H Q → t σ H Q) : PT X e t' := ⟨fun pins s σ H Q I q => h.run pins s σ H Q I (i σ H Q q)⟩
theorem PW.imp {X : Cx} {e : Expr} {t t' : TT} (h : PW X e t) (i : ∀ σ H Q, t' σ H Q → t σ H Q) : PW X e t' := ⟨fun whole pins s σ H Q I q => h.run whole pins s σ H Q I (i σ H Q q)⟩
theorem PA.imp {X : Cx} {e : List Expr} {t t' : TA} (h : PA X e t) (i : ∀ σ H Q, t' σ H Q → t σ H Q) : PA X e t' := ⟨fun pos pins s σ H Q I q => h.run pos pins s σ H Q I (i σ H Q q)⟩
theorem PS.imp {X : Cx} {e : Stmt} {t t' : TS} (h : PS X e t) (i : ∀ D σ H, t' D σ H → t D σ H) : PS X e t' := ⟨fun pins s σ H D I q => h.run pins s σ H D I (i D σ H q)⟩
theorem PSs.imp {X : Cx} {e : List Stmt} {t t' : TS} (h : PSs X e t) (i : ∀ D σ H, t' D σ H → t D σ H) : PSs X e t' := ⟨fun pins s σ H D I q => h.run pins s σ H D I (i D σ H q)⟩

/-- from the run of a row: first a, then what follows -/
theorem T.first {G : Gb} {W : WX} {α : Type} {F : Addr → Prop} {ι : List Addr} {σ : L2.St} {ρ : Env} {S : Store} {H : Hp} {m : ME D} {k : D → M α} {Q : α → Store → (Addr → Prop) → List Addr → Hp → Prop} {Q' : VK}
    (a : At G F ι H σ ρ S) (h : Then G (fun c d H' => W c d σ H') F ι H ((m ρ S).bind k) Q)
    (q : ∀ d S1 F1 ι1 H1 v, Nxt G F ι H F1 ι1 S1 H1 → At G F1 ι1 H1 σ ρ S1 → RelD G F1 ι1 H1 d v → Then G (fun c d H' => W c d σ H') F1 ι1 H1 (k d S1) Q → Q' v H1) : T G W m σ H Q' :=
  ⟨ρ, S, ι, F, a, h.bind.mono fun d S1 F1 ι1 H1 n t v r => q d S1 F1 ι1 H1 v n (a.next n) r t⟩
theorem TB.first {G : Gb} {W : WX} {α : Type} {F : Addr → Prop} {ι : List Addr} {σ : L2.St} {ρ : Env} {S : Store} {H : Hp} {m : ME Bool} {k : Bool → M α} {Q : α → Store → (Addr → Prop) → List Addr → Hp → Prop} {Q' : Bool → Hp → Prop}
    (a : At G F ι H σ ρ S) (h : Then G (fun c d H' => W c d σ H') F ι H ((m ρ S).bind k) Q)
    (q : ∀ b S1 F1 ι1 H1, Nxt G F ι H F1 ι1 S1 H1 → At G F1 ι1 H1 σ ρ S1 → Then G (fun c d H' => W c d σ H') F1 ι1 H1 (k b S1) Q → Q' b H1) : TB G W m σ H Q' :=
  ⟨ρ, S, ι, F, a, h.bind.mono fun b S1 F1 ι1 H1 n t => q b S1 F1 ι1 H1 n (a.next n) t⟩
theorem TL.first {G : Gb} {W : WX} {α : Type} {F : Addr → Prop} {ι : List Addr} {σ : L2.St} {ρ : Env} {S : Store} {H : Hp} {m : ME (List D)} {k : List D → M α} {Q : α → Store → (Addr → Prop) → List Addr → Hp → Prop} {Q' : List V → Hp → Prop}
    (a : At G F ι H σ ρ S) (h : Then G (fun c d H' => W c d σ H') F ι H ((m ρ S).bind k) Q)
    (q : ∀ ds S1 F1 ι1 H1 vs, Nxt G F ι H F1 ι1 S1 H1 → At G F1 ι1 H1 σ ρ S1 → RelDs G F1 ι1 H1 ds vs → Then G (fun c d H' => W c d σ H') F1 ι1 H1 (k ds S1) Q → Q' vs H1) : TL G W m σ H Q' :=
  ⟨ρ, S, ι, F, a, h.bind.mono fun ds S1 F1 ι1 H1 n t vs r => q ds S1 F1 ι1 H1 vs n (a.next n) r t⟩
/-- a last value -/
theorem Then.val {G : Gb} {W : Value → Option Addr → Hp → Prop} {F : Addr → Prop} {ι : List Addr} {H : Hp} {S : Store} {d : D} {Q : VK} {v : V} (h : Then G W F ι H (.ok d S) (fun d _ F' ι' H' => ∀ v, RelD G F' ι' H' d v → Q v H')) (r : R G F ι S H) (rv : RelD G F ι H d v) : Q v H :=
  h.now r v rv
end DL
set_option maxHeartbeats 2000000
/-! DLOps: views of values, new things, operators. -/
namespace DL
open PySem PySem.Spec PyProof.Rows L2
variable [HasT]

/-! ### relation lemmas -/
section
variable {G : Gb} {F F' : Addr → Prop} {ι ι' : List Addr} {H H' : Hp} {S S' : Store}
theorem relPs_len : ∀ {xs : List P} {vs : List V}, RelPs G F H xs vs → xs.length = vs.length
  | [], _, h => by simp only [RelPs] at h; subst h; rfl
  | x :: xs, _, h => by
    simp only [RelPs] at h
    obtain ⟨v, ws, rfl, _, b⟩ := h
    simp [relPs_len b]
theorem relDs_len : ∀ {xs : List D} {vs : List V}, RelDs G F ι H xs vs → xs.length = vs.length
  | [], _, h => by simp only [RelDs] at h; subst h; rfl
  | x :: xs, _, h => by
    simp only [RelDs] at h
    obtain ⟨v, ws, rfl, _, b⟩ := h
    simp [relDs_len b]
theorem relDs_map : ∀ {xs : List P} {vs : List V}, RelPs G F H xs vs → RelDs G F ι H (xs.map D.p) vs
  | [], _, h => by simpa only [RelPs, RelDs, List.map] using h
  | x :: xs, _, h => by
    simp only [RelPs] at h
    obtain ⟨v, ws, rfl, a, b⟩ := h
    simp only [RelDs, List.map]
    exact ⟨v, ws, rfl, (by simp only [RelD]; exact a), relDs_map b⟩
theorem relDs_cons {x : D} {xs : List D} {v : V} {vs : List V} : RelDs G F ι H (x :: xs) (v :: vs) ↔ RelD G F ι H x v ∧ RelDs G F ι H xs vs := by
  simp only [RelDs]
  constructor
  · rintro ⟨v', ws, e, a, b⟩
    cases e
    exact ⟨a, b⟩
  · rintro ⟨a, b⟩
    exact ⟨v, vs, rfl, a, b⟩
theorem relDs_nil {vs : List V} : RelDs G F ι H [] vs ↔ vs = [] := by simp only [RelDs]
theorem relDs_nil' : RelDs G F ι H [] [] := by simp only [RelDs]
theorem relDs_append : ∀ {xs ys : List D} {vs ws : List V}, RelDs G F ι H xs vs → RelDs G F ι H ys ws → RelDs G F ι H (xs ++ ys) (vs ++ ws)
  | [], _, _, _, h, k => by
    rw [relDs_nil] at h
    subst h
    exact k
  | x :: xs, ys, vs, ws, h, k => by
    simp only [RelDs] at h
    obtain ⟨v, us, rfl, a, b⟩ := h
    exact relDs_cons.mpr ⟨a, relDs_append b k⟩
theorem relDs_get : ∀ {xs : List D} {vs : List V} {i : Nat} {d : D}, RelDs G F ι H xs vs → xs[i]? = some d → ∃ v, vs[i]? = some v ∧ RelD G F ι H d v
  | [], _, _, _, _, e => by simp at e
  | x :: xs, _, 0, d, h, e => by
    simp only [RelDs] at h
    obtain ⟨v, us, rfl, a, b⟩ := h
    simp at e
    subst e
    exact ⟨v, rfl, a⟩
  | x :: xs, _, i + 1, d, h, e => by
    simp only [RelDs] at h
    obtain ⟨v, us, rfl, a, b⟩ := h
    obtain ⟨w, p, q⟩ := relDs_get (i := i) b (by simpa using e)
    exact ⟨w, by simpa using p, q⟩
theorem relDs_take : ∀ {xs : List D} {vs : List V} (n : Nat), RelDs G F ι H xs vs → RelDs G F ι H (xs.take n) (vs.take n)
  | _, _, 0, _ => by simp only [List.take_zero]; exact relDs_nil'
  | [], _, n + 1, h => by rw [relDs_nil] at h; subst h; exact relDs_nil'
  | x :: xs, _, n + 1, h => by
    simp only [RelDs] at h
    obtain ⟨v, us, rfl, a, b⟩ := h
    exact relDs_cons.mpr ⟨a, relDs_take n b⟩
theorem relDs_drop : ∀ {xs : List D} {vs : List V} (n : Nat), RelDs G F ι H xs vs → RelDs G F ι H (xs.drop n) (vs.drop n)
  | _, _, 0, h => h
  | [], _, n + 1, h => by rw [relDs_nil] at h; subst h; exact relDs_nil'
  | x :: xs, _, n + 1, h => by
    simp only [RelDs] at h
    obtain ⟨v, us, rfl, a, b⟩ := h
    exact relDs_drop n b
theorem relDs_set {d : D} {v : V} (r : RelD G F ι H d v) : ∀ {xs : List D} {vs : List V} (i : Nat), RelDs G F ι H xs vs → RelDs G F ι H (xs.set i d) (vs.set i v)
  | [], _, _, h => by rw [relDs_nil] at h; subst h; exact relDs_nil'
  | x :: xs, _, 0, h => by
    simp only [RelDs] at h
    obtain ⟨w, us, rfl, a, b⟩ := h
    exact relDs_cons.mpr ⟨r, b⟩
  | x :: xs, _, i + 1, h => by
    simp only [RelDs] at h
    obtain ⟨w, us, rfl, a, b⟩ := h
    exact relDs_cons.mpr ⟨a, relDs_set r i b⟩
theorem relDs_erase : ∀ {xs : List D} {vs : List V} (i : Nat), RelDs G F ι H xs vs → RelDs G F ι H (xs.eraseIdx i) (vs.eraseIdx i)
  | [], _, _, h => by rw [relDs_nil] at h; subst h; exact relDs_nil'
  | x :: xs, _, 0, h => by
    simp only [RelDs] at h
    obtain ⟨w, us, rfl, a, b⟩ := h
    exact b
  | x :: xs, _, i + 1, h => by
    simp only [RelDs] at h
    obtain ⟨w, us, rfl, a, b⟩ := h
    exact relDs_cons.mpr ⟨a, relDs_erase i b⟩
theorem relDs_reverse : ∀ {xs : List D} {vs : List V}, RelDs G F ι H xs vs → RelDs G F ι H xs.reverse vs.reverse
  | [], _, h => by rw [relDs_nil] at h; subst h; exact relDs_nil'
  | x :: xs, _, h => by
    simp only [RelDs] at h
    obtain ⟨w, us, rfl, a, b⟩ := h
    rw [List.reverse_cons, List.reverse_cons]
    exact relDs_append (relDs_reverse b) (relDs_cons.mpr ⟨a, relDs_nil'⟩)
theorem relDs_rep {d : D} {v : V} (h : RelD G F ι H d v) : ∀ n : Nat, RelDs G F ι H (List.replicate n d) (List.replicate n v)
  | 0 => relDs_nil'
  | n + 1 => relDs_cons.mpr ⟨h, relDs_rep h n⟩
theorem relDs_flat {ds : List D} {vs : List V} (h : RelDs G F ι H ds vs) : ∀ n : Nat, RelDs G F ι H (List.replicate n ds).flatten (List.replicate n vs).flatten
  | 0 => relDs_nil'
  | n + 1 => by
    rw [List.replicate_succ, List.replicate_succ, List.flatten_cons, List.flatten_cons]
    exact relDs_append h (relDs_flat h n)

/-! ### all data -/
def pures : List D → Option (List P)
  | [] => some []
  | .p x :: r => match pures r with
    | some ps => some (x :: ps)
    | none => none
  | _ => none
theorem pures_map : ∀ ps : List P, pures (ps.map D.p) = some ps
  | [] => rfl
  | x :: ps => by simp only [List.map, pures, pures_map ps]
theorem pures_eq : ∀ {ds : List D} {ps : List P}, pures ds = some ps → ds = ps.map D.p
  | [], _, h => by cases h; rfl
  | .p x :: r, _, h => by
    simp only [pures] at h
    split at h
    · rename_i qs e
      cases h
      rw [pures_eq e]
      rfl
    · cases h
  | .r _ :: _, _, h => by cases h
  | .t _ :: _, _, h => by cases h
theorem relPs_of : ∀ {ps : List P} {vs : List V}, RelDs G F ι H (ps.map D.p) vs → RelPs G F H ps vs
  | [], _, h => by simpa only [RelPs, RelDs, List.map] using h
  | x :: ps, _, h => by
    simp only [RelDs, List.map] at h
    obtain ⟨v, ws, rfl, a, b⟩ := h
    simp only [RelPs]
    exact ⟨v, ws, rfl, (by simpa only [RelD] using a), relPs_of b⟩
theorem pures_rel {ds : List D} {ps : List P} {vs : List V} (h : pures ds = some ps) (r : RelDs G F ι H ds vs) : RelPs G F H ps vs := by
  rw [pures_eq h] at r
  exact relPs_of r

def mkTup (ds : List D) : D := match pures ds with
  | some ps => .p (.tup ps)
  | none => .t ds
theorem mkTup_map (ps : List P) : mkTup (ps.map D.p) = .p (.tup ps) := by simp only [mkTup, pures_map]
theorem mkTup_rel {ds : List D} {a : Addr} {vs : List V} (q : SqT G.K H a vs) (r : RelDs G F ι H ds vs) : RelD G F ι H (mkTup ds) (.ref a) := by
  unfold mkTup
  split
  · rename_i ps e
    simp only [RelD, RelP]
    exact ⟨a, vs, rfl, q, pures_rel e r⟩
  · simp only [RelD]
    exact ⟨a, vs, rfl, q, r⟩
def D.tup? : D → Option (List D)
  | .p (.tup xs) => some (xs.map D.p)
  | .t xs => some xs
  | _ => none
theorem tup?_rel {d : D} {ds : List D} {v : V} (h : d.tup? = some ds) (r : RelD G F ι H d v) : ∃ a vs, v = .ref a ∧ SqT G.K H a vs ∧ RelDs G F ι H ds vs := by
  cases d with
  | p x =>
    cases x with
    | tup xs =>
      simp only [D.tup?, Option.some.injEq] at h
      subst h
      simp only [RelD, RelP] at r
      obtain ⟨a, vs, e, q, r⟩ := r
      exact ⟨a, vs, e, q, relDs_map r⟩
    | _ => cases h
  | r n => cases h
  | t xs =>
    simp only [D.tup?, Option.some.injEq] at h
    subst h
    simp only [RelD] at r
    exact r
/-- a list that may be read: frozen, the script, of the store -/
def D.lst? (d : D) (S : Store) : Option (List D) := match d with
  | .p (.lst xs) => some (xs.map D.p)
  | .p (.scr xs) => some (xs.map D.p)
  | .r n => match S.objs[n]? with
    | some (.lst xs) => some xs
    | _ => none
  | _ => none
theorem R.obj (r : R G F ι S H) {n : Nat} {o : O} (h : S.objs[n]? = some o) : ∃ a, ι[n]? = some a ∧ RelO G F ι H a o := by
  have hl : n < ι.length := by
    rw [r.len]
    exact (List.getElem?_eq_some_iff.mp h).1
  exact ⟨ι[n], List.getElem?_eq_getElem hl, r.ob n _ o (List.getElem?_eq_getElem hl) h⟩
/-- a list of the layer's heap that is no object of the module's -/
def D.own? (d : D) (S : Store) : Option (List D) := match d with
  | .p (.lst xs) => some (xs.map D.p)
  | .r n => match S.objs[n]? with
    | some (.lst xs) => some xs
    | _ => none
  | _ => none
theorem own?_rel {d : D} {ds : List D} {v : V} (rs : R G F ι S H) (h : d.own? S = some ds) (r : RelD G F ι H d v) : ∃ a vs, v = .ref a ∧ H a = some (.lst vs) ∧ RelDs G F ι H ds vs := by
  cases d with
  | p x =>
    cases x with
    | lst xs =>
      simp only [D.own?, Option.some.injEq] at h
      subst h
      simp only [RelD, RelP] at r
      obtain ⟨a, vs, e, _, q, r⟩ := r
      exact ⟨a, vs, e, q, relDs_map r⟩
    | _ => cases h
  | r n =>
    simp only [D.own?] at h
    split at h
    · rename_i xs e
      cases h
      simp only [RelD] at r
      obtain ⟨a, rfl, q⟩ := r
      obtain ⟨b, qb, ro⟩ := rs.obj e
      rw [q] at qb
      cases qb
      obtain ⟨vs, hv, rv⟩ := ro
      exact ⟨a, vs, rfl, hv, rv⟩
    · cases h
  | t xs => cases h
theorem own_lst {d : D} {ds : List D} (h : d.own? S = some ds) : d.lst? S = some ds := by
  cases d with
  | p x => cases x <;> first | exact h | cases h
  | r n => exact h
  | t xs => cases h
theorem lst?_rel {d : D} {ds : List D} {v : V} (rs : R G F ι S H) (h : d.lst? S = some ds) (r : RelD G F ι H d v) : ∃ a vs, v = .ref a ∧ SqL G.K H a vs ∧ RelDs G F ι H ds vs := by
  cases d with
  | p x =>
    cases x with
    | lst xs =>
      obtain ⟨a, vs, e, q, r⟩ := own?_rel (d := .p (.lst xs)) rs h r
      exact ⟨a, vs, e, SqL.of q, r⟩
    | scr xs =>
      simp only [D.lst?, Option.some.injEq] at h
      subst h
      simp only [RelD, RelP] at r
      obtain ⟨a, vs, e, q, r⟩ := r
      exact ⟨a, vs, e, q.sq, relDs_map r⟩
    | _ => cases h
  | r n =>
    obtain ⟨a, vs, e, q, r⟩ := own?_rel (d := .r n) rs h r
    exact ⟨a, vs, e, SqL.of q, r⟩
  | t xs => cases h
/-- a list or a tuple -/
def D.seq? (d : D) (S : Store) : Option (List D) := match d.tup? with
  | some xs => some xs
  | none => d.lst? S
theorem seq?_rel {d : D} {ds : List D} {v : V} (rs : R G F ι S H) (h : d.seq? S = some ds) (r : RelD G F ι H d v) : ∃ a vs, v = .ref a ∧ (SqL G.K H a vs ∨ SqT G.K H a vs) ∧ RelDs G F ι H ds vs := by
  unfold D.seq? at h
  split at h
  · rename_i xs e
    cases h
    obtain ⟨a, vs, e, q, r⟩ := tup?_rel e r
    exact ⟨a, vs, e, .inr q, r⟩
  · obtain ⟨a, vs, e, q, r⟩ := lst?_rel rs h r
    exact ⟨a, vs, e, .inl q, r⟩

/-! ### new things -/
theorem keepW_new {p : Addr} {o : HO} (hp : H p = none) : KeepW F H (upd H p o) := fun a u e _ => by
  rw [upd_ne (ne_of_none e hp)]
  exact e
theorem keep_new {p : Addr} {o : HO} (hp : H p = none) : Keep F ι H (upd H p o) := fun a u e _ => by
  rw [upd_ne (ne_of_none e hp)]
  exact e
theorem RelDf.mono' {fs : List (Str × D)} {vs : List (Str × V)} (k : KeepW F H H') (s : ∀ a, F a → F' a) (p : ι <+: ι') (h : RelDf G F ι H fs vs) : RelDf G F' ι' H' fs vs := RelDf.mono k s p h
theorem RelO.mono {a : Addr} {o : O} (k : KeepW F H H') (s : ∀ a, F a → F' a) (p : ι <+: ι') (ha : H' a = H a) (h : RelO G F ι H a o) : RelO G F' ι' H' a o := by
  cases o with
  | lst ds =>
    obtain ⟨vs, e, r⟩ := h
    exact ⟨vs, ha.trans e, r.mono k s p⟩
  | ins c fs =>
    obtain ⟨C, dx, fvs, m, e, r⟩ := h
    exact ⟨C, dx, fvs, m, ha.trans e, r.mono k s p⟩
theorem R.ne (r : R G F ι S H) {p a : Addr} (hp : H p = none) (ha : a ∈ ι) : a ≠ p := fun z => by
  obtain ⟨u, hu⟩ := r.there ha
  rw [z, hp] at hu
  cases hu
theorem R.nF (r : R G F ι S H) {p : Addr} (hp : H p = none) : ¬ F p := fun z => by
  obtain ⟨u, hu, _⟩ := r.fz p z
  rw [hp] at hu
  cases hu
theorem old_upd {p : Addr} {o : HO} : ∀ x u, H x = some u → ∃ u', upd H p o x = some u' := fun x u e => by
  by_cases z : x = p
  · subst z
    exact ⟨_, upd_same⟩
  · exact ⟨u, by rw [upd_ne z]; exact e⟩
theorem tabs_new {T : List (Addr × Str)} {p : Addr} {o : HO} (hp : H p = none) (h : LamX.Tabs T H) : LamX.Tabs T (upd H p o) := h.ext fun b u e => by
  rw [upd_ne (ne_of_none e hp)]
  exact e
theorem tabs_put {T : List (Addr × Str)} {p : Addr} {u o : HO} (hu : H p = some u) (hm : isThing u = true) (h : LamX.Tabs T H) : LamX.Tabs T (upd H p o) := fun q hq => by
  obtain ⟨ps, h1, h2, h3⟩ := h q hq
  refine ⟨ps, ?_, h2, fun pos cv hc => ?_⟩
  · rw [upd_ne (fun z => by rw [z, hu] at h1; cases h1; cases hm)]
    exact h1
  · obtain ⟨c, e1, e2⟩ := h3 pos cv hc
    refine ⟨c, e1, ?_⟩
    rw [upd_ne (fun z => by rw [z, hu] at e2; cases e2; cases hm)]
    exact e2
theorem fz_upd (r : R G F ι S H) {p : Addr} {o : HO} (hF : ¬ F p) {a : Addr} (h : F a) : ∃ u, upd H p o a = some u ∧ isThing u = true := by
  obtain ⟨u, hu, hm⟩ := r.fz a h
  exact ⟨u, by rw [upd_ne (fun z => by subst z; exact hF h)]; exact hu, hm⟩
/-- a new object of the layer's heap, not of the store -/
theorem R.fresh {p : Addr} {o : HO} (r : R G F ι S H) (hp : H p = none) : R G F ι S (upd H p o) where
  len := r.len
  nd := r.nd
  nf := r.nf
  fz := fun a h => fz_upd r (r.nF hp) h
  tb := tabs_new hp r.tb
  ob := fun n a x e q => RelO.mono (keepW_new hp) (fun _ h => h) (List.prefix_refl _) (upd_ne (r.ne hp (List.mem_of_getElem? e))) (r.ob n a x e q)
theorem Nxt.fresh {p : Addr} {o : HO} (r : R G F ι S H) (hp : H p = none) : Nxt G F ι H F ι S (upd H p o) := ⟨fun _ h => h, keep_new hp, List.prefix_refl _, fun x a b => absurd a b, fun x a b => absurd a b, old_upd, r.fresh hp⟩
/-- a new object that is frozen at once -/
theorem Nxt.frz {p : Addr} {o : HO} (r : R G F ι S H) (hp : H p = none) (ho : isThing o = true := by rfl) : Nxt G F ι H (fun a => F a ∨ a = p) ι S (upd H p o) where
  sub := fun _ h => .inl h
  keep := keep_new hp
  pre := List.prefix_refl _
  nw := fun x a b => absurd a b
  nF := fun x a b => a.elim (fun z => absurd z b) fun z => by rw [z]; exact hp
  old := old_upd
  r :=
    { len := r.len
      nd := r.nd
      nf := fun a ha z => z.elim (r.nf a ha) fun e => r.ne hp ha e
      fz := fun a h => h.elim (fun h => fz_upd r (r.nF hp) h) fun h => ⟨o, by rw [h]; exact upd_same, ho⟩
      tb := tabs_new hp r.tb
      ob := fun n a x e q => RelO.mono (F' := fun a => F a ∨ a = p) (ι := ι) (keepW_new hp) (fun _ h => Or.inl h) (List.prefix_refl _) (upd_ne (r.ne hp (List.mem_of_getElem? e))) (r.ob n a x e q) }
/-- a new thing of the store -/
theorem Nxt.newO {p : Addr} {x : O} {u : HO} (r : R G F ι S H) (hp : H p = none) (hw : x.lo S.objs.length = true) (rd : RelO G F (ι ++ [p]) (upd H p u) p x) :
    Nxt G F ι H F (ι ++ [p]) (S.new x hw) (upd H p u) := by
  refine ⟨fun _ h => h, keep_new hp, List.prefix_append _ _, fun x a b => ?_, fun x a b => absurd a b, old_upd, ⟨by simp [Store.new, r.len], ?_, ?_, fun a h => fz_upd r (r.nF hp) h, tabs_new hp r.tb, ?_⟩⟩
  · have e : x = p := by simpa [b] using a
    rw [e]
    exact hp
  · rw [List.nodup_append]
    refine ⟨r.nd, by simp, fun a ha b hb => ?_⟩
    have e : b = p := by simpa using hb
    rw [e]
    exact r.ne hp ha
  · intro a ha
    rcases List.mem_append.mp ha with h | h
    · exact r.nf a h
    · have e : a = p := by simpa using h
      rw [e]
      exact r.nF hp
  · intro n a o e q
    by_cases hn : n < ι.length
    · rw [List.getElem?_append_left hn] at e
      have q' : S.objs[n]? = some o := by
        have hn' : n < S.objs.length := by rw [← r.len]; exact hn
        simpa [Store.new, List.getElem?_append_left hn'] using q
      exact RelO.mono (keepW_new hp) (fun _ h => h) (List.prefix_append _ _) (upd_ne (r.ne hp (List.mem_of_getElem? e))) (r.ob n a o e q')
    · have hn2 : n = ι.length := by
        have := (List.getElem?_eq_some_iff.mp e).1
        simp at this
        omega
      subst hn2
      simp at e
      subst e
      have q' : o = x := by
        have : (S.objs ++ [x])[ι.length]? = some o := q
        rw [r.len] at this
        simp at this
        exact this.symm
      subst q'
      exact rd
theorem Nxt.newL {p : Addr} {ds : List D} {vs : List V} (r : R G F ι S H) (hp : H p = none) (rd : RelDs G F ι H ds vs) (hw : (O.lst ds).lo S.objs.length = true) :
    Nxt G F ι H F (ι ++ [p]) (S.new (.lst ds) hw) (upd H p (.lst vs)) := Nxt.newO r hp hw ⟨vs, upd_same, rd.mono (keepW_new hp) (fun _ h => h) (List.prefix_append _ _)⟩
theorem keep_put {p : Addr} {u o : HO} (hF : ¬ F p) (hi : p ∈ ι) (hu : H p = some u) (hm : isImm u = false) : Keep F ι H (upd H p o) := fun a o e h => by
  by_cases z : a = p
  · subst z
    rcases h with h | h | h
    · exact absurd h hF
    · rw [hu] at e
      cases e
      rw [hm] at h
      cases h
    · exact absurd hi h.1
  · rw [upd_ne z]
    exact e
/-- a changed thing of the store -/
theorem Nxt.putO {n : Nat} {p : Addr} {x : O} {u u' : HO} (r : R G F ι S H) (hi : ι[n]? = some p) (hu : H p = some u) (hm : isThing u = true) (hw : x.lo S.objs.length = true) (rd : RelO G F ι (upd H p u') p x) :
    Nxt G F ι H F ι (S.put n x hw) (upd H p u') := by
  have hF : ¬ F p := r.nf p (List.mem_of_getElem? hi)
  have hmm : isImm u = false := by cases u <;> first | rfl | cases hm
  have k : Keep F ι H (upd H p u') := keep_put hF (List.mem_of_getElem? hi) hu hmm
  refine ⟨fun _ h => h, k, List.prefix_refl _, fun x a b => absurd a b, fun x a b => absurd a b, old_upd, ⟨by simp [Store.put, r.len], r.nd, r.nf, fun a h => fz_upd r hF h, tabs_put hu hm r.tb, fun m a o e q => ?_⟩⟩
  by_cases hm : m = n
  · subst hm
    rw [hi] at e
    cases e
    have hlt : m < S.objs.length := by
      rw [← r.len]
      exact (List.getElem?_eq_some_iff.mp hi).1
    have q' : o = x := by
      have : (S.objs.set m x)[m]? = some o := q
      rw [List.getElem?_set_self hlt] at this
      exact (Option.some.inj this).symm
    subst q'
    exact rd
  · have q' : S.objs[m]? = some o := by
      have : (S.objs.set n x)[m]? = some o := q
      rwa [List.getElem?_set_ne (Ne.symm hm)] at this
    refine RelO.mono k.w (fun _ h => h) (List.prefix_refl _) (upd_ne fun z => hm ?_) (r.ob m a o e q')
    subst z
    obtain ⟨h1, e1⟩ := List.getElem?_eq_some_iff.mp e
    obtain ⟨h2, e2⟩ := List.getElem?_eq_some_iff.mp hi
    exact (List.getElem_inj r.nd).mp (e1.trans e2.symm)
theorem Nxt.putL {n : Nat} {p : Addr} {es : List D} {us vs : List V} (r : R G F ι S H) (hi : ι[n]? = some p) (hu : H p = some (.lst us)) (rd : RelDs G F ι H es vs) (hw : (O.lst es).lo S.objs.length = true) :
    Nxt G F ι H F ι (S.put n (.lst es) hw) (upd H p (.lst vs)) :=
  Nxt.putO r hi hu rfl hw ⟨vs, upd_same, rd.mono (keep_put (r.nf p (List.mem_of_getElem? hi)) (List.mem_of_getElem? hi) hu rfl).w (fun _ h => h) (List.prefix_refl _)⟩
theorem rel_frzL {p : Addr} {ps : List P} {vs : List V} (hp : H p = none) (h : RelPs G F H ps vs) : RelD G (fun a => F a ∨ a = p) ι (upd H p (.lst vs)) (.p (.lst ps)) (.ref p) := by
  simp only [RelD, RelP]
  exact ⟨p, vs, rfl, .inr rfl, upd_same, h.mono (keepW_new hp) fun _ h => .inl h⟩
theorem rel_newT {p : Addr} {ds : List D} {vs : List V} (hp : H p = none) (h : RelDs G F ι H ds vs) : RelD G F ι (upd H p (.tup vs)) (mkTup ds) (.ref p) :=
  mkTup_rel (SqT.of upd_same) (h.mono (keepW_new hp) (fun _ h => h) (List.prefix_refl _))
end
end DL
set_option maxHeartbeats 2000000
/-! DLExpr: expressions. -/
namespace DL
open PySem PySem.Spec PyProof.Rows L2
variable [HasT]

abbrev gb (X : Cx) : Gb := ⟨X.K, X.mg⟩
def lift {α : Type} (f : Store → Option (α × Store)) : M α := fun S => match f S with
  | some (a, S') => .ok a S'
  | none => .stuck
abbrev F2 := D → D → Store → Option (D × Store)
abbrev F1 := D → Store → Option (D × Store)
abbrev FL := List D → Store → Option (D × Store)

/-! ### what the runs are -/
def mC (x : P) : ME D := fun _ S => .ok (.p x) S
def mVar (i : Nat) : ME D := fun ρ S => match ρ[i]? with
  | some (some d) => .ok d S
  | _ => .stuck
def mOp2 (f : F2) (ma mb : ME D) : ME D := fun ρ S => (ma ρ S).bind fun x => fun S => (mb ρ S).bind fun y => lift (f x y)
def mOp1 (f : F1) (ma : ME D) : ME D := fun ρ S => (ma ρ S).bind fun x => lift (f x)
def asB : D → M Bool
  | .p (.bl b) => fun S => .ok b S
  | _ => fun _ => .stuck
def mTest (m : ME D) : ME Bool := fun ρ S => (m ρ S).bind asB
def mNil : ME (List D) := fun _ S => .ok [] S
def mCons (ma : ME D) (mr : ME (List D)) : ME (List D) := fun ρ S => (ma ρ S).bind fun x => fun S => (mr ρ S).bind fun xs => fun S => .ok (x :: xs) S
def mCallB (g : FL) (m : ME (List D)) : ME D := fun ρ S => (m ρ S).bind fun xs => lift (g xs)
def mAnd (ma mb : ME D) : ME D := fun ρ S => (ma ρ S).bind fun x => fun S => (asB x S).bind fun b => fun S => if b = true then mb ρ S else .ok (.p (.bl false)) S
def mOr (ma mb : ME D) : ME D := fun ρ S => (ma ρ S).bind fun x => fun S => (asB x S).bind fun b => fun S => if b = true then .ok (.p (.bl true)) S else mb ρ S
def mNot (ma : ME D) : ME D := fun ρ S => (ma ρ S).bind fun x => fun S => (asB x S).bind fun b => fun S => .ok (.p (.bl (!b))) S
def mIf (mt : ME Bool) (ma mb : ME D) : ME D := fun ρ S => (mt ρ S).bind fun b => fun S => if b = true then ma ρ S else mb ρ S
def mAndT (ma mb : ME Bool) : ME Bool := fun ρ S => (ma ρ S).bind fun b => fun S => if b = true then mb ρ S else .ok false S
def mOrT (ma mb : ME Bool) : ME Bool := fun ρ S => (ma ρ S).bind fun b => fun S => if b = true then .ok true S else mb ρ S
def mNotT (ma : ME Bool) : ME Bool := fun ρ S => (ma ρ S).bind fun b => fun S => .ok (!b) S
def mChain (f g : F2) (ma mb mc : ME D) : ME D := fun ρ S => (ma ρ S).bind fun x => fun S => (mb ρ S).bind fun y => fun S => (lift (f x y) S).bind fun z => fun S => (asB z S).bind fun b => fun S =>
  if b = true then (mc ρ S).bind fun u => lift (g y u) else .ok (.p (.bl false)) S

section
variable {X : Cx} {W : WX} {e a b c : Expr} {es : List Expr} {pos : Pos} {ma mb mc : ME D}

/-! ### constants, names -/
theorem T_c {G : Gb} {x : P} {v : V} (h : ∀ F H, RelP G F H x v) {σ : L2.St} {H : Hp} {Q : VK} (q : T G W (mC x) σ H Q) : Q v H := by
  obtain ⟨ρ, S, ι, F, a, t⟩ := q
  exact t.val a.r (by simp only [RelD]; exact h F H)
theorem de_int {i : Int} {j} : DE X W (.Constant (.int i) j pos) (mC (.int i)) := PE.imp pe_int fun σ H Q q => T_c (fun _ _ => by simp only [RelP]) q
theorem de_bl {b : Bool} {j} : DE X W (.Constant (.bool b) j pos) (mC (.bl b)) := PE.imp pe_bl fun σ H Q q => T_c (fun _ _ => by simp only [RelP]) q
theorem de_non {j} : DE X W (.Constant .none j pos) (mC .non) := PE.imp pe_non fun σ H Q q => T_c (fun _ _ => by simp only [RelP]) q
theorem de_str {s : Str} {j} : DE X W (.Constant (.str s) j pos) (mC (.str s)) := PE.imp pe_str fun σ H Q q => T_c (fun _ _ => by simp only [RelP]) q
theorem de_var (i : Nat) {x : Str} (hN : X.N[i]? = some x := by rfl) (hv : Vis X.env.scope x := by first | exact Or.inl rfl | exact Or.inr (Or.inl rfl) | exact Or.inr (Or.inr rfl)) (hd : (x == ("__debug__" : Str)) = false := by decide)
    (hcd : (x == ("__classdict__" : Str)) = false := by decide) : DE X W (.Name x pos) (mVar i) := PE.imp (pe_var hN hv hd hcd) fun σ H Q q => by
  obtain ⟨ρ, S, ι, F, at', t⟩ := q
  unfold mVar at t
  split at t
  · rename_i d e
    obtain ⟨v, ev, r⟩ := at'.e.get e
    exact ⟨v, ev, t.val at'.r r⟩
  · exact t.elim
/-- a module's constant -/
theorem de_glob {x : Str} {v : V} {u : Value} {p : P} (hg : Gl X x) (hm : X.mg x = some u) (r : RelV v u) (hp : ∀ F H, RelP (gb X) F H p v) (hd : (x == ("__debug__" : Str)) = false := by decide) : DE X W (.Name x pos) (mC p) :=
  PE.imp (pe_glob hg hm r hd) fun σ H Q q => T_c (fun F H => hp F H) q
theorem de_gint {x : Str} {i : Int} (hm : ∃ t, X.mg x = some (.int i t)) (hg : Gl X x := by rfl) (hd : (x == ("__debug__" : Str)) = false := by decide) : DE X W (.Name x pos) (mC (.int i)) := by
  obtain ⟨t, hm⟩ := hm
  exact de_glob (v := .int i) hg hm ⟨t, rfl⟩ (fun _ _ => by simp only [RelP]) hd
theorem de_gstr {x : Str} {s : Str} (hm : ∃ t, X.mg x = some (.str s t)) (hg : Gl X x := by rfl) (hd : (x == ("__debug__" : Str)) = false := by decide) : DE X W (.Name x pos) (mC (.str s)) := by
  obtain ⟨t, hm⟩ := hm
  exact de_glob (v := .str s) hg hm ⟨t, rfl⟩ (fun _ _ => by simp only [RelP]) hd

/-! ### operators -/
def OpD (X : Cx) (g : Value → Value → Sem Value) (f : F2) : Prop :=
  ∃ r : R2, OpR X g r ∧ ∀ {F : Addr → Prop} {ι : List Addr} {S S' : Store} {H : Hp} {d1 d2 d' : D} {v1 v2 : V} {Q : VK}, R (gb X) F ι S H → RelD (gb X) F ι H d1 v1 → RelD (gb X) F ι H d2 v2 → f d1 d2 S = some (d', S') →
    (∀ F' ι' H' v, Nxt (gb X) F ι H F' ι' S' H' → RelD (gb X) F' ι' H' d' v → Q v H') → r v1 v2 H Q
theorem OpD.or {g : Value → Value → Sem Value} {f f' : F2} (h : OpD X g f) (h' : OpD X g f') : OpD X g (fun x y S => match f x y S with
    | some z => some z
    | none => f' x y S) := by
  obtain ⟨r, o, k⟩ := h
  obtain ⟨r', o', k'⟩ := h'
  refine ⟨_, o.or o', fun {F ι S S' H d1 d2 d' v1 v2 Q} rs r1 r2 e q => ?_⟩
  dsimp only at e
  split at e
  · rename_i z ez
    cases e
    exact .inl (k rs r1 r2 ez q)
  · exact .inr (k' rs r1 r2 e q)
theorem OpD.imp {g : Value → Value → Sem Value} {f f' : F2} (h : OpD X g f) (i : ∀ x y S z, f' x y S = some z → f x y S = some z) : OpD X g f' := by
  obtain ⟨r, o, k⟩ := h
  exact ⟨r, o, fun rs r1 r2 e q => k rs r1 r2 (i _ _ _ _ e) q⟩
theorem lift_then {G : Gb} {W : Value → Option Addr → Hp → Prop} {F : Addr → Prop} {ι : List Addr} {H : Hp} {α : Type} {f : Store → Option (α × Store)} {S : Store} {Q : α → Store → (Addr → Prop) → List Addr → Hp → Prop}
    (h : Then G W F ι H (lift f S) Q) : ∃ a S', f S = some (a, S') ∧ ∀ F' ι' H', Nxt G F ι H F' ι' S' H' → Q a S' F' ι' H' := by
  unfold lift at h
  split at h
  · rename_i a S' e
    exact ⟨a, S', e, h⟩
  · exact h.elim
theorem op2_imp {f : F2} {r : R2} (k : ∀ {F : Addr → Prop} {ι : List Addr} {S S' : Store} {H : Hp} {d1 d2 d' : D} {v1 v2 : V} {Q : VK}, R (gb X) F ι S H → RelD (gb X) F ι H d1 v1 → RelD (gb X) F ι H d2 v2 → f d1 d2 S = some (d', S') →
    (∀ F' ι' H' v, Nxt (gb X) F ι H F' ι' S' H' → RelD (gb X) F' ι' H' d' v → Q v H') → r v1 v2 H Q) (σ : L2.St) (H : Hp) (Q : VK) (q : T (gb X) W (mOp2 f ma mb) σ H Q) : tOp r (T (gb X) W ma) (T (gb X) W mb) σ H Q := by
  obtain ⟨ρ, S, ι, F, at', t⟩ := q
  refine T.first at' t fun d1 S1 F1 ι1 H1 v1 n1 a1 r1 t1 => ?_
  refine T.first a1 t1 fun d2 S2 F2 ι2 H2 v2 n2 a2 r2 t2 => ?_
  obtain ⟨d', S', e, q⟩ := lift_then t2
  exact k a2.r (n2.d r1) r2 e fun F' ι' H' v n r => q F' ι' H' n v r
theorem de_op2 {op : Operator} {f : F2} (ho : OpD X (binaryOp op) f) (ha : DE X W a ma) (hb : DE X W b mb) : DE X W (.BinOp a op b pos) (mOp2 f ma mb) := by
  obtain ⟨r, o, k⟩ := ho
  exact PE.imp (pe_op o ha hb) (op2_imp k)
theorem de_cmp {op : CmpOp} {f : F2} (ho : OpD X (compareOp op) f) (ha : DE X W a ma) (hb : DE X W b mb) (hm : behindInMarks op b = false) : DE X W (.Compare a [op] [b] pos) (mOp2 f ma mb) := by
  obtain ⟨r, o, k⟩ := ho
  exact PE.imp (pe_cmpR o ha hb hm) (op2_imp k)
theorem asB_then {G : Gb} {W : Value → Option Addr → Hp → Prop} {F : Addr → Prop} {ι : List Addr} {H : Hp} {α : Type} {d : D} {S : Store} {k : Bool → M α} {v : V} {Q : α → Store → (Addr → Prop) → List Addr → Hp → Prop}
    (h : Then G W F ι H ((asB d S).bind k) Q) (r : RelD G F ι H d v) : ∃ b, v = .bl b ∧ Then G W F ι H (k b S) Q := by
  unfold asB at h
  split at h
  · rename_i b
    simp only [RelD, RelP] at r
    exact ⟨b, r, h⟩
  · exact h.elim
theorem asB_then' {G : Gb} {W : Value → Option Addr → Hp → Prop} {F : Addr → Prop} {ι : List Addr} {H : Hp} {d : D} {S : Store} {v : V} {Q : Bool → Store → (Addr → Prop) → List Addr → Hp → Prop}
    (h : Then G W F ι H (asB d S) Q) (r : RelD G F ι H d v) (rs : R G F ι S H) : ∃ b, v = .bl b ∧ Q b S F ι H := by
  unfold asB at h
  split at h
  · rename_i b
    simp only [RelD, RelP] at r
    exact ⟨b, r, h.now rs⟩
  · exact h.elim
theorem test_imp {σ : L2.St} {H : Hp} {Q : Bool → Hp → Prop} (q : TB (gb X) W (mTest ma) σ H Q) : tTest (T (gb X) W ma) σ H Q := by
  obtain ⟨ρ, S, ι, F, at', t⟩ := q
  refine T.first at' t fun d1 S1 F1 ι1 H1 v1 n1 a1 r1 t1 => ?_
  exact asB_then' t1 r1 a1.r
theorem dt_cmp {op : CmpOp} {f : F2} (ho : OpD X (compareOp op) f) (ha : DE X W a ma) (hb : DE X W b mb) (hm : behindInMarks op b = false) : DT X W (.Compare a [op] [b] pos) (mTest (mOp2 f ma mb)) := by
  obtain ⟨r, o, k⟩ := ho
  refine PT.imp (pt_cmpR o ha hb hm) fun σ H Q q => ?_
  obtain ⟨ρ, S, ι, F, at', t⟩ := q
  exact op2_imp k σ H _ ⟨ρ, S, ι, F, at', t.bind.mono fun d S1 F1 ι1 H1 n t1 v r1 => asB_then' t1 r1 n.r⟩
theorem dt_val (h : DE X W e ma) (he : ∀ whole, isTrue e X.env whole = (do let v ← whole; standAt e.pos; holding [v] (truthy v)) := by intro _; rfl) : DT X W e (mTest ma) := PT.imp (pt_val h he) fun σ H Q q => by
  obtain ⟨ρ, S, ι, F, at', t⟩ := q
  refine T.first at' t fun d1 S1 F1 ι1 H1 v1 n1 a1 r1 t1 => ?_
  exact asB_then' t1 r1 a1.r
/-- a chain of two comparisons -/
theorem chain_imp {f g : F2} {r r' : R2} (k : ∀ {F : Addr → Prop} {ι : List Addr} {S S' : Store} {H : Hp} {d1 d2 d' : D} {v1 v2 : V} {Q : VK}, R (gb X) F ι S H → RelD (gb X) F ι H d1 v1 → RelD (gb X) F ι H d2 v2 → f d1 d2 S = some (d', S') →
    (∀ F' ι' H' v, Nxt (gb X) F ι H F' ι' S' H' → RelD (gb X) F' ι' H' d' v → Q v H') → r v1 v2 H Q) (k' : ∀ {F : Addr → Prop} {ι : List Addr} {S S' : Store} {H : Hp} {d1 d2 d' : D} {v1 v2 : V} {Q : VK}, R (gb X) F ι S H → RelD (gb X) F ι H d1 v1 → RelD (gb X) F ι H d2 v2 → g d1 d2 S = some (d', S') →
    (∀ F' ι' H' v, Nxt (gb X) F ι H F' ι' S' H' → RelD (gb X) F' ι' H' d' v → Q v H') → r' v1 v2 H Q) (σ : L2.St) (H : Hp) (Q : VK) (q : T (gb X) W (mChain f g ma mb mc) σ H Q) : tChain r r' (T (gb X) W ma) (T (gb X) W mb) (T (gb X) W mc) σ H Q := by
  obtain ⟨ρ, S, ι, F, at', t⟩ := q
  refine T.first at' t fun d1 S1 F1 ι1 H1 v1 n1 a1 r1 t1 => ?_
  refine T.first a1 t1 fun d2 S2 F2 ι2 H2 v2 n2 a2 r2 t2 => ?_
  obtain ⟨z, S3, e3, q3⟩ := lift_then t2.bind
  refine k a2.r (n2.d r1) r2 e3 fun F3 ι3 H3 v3 n3 r3 => ?_
  obtain ⟨c, rfl, t4⟩ := asB_then (q3 F3 ι3 H3 n3) r3
  refine ⟨c, rfl, ?_⟩
  have a3 := a2.next n3
  cases c with
  | true =>
    rw [if_pos rfl] at t4 ⊢
    refine T.first a3 t4 fun d4 S4 F4 ι4 H4 v4 n4 a4 r4 t4 => ?_
    obtain ⟨d5, S5, e5, q5⟩ := lift_then t4
    exact k' a4.r (n4.d (n3.d r2)) r4 e5 fun F' ι' H' v n r => q5 F' ι' H' n v r
  | false =>
    rw [if_neg (by decide)] at t4 ⊢
    exact t4.val a3.r (by simp only [RelD, RelP])
theorem de_chain {op op' : CmpOp} {f g : F2} (ho : OpD X (compareOp op) f) (ho' : OpD X (compareOp op') g) (ha : DE X W a ma) (hb : DE X W b mb) (hc : DE X W c mc)
    (h : ∀ r r', OpR X (compareOp op) r → OpR X (compareOp op') r' → PE X (.Compare a [op, op'] [b, c] pos) (tChain r r' (T (gb X) W ma) (T (gb X) W mb) (T (gb X) W mc))) : DE X W (.Compare a [op, op'] [b, c] pos) (mChain f g ma mb mc) := by
  obtain ⟨r, o, k⟩ := ho
  obtain ⟨r', o', k'⟩ := ho'
  exact PE.imp (h r r' o o') (chain_imp k k')
theorem dt_chain {op op' : CmpOp} {f g : F2} (ho : OpD X (compareOp op) f) (ho' : OpD X (compareOp op') g) (ha : DE X W a ma) (hb : DE X W b mb) (hc : DE X W c mc)
    (h : ∀ r r', OpR X (compareOp op) r → OpR X (compareOp op') r' → PT X (.Compare a [op, op'] [b, c] pos) (tTest (tChain r r' (T (gb X) W ma) (T (gb X) W mb) (T (gb X) W mc)))) : DT X W (.Compare a [op, op'] [b, c] pos) (mTest (mChain f g ma mb mc)) := by
  obtain ⟨r, o, k⟩ := ho
  obtain ⟨r', o', k'⟩ := ho'
  refine PT.imp (h r r' o o') fun σ H Q q => ?_
  obtain ⟨ρ, S, ι, F, at', t⟩ := q
  exact chain_imp k k' σ H _ ⟨ρ, S, ι, F, at', t.bind.mono fun d S1 F1 ι1 H1 n t1 v r1 => asB_then' t1 r1 n.r⟩

/-! ### one operand -/
def UnD (X : Cx) (g : Value → Sem Value) (f : F1) : Prop :=
  ∃ r : V → Hp → VK → Prop, UnR X g r ∧ ∀ {F : Addr → Prop} {ι : List Addr} {S S' : Store} {H : Hp} {d d' : D} {v : V} {Q : VK}, R (gb X) F ι S H → RelD (gb X) F ι H d v → f d S = some (d', S') →
    (∀ F' ι' H' v, Nxt (gb X) F ι H F' ι' S' H' → RelD (gb X) F' ι' H' d' v → Q v H') → r v H Q
theorem de_un {op : UnaryOp} {f : F1} (ho : UnD X (unaryOp op) f) (ha : DE X W a ma) : DE X W (.UnaryOp op a pos) (mOp1 f ma) := by
  obtain ⟨r, o, k⟩ := ho
  refine PE.imp (pe_un o ha) fun σ H Q q => ?_
  obtain ⟨ρ, S, ι, F, at', t⟩ := q
  refine T.first at' t fun d1 S1 F1 ι1 H1 v1 n1 a1 r1 t1 => ?_
  obtain ⟨d', S', e, q⟩ := lift_then t1
  exact k a1.r r1 e fun F' ι' H' v n r => q F' ι' H' n v r

/-! ### and, or, not, if -/
theorem de_one {op} (h : DE X W a ma) : DE X W (.BoolOp op [a] pos) ma := pe_one h
theorem de_and {rest : List Expr} (ha : DE X W a ma) (hb : DE X W (.BoolOp .And (b :: rest) pos) mb) : DE X W (.BoolOp .And (a :: b :: rest) pos) (mAnd ma mb) := PE.imp (pe_and ha hb) fun σ H Q q => by
  obtain ⟨ρ, S, ι, F, at', t⟩ := q
  refine T.first at' t fun d1 S1 F1 ι1 H1 v1 n1 a1 r1 t1 => ?_
  obtain ⟨c, rfl, t2⟩ := asB_then t1 r1
  refine ⟨c, rfl, ?_⟩
  cases c with
  | true =>
    rw [if_pos rfl] at t2 ⊢
    exact ⟨ρ, S1, ι1, F1, a1, t2⟩
  | false =>
    rw [if_neg (by decide)] at t2 ⊢
    exact t2.val a1.r (by simp only [RelD, RelP])
theorem de_or {rest : List Expr} (ha : DE X W a ma) (hb : DE X W (.BoolOp .Or (b :: rest) pos) mb) : DE X W (.BoolOp .Or (a :: b :: rest) pos) (mOr ma mb) := PE.imp (pe_or ha hb) fun σ H Q q => by
  obtain ⟨ρ, S, ι, F, at', t⟩ := q
  refine T.first at' t fun d1 S1 F1 ι1 H1 v1 n1 a1 r1 t1 => ?_
  obtain ⟨c, rfl, t2⟩ := asB_then t1 r1
  refine ⟨c, rfl, ?_⟩
  cases c with
  | true =>
    rw [if_pos rfl] at t2 ⊢
    exact t2.val a1.r (by simp only [RelD, RelP])
  | false =>
    rw [if_neg (by decide)] at t2 ⊢
    exact ⟨ρ, S1, ι1, F1, a1, t2⟩
theorem de_not (ha : DE X W a ma) : DE X W (.UnaryOp .Not a pos) (mNot ma) := PE.imp (pe_not ha) fun σ H Q q => by
  obtain ⟨ρ, S, ι, F, at', t⟩ := q
  refine T.first at' t fun d1 S1 F1 ι1 H1 v1 n1 a1 r1 t1 => ?_
  obtain ⟨c, rfl, t2⟩ := asB_then t1 r1
  exact ⟨c, rfl, t2.val a1.r (by simp only [RelD, RelP])⟩
theorem de_if {mt : ME Bool} (hc : DT X W c mt) (ha : DE X W a ma) (hb : DE X W b mb) : DE X W (.IfExp c a b pos) (mIf mt ma mb) := PE.imp (pe_ifExp hc ha hb) fun σ H Q q => by
  obtain ⟨ρ, S, ι, F, at', t⟩ := q
  refine TB.first at' t fun c S1 F1 ι1 H1 n1 a1 t1 => ?_
  cases c with
  | true =>
    rw [if_pos rfl] at t1 ⊢
    exact ⟨ρ, S1, ι1, F1, a1, t1⟩
  | false =>
    rw [if_neg (by decide)] at t1 ⊢
    exact ⟨ρ, S1, ι1, F1, a1, t1⟩
abbrev DW (X : Cx) (W : WX) (e : Expr) (m : ME Bool) : Prop := PW X e (TB (gb X) W m)
variable {mt mu : ME Bool}
theorem dw_and1 (ha : DT X W a mt) : DW X W (.BoolOp .And [a] pos) mt := pw_and1 ha
theorem dw_or1 (ha : DT X W a mt) : DW X W (.BoolOp .Or [a] pos) mt := pw_or1 ha
theorem dw_and {rest : List Expr} (ha : DT X W a mt) (hb : DW X W (.BoolOp .And (b :: rest) pos) mu) : DW X W (.BoolOp .And (a :: b :: rest) pos) (mAndT mt mu) := PW.imp (pw_and ha hb) fun σ H Q q => by
  obtain ⟨ρ, S, ι, F, at', t⟩ := q
  refine TB.first at' t fun c S1 F1 ι1 H1 n1 a1 t1 => ?_
  cases c with
  | true =>
    rw [if_pos rfl] at t1 ⊢
    exact ⟨ρ, S1, ι1, F1, a1, t1⟩
  | false =>
    rw [if_neg (by decide)] at t1 ⊢
    exact t1.now a1.r
theorem dw_or {rest : List Expr} (ha : DT X W a mt) (hb : DW X W (.BoolOp .Or (b :: rest) pos) mu) : DW X W (.BoolOp .Or (a :: b :: rest) pos) (mOrT mt mu) := PW.imp (pw_or ha hb) fun σ H Q q => by
  obtain ⟨ρ, S, ι, F, at', t⟩ := q
  refine TB.first at' t fun c S1 F1 ι1 H1 n1 a1 t1 => ?_
  cases c with
  | true =>
    rw [if_pos rfl] at t1 ⊢
    exact t1.now a1.r
  | false =>
    rw [if_neg (by decide)] at t1 ⊢
    exact ⟨ρ, S1, ι1, F1, a1, t1⟩
theorem dt_bool (h : DW X W e mt) : DT X W e mt := PW.pt h
theorem dt_not (ha : DT X W a mt) : DT X W (.UnaryOp .Not a pos) (mNotT mt) := PT.imp (pt_not ha) fun σ H Q q => by
  obtain ⟨ρ, S, ι, F, at', t⟩ := q
  refine TB.first at' t fun c S1 F1 ι1 H1 n1 a1 t1 => ?_
  exact t1.now a1.r

/-! ### arguments, built-in calls -/
theorem da_nil : DA X W [] mNil := PA.imp pa_nil fun σ H Q q => by
  obtain ⟨ρ, S, ι, F, at', t⟩ := q
  exact t.now at'.r [] relDs_nil'
variable {mr : ME (List D)}
theorem da_cons (ha : DE X W e ma) (hr : DA X W es mr) (hs : starEach (e :: es) X.env = (false, eval e X.env) :: starEach es X.env := by rfl) : DA X W (e :: es) (mCons ma mr) := PA.imp (pa_cons ha hr hs) fun σ H Q q => by
  obtain ⟨ρ, S, ι, F, at', t⟩ := q
  refine T.first at' t fun d1 S1 F1 ι1 H1 v1 n1 a1 r1 t1 => ?_
  refine TL.first a1 t1 fun ds S2 F2 ι2 H2 vs n2 a2 r2 t2 => ?_
  exact t2.now a2.r _ (relDs_cons.mpr ⟨n2.d r1, r2⟩)
def CallD (X : Cx) (f : Value) (g : FL) : Prop :=
  ∃ r : List V → Hp → VK → Prop, CallR X f r ∧ ∀ {F : Addr → Prop} {ι : List Addr} {S S' : Store} {H : Hp} {ds : List D} {d' : D} {vs : List V} {Q : VK}, R (gb X) F ι S H → RelDs (gb X) F ι H ds vs → g ds S = some (d', S') →
    (∀ F' ι' H' v, Nxt (gb X) F ι H F' ι' S' H' → RelD (gb X) F' ι' H' d' v → Q v H') → r vs H Q
theorem CallD.or {f : Value} {g g' : FL} (h : CallD X f g) (h' : CallD X f g') : CallD X f (fun x S => match g x S with
    | some z => some z
    | none => g' x S) := by
  obtain ⟨r, o, k⟩ := h
  obtain ⟨r', o', k'⟩ := h'
  refine ⟨_, o.or o', fun {F ι S S' H ds d' vs Q} rs r1 e q => ?_⟩
  dsimp only at e
  split at e
  · rename_i z ez
    cases e
    exact .inl (k rs r1 ez q)
  · exact .inr (k' rs r1 e q)
theorem CallD.imp {f : Value} {g g' : FL} (h : CallD X f g) (i : ∀ x S z, g' x S = some z → g x S = some z) : CallD X f g' := by
  obtain ⟨r, o, k⟩ := h
  exact ⟨r, o, fun rs r1 e q => k rs r1 (i _ _ _ e) q⟩
theorem callB_imp {g : FL} {r : List V → Hp → VK → Prop} (k : ∀ {F : Addr → Prop} {ι : List Addr} {S S' : Store} {H : Hp} {ds : List D} {d' : D} {vs : List V} {Q : VK}, R (gb X) F ι S H → RelDs (gb X) F ι H ds vs → g ds S = some (d', S') →
    (∀ F' ι' H' v, Nxt (gb X) F ι H F' ι' S' H' → RelD (gb X) F' ι' H' d' v → Q v H') → r vs H Q) (σ : L2.St) (H : Hp) (Q : VK) (q : T (gb X) W (mCallB g mr) σ H Q) : tCB r (TL (gb X) W mr) σ H Q := by
  obtain ⟨ρ, S, ι, F, at', t⟩ := q
  refine TL.first at' t fun ds S1 F1 ι1 H1 vs n1 a1 r1 t1 => ?_
  obtain ⟨d', S', e, q⟩ := lift_then t1
  exact k a1.r r1 e fun F' ι' H' v n r => q F' ι' H' n v r
theorem de_callB {x : Str} {id : String} {g : FL} {p : Pos} (hc : CallD X (.builtin id) g) (hm : X.mg x = none) (hv : bootBuiltins x = some (.builtin id)) (ha : DA X W (e :: es) mr) (hg : Gl X x := by rfl) (hn : x ≠ "__name__" := by decide) (hdb : (x == ("__debug__" : Str)) = false := by decide)
    (he : starEach (e :: es) X.env = (false, eval e X.env) :: starEach es X.env := by rfl) (hpl : (backTo pos (starEach es X.env)).any (·.1) = false := by rfl) : DE X W (.Call (.Name x p) (e :: es) [] pos) (mCallB g mr) := by
  obtain ⟨r, o, k⟩ := hc
  exact PE.imp (pe_callB o hg hm hv ha hn hdb he hpl) (callB_imp k)
theorem de_callTy {x : Str} {T : String} {g : FL} {p : Pos} (hc : CallD X (.type T) g) (hm : X.mg x = none) (hv : bootBuiltins x = some (.type T)) (ha : DA X W (e :: es) mr) (hg : Gl X x := by rfl) (hn : x ≠ "__name__" := by decide) (hdb : (x == ("__debug__" : Str)) = false := by decide)
    (he : starEach (e :: es) X.env = (false, eval e X.env) :: starEach es X.env := by rfl) (hpl : (backTo pos (starEach es X.env)).any (·.1) = false := by rfl) : DE X W (.Call (.Name x p) (e :: es) [] pos) (mCallB g mr) := by
  obtain ⟨r, o, k⟩ := hc
  exact PE.imp (pe_callTy o hg hm hv ha hn hdb he hpl) (callB_imp k)

/-! ### displays -/
def fTup : FL := fun ds S => if ds.length ≤ 100000 then some (mkTup ds, S) else none
def fLstF : FL := fun ds S => if ds.length ≤ 100000 then (match pures ds with
  | some ps => some (.p (.lst ps), S)
  | none => none) else none
def fLst : FL := fun ds S => if ds.length ≤ 100000 then (if h : (O.lst ds).lo S.objs.length = true then some (.r S.objs.length, S.new (.lst ds) h) else none) else none
theorem szOk {n : Nat} (h : n ≤ 100000) : n ≤ sizeLine := Nat.le_trans h (by rw [sizeLine_eq]; decide)
/-- what makes a new frozen list | a new list of the store -/
theorem fLstF_new {F : Addr → Prop} {ι : List Addr} {S S' : Store} {H : Hp} {ds : List D} {d' : D} {vs : List V} {Q : VK} (rs : R (gb X) F ι S H) (r : RelDs (gb X) F ι H ds vs) (e : fLstF ds S = some (d', S'))
    (q : ∀ F' ι' H' v, Nxt (gb X) F ι H F' ι' S' H' → RelD (gb X) F' ι' H' d' v → Q v H') : vs.length ≤ sizeLine ∧ ∀ p, H p = none → Q (.ref p) (upd H p (.lst vs)) := by
  unfold fLstF at e
  split at e
  · rename_i hl
    split at e
    · rename_i ps ep
      cases e
      exact ⟨by rw [← relDs_len r]; exact szOk hl, fun p hp => q _ _ _ _ (Nxt.frz rs hp) (rel_frzL hp (pures_rel ep r))⟩
    · cases e
  · cases e
theorem fLst_new {F : Addr → Prop} {ι : List Addr} {S S' : Store} {H : Hp} {ds : List D} {d' : D} {vs : List V} {Q : VK} (rs : R (gb X) F ι S H) (r : RelDs (gb X) F ι H ds vs) (e : fLst ds S = some (d', S'))
    (q : ∀ F' ι' H' v, Nxt (gb X) F ι H F' ι' S' H' → RelD (gb X) F' ι' H' d' v → Q v H') : vs.length ≤ sizeLine ∧ ∀ p, H p = none → Q (.ref p) (upd H p (.lst vs)) := by
  unfold fLst at e
  split at e
  · rename_i hl
    split at e
    · rename_i hw
      cases e
      refine ⟨by rw [← relDs_len r]; exact szOk hl, fun p hp => q _ _ _ _ (Nxt.newL rs hp r hw) ?_⟩
      simp only [RelD]
      exact ⟨p, rfl, by rw [← rs.len]; simp⟩
    · cases e
  · cases e
theorem fTup_new {F : Addr → Prop} {ι : List Addr} {S S' : Store} {H : Hp} {ds : List D} {d' : D} {vs : List V} {Q : VK} (rs : R (gb X) F ι S H) (r : RelDs (gb X) F ι H ds vs) (e : fTup ds S = some (d', S'))
    (q : ∀ F' ι' H' v, Nxt (gb X) F ι H F' ι' S' H' → RelD (gb X) F' ι' H' d' v → Q v H') : vs.length ≤ sizeLine ∧ ∀ p, H p = none → Q (.ref p) (upd H p (.tup vs)) := by
  unfold fTup at e
  split at e
  · rename_i hl
    cases e
    exact ⟨by rw [← relDs_len r]; exact szOk hl, fun p hp => q _ _ _ _ (Nxt.fresh rs hp) (rel_newT hp r)⟩
  · cases e
theorem de_tup {x1} (h : DA X W es mr) : DE X W (.Tuple es x1 pos) (mCallB fTup mr) := PE.imp (pe_tup h) fun σ H Q q => by
  obtain ⟨ρ, S, ι, F, at', t⟩ := q
  refine TL.first at' t fun ds S1 F1 ι1 H1 vs n1 a1 r1 t1 => ?_
  obtain ⟨d', S', e, q⟩ := lift_then t1
  exact fTup_new a1.r r1 e fun F' ι' H' v n r => q F' ι' H' n v r
theorem de_lstF (h : DA X W es mr) : DE X W (.List es pos) (mCallB fLstF mr) := PE.imp (pe_lst h) fun σ H Q q => by
  obtain ⟨ρ, S, ι, F, at', t⟩ := q
  refine TL.first at' t fun ds S1 F1 ι1 H1 vs n1 a1 r1 t1 => ?_
  obtain ⟨d', S', e, q⟩ := lift_then t1
  exact fLstF_new a1.r r1 e fun F' ι' H' v n r => q F' ι' H' n v r
theorem de_lst (h : DA X W es mr) : DE X W (.List es pos) (mCallB fLst mr) := PE.imp (pe_lst h) fun σ H Q q => by
  obtain ⟨ρ, S, ι, F, at', t⟩ := q
  refine TL.first at' t fun ds S1 F1 ι1 H1 vs n1 a1 r1 t1 => ?_
  obtain ⟨d', S', e, q⟩ := lift_then t1
  exact fLst_new a1.r r1 e fun F' ι' H' v n r => q F' ι' H' n v r
end
end DL
set_option maxHeartbeats 2000000
/-! DLStmt: statements, what is walked, comprehensions. -/
namespace DL
open PySem PySem.Spec PyProof.Rows L2
variable [HasT]

/-! ### the same value, by a look -/
mutual
def P.beq : P → P → Bool
  | .non, .non => true
  | .bl a, .bl b => a == b
  | .int a, .int b => a == b
  | .str a, .str b => a == b
  | .tup a, .tup b => P.beqs a b
  | .lst a, .lst b => P.beqs a b
  | .scr a, .scr b => P.beqs a b
  | .ins c a, .ins d b => c == d && P.beqf a b
  | .dic a, .dic b => P.beqk a b
  | .glo a, .glo b => a == b
  | .ty a, .ty b => a == b
  | _, _ => false
termination_by structural x => x
def P.beqs : List P → List P → Bool
  | [], [] => true
  | a :: x, b :: y => P.beq a b && P.beqs x y
  | _, _ => false
termination_by structural x => x
def P.beqf : List (Str × P) → List (Str × P) → Bool
  | [], [] => true
  | (f, a) :: x, (g, b) :: y => f == g && P.beq a b && P.beqf x y
  | _, _ => false
termination_by structural x => x
def P.beqk : List (Key × P) → List (Key × P) → Bool
  | [], [] => true
  | (f, a) :: x, (g, b) :: y => decide (f = g) && P.beq a b && P.beqk x y
  | _, _ => false
termination_by structural x => x
end
mutual
theorem P.beq_eq : ∀ {a b : P}, P.beq a b = true → a = b
  | .non, b, h => by cases b <;> simp_all [P.beq]
  | .bl a, b, h => by cases b <;> simp_all [P.beq]
  | .int a, b, h => by cases b <;> simp_all [P.beq]
  | .str a, b, h => by cases b <;> simp_all [P.beq]
  | .glo a, b, h => by cases b <;> simp_all [P.beq]
  | .ty a, b, h => by cases b <;> simp_all [P.beq]
  | .tup a, b, h => by
    cases b <;> simp only [P.beq, Bool.false_eq_true] at h
    rw [P.beqs_eq h]
  | .lst a, b, h => by
    cases b <;> simp only [P.beq, Bool.false_eq_true] at h
    rw [P.beqs_eq h]
  | .scr a, b, h => by
    cases b <;> simp only [P.beq, Bool.false_eq_true] at h
    rw [P.beqs_eq h]
  | .ins c a, b, h => by
    cases b <;> simp only [P.beq, Bool.false_eq_true, Bool.and_eq_true, beq_iff_eq] at h
    rw [h.1, P.beqf_eq h.2]
  | .dic a, b, h => by
    cases b <;> simp only [P.beq, Bool.false_eq_true] at h
    rw [P.beqk_eq h]
theorem P.beqs_eq : ∀ {a b : List P}, P.beqs a b = true → a = b
  | [], [], _ => rfl
  | [], _ :: _, h => by simp [P.beqs] at h
  | _ :: _, [], h => by simp [P.beqs] at h
  | a :: x, b :: y, h => by
    simp only [P.beqs, Bool.and_eq_true] at h
    rw [P.beq_eq h.1, P.beqs_eq h.2]
theorem P.beqf_eq : ∀ {a b : List (Str × P)}, P.beqf a b = true → a = b
  | [], [], _ => rfl
  | [], _ :: _, h => by simp [P.beqf] at h
  | _ :: _, [], h => by simp [P.beqf] at h
  | (f, a) :: x, (g, b) :: y, h => by
    simp only [P.beqf, Bool.and_eq_true, beq_iff_eq] at h
    rw [h.1.1, P.beq_eq h.1.2, P.beqf_eq h.2]
theorem P.beqk_eq : ∀ {a b : List (Key × P)}, P.beqk a b = true → a = b
  | [], [], _ => rfl
  | [], _ :: _, h => by simp [P.beqk] at h
  | _ :: _, [], h => by simp [P.beqk] at h
  | (f, a) :: x, (g, b) :: y, h => by
    simp only [P.beqk, Bool.and_eq_true, decide_eq_true_eq] at h
    rw [h.1.1, P.beq_eq h.1.2, P.beqk_eq h.2]
end
mutual
theorem P.beq_refl : ∀ a : P, P.beq a a = true
  | .non | .bl _ | .int _ | .str _ | .glo _ | .ty _ => by simp [P.beq]
  | .tup a | .lst a | .scr a => by simp only [P.beq]; exact P.beqs_refl a
  | .ins c a => by simp only [P.beq, Bool.and_eq_true, beq_self_eq_true, true_and]; exact P.beqf_refl a
  | .dic a => by simp only [P.beq]; exact P.beqk_refl a
theorem P.beqs_refl : ∀ a : List P, P.beqs a a = true
  | [] => rfl
  | a :: x => by simp only [P.beqs, Bool.and_eq_true]; exact ⟨P.beq_refl a, P.beqs_refl x⟩
theorem P.beqf_refl : ∀ a : List (Str × P), P.beqf a a = true
  | [] => rfl
  | (f, a) :: x => by simp only [P.beqf, Bool.and_eq_true, beq_self_eq_true, true_and]; exact ⟨P.beq_refl a, P.beqf_refl x⟩
theorem P.beqk_refl : ∀ a : List (Key × P), P.beqk a a = true
  | [] => rfl
  | (f, a) :: x => by simp only [P.beqk, Bool.and_eq_true, decide_true, true_and]; exact ⟨P.beq_refl a, P.beqk_refl x⟩
end
mutual
def D.beq : D → D → Bool
  | .p a, .p b => P.beq a b
  | .r a, .r b => a == b
  | .t a, .t b => D.beqs a b
  | _, _ => false
def D.beqs : List D → List D → Bool
  | [], [] => true
  | a :: x, b :: y => D.beq a b && D.beqs x y
  | _, _ => false
end
mutual
theorem D.beq_eq : ∀ {a b : D}, D.beq a b = true → a = b
  | .p a, b, h => by
    cases b <;> simp only [D.beq, Bool.false_eq_true] at h
    rw [P.beq_eq h]
  | .r a, b, h => by cases b <;> simp_all [D.beq]
  | .t a, b, h => by
    cases b <;> simp only [D.beq, Bool.false_eq_true] at h
    rw [D.beqs_eq h]
theorem D.beqs_eq : ∀ {a b : List D}, D.beqs a b = true → a = b
  | [], [], _ => rfl
  | [], _ :: _, h => by simp [D.beqs] at h
  | _ :: _, [], h => by simp [D.beqs] at h
  | a :: x, b :: y, h => by
    simp only [D.beqs, Bool.and_eq_true] at h
    rw [D.beq_eq h.1, D.beqs_eq h.2]
end
mutual
theorem D.beq_refl : ∀ a : D, D.beq a a = true
  | .p a => by simp only [D.beq]; exact P.beq_refl a
  | .r a => by simp [D.beq]
  | .t a => by simp only [D.beq]; exact D.beqs_refl a
theorem D.beqs_refl : ∀ a : List D, D.beqs a a = true
  | [] => rfl
  | a :: x => by simp only [D.beqs, Bool.and_eq_true]; exact ⟨D.beq_refl a, D.beqs_refl x⟩
end

/-! ### what is walked -/
/-- the items; the lists of the store that must stay as they are meanwhile -/
structure Src where
  xs : List D
  watch : List (Nat × List D)
def watchOk : List (Nat × List D) → Store → Bool
  | [], _ => true
  | (n, ds) :: w, S => (match S.objs[n]? with
    | some (.lst es) => D.beqs ds es
    | _ => false) && watchOk w S
theorem watchOk_at : ∀ {w : List (Nat × List D)} {S : Store} {n : Nat} {ds : List D}, watchOk w S = true → (n, ds) ∈ w → S.objs[n]? = some (.lst ds)
  | (m, es) :: w, S, n, ds, h, hm => by
    simp only [watchOk, Bool.and_eq_true] at h
    rcases List.mem_cons.mp hm with e | hm
    · cases e
      have h1 := h.1
      split at h1
      · rename_i fs q
        rw [q, D.beqs_eq h1]
      · cases h1
    · exact watchOk_at h.2 hm

/-- the walked thing J yields the items of src, in each later state in which they stand -/
def ItOk (G : Gb) (F : Addr → Prop) (ι : List Addr) (H : Hp) (J : It) (src : Src) : Prop :=
  ∀ F' ι' H' S', Nxt G F ι H F' ι' S' H' → watchOk src.watch S' = true → ∀ i, (src.xs.length ≤ i → J.stop i H') ∧
    ∀ d, src.xs[i]? = some d → J.go i H' ∧ ∀ x H'', J.yld i H' x H'' → Nxt G F' ι' H' F' ι' S' H'' ∧ RelD G F' ι' H'' d x
def TIt (G : Gb) (W : WX) (mi : ME Src) : TI := fun σ H Rr => ∃ ρ S ι F, At G F ι H σ ρ S ∧ Then G (fun c d H' => W c d σ H') F ι H (mi ρ S) fun src _ F' ι' H' => ∀ J, ItOk G F' ι' H' J src → Rr J H'
abbrev DI (X : Cx) (W : WX) (tg iter : Expr) (mi : ME Src) : Prop := PI X tg iter (TIt (gb X) W mi)
theorem PI.imp {X : Cx} {tg iter : Expr} {t t' : TI} (h : PI X tg iter t) (i : ∀ σ H Q, t' σ H Q → t σ H Q) : PI X tg iter t' := ⟨fun pins s σ H R I q => h.run pins s σ H R I (i σ H R q)⟩
def watchOf (d : D) (ds : List D) : List (Nat × List D) := match d with
  | .r n => [(n, ds)]
  | _ => []
/-- a list, read as it stands | a tuple -/
def srcSeq (d : D) (S : Store) : Option (Src × Store) := match d.tup? with
  | some ds => some (⟨ds, []⟩, S)
  | none => match d.lst? S with
    | some ds => some (⟨ds, watchOf d ds⟩, S)
    | none => none
def srcLst (d : D) (S : Store) : Option (Src × Store) := match d.lst? S with
  | some ds => some (⟨ds, watchOf d ds⟩, S)
  | none => none
def srcTup (d : D) (S : Store) : Option (Src × Store) := match d.tup? with
  | some ds => some (⟨ds, []⟩, S)
  | none => none
def mSrc (f : D → Store → Option (Src × Store)) (m : ME D) : ME Src := fun ρ S => (m ρ S).bind fun d => lift (f d)
def mSrcA (f : List D → Store → Option (Src × Store)) (m : ME (List D)) : ME Src := fun ρ S => (m ρ S).bind fun d => lift (f d)

section
variable {X : Cx} {W : WX} {e a b c tg iter : Expr} {es : List Expr} {pos p : Pos} {ma mb mc : ME D} {mr : ME (List D)}
/-- what a readable list's address holds later on -/
theorem lst_later {G : Gb} {F F' : Addr → Prop} {ι ι' : List Addr} {H H' : Hp} {S S' : Store} {d : D} {ds : List D} {v : V} (r : RelD G F ι H d v) (hl : d.lst? S = some ds) (n : Nxt G F ι H F' ι' S' H') (w : watchOk (watchOf d ds) S' = true) : d.lst? S' = some ds := by
  cases d with
  | p x => cases x <;> first | exact hl | cases hl
  | r m =>
    simp only [D.lst?]
    rw [watchOk_at w (List.mem_singleton.mpr rfl)]
  | t xs => cases hl
theorem itl_ok {G : Gb} {F : Addr → Prop} {ι : List Addr} {H : Hp} {S : Store} {d : D} {ds : List D} {a : Addr} (hl : d.lst? S = some ds) (r : RelD G F ι H d (.ref a)) :
    ItOk G F ι H (Itl G.K a) ⟨ds, watchOf d ds⟩ := fun F' ι' H' S' n w i => by
  obtain ⟨b, vs, e, q, rd⟩ := lst?_rel n.r (lst_later r hl n w) (n.d r)
  cases e
  refine ⟨fun h => ⟨vs, q, by rw [← relDs_len rd]; exact h⟩, fun x hx => ?_⟩
  obtain ⟨v, hv, rv⟩ := relDs_get rd hx
  refine ⟨⟨vs, v, q, hv⟩, fun y H'' ⟨eH, hy⟩ => ?_⟩
  subst eH
  have := hy vs q
  rw [hv] at this
  cases this
  exact ⟨Nxt.refl n.r, rv⟩
theorem itt_ok {G : Gb} {F : Addr → Prop} {ι : List Addr} {H : Hp} {d : D} {ds : List D} {a : Addr} (hl : d.tup? = some ds) (r : RelD G F ι H d (.ref a)) : ItOk G F ι H (Itt G.K a) ⟨ds, []⟩ := fun F' ι' H' S' n w i => by
  obtain ⟨b, vs, e, q, rd⟩ := tup?_rel hl (n.d r)
  cases e
  refine ⟨fun h => ⟨vs, q, by rw [← relDs_len rd]; exact h⟩, fun x hx => ?_⟩
  obtain ⟨v, hv, rv⟩ := relDs_get rd hx
  refine ⟨⟨vs, v, q, hv⟩, fun y H'' ⟨eH, hy⟩ => ?_⟩
  subst eH
  have := hy vs q
  rw [hv] at this
  cases this
  exact ⟨Nxt.refl n.r, rv⟩
theorem src_first {G : Gb} {W : WX} {F : Addr → Prop} {ι : List Addr} {σ : L2.St} {ρ : Env} {S : Store} {H : Hp} {m : ME D} {f : D → Store → Option (Src × Store)} {Rr : It → Hp → Prop}
    (a : At G F ι H σ ρ S) (h : Then G (fun c d H' => W c d σ H') F ι H (mSrc f m ρ S) fun src _ F' ι' H' => ∀ J, ItOk G F' ι' H' J src → Rr J H') {Q' : VK}
    (q : ∀ d S1 F1 ι1 H1 v src S2, At G F1 ι1 H1 σ ρ S1 → RelD G F1 ι1 H1 d v → f d S1 = some (src, S2) → (∀ F' ι' H', Nxt G F1 ι1 H1 F' ι' S2 H' → ∀ J, ItOk G F' ι' H' J src → Rr J H') → Q' v H1) : T G W m σ H Q' :=
  T.first a h fun d S1 F1 ι1 H1 v n1 a1 r1 t1 => by
    obtain ⟨src, S2, e, z⟩ := lift_then t1
    exact q d S1 F1 ι1 H1 v src S2 a1 r1 e z
theorem di_list (h : DE X W iter ma) : DI X W tg iter (mSrc srcLst ma) := PI.imp (pi_list h) fun σ H Rr q => by
  obtain ⟨ρ, S, ι, F, at', t⟩ := q
  refine src_first at' t fun d S1 F1 ι1 H1 v src S2 a1 r1 e z => ?_
  unfold srcLst at e
  split at e
  · rename_i ds el
    cases e
    obtain ⟨a, vs, ev, q, rd⟩ := lst?_rel a1.r el r1
    subst ev
    exact ⟨a, rfl, ⟨vs, q⟩, z _ _ _ (Nxt.refl a1.r) _ (itl_ok el r1)⟩
  · cases e
theorem di_tup (h : DE X W iter ma) : DI X W tg iter (mSrc srcTup ma) := PI.imp (pi_tup h) fun σ H Rr q => by
  obtain ⟨ρ, S, ι, F, at', t⟩ := q
  refine src_first at' t fun d S1 F1 ι1 H1 v src S2 a1 r1 e z => ?_
  unfold srcTup at e
  split at e
  · rename_i ds el
    cases e
    obtain ⟨a, vs, ev, q, rd⟩ := tup?_rel el r1
    subst ev
    exact ⟨a, rfl, ⟨vs, q⟩, z _ _ _ (Nxt.refl a1.r) _ (itt_ok el r1)⟩
  · cases e
/-- either, by a look at what came -/
def iSeq (K : PySem.W.Frag) (tl : TE) : TI := fun σ H R => tl σ H fun x H1 => ∃ a, x = .ref a ∧ (((∃ xs, SqL K H1 a xs) ∧ R (Itl K a) H1) ∨ ((∃ xs, SqT K H1 a xs) ∧ R (Itt K a) H1))
theorem pi_seq {tl : TE} (hl : PE X iter tl) : PI X tg iter (iSeq X.K tl) := by
  refine ⟨fun pins s σ H Rr I h => ?_⟩
  have base := hl.run pins s σ H _ I h
  refine thn base fun v s1 ⟨x, H1, I1, r1, a, ex, q⟩ => ?_
  subst ex
  rcases q with ⟨⟨xs, hq⟩, q⟩ | ⟨⟨xs, hq⟩, q⟩
  · obtain ⟨its, r, hp, _⟩ := I1.list hq
    cases r1
    exact wpAny_pyIter_list hp.isList (pi_one I1 _ (turn_list a _) ⟨_, Heap.get?_push_size _ rfl, rfl, rfl⟩ q)
  · obtain ⟨its, r, hp, _⟩ := I1.tuple hq
    cases r1
    exact wpAny_pyIter_tuple hp (pi_one I1 _ (turn_tuple a _) ⟨_, Heap.get?_push_size _ rfl, rfl, rfl⟩ q)
theorem di_seq (h : DE X W iter ma) : DI X W tg iter (mSrc srcSeq ma) := PI.imp (pi_seq h) fun σ H Rr q => by
  obtain ⟨ρ, S, ι, F, at', t⟩ := q
  refine src_first at' t fun d S1 F1 ι1 H1 v src S2 a1 r1 e z => ?_
  unfold srcSeq at e
  split at e
  · rename_i ds el
    cases e
    obtain ⟨a, vs, ev, q, rd⟩ := tup?_rel el r1
    subst ev
    exact ⟨a, rfl, .inr ⟨⟨vs, q⟩, z _ _ _ (Nxt.refl a1.r) _ (itt_ok el r1)⟩⟩
  · split at e
    · rename_i ds el
      cases e
      obtain ⟨a, vs, ev, q, rd⟩ := lst?_rel a1.r el r1
      subst ev
      exact ⟨a, rfl, .inl ⟨⟨vs, q⟩, z _ _ _ (Nxt.refl a1.r) _ (itl_ok el r1)⟩⟩
    · cases e
theorem srcA_first {G : Gb} {W : WX} {F : Addr → Prop} {ι : List Addr} {σ : L2.St} {ρ : Env} {S : Store} {H : Hp} {m : ME (List D)} {f : List D → Store → Option (Src × Store)} {Rr : It → Hp → Prop}
    (a : At G F ι H σ ρ S) (h : Then G (fun c d H' => W c d σ H') F ι H (mSrcA f m ρ S) fun src _ F' ι' H' => ∀ J, ItOk G F' ι' H' J src → Rr J H') {Q' : List V → Hp → Prop}
    (q : ∀ d S1 F1 ι1 H1 v src S2, At G F1 ι1 H1 σ ρ S1 → RelDs G F1 ι1 H1 d v → f d S1 = some (src, S2) → (∀ F' ι' H', Nxt G F1 ι1 H1 F' ι' S2 H' → ∀ J, ItOk G F' ι' H' J src → Rr J H') → Q' v H1) : TL G W m σ H Q' :=
  TL.first a h fun d S1 F1 ι1 H1 v n1 a1 r1 t1 => by
    obtain ⟨src, S2, e, z⟩ := lift_then t1
    exact q d S1 F1 ι1 H1 v src S2 a1 r1 e z
/-! ranges -/
def fitR (i : Int) : Bool := decide (-1000000000000 ≤ i ∧ i ≤ 1000000000000)
theorem fitR_ok {i : Int} (h : fitR i = true) : -(2 ^ 62) ≤ i ∧ i < 2 ^ 62 := by
  simp only [fitR, decide_eq_true_eq] at h
  omega
def rangeD (lo : Int) (n : Nat) : List D := (List.range n).map fun (i : Nat) => D.p (.int (lo + i))
def srcR1 : List D → Store → Option (Src × Store)
  | [.p (.int n)], S => if fitR n = true then some (⟨rangeD 0 n.toNat, []⟩, S) else none
  | _, _ => none
def srcR2 : List D → Store → Option (Src × Store)
  | [.p (.int a), .p (.int b)], S => if (fitR a && fitR b) = true then some (⟨rangeD a (b - a).toNat, []⟩, S) else none
  | _, _ => none
theorem rangeD_get {lo : Int} {n i : Nat} {d : D} (h : (rangeD lo n)[i]? = some d) : i < n ∧ d = .p (.int (lo + i)) := by
  unfold rangeD at h
  rw [List.getElem?_map] at h
  by_cases z : i < n
  · rw [List.getElem?_range z] at h
    cases h
    exact ⟨z, rfl⟩
  · rw [List.getElem?_eq_none (by simp; omega)] at h
    cases h
theorem rangeD_len (lo : Int) (n : Nat) : (rangeD lo n).length = n := by simp [rangeD]
theorem itr_ok {G : Gb} {F : Addr → Prop} {ι : List Addr} {H : Hp} {lo : Int} {n : Nat} : ItOk G F ι H (Itr lo n) ⟨rangeD lo n, []⟩ := fun F' ι' H' S' nx w i => by
  refine ⟨fun h => by rw [rangeD_len] at h; exact h, fun d hd => ?_⟩
  obtain ⟨hi, rfl⟩ := rangeD_get hd
  refine ⟨hi, fun x H'' ⟨e, hx⟩ => ?_⟩
  subst e
  subst hx
  exact ⟨Nxt.refl nx.r, by simp only [RelD, RelP]⟩
theorem relDs1 {G : Gb} {F : Addr → Prop} {ι : List Addr} {H : Hp} {d : D} {vs : List V} (h : RelDs G F ι H [d] vs) : ∃ v, vs = [v] ∧ RelD G F ι H d v := by
  simp only [RelDs] at h
  obtain ⟨v, ws, rfl, r, rfl⟩ := h
  exact ⟨v, rfl, r⟩
theorem relDs2 {G : Gb} {F : Addr → Prop} {ι : List Addr} {H : Hp} {d e : D} {vs : List V} (h : RelDs G F ι H [d, e] vs) : ∃ v w, vs = [v, w] ∧ RelD G F ι H d v ∧ RelD G F ι H e w := by
  simp only [RelDs] at h
  obtain ⟨v, ws, rfl, r, w, us, rfl, r', rfl⟩ := h
  exact ⟨v, w, rfl, r, r'⟩
theorem relDs3 {G : Gb} {F : Addr → Prop} {ι : List Addr} {H : Hp} {d e f : D} {vs : List V} (h : RelDs G F ι H [d, e, f] vs) : ∃ v w u, vs = [v, w, u] ∧ RelD G F ι H d v ∧ RelD G F ι H e w ∧ RelD G F ι H f u := by
  simp only [RelDs] at h
  obtain ⟨v, ws, rfl, r, w, us, rfl, r', u, ts, rfl, r'', rfl⟩ := h
  exact ⟨v, w, u, rfl, r, r', r''⟩
theorem relInt {G : Gb} {F : Addr → Prop} {ι : List Addr} {H : Hp} {i : Int} {v : V} (h : RelD G F ι H (.p (.int i)) v) : v = .int i := by simpa only [RelD, RelP] using h
theorem di_range1 (hm : X.mg "range" = none) (h : DA X W [a] mr) (hg : Gl X "range" := by rfl) (hs : starEach [a] X.env = [(false, eval a X.env)] := by rfl) : DI X W tg (.Call (.Name "range" p) [a] [] pos) (mSrcA srcR1 mr) := PI.imp (pi_range1 hg hm h hs) fun σ H Rr q => by
  obtain ⟨ρ, S, ι, F, at', t⟩ := q
  refine srcA_first at' t fun ds S1 F1 ι1 H1 vs src S2 a1 r1 e z => ?_
  unfold srcR1 at e
  split at e
  · rename_i n
    split at e
    · rename_i hf
      cases e
      obtain ⟨v, rfl, r⟩ := relDs1 r1
      cases relInt r
      exact ⟨n, rfl, (fitR_ok hf).1, (fitR_ok hf).2, z _ _ _ (Nxt.refl a1.r) _ itr_ok⟩
    · cases e
  · cases e
theorem di_range2 (hm : X.mg "range" = none) (h : DA X W [a, b] mr) (hg : Gl X "range" := by rfl) (hs : starEach [a, b] X.env = [(false, eval a X.env), (false, eval b X.env)] := by rfl) (hs2 : starEach [b] X.env = [(false, eval b X.env)] := by rfl) :
    DI X W tg (.Call (.Name "range" p) [a, b] [] pos) (mSrcA srcR2 mr) := PI.imp (pi_range2 hg hm h hs hs2) fun σ H Rr q => by
  obtain ⟨ρ, S, ι, F, at', t⟩ := q
  refine srcA_first at' t fun ds S1 F1 ι1 H1 vs src S2 a1 r1 e z => ?_
  unfold srcR2 at e
  split at e
  · rename_i m n
    split at e
    · rename_i hf
      cases e
      simp only [Bool.and_eq_true] at hf
      obtain ⟨v, w, rfl, r, r'⟩ := relDs2 r1
      cases relInt r
      cases relInt r'
      exact ⟨m, n, rfl, ⟨(fitR_ok hf.1).1, (fitR_ok hf.1).2, (fitR_ok hf.2).1, (fitR_ok hf.2).2⟩, z _ _ _ (Nxt.refl a1.r) _ itr_ok⟩
    · cases e
  · cases e
/-! zip -/
def zipD (xs ys : List D) : List D := (xs.zip ys).map fun p => mkTup [p.1, p.2]
def srcZip : List D → Store → Option (Src × Store)
  | [x, y], S => match x.tup?, y.tup? with
    | some xs, some ys => some (⟨zipD xs ys, []⟩, S)
    | _, _ => match x.lst? S, y.lst? S with
      | some xs, some ys => some (⟨zipD xs ys, watchOf x xs ++ watchOf y ys⟩, S)
      | _, _ => none
  | _, _ => none
theorem zipD_get {xs ys : List D} {i : Nat} {d : D} (h : (zipD xs ys)[i]? = some d) : ∃ x y, xs[i]? = some x ∧ ys[i]? = some y ∧ d = mkTup [x, y] := by
  unfold zipD at h
  rw [List.getElem?_map] at h
  cases e : (xs.zip ys)[i]? with
  | none => rw [e] at h; cases h
  | some q =>
    rw [e] at h
    cases h
    obtain ⟨x, y⟩ := q
    rw [List.getElem?_zip_eq_some] at e
    exact ⟨x, y, e.1, e.2, rfl⟩
theorem zipD_len (xs ys : List D) : (zipD xs ys).length = min xs.length ys.length := by simp [zipD]
theorem watchOk_append : ∀ {w u : List (Nat × List D)} {S : Store}, watchOk (w ++ u) S = true → watchOk w S = true ∧ watchOk u S = true
  | [], u, S, h => ⟨rfl, h⟩
  | (n, ds) :: w, u, S, h => by
    simp only [List.cons_append, watchOk, Bool.and_eq_true] at h ⊢
    obtain ⟨a, b⟩ := watchOk_append h.2
    exact ⟨⟨h.1, a⟩, b⟩
theorem itz_ok {G : Gb} {F : Addr → Prop} {ι : List Addr} {H : Hp} {S : Store} {d d2 : D} {ds es : List D} {a b : Addr} (hl : d.lst? S = some ds) (r : RelD G F ι H d (.ref a)) (hl2 : d2.lst? S = some es) (r2 : RelD G F ι H d2 (.ref b)) :
    ItOk G F ι H (Itz G.K a b) ⟨zipD ds es, watchOf d ds ++ watchOf d2 es⟩ := fun F' ι' H' S' n w i => by
  obtain ⟨w1, w2⟩ := watchOk_append w
  obtain ⟨a', vs, e, q, rd⟩ := lst?_rel n.r (lst_later r hl n w1) (n.d r)
  cases e
  obtain ⟨b', us, e, q2, rd2⟩ := lst?_rel n.r (lst_later r2 hl2 n w2) (n.d r2)
  cases e
  refine ⟨fun h => ⟨vs, us, q, q2, ?_⟩, fun x hx => ?_⟩
  · have h' : (zipD ds es).length ≤ i := h
    rw [zipD_len, relDs_len rd, relDs_len rd2] at h'
    omega
  · obtain ⟨x1, x2, e1, e2, rfl⟩ := zipD_get hx
    obtain ⟨v, hv, rv⟩ := relDs_get rd e1
    obtain ⟨u, hu, ru⟩ := relDs_get rd2 e2
    refine ⟨⟨vs, us, v, u, q, q2, hv, hu⟩, fun y H'' ⟨T, y1, y2, ey, hT, eH, g1, g2⟩ => ?_⟩
    have k1 := g1 vs q
    have k2 := g2 us q2
    rw [hv] at k1
    rw [hu] at k2
    cases k1
    cases k2
    subst ey
    subst eH
    exact ⟨Nxt.fresh n.r hT, rel_newT hT (relDs_cons.mpr ⟨rv, relDs_cons.mpr ⟨ru, relDs_nil'⟩⟩)⟩
theorem itzT_ok {G : Gb} {F : Addr → Prop} {ι : List Addr} {H : Hp} {d d2 : D} {ds es : List D} {a b : Addr} (hl : d.tup? = some ds) (r : RelD G F ι H d (.ref a)) (hl2 : d2.tup? = some es) (r2 : RelD G F ι H d2 (.ref b)) :
    ItOk G F ι H (RZ.ItzT G.K a b) ⟨zipD ds es, []⟩ := fun F' ι' H' S' n w i => by
  obtain ⟨a', vs, e, q, rd⟩ := tup?_rel hl (n.d r)
  cases e
  obtain ⟨b', us, e, q2, rd2⟩ := tup?_rel hl2 (n.d r2)
  cases e
  refine ⟨fun h => ⟨vs, us, q, q2, ?_⟩, fun x hx => ?_⟩
  · have h' : (zipD ds es).length ≤ i := h
    rw [zipD_len, relDs_len rd, relDs_len rd2] at h'
    omega
  · obtain ⟨x1, x2, e1, e2, rfl⟩ := zipD_get hx
    obtain ⟨v, hv, rv⟩ := relDs_get rd e1
    obtain ⟨u, hu, ru⟩ := relDs_get rd2 e2
    refine ⟨⟨vs, us, v, u, q, q2, hv, hu⟩, fun y H'' ⟨T, y1, y2, ey, hT, eH, g1, g2⟩ => ?_⟩
    have k1 := g1 vs q
    have k2 := g2 us q2
    rw [hv] at k1
    rw [hu] at k2
    cases k1
    cases k2
    subst ey
    subst eH
    exact ⟨Nxt.fresh n.r hT, rel_newT hT (relDs_cons.mpr ⟨rv, relDs_cons.mpr ⟨ru, relDs_nil'⟩⟩)⟩
theorem di_zip {elts : List Expr} {kk : Nat} {tpos : Pos} (hm : X.mg "zip" = none) (h : DA X W [a, b] mr) (hg : Gl X "zip" := by rfl) (hs : starEach [a, b] X.env = (false, eval a X.env) :: starEach [b] X.env := by rfl) (hpl : (backTo pos (starEach [b] X.env)).any (·.1) = false := by rfl) :
    DI X W (.Tuple elts kk tpos) (.Call (.Name "zip" p) [a, b] [] pos) (mSrcA srcZip mr) := PI.imp (RZ.pi_zipA hg hm h hs hpl) fun σ H Rr q => by
  obtain ⟨ρ, S, ι, F, at', t⟩ := q
  refine srcA_first at' t fun ds S1 F1 ι1 H1 vs src S2 a1 r1 e z => ?_
  unfold srcZip at e
  split at e
  · rename_i x y
    obtain ⟨v, w, rfl, r, r'⟩ := relDs2 r1
    split at e
    · rename_i xs ys ex ey
      cases e
      obtain ⟨a', us, ev, q, rd⟩ := tup?_rel ex r
      obtain ⟨b', ws, ew, q2, rd2⟩ := tup?_rel ey r'
      subst ev
      subst ew
      exact ⟨a', b', us, ws, rfl, .inr ⟨q, q2, z _ _ _ (Nxt.refl a1.r) _ (itzT_ok ex r ey r')⟩⟩
    · split at e
      · rename_i xs ys ex ey
        cases e
        obtain ⟨a', us, ev, q, rd⟩ := lst?_rel a1.r ex r
        obtain ⟨b', ws, ew, q2, rd2⟩ := lst?_rel a1.r ey r'
        subst ev
        subst ew
        exact ⟨a', b', us, ws, rfl, .inl ⟨q, q2, z _ _ _ (Nxt.refl a1.r) _ (itz_ok ex r ey r')⟩⟩
      · cases e
  · cases e

/-! ### targets -/
abbrev MG := D → Env → Store → Option Env
def TGt (G : Gb) (vs : List Nat) (mg : MG) : TG := fun v σ H Q => ∃ d ρ S ι F, RelD G F ι H d v ∧ At G F ι H σ ρ S ∧ ∃ ρ', mg d ρ S = some ρ' ∧ ∀ σ', RelE G F ι H ρ' σ' → σ'.length = σ.length → wipe σ' vs = wipe σ vs → Q σ' H
def TGts (G : Gb) (vs : List Nat) (mg : List D → Env → Store → Option Env) : TGs := fun us σ H Q => ∃ ds ρ S ι F, RelDs G F ι H ds us ∧ At G F ι H σ ρ S ∧ ∃ ρ', mg ds ρ S = some ρ' ∧ ∀ σ', RelE G F ι H ρ' σ' → σ'.length = σ.length → wipe σ' vs = wipe σ vs → Q σ' H
theorem PG.imp {X : Cx} {e : Expr} {t t' : TG} (h : PG X e t) (i : ∀ v σ H Q, t' v σ H Q → t v σ H Q) : PG X e t' := ⟨fun pins s σ H v u Q I r q => h.run pins s σ H v u Q I r (i v σ H Q q)⟩
theorem PGs.imp {X : Cx} {e : List Expr} {t t' : TGs} (h : PGs X e t) (i : ∀ v σ H Q, t' v σ H Q → t v σ H Q) : PGs X e t' := ⟨fun pins s σ H v u Q I r q => h.run pins s σ H v u Q I r (i v σ H Q q)⟩
abbrev DG (X : Cx) (vs : List Nat) (e : Expr) (mg : MG) : Prop := PG X e (TGt (gb X) vs mg)
theorem set_comm_none (σ : L2.St) (i j : Nat) (x : Option V) : (σ.set i x).set j none = if i = j then σ.set j none else (σ.set j none).set i x := by
  by_cases h : i = j
  · subst h
    rw [if_pos rfl, List.set_set]
  · rw [if_neg h, List.set_comm _ _ h]
theorem wipe_set (i : Nat) (x : Option V) : ∀ (vs : List Nat) (σ : L2.St), wipe (σ.set i x) vs = if i ∈ vs then wipe σ vs else (wipe σ vs).set i x
  | [], σ => by simp [wipe]
  | v :: vs, σ => by
    simp only [wipe, wipe_set i x vs σ]
    by_cases h : i ∈ vs
    · rw [if_pos h, if_pos (List.mem_cons_of_mem _ h)]
    · rw [if_neg h, set_comm_none]
      by_cases hv : i = v
      · subst hv
        rw [if_pos rfl, if_pos List.mem_cons_self]
      · rw [if_neg hv, if_neg (by simp [hv, h])]
abbrev DGs (X : Cx) (vs : List Nat) (e : List Expr) (mg : List D → Env → Store → Option Env) : Prop := PGs X e (TGts (gb X) vs mg)
variable {ws : List Nat}
def gNm (i : Nat) : MG := fun d ρ _ => some (ρ.set i (some d))
def gsNil : List D → Env → Store → Option Env := fun ds ρ _ => match ds with
  | [] => some ρ
  | _ => none
def gsCons (g : MG) (gs : List D → Env → Store → Option Env) : List D → Env → Store → Option Env := fun ds ρ S => match ds with
  | d :: ds => (g d ρ S).bind fun ρ' => gs ds ρ' S
  | _ => none
def gTp (n : Nat) (gs : List D → Env → Store → Option Env) : MG := fun d ρ S => match d.tup? with
  | some ds => if ds.length = n then gs ds ρ S else none
  | none => none
theorem dg_name (i : Nat) {x : Str} (hN : X.N.Nodup) (hw : i ∈ ws := by decide) (hi : X.N[i]? = some x := by rfl) (hx : Loc X.env.scope x := by first | exact Or.inl rfl | exact Or.inr rfl) (hf : X.fn x = true ∨ X.env.scope.names.lookup x = some .local := by first | exact .inl rfl | exact .inr rfl | assumption) : DG X ws (.Name x pos) (gNm i) :=
  PG.imp (pg_name hN hi hx hf) fun v σ H Q q => by
    obtain ⟨d, ρ, S, ι, F, r, at', ρ', e, q⟩ := q
    cases e
    exact q _ (at'.e.set r i) (by simp) (by rw [wipe_set, if_pos hw])
theorem dgs_nil : DGs X ws [] gsNil := PGs.imp pgs_nil fun v σ H Q q => by
  obtain ⟨ds, ρ, S, ι, F, r, at', ρ', e, q⟩ := q
  unfold gsNil at e
  split at e
  · cases e
    rw [relDs_nil] at r
    exact ⟨r, q _ at'.e rfl rfl⟩
  · cases e
theorem dgs_cons {g : MG} {gs : List D → Env → Store → Option Env} (h1 : DG X ws e g) (h2 : DGs X ws es gs) (hs : (assignEach (e :: es) X.env).map (·.2) = assign e X.env :: (assignEach es X.env).map (·.2) := by rfl) : DGs X ws (e :: es) (gsCons g gs) := PGs.imp (pgs_cons h1 h2 hs) fun v σ H Q q => by
  obtain ⟨ds, ρ, S, ι, F, r, at', ρ', e, q⟩ := q
  unfold gsCons at e
  split at e
  · rename_i d ds
    simp only [RelDs] at r
    obtain ⟨v, ws, rfl, r1, r2⟩ := r
    obtain ⟨ρ1, e1, e2⟩ := Option.bind_eq_some_iff.mp e
    exact ⟨v, ws, rfl, d, ρ, S, ι, F, r1, at', ρ1, e1, fun σ' hσ hl hw => ⟨ds, ρ1, S, ι, F, r2, ⟨hσ, at'.r⟩, ρ', e2, fun σ'' h'' hl' hw' => q σ'' h'' (hl'.trans hl) (hw'.trans hw)⟩⟩
  · cases e
theorem dg_tup {k n : Nat} {gs : List D → Env → Store → Option Env} (hc : X.calm = true) (h : DGs X ws es gs) (hn : (assignEach es X.env).length = n := by rfl) (hst : (assignEach es X.env).findIdx? (·.1) = none := by rfl) : DG X ws (.Tuple es k pos) (gTp n gs) := PG.imp (pg_tup hc h hn hst) fun v σ H Q q => by
  obtain ⟨d, ρ, S, ι, F, r, at', ρ', e, q⟩ := q
  unfold gTp at e
  split at e
  · rename_i ds el
    split at e
    · rename_i hl
      obtain ⟨a, vs, ev, qt, rd⟩ := tup?_rel el r
      exact ⟨a, vs, ev, qt, by rw [← relDs_len rd]; exact hl, ds, ρ, S, ι, F, rd, at', ρ', e, q⟩
    · cases e
  · cases e
end
end DL
set_option maxHeartbeats 2000000
/-! DLBody: statements, loops, comprehensions. -/
namespace DL
open PySem PySem.Spec PyProof.Rows L2
variable [HasT]

/-- how a statement ends -/
inductive Out where
  | nx (ρ : Env) | rt (d : D) | bk (ρ : Env) | ct (ρ : Env)
abbrev MS := Env → M Out
def outOk (G : Gb) (n : Nat) (E : Ends) : Out → Store → (Addr → Prop) → List Addr → Hp → Prop
  | .nx ρ, _, F, ι, H => ∀ σ, σ.length = n → RelE G F ι H ρ σ → E.nx σ H
  | .rt d, _, F, ι, H => ∀ v, RelD G F ι H d v → E.rt v H
  | .bk ρ, _, F, ι, H => ∀ σ, σ.length = n → RelE G F ι H ρ σ → E.bk σ H
  | .ct ρ, _, F, ι, H => ∀ σ, σ.length = n → RelE G F ι H ρ σ → E.ct σ H
/-- a raise may come at any slots -/
abbrev WS (W : WX) : Value → Option Addr → Hp → Prop := fun c d H' => ∀ σ', W c d σ' H'
def TSt (G : Gb) (W : WX) (m : MS) : TS := fun E σ H => ∃ ρ S ι F, At G F ι H σ ρ S ∧ Then G (WS W) F ι H (m ρ S) (outOk G σ.length E)
abbrev DS (X : Cx) (W : WX) (st : Stmt) (m : MS) : Prop := PS X st (TSt (gb X) W m)
abbrev DSs (X : Cx) (W : WX) (st : List Stmt) (m : MS) : Prop := PSs X st (TSt (gb X) W m)
theorem Then.wimp {G : Gb} {W W' : Value → Option Addr → Hp → Prop} {F : Addr → Prop} {ι : List Addr} {H : Hp} {α : Type} {r : Res α} {Q : α → Store → (Addr → Prop) → List Addr → Hp → Prop} (h : Then G W F ι H r Q) (i : ∀ c d H, W c d H → W' c d H) : Then G W' F ι H r Q := by
  cases r with
  | ok a S => exact h
  | err e S => exact fun F' ι' H' c d n x => i _ _ _ (h F' ι' H' c d n x)
  | stuck => exact h
/-- the rest stays at its base -/
theorem Then.bind' {G : Gb} {W : Value → Option Addr → Hp → Prop} {F : Addr → Prop} {ι : List Addr} {H : Hp} {α β : Type} {r : Res α} {k : α → M β} {Q : β → Store → (Addr → Prop) → List Addr → Hp → Prop} (h : Then G W F ι H (r.bind k) Q) :
    Then G W F ι H r (fun a S' _ _ _ => Then G W F ι H (k a S') Q) := by
  cases r with
  | ok a S' => exact fun _ _ _ _ => h
  | err e S' => exact h
  | stuck => exact h

/-! ### what the runs are -/
def mNext : MS := fun ρ S => .ok (.nx ρ) S
def mBreak : MS := fun ρ S => .ok (.bk ρ) S
def mCont : MS := fun ρ S => .ok (.ct ρ) S
def mDrop (m : ME D) : MS := fun ρ S => (m ρ S).bind fun _ S => .ok (.nx ρ) S
def mRet (m : ME D) : MS := fun ρ S => (m ρ S).bind fun d S => .ok (.rt d) S
def mRetN : MS := fun _ S => .ok (.rt (.p .non)) S
def gRun (g : MG) (d : D) (ρ : Env) : M Out := fun S => match g d ρ S with
  | some ρ' => .ok (.nx ρ') S
  | none => .stuck
def mAsg (g : MG) (m : ME D) : MS := fun ρ S => (m ρ S).bind fun d => gRun g d ρ
def mAug (i : Nat) (f : F2) (m : ME D) : MS := fun ρ S => (mVar i ρ S).bind fun x => fun S => (m ρ S).bind fun y => fun S => (lift (f x y) S).bind fun z S => .ok (.nx (ρ.set i (some z))) S
def oSeq (b : MS) : Out → M Out
  | .nx ρ => b ρ
  | o => fun S => .ok o S
def mSeq (a b : MS) : MS := fun ρ S => (a ρ S).bind (oSeq b)
def mIfS (t : ME Bool) (a b : MS) : MS := fun ρ S => (t ρ S).bind fun k => if k = true then a ρ else b ρ
/-- a loop over items -/
def oLoop (k : Env → M Out) : Out → M Out
  | .nx ρ => k ρ
  | .ct ρ => k ρ
  | .bk ρ => fun S => .ok (.nx ρ) S
  | .rt d => fun S => .ok (.rt d) S
def gBind (g : MG) (d : D) (ρ : Env) (k : Env → M Out) : M Out := fun S => match g d ρ S with
  | some ρ' => k ρ' S
  | none => .stuck
def loopI (w : List (Nat × List D)) (g : MG) (b : MS) : List D → MS
  | [] => fun ρ S => if watchOk w S = true then .ok (.nx ρ) S else .stuck
  | x :: xs => fun ρ S => if watchOk w S = true then gBind g x ρ (fun ρ' S => (b ρ' S).bind (oLoop (loopI w g b xs))) S else .stuck
def mFor (mi : ME Src) (g : MG) (b : MS) : MS := fun ρ S => (mi ρ S).bind fun src => loopI src.watch g b src.xs ρ
/-- a while, at most n turns -/
def mWhile (t : ME Bool) (b : MS) : Nat → MS
  | 0 => fun _ _ => .stuck
  | n + 1 => fun ρ S => (t ρ S).bind fun k => if k = true then fun S => (b ρ S).bind (oLoop (mWhile t b n)) else fun S => .ok (.nx ρ) S
/-- a comprehension's items: slots vs are its own -/
def unsetE (ρ : Env) : List Nat → Env
  | [] => ρ
  | v :: vs => (unsetE ρ vs).set v none
def noErr {α : Type} : Res α → Res α
  | .err _ _ => .stuck
  | r => r
def compI (w : List (Nat × List D)) (g : MG) (t : ME Bool) (e : ME D) (ρ : Env) : List D → List D → M (List D)
  | acc, [] => fun S => if watchOk w S = true then .ok acc S else .stuck
  | acc, x :: xs => fun S => if watchOk w S = true then (match g x ρ S with
    | none => .stuck
    | some ρ' => (noErr (t ρ' S)).bind fun k => if k = true then fun S => (noErr (e ρ' S)).bind fun y => fun S => if acc.length < 100000 then compI w g t e ρ (acc ++ [y]) xs S else .stuck
      else compI w g t e ρ acc xs) else .stuck
def mCompL (mi : ME Src) (vs : List Nat) (g : MG) (t : ME Bool) (e : ME D) : ME (List D) := fun ρ S => (mi ρ S).bind fun src => compI src.watch g t e (unsetE ρ vs) [] src.xs
def mYes : ME Bool := fun _ S => .ok true S

section
variable {X : Cx} {W : WX} {e a b c tg iter : Expr} {es : List Expr} {pos p : Pos} {ma mb mc : ME D} {mr : ME (List D)} {st : Stmt} {sts : List Stmt} {m1 m2 : MS} {mt : ME Bool}
theorem T.firstS {G : Gb} {W : WX} {α : Type} {F : Addr → Prop} {ι : List Addr} {σ : L2.St} {ρ : Env} {S : Store} {H : Hp} {m : ME D} {k : D → M α} {Q : α → Store → (Addr → Prop) → List Addr → Hp → Prop} {Q' : VK}
    (a : At G F ι H σ ρ S) (h : Then G (WS W) F ι H ((m ρ S).bind k) Q)
    (q : ∀ d S1 F1 ι1 H1 v, Nxt G F ι H F1 ι1 S1 H1 → At G F1 ι1 H1 σ ρ S1 → RelD G F1 ι1 H1 d v → Then G (WS W) F1 ι1 H1 (k d S1) Q → Q' v H1) : T G W m σ H Q' :=
  ⟨ρ, S, ι, F, a, Then.wimp (h.bind.mono fun d S1 F1 ι1 H1 n t v r => q d S1 F1 ι1 H1 v n (a.next n) r t) fun c d H' w => w σ⟩
theorem TB.firstS {G : Gb} {W : WX} {α : Type} {F : Addr → Prop} {ι : List Addr} {σ : L2.St} {ρ : Env} {S : Store} {H : Hp} {m : ME Bool} {k : Bool → M α} {Q : α → Store → (Addr → Prop) → List Addr → Hp → Prop} {Q' : Bool → Hp → Prop}
    (a : At G F ι H σ ρ S) (h : Then G (WS W) F ι H ((m ρ S).bind k) Q)
    (q : ∀ b S1 F1 ι1 H1, Nxt G F ι H F1 ι1 S1 H1 → At G F1 ι1 H1 σ ρ S1 → Then G (WS W) F1 ι1 H1 (k b S1) Q → Q' b H1) : TB G W m σ H Q' :=
  ⟨ρ, S, ι, F, a, Then.wimp (h.bind.mono fun b S1 F1 ι1 H1 n t => q b S1 F1 ι1 H1 n (a.next n) t) fun c d H' w => w σ⟩

theorem ds_pass : DS X W (.Pass pos) mNext := PS.imp ps_pass fun E σ H q => by
  obtain ⟨ρ, S, ι, F, a, t⟩ := q
  exact t.now a.r σ rfl a.e
theorem ds_break : DS X W (.Break pos) mBreak := PS.imp ps_break fun E σ H q => by
  obtain ⟨ρ, S, ι, F, a, t⟩ := q
  exact t.now a.r σ rfl a.e
theorem ds_continue : DS X W (.Continue pos) mCont := PS.imp ps_continue fun E σ H q => by
  obtain ⟨ρ, S, ι, F, a, t⟩ := q
  exact t.now a.r σ rfl a.e
theorem ds_expr (he : DE X W e ma) (hs : swapsWith e none pos.line X.env = pure false := by rfl) : DS X W (.Expr e pos) (mDrop ma) := PS.imp (ps_expr he hs) fun E σ H q => by
  obtain ⟨ρ, S, ι, F, a, t⟩ := q
  refine T.firstS a t fun d S1 F1 ι1 H1 v n a1 r t1 => ?_
  exact t1.now a1.r σ rfl a1.e
theorem ds_ret (he : DE X W e ma) : DS X W (.Return (some e) pos) (mRet ma) := PS.imp (ps_ret he) fun E σ H q => by
  obtain ⟨ρ, S, ι, F, a, t⟩ := q
  refine T.firstS a t fun d S1 F1 ι1 H1 v n a1 r t1 => ?_
  exact t1.now a1.r v r
theorem ds_retN : DS X W (.Return none pos) mRetN := PS.imp ps_retN fun E σ H q => by
  obtain ⟨ρ, S, ι, F, a, t⟩ := q
  exact t.now a.r .non (by simp only [RelD, RelP])
theorem gRun_then {G : Gb} {W : Value → Option Addr → Hp → Prop} {F : Addr → Prop} {ι : List Addr} {H : Hp} {g : MG} {d : D} {ρ : Env} {S : Store} {Q : Out → Store → (Addr → Prop) → List Addr → Hp → Prop} (h : Then G W F ι H (gRun g d ρ S) Q) (r : R G F ι S H) : ∃ ρ', g d ρ S = some ρ' ∧ Q (.nx ρ') S F ι H := by
  unfold gRun at h
  split at h
  · rename_i ρ' e
    exact ⟨ρ', e, h.now r⟩
  · exact h.elim
theorem ds_asg {tgt : Expr} {g : MG} {ws : List Nat} (hg : DG X ws tgt g) (he : DE X W e ma) (hs : swapsWithSole [tgt] e pos.line X.env = pure false := by rfl) (hw : swappedStores [tgt] e X.env = pure none := by rfl) (h1 : (assignEach [tgt] X.env).map (·.2) = [assign tgt X.env] := by rfl) : DS X W (.Assign [tgt] e pos) (mAsg g ma) := PS.imp (ps_asg he hg hs hw h1) fun E σ H q => by
  obtain ⟨ρ, S, ι, F, a, t⟩ := q
  refine T.firstS a t fun d S1 F1 ι1 H1 v n a1 r t1 => ?_
  obtain ⟨ρ', e', q⟩ := gRun_then t1 a1.r
  exact ⟨d, ρ, S1, ι1, F1, r, a1, ρ', e', fun σ' h hl _ => q σ' hl h⟩
theorem ds_set (i : Nat) {x : Str} {pos' : Pos} (hN : X.N.Nodup) (he : DE X W e ma) (hi : X.N[i]? = some x := by rfl) (hx : Loc X.env.scope x := by first | exact Or.inl rfl | exact Or.inr rfl) (hs : swapsWith e (some (.Name x pos')) pos.line X.env = pure false := by rfl)
    (hf : X.fn x = true ∨ X.env.scope.names.lookup x = some .local := by first | exact .inl rfl | exact .inr rfl | assumption) : DS X W (.Assign [.Name x pos'] e pos) (mAsg (gNm i) ma) := PS.imp (ps_set hN hi hx he hs hf) fun E σ H q => by
  obtain ⟨ρ, S, ι, F, a, t⟩ := q
  refine T.firstS a t fun d S1 F1 ι1 H1 v n a1 r t1 => ?_
  obtain ⟨ρ', e', q⟩ := gRun_then t1 a1.r
  cases e'
  exact q _ (by simp) (a1.e.set r i)
def IpD (X : Cx) (op : Operator) (f : F2) : Prop :=
  ∃ r : TIp, PIp X op r ∧ ∀ {F : Addr → Prop} {ι : List Addr} {S S' : Store} {H : Hp} {d1 d2 d' : D} {v1 v2 : V} {Q : VK}, R (gb X) F ι S H → RelD (gb X) F ι H d1 v1 → RelD (gb X) F ι H d2 v2 → f d1 d2 S = some (d', S') →
    (∀ F' ι' H' v, Nxt (gb X) F ι H F' ι' S' H' → RelD (gb X) F' ι' H' d' v → Q v H') → r v1 v2 H Q
theorem mVar_then {G : Gb} {W : Value → Option Addr → Hp → Prop} {F : Addr → Prop} {ι : List Addr} {H : Hp} {α : Type} {i : Nat} {ρ : Env} {σ : L2.St} {S : Store} {k : D → M α} {Q : α → Store → (Addr → Prop) → List Addr → Hp → Prop} (a : At G F ι H σ ρ S) (h : Then G W F ι H ((mVar i ρ S).bind k) Q) :
    ∃ d v, σ[i]? = some (some v) ∧ RelD G F ι H d v ∧ Then G W F ι H (k d S) Q := by
  unfold mVar at h
  split at h
  · rename_i d e
    obtain ⟨v, ev, r⟩ := a.e.get e
    exact ⟨d, v, ev, r, h⟩
  · exact h.elim
theorem ds_aug (i : Nat) {x : Str} {op : Operator} {f : F2} {pos' : Pos} (hN : X.N.Nodup) (ho : IpD X op f) (he : DE X W e ma) (hi : X.N[i]? = some x := by rfl) (hx : Loc X.env.scope x := by first | exact Or.inl rfl | exact Or.inr rfl)
    (hf : X.fn x = true ∨ X.env.scope.names.lookup x = some .local := by first | exact .inl rfl | exact .inr rfl | assumption) : DS X W (.AugAssign (.Name x pos') op e pos) (mAug i f ma) := by
  obtain ⟨r, o, k⟩ := ho
  refine PS.imp (ps_aug hN hi hx he o hf) fun E σ H q => ?_
  obtain ⟨ρ, S, ι, F, a, t⟩ := q
  obtain ⟨d0, v0, ev, r0, t⟩ := mVar_then a t
  refine ⟨v0, ev, T.firstS a t fun d S1 F1 ι1 H1 v n a1 r1 t1 => ?_⟩
  obtain ⟨z, S2, ez, q2⟩ := lift_then t1.bind
  refine k a1.r (n.d r0) r1 ez fun F' ι' H' w n2 rw => ?_
  exact (q2 F' ι' H' n2).now n2.r _ (by simp) ((a1.e.mono n2).set rw i)

theorem dss_nil : DSs X W [] mNext := PSs.imp pss_nil fun E σ H q => by
  obtain ⟨ρ, S, ι, F, a, t⟩ := q
  exact t.now a.r σ rfl a.e
theorem dss_one (h : DS X W st m1) : DSs X W [st] m1 := pss_one h
theorem seq_imp {E : Ends} {σ : L2.St} {H : Hp} (q : TSt (gb X) W (mSeq m1 m2) E σ H) : tSeq (TSt (gb X) W m1) (TSt (gb X) W m2) E σ H := by
  obtain ⟨ρ, S, ι, F, a, t⟩ := q
  refine ⟨ρ, S, ι, F, a, t.bind.mono fun o S1 F1 ι1 H1 n t1 => ?_⟩
  cases o with
  | nx ρ1 => exact fun σ1 hl r1 => ⟨ρ1, S1, ι1, F1, ⟨r1, n.r⟩, by rw [hl]; exact t1⟩
  | rt d => exact t1.now n.r
  | bk ρ1 => exact t1.now n.r
  | ct ρ1 => exact t1.now n.r
theorem dss_cons (h1 : DS X W st m1) (h2 : DSs X W sts m2) : DSs X W (st :: sts) (mSeq m1 m2) := PSs.imp (pss_cons h1 h2) fun E σ H q => seq_imp q
theorem ds_if {sa sb : List Stmt} (hc : DT X W c mt) (ha : DSs X W sa m1) (hb : DSs X W sb m2) : DS X W (.If c sa sb pos) (mIfS mt m1 m2) := PS.imp (ps_if hc ha hb) fun E σ H q => by
  obtain ⟨ρ, S, ι, F, a, t⟩ := q
  refine TB.firstS a t fun k S1 F1 ι1 H1 n a1 t1 => ?_
  cases k with
  | true =>
    rw [if_pos rfl] at t1 ⊢
    exact ⟨ρ, S1, ι1, F1, a1, t1⟩
  | false =>
    rw [if_neg (by decide)] at t1 ⊢
    exact ⟨ρ, S1, ι1, F1, a1, t1⟩

/-! ### for -/
theorem TIt.firstS {G : Gb} {W : WX} {α : Type} {F : Addr → Prop} {ι : List Addr} {σ : L2.St} {ρ : Env} {S : Store} {H : Hp} {m : ME Src} {k : Src → M α} {Q : α → Store → (Addr → Prop) → List Addr → Hp → Prop} {Q' : It → Hp → Prop}
    (a : At G F ι H σ ρ S) (h : Then G (WS W) F ι H ((m ρ S).bind k) Q)
    (q : ∀ src S1 F1 ι1 H1 J, Nxt G F ι H F1 ι1 S1 H1 → At G F1 ι1 H1 σ ρ S1 → ItOk G F1 ι1 H1 J src → Then G (WS W) F1 ι1 H1 (k src S1) Q → Q' J H1) : TIt G W m σ H Q' :=
  ⟨ρ, S, ι, F, a, Then.wimp (h.bind.mono fun src S1 F1 ι1 H1 n t J ok => q src S1 F1 ι1 H1 J n (a.next n) ok t) fun c d H' w => w σ⟩
theorem loop_for {G : Gb} {W : WX} {g : MG} {tg : TG} {ws : List Nat} (hg : ∀ v σ H Q, TGt G ws g v σ H Q → tg v σ H Q) {b : MS} {J : It} {F : Addr → Prop} {ι : List Addr} {H : Hp} {σ : L2.St} {ρ : Env} {S : Store} {src : Src} {E : Ends} (a : At G F ι H σ ρ S) (ok : ItOk G F ι H J src)
    (t : Then G (WS W) F ι H (loopI src.watch g b src.xs ρ S) (outOk G σ.length E)) :
    ∃ Wf : Nat → Nat → L2.St → Hp → Prop, (∃ m, Wf 0 m σ H) ∧ ∀ i m σ H, Wf i m σ H →
      (J.stop i H ∧ E.nx σ H) ∨ (J.go i H ∧ ∃ N : L2.St → Hp → Prop, (∀ σ' H', N σ' H' → ∃ m', m' < m ∧ Wf (i + 1) m' σ' H') ∧ ∀ x H', J.yld i H x H' → tg x σ H' fun σ2 H2 => TSt G W b { E with nx := N, ct := N, bk := E.nx } σ2 H2) := by
  refine ⟨fun i m σ1 H1 => ∃ xs ρ1 S1 F1 ι1, xs = src.xs.drop i ∧ m = xs.length ∧ σ1.length = σ.length ∧ At G F1 ι1 H1 σ1 ρ1 S1 ∧ Nxt G F ι H F1 ι1 S1 H1 ∧ Then G (WS W) F1 ι1 H1 (loopI src.watch g b xs ρ1 S1) (outOk G σ.length E),
    ⟨_, src.xs, ρ, S, F, ι, rfl, rfl, rfl, a, Nxt.refl a.r, t⟩, ?_⟩
  rintro i m σ1 H1 ⟨xs, ρ1, S1, F1, ι1, ex, em, el, a1, n1, t1⟩
  cases xs with
  | nil =>
    unfold loopI at t1
    split at t1
    · rename_i w
      have hl : src.xs.length ≤ i := by
        have := congrArg List.length ex
        simp at this
        omega
      exact .inl ⟨((ok F1 ι1 H1 S1 n1 w) i).1 hl, t1.now a1.r σ1 el a1.e⟩
    · exact t1.elim
  | cons x xs =>
    unfold loopI at t1
    split at t1
    · rename_i w
      have hx : src.xs[i]? = some x := by
        have : (src.xs.drop i)[0]? = some x := by rw [← ex]; rfl
        simpa using this
      have hd : xs = src.xs.drop (i + 1) := by
        have h2 : src.xs.drop (i + 1) = (src.xs.drop i).drop 1 := by rw [List.drop_drop]
        rw [h2, ← ex]
        rfl
      obtain ⟨go, yl⟩ := ((ok F1 ι1 H1 S1 n1 w) i).2 x hx
      refine .inr ⟨go, fun σ2 H2 => ∃ ρ2 S2 F2 ι2, σ2.length = σ.length ∧ At G F2 ι2 H2 σ2 ρ2 S2 ∧ Nxt G F ι H F2 ι2 S2 H2 ∧ Then G (WS W) F2 ι2 H2 (loopI src.watch g b xs ρ2 S2) (outOk G σ.length E), ?_, ?_⟩
      · rintro σ2 H2 ⟨ρ2, S2, F2, ι2, el2, a2, n2, t2⟩
        refine ⟨xs.length, by rw [em]; simp, xs, ρ2, S2, F2, ι2, hd, rfl, el2, a2, n2, t2⟩
      · intro v H2 hy
        obtain ⟨nx, rx⟩ := yl v H2 hy
        refine hg _ _ _ _ ?_
        unfold gBind at t1
        split at t1
        · rename_i ρ' eg
          refine ⟨x, ρ1, S1, ι1, F1, rx, a1.next nx, ρ', eg, fun σ' hr hl _ => ?_⟩
          refine ⟨ρ', S1, ι1, F1, ⟨hr, nx.r⟩, ?_⟩
          refine (Then.later t1 nx).bind.mono fun o S3 F3 ι3 H3 n3 t3 => ?_
          have el' : σ'.length = σ.length := hl.trans el
          cases o with
          | nx ρ3 => exact fun σ3 hl3 r3 => ⟨ρ3, S3, F3, ι3, hl3.trans el', ⟨r3, n3.r⟩, n1.trans (nx.trans n3), t3⟩
          | ct ρ3 => exact fun σ3 hl3 r3 => ⟨ρ3, S3, F3, ι3, hl3.trans el', ⟨r3, n3.r⟩, n1.trans (nx.trans n3), t3⟩
          | bk ρ3 => exact fun σ3 hl3 r3 => t3.now n3.r σ3 (hl3.trans el') r3
          | rt d => exact t3.now n3.r
        · exact t1.elim
    · exact t1.elim
theorem ds_for {mi : ME Src} {g : MG} {ws : List Nat} {body : List Stmt} (hp : PassesOwn (model X.prog X.w) X.A X.env X.xe) (hc : X.calm = true) (hi : DI X W tg iter mi) (hg : DG X ws tg g) (hb : DSs X W body m1)
    (hs : ∀ x, foldedSetIterable iter X.env x = pure x := by intro _; rfl) : DS X W (.For tg iter body [] pos) (mFor mi g m1) := PS.imp (ps_for hp hc hi hg hb hs) fun E σ H q => by
  obtain ⟨ρ, S, ι, F, a, t⟩ := q
  refine TIt.firstS a t fun src S1 F1 ι1 H1 J n a1 ok t1 => ?_
  exact loop_for (fun _ _ _ _ h => h) a1 ok t1

/-! ### while -/
theorem ds_while (n : Nat) {body : List Stmt} (hp : PassesOwn (model X.prog X.w) X.A X.env X.xe) (hc : DT X W c mt) (hb : DSs X W body m1) : DS X W (.While c body [] pos) (mWhile mt m1 n) := PS.imp (ps_while hp hc hb) fun E σ H q => by
  obtain ⟨ρ, S, ι, F, a, t⟩ := q
  refine ⟨fun m σ1 H1 => ∃ ρ1 S1 F1 ι1, σ1.length = σ.length ∧ At (gb X) F1 ι1 H1 σ1 ρ1 S1 ∧ Then (gb X) (WS W) F1 ι1 H1 (mWhile mt m1 m ρ1 S1) (outOk (gb X) σ.length E), ⟨n, ρ, S, F, ι, rfl, a, t⟩, ?_⟩
  rintro m σ1 H1 ⟨ρ1, S1, F1, ι1, el, a1, t1⟩
  cases m with
  | zero => exact t1.elim
  | succ m =>
    refine TB.firstS a1 t1 fun k S2 F2 ι2 H2 n2 a2 t2 => ?_
    cases k with
    | true =>
      rw [if_pos rfl] at t2 ⊢
      refine ⟨fun σ3 H3 => ∃ ρ3 S3 F3 ι3, σ3.length = σ.length ∧ At (gb X) F3 ι3 H3 σ3 ρ3 S3 ∧ Then (gb X) (WS W) F3 ι3 H3 (mWhile mt m1 m ρ3 S3) (outOk (gb X) σ.length E), fun σ' H' h => ⟨m, Nat.lt_succ_self _, h⟩, ?_⟩
      refine ⟨ρ1, S2, ι2, F2, a2, t2.bind.mono fun o S3 F3 ι3 H3 n3 t3 => ?_⟩
      cases o with
      | nx ρ3 => exact fun σ3 hl3 r3 => ⟨ρ3, S3, F3, ι3, hl3.trans el, ⟨r3, n3.r⟩, t3⟩
      | ct ρ3 => exact fun σ3 hl3 r3 => ⟨ρ3, S3, F3, ι3, hl3.trans el, ⟨r3, n3.r⟩, t3⟩
      | bk ρ3 => exact fun σ3 hl3 r3 => t3.now n3.r σ3 (hl3.trans el) r3
      | rt d => exact t3.now n3.r
    | false =>
      rw [if_neg (by decide)] at t2 ⊢
      exact t2.now a2.r σ1 el a2.e

/-! ### comprehensions -/
abbrev W0 : WX := fun _ _ _ _ => False
theorem relE_wipe {G : Gb} {F : Addr → Prop} {ι : List Addr} {H : Hp} {ρ : Env} {σ : L2.St} (h : RelE G F ι H ρ σ) : ∀ vs : List Nat, RelE G F ι H (unsetE ρ vs) (wipe σ vs)
  | [] => h
  | v :: vs => (relE_wipe h vs).unset v
theorem noErr_then {G : Gb} {W W' : Value → Option Addr → Hp → Prop} {F : Addr → Prop} {ι : List Addr} {H : Hp} {α β : Type} {r : Res α} {k : α → M β} {Q : β → Store → (Addr → Prop) → List Addr → Hp → Prop} (h : Then G W F ι H ((noErr r).bind k) Q) :
    Then G W' F ι H r (fun a S' _ _ _ => Then G W F ι H (k a S') Q) := by
  cases r with
  | ok a S' => exact fun _ _ _ _ => h
  | err e S' => exact h.elim
  | stuck => exact h.elim
/-- an untracked object is changed -/
theorem Nxt.own {G : Gb} {F F' : Addr → Prop} {ι ι' : List Addr} {H H' : Hp} {S : Store} {a : Addr} {xs : List V} {o : HO} (n : Nxt G F ι H F' ι' S H') (ha : H a = none) (hi : a ∉ ι') (hf : ¬ F' a) (ho : H' a = some (.lst xs)) : Nxt G F ι H F' ι' S (upd H' a o) := by
  have kw : KeepW F' H' (upd H' a o) := fun b u e h => by
    have hb : b ≠ a := fun z => by
      subst z
      rcases h with h | h
      · exact hf h
      · rw [ho] at e
        cases e
        cases h
    rw [upd_ne hb]
    exact e
  refine ⟨n.sub, fun b u e h => ?_, n.pre, n.nw, n.nF, fun b u e => let ⟨u', e'⟩ := n.old b u e; old_upd b u' e', ⟨n.r.len, n.r.nd, n.r.nf, fun b h => fz_upd n.r hf h, tabs_put ho rfl n.r.tb, fun m b x e q => ?_⟩⟩
  · rw [upd_ne (fun z => by subst z; rw [ha] at e; cases e)]
    exact n.keep b u e h
  · exact RelO.mono kw (fun _ h => h) (List.prefix_refl _) (upd_ne fun z => hi (z ▸ List.mem_of_getElem? e)) (n.r.ob m b x e q)
/-- a list at a that nobody else holds becomes frozen | comes into the store -/
theorem Nxt.own_frz {G : Gb} {F F' : Addr → Prop} {ι ι' : List Addr} {H H' : Hp} {S : Store} {a : Addr} {xs : List V} (n : Nxt G F ι H F' ι' S H') (ha : H a = none) (hi : a ∉ ι') (ho : H' a = some (.lst xs)) : Nxt G F ι H (fun b => F' b ∨ b = a) ι' S H' where
  sub := fun b h => .inl (n.sub b h)
  keep := n.keep
  pre := n.pre
  nw := n.nw
  nF := fun b h z => h.elim (fun h => n.nF b h z) fun h => by rw [h]; exact ha
  old := n.old
  r :=
    { len := n.r.len
      nd := n.r.nd
      nf := fun b h z => z.elim (n.r.nf b h) fun z => hi (z ▸ h)
      fz := fun b h => h.elim (n.r.fz b) fun h => ⟨.lst xs, by rw [h]; exact ho, rfl⟩
      tb := n.r.tb
      ob := fun m b x e q => RelO.mono (F' := fun b => F' b ∨ b = a) (fun b u e _ => e) (fun _ h => Or.inl h) (List.prefix_refl _) rfl (n.r.ob m b x e q) }
theorem Nxt.own_new {G : Gb} {F F' : Addr → Prop} {ι ι' : List Addr} {H H' : Hp} {S : Store} {a : Addr} {ds : List D} {xs : List V} (n : Nxt G F ι H F' ι' S H') (ha : H a = none) (hi : a ∉ ι') (hf : ¬ F' a) (ho : H' a = some (.lst xs)) (rd : RelDs G F' ι' H' ds xs) (hw : (O.lst ds).lo S.objs.length = true) :
    Nxt G F ι H F' (ι' ++ [a]) (S.new (.lst ds) hw) H' where
  sub := n.sub
  keep := n.keep
  pre := n.pre.trans (List.prefix_append _ _)
  nw := fun b h z => by
    rcases List.mem_append.mp h with h | h
    · exact n.nw b h z
    · have e : b = a := by simpa using h
      rw [e]
      exact ha
  nF := n.nF
  old := n.old
  r :=
    { len := by simp [Store.new, n.r.len]
      nd := by
        rw [List.nodup_append]
        refine ⟨n.r.nd, by simp, fun b hb c hc => ?_⟩
        have e : c = a := by simpa using hc
        rw [e]
        exact fun z => hi (z ▸ hb)
      nf := fun b h => by
        rcases List.mem_append.mp h with h | h
        · exact n.r.nf b h
        · have e : b = a := by simpa using h
          rw [e]
          exact hf
      fz := n.r.fz
      tb := n.r.tb
      ob := fun m b x e q => by
        by_cases hm : m < ι'.length
        · rw [List.getElem?_append_left hm] at e
          have q' : S.objs[m]? = some x := by
            have hm' : m < S.objs.length := by rw [← n.r.len]; exact hm
            simpa [Store.new, List.getElem?_append_left hm'] using q
          exact RelO.mono (fun b u e _ => e) (fun _ h => h) (List.prefix_append _ _) rfl (n.r.ob m b x e q')
        · have hm2 : m = ι'.length := by
            have := (List.getElem?_eq_some_iff.mp e).1
            simp at this
            omega
          subst hm2
          simp at e
          subst e
          have q' : x = .lst ds := by
            have : (S.objs ++ [O.lst ds])[ι'.length]? = some x := q
            rw [n.r.len] at this
            simp at this
            exact this.symm
          subst q'
          exact ⟨xs, ho, rd.mono (fun b u e _ => e) (fun _ h => h) (List.prefix_append _ _)⟩ }
theorem Nxt.hole {G : Gb} {F F' : Addr → Prop} {ι ι' : List Addr} {H H' : Hp} {S : Store} {a : Addr} {o : HO} (n : Nxt G F ι H F' ι' S H') (ho : H a = some o) (hi : a ∉ ι) (hf : ¬ F a) (ht : isTbl o = false := by rfl) : H' a = some o ∧ a ∉ ι' ∧ ¬ F' a :=
  ⟨n.keep a o ho (.inr (.inr ⟨hi, ht⟩)), (fun z => by
    have := n.nw a z hi
    rw [ho] at this
    cases this), (fun z => by
    have := n.nF a z hf
    rw [ho] at this
    cases this)⟩
theorem wipe_sub (σ : L2.St) (vs : List Nat) : ∀ us : List Nat, (∀ u ∈ us, u ∈ vs) → wipe (wipe σ us) vs = wipe σ vs
  | [], _ => rfl
  | u :: us, h => by
    show wipe ((wipe σ us).set u none) vs = wipe σ vs
    rw [wipe_set, if_pos (h u List.mem_cons_self)]
    exact wipe_sub σ vs us fun x hx => h x (List.mem_cons_of_mem _ hx)
variable {vs : List Nat} {g : MG} {me : ME D}
/-- the comprehension's turns; fin: what its list becomes -/
theorem comp_imp {G : Gb} {W : WX} {mi : ME Src} {tg : TG} {tt : TT} {te : TE} {fin : FL} (hg : ∀ v σ H Q, TGt G vs g v σ H Q → tg v σ H Q) (ht : ∀ σ H Q, TB G W0 mt σ H Q → tt σ H Q) (he : ∀ σ H Q, T G W0 me σ H Q → te σ H Q)
    (hfin : ∀ {F F' : Addr → Prop} {ι ι' : List Addr} {H H' : Hp} {S S' : Store} {a : Addr} {xs : List V} {ds : List D} {d' : D}, Nxt G F ι H F' ι' S H' → H a = none → a ∉ ι' → ¬ F' a → H' a = some (.lst xs) → RelDs G F' ι' H' ds xs → fin ds S = some (d', S') →
      ∃ F'' ι'', Nxt G F ι H F'' ι'' S' H' ∧ RelD G F'' ι'' H' d' (.ref a)) {σ : L2.St} {H : Hp} {Q : VK} (q : T G W (mCallB fin (mCompL mi vs g mt me)) σ H Q) : tLc (TIt G W mi) tg tt te vs σ H Q := by
  obtain ⟨ρ, S, ι, F, a, t⟩ := q
  have t' : Then G (fun c d H' => W c d σ H') F ι H ((mi ρ S).bind fun src => fun S => (compI src.watch g mt me (unsetE ρ vs) [] src.xs S).bind fun ds => lift (fin ds)) (fun d _ F' ι' H' => ∀ v, RelD G F' ι' H' d v → Q v H') := by
    unfold mCallB mCompL at t
    cases e : mi ρ S with
    | ok src S1 => rw [e] at t; exact t
    | err x S1 => rw [e] at t; exact t
    | stuck => rw [e] at t; exact t
  refine ⟨ρ, S, ι, F, a, t'.bind.mono fun src S1 F1 ι1 H1 n1 t1 J ok L hL => ?_⟩
  have a1 := a.next n1
  refine ⟨fun i m H2 => ∃ xs acc S2 F2 ι2 us, xs = src.xs.drop i ∧ m = xs.length ∧ Nxt G F1 ι1 H1 F2 ι2 S2 H2 ∧ L ∉ ι2 ∧ ¬ F2 L ∧ H2 L = some (.lst us) ∧ RelDs G F2 ι2 H2 acc us ∧
      Then G (fun c d H' => W c d σ H') F1 ι1 H1 ((compI src.watch g mt me (unsetE ρ vs) acc xs S2).bind fun ds => lift (fin ds)) (fun d _ F' ι' H' => ∀ v, RelD G F' ι' H' d v → Q v H'),
    ⟨_, src.xs, [], S1, F1, ι1, [], rfl, rfl, Nxt.fresh n1.r hL, fun z => n1.r.ne hL z rfl, n1.r.nF hL, upd_same, relDs_nil', t1⟩, ?_⟩
  rintro i m H2 ⟨xs, acc, S2, F2, ι2, us, ex, em, n2, hi, hf, hus, racc, t2⟩
  cases xs with
  | nil =>
    unfold compI at t2
    split at t2
    · rename_i w
      have hl : src.xs.length ≤ i := by
        have := congrArg List.length ex
        simp at this
        omega
      refine .inl ⟨((ok F2 ι2 H2 S2 n2 w) i).1 hl, ?_⟩
      obtain ⟨d', S3, e3, q3⟩ := lift_then t2
      obtain ⟨F3, ι3, n3, r3⟩ := hfin n2 hL hi hf hus racc e3
      exact q3 F3 ι3 H2 n3 _ r3
    · exact t2.elim
  | cons x xs =>
    unfold compI at t2
    split at t2
    · rename_i w
      have hx : src.xs[i]? = some x := by
        have : (src.xs.drop i)[0]? = some x := by rw [← ex]; rfl
        simpa using this
      have hd : xs = src.xs.drop (i + 1) := by
        have h2 : src.xs.drop (i + 1) = (src.xs.drop i).drop 1 := by rw [List.drop_drop]
        rw [h2, ← ex]
        rfl
      obtain ⟨go, yl⟩ := ((ok F2 ι2 H2 S2 n2 w) i).2 x hx
      refine .inr ⟨go, fun H3 => ∃ acc S3 F3 ι3 us, Nxt G F1 ι1 H1 F3 ι3 S3 H3 ∧ L ∉ ι3 ∧ ¬ F3 L ∧ H3 L = some (.lst us) ∧ RelDs G F3 ι3 H3 acc us ∧
          Then G (fun c d H' => W c d σ H') F1 ι1 H1 ((compI src.watch g mt me (unsetE ρ vs) acc xs S3).bind fun ds => lift (fin ds)) (fun d _ F' ι' H' => ∀ v, RelD G F' ι' H' d v → Q v H'), ?_, ?_⟩
      · rintro H3 ⟨acc, S3, F3, ι3, us, n3, i3, f3, u3, r3, t3⟩
        exact ⟨xs.length, by rw [em]; simp, xs, acc, S3, F3, ι3, us, hd, rfl, n3, i3, f3, u3, r3, t3⟩
      · intro v H3 hy
        obtain ⟨nx, rx⟩ := yl v H3 hy
        have n23 := n2.trans nx
        have aw : At G F2 ι2 H3 (wipe σ vs) (unsetE ρ vs) S2 := ⟨relE_wipe ((a1.e.mono n23)) vs, nx.r⟩
        refine hg _ _ _ _ ?_
        split at t2
        · exact t2.elim
        · rename_i ρ' eg
          refine ⟨x, unsetE ρ vs, S2, ι2, F2, rx, aw, ρ', eg, fun σ' hr hl hw => ⟨hw.trans (wipe_sub σ vs vs fun _ h => h), ?_⟩⟩
          have t2' : Then G (fun c d H' => W c d σ H') F1 ι1 H1 ((noErr (mt ρ' S2)).bind fun k S => (if k = true then fun S => (noErr (me ρ' S)).bind fun y => fun S => if acc.length < 100000 then compI src.watch g mt me (unsetE ρ vs) (acc ++ [y]) xs S else .stuck else compI src.watch g mt me (unsetE ρ vs) acc xs) S |>.bind fun ds => lift (fin ds)) (fun d _ F' ι' H' => ∀ v, RelD G F' ι' H' d v → Q v H') := by
            cases ek : noErr (mt ρ' S2) with
            | ok k S3 => rw [ek] at t2; exact t2
            | err z S3 => rw [ek] at t2; exact t2
            | stuck => rw [ek] at t2; exact t2
          refine ht _ _ _ ⟨ρ', S2, ι2, F2, ⟨hr, nx.r⟩, (Then.later (noErr_then t2') n23).mono fun k S4 F4 ι4 H4 n4 t4 => ?_⟩
          have h2 := nx.hole hus hi hf
          have h4 := n4.hole h2.1 h2.2.1 h2.2.2
          cases k with
          | true =>
            rw [if_pos rfl] at t4
            show if (true : Bool) = true then _ else _
            rw [if_pos rfl]
            have t4' : Then G (fun c d H' => W c d σ H') F1 ι1 H1 ((noErr (me ρ' S4)).bind fun y S => (if acc.length < 100000 then compI src.watch g mt me (unsetE ρ vs) (acc ++ [y]) xs S else .stuck).bind fun ds => lift (fin ds)) (fun d _ F' ι' H' => ∀ v, RelD G F' ι' H' d v → Q v H') := by
              cases ek : noErr (me ρ' S4) with
              | ok k S3 => rw [ek] at t4; exact t4
              | err z S3 => rw [ek] at t4; exact t4
              | stuck => rw [ek] at t4; exact t4
            refine he _ _ _ ⟨ρ', S4, ι4, F4, ⟨hr.mono n4, n4.r⟩, (Then.later (noErr_then t4') (n23.trans n4)).mono fun y S5 F5 ι5 H5 n5 t5 v5 r5 => ?_⟩
            have h5 := n5.hole h4.1 h4.2.1 h4.2.2
            split at t5
            · rename_i hlen
              have racc5 : RelDs G F5 ι5 H5 acc us := n5.ds (n4.ds (nx.ds racc))
              refine ⟨us, h5.1, ?_, acc ++ [y], S5, F5, ι5, us ++ [v5], Nxt.own ((n23.trans n4).trans n5) hL h5.2.1 h5.2.2 h5.1, h5.2.1, h5.2.2, upd_same, ?_, t5⟩
              · rw [← relDs_len racc5]
                exact Nat.lt_of_lt_of_le hlen (szOk (Nat.le_refl _))
              · refine (relDs_append racc5 (relDs_cons.mpr ⟨r5, relDs_nil'⟩)).mono ?_ (fun _ h => h) (List.prefix_refl _)
                intro b u e h
                have hb : b ≠ L := fun z => by
                  subst z
                  rcases h with h | h
                  · exact h5.2.2 h
                  · rw [h5.1] at e
                    cases e
                    cases h
                rw [upd_ne hb]
                exact e
            · exact t5.elim
          | false =>
            rw [if_neg (by decide)] at t4
            show if (false : Bool) = true then _ else _
            rw [if_neg (by decide)]
            exact ⟨acc, S4, F4, ι4, us, n23.trans n4, h4.2.1, h4.2.2, h4.1, n4.ds (nx.ds racc), t4⟩
    · exact t2.elim
theorem fin_F {G : Gb} {F F' : Addr → Prop} {ι ι' : List Addr} {H H' : Hp} {S S' : Store} {a : Addr} {xs : List V} {ds : List D} {d' : D} (n : Nxt G F ι H F' ι' S H') (ha : H a = none) (hi : a ∉ ι') (hf : ¬ F' a) (ho : H' a = some (.lst xs)) (r : RelDs G F' ι' H' ds xs) (e : fLstF ds S = some (d', S')) :
    ∃ F'' ι'', Nxt G F ι H F'' ι'' S' H' ∧ RelD G F'' ι'' H' d' (.ref a) := by
  unfold fLstF at e
  split at e
  · split at e
    · rename_i ps ep
      cases e
      refine ⟨_, _, n.own_frz ha hi ho, ?_⟩
      simp only [RelD, RelP]
      exact ⟨a, xs, rfl, .inr rfl, ho, (pures_rel ep r).mono (fun b u e _ => e) fun _ h => .inl h⟩
    · cases e
  · cases e
theorem fin_N {G : Gb} {F F' : Addr → Prop} {ι ι' : List Addr} {H H' : Hp} {S S' : Store} {a : Addr} {xs : List V} {ds : List D} {d' : D} (n : Nxt G F ι H F' ι' S H') (ha : H a = none) (hi : a ∉ ι') (hf : ¬ F' a) (ho : H' a = some (.lst xs)) (r : RelDs G F' ι' H' ds xs) (e : fLst ds S = some (d', S')) :
    ∃ F'' ι'', Nxt G F ι H F'' ι'' S' H' ∧ RelD G F'' ι'' H' d' (.ref a) := by
  unfold fLst at e
  split at e
  · split at e
    · rename_i hw
      cases e
      refine ⟨_, _, n.own_new ha hi hf ho r hw, ?_⟩
      simp only [RelD]
      exact ⟨a, rfl, by rw [← n.r.len]; simp⟩
    · cases e
  · cases e
end
end DL
set_option maxHeartbeats 2000000
/-! DLFn: comprehensions as expressions, defs, calls. -/
namespace DL
open PySem PySem.Spec PyProof.Rows L2
variable [HasT]

section
variable {X : Cx} {W : WX} {e a b c tg iter elt : Expr} {es ifs : List Expr} {pos p : Pos} {mt : ME Bool} {me : ME D} {mi : ME Src} {g : MG} {scope : Scope} {own : List (Str × Nat)}
abbrev DTs (X : Cx) (W : WX) (e : List Expr) (m : ME Bool) : Prop := PTs X e (TB (gb X) W m)
theorem PTs.imp {X : Cx} {e : List Expr} {t t' : TT} (h : PTs X e t) (i : ∀ σ H Q, t' σ H Q → t σ H Q) : PTs X e t' := ⟨fun pins s σ H Q I q => h.run pins s σ H Q I (i σ H Q q)⟩
theorem dts_nil : DTs X W [] mYes := PTs.imp pts_nil fun σ H Q q => by
  obtain ⟨ρ, S, ι, F, a, t⟩ := q
  exact t.now a.r
theorem dts_one (h : DT X W c mt) : DTs X W [c] mt := pts_one h
/-- [elt for tg in iter if ..], the list frozen at once | in the store -/
theorem de_lcF (hc : X.calm = true) (hN : X.N.Nodup) (ok : BlkOk X.N X.env.scope scope own) (hi : DI X W tg iter mi)
    (hg : ∀ (s : Shared) (H : Hp) (C : Addr) (cl : List (Str × Addr)) (fp : List Addr), DG (X.blk s H scope (compEnvC scope cl C X.env) fp) (own.map (·.2)) tg g)
    (ht : ∀ (s : Shared) (H : Hp) (C : Addr) (cl : List (Str × Addr)) (fp : List Addr), DTs (X.blk s H scope (compEnvC scope cl C X.env) fp) W0 ifs mt)
    (he : ∀ (s : Shared) (H : Hp) (C : Addr) (cl : List (Str × Addr)) (fp : List Addr), DE (X.blk s H scope (compEnvC scope cl C X.env) fp) W0 elt me) (hs : ∀ x, foldedSetIterable iter X.env x = pure x := by intro _; rfl) :
    DE X W (.ListComp elt [⟨tg, iter, ifs, 0⟩] scope pos) (mCallB fLstF (mCompL mi (own.map (·.2)) g mt me)) :=
  PE.imp (pe_lc hc hN hi ok hg ht he hs) fun σ H Q q => comp_imp (fun _ _ _ _ h => h) (fun _ _ _ h => h) (fun _ _ _ h => h) (fun n ha hi hf ho r e => fin_F n ha hi hf ho r e) q
theorem de_lc (hc : X.calm = true) (hN : X.N.Nodup) (ok : BlkOk X.N X.env.scope scope own) (hi : DI X W tg iter mi)
    (hg : ∀ (s : Shared) (H : Hp) (C : Addr) (cl : List (Str × Addr)) (fp : List Addr), DG (X.blk s H scope (compEnvC scope cl C X.env) fp) (own.map (·.2)) tg g)
    (ht : ∀ (s : Shared) (H : Hp) (C : Addr) (cl : List (Str × Addr)) (fp : List Addr), DTs (X.blk s H scope (compEnvC scope cl C X.env) fp) W0 ifs mt)
    (he : ∀ (s : Shared) (H : Hp) (C : Addr) (cl : List (Str × Addr)) (fp : List Addr), DE (X.blk s H scope (compEnvC scope cl C X.env) fp) W0 elt me) (hs : ∀ x, foldedSetIterable iter X.env x = pure x := by intro _; rfl) :
    DE X W (.ListComp elt [⟨tg, iter, ifs, 0⟩] scope pos) (mCallB fLst (mCompL mi (own.map (·.2)) g mt me)) :=
  PE.imp (pe_lc hc hN hi ok hg ht he hs) fun σ H Q q => comp_imp (fun _ _ _ _ h => h) (fun _ _ _ h => h) (fun _ _ _ h => h) (fun n ha hi hf ho r e => fin_N n ha hi hf ho r e) q
/-- y = [..] -/
theorem asg_imp {i : Nat} {m : ME D} {t : TE} (hT : ∀ σ H Q, T (gb X) W m σ H Q → t σ H Q) {E : Ends} {σ : L2.St} {H : Hp} (q : TSt (gb X) W (mAsg (gNm i) m) E σ H) : tAsg t (gName i) E σ H := by
  obtain ⟨ρ, S, ι, F, a, t⟩ := q
  refine hT _ _ _ (T.firstS a t fun d S1 F1 ι1 H1 v n a1 r t1 => ?_)
  obtain ⟨ρ', e', q⟩ := gRun_then t1 a1.r
  cases e'
  exact q _ (by simp) (a1.e.set r i)
theorem ds_setLcF (i : Nat) {y : Str} {py spos : Pos} (hc : X.calm = true) (hN : X.N.Nodup) (ok : BlkOk X.N X.env.scope scope own) (hi : DI X W tg iter mi)
    (hg : ∀ (s : Shared) (H : Hp) (C : Addr) (cl : List (Str × Addr)) (fp : List Addr), DG (X.blk s H scope (compEnvC scope cl C X.env) fp) (own.map (·.2)) tg g)
    (ht : ∀ (s : Shared) (H : Hp) (C : Addr) (cl : List (Str × Addr)) (fp : List Addr), DTs (X.blk s H scope (compEnvC scope cl C X.env) fp) W0 ifs mt)
    (he : ∀ (s : Shared) (H : Hp) (C : Addr) (cl : List (Str × Addr)) (fp : List Addr), DE (X.blk s H scope (compEnvC scope cl C X.env) fp) W0 elt me)
    (hsw : swapsWith (.ListComp elt [⟨tg, iter, ifs, 0⟩] scope pos) (some (.Name y py)) spos.line X.env = pure true) (hy : X.N[i]? = some y := by rfl) (hyl : X.env.scope.names.lookup y = some .local := by rfl) (hs : ∀ x, foldedSetIterable iter X.env x = pure x := by intro _; rfl) :
    DS X W (.Assign [.Name y py] (.ListComp elt [⟨tg, iter, ifs, 0⟩] scope pos) spos) (mAsg (gNm i) (mCallB fLstF (mCompL mi (own.map (·.2)) g mt me))) :=
  PS.imp (ps_setLc hc hN hy hyl hsw hi ok hg ht he hs) fun E σ H q => asg_imp (fun σ H Q q => comp_imp (fun _ _ _ _ h => h) (fun _ _ _ h => h) (fun _ _ _ h => h) (fun n ha hi hf ho r e => fin_F n ha hi hf ho r e) q) q
theorem ds_setLc (i : Nat) {y : Str} {py spos : Pos} (hc : X.calm = true) (hN : X.N.Nodup) (ok : BlkOk X.N X.env.scope scope own) (hi : DI X W tg iter mi)
    (hg : ∀ (s : Shared) (H : Hp) (C : Addr) (cl : List (Str × Addr)) (fp : List Addr), DG (X.blk s H scope (compEnvC scope cl C X.env) fp) (own.map (·.2)) tg g)
    (ht : ∀ (s : Shared) (H : Hp) (C : Addr) (cl : List (Str × Addr)) (fp : List Addr), DTs (X.blk s H scope (compEnvC scope cl C X.env) fp) W0 ifs mt)
    (he : ∀ (s : Shared) (H : Hp) (C : Addr) (cl : List (Str × Addr)) (fp : List Addr), DE (X.blk s H scope (compEnvC scope cl C X.env) fp) W0 elt me)
    (hsw : swapsWith (.ListComp elt [⟨tg, iter, ifs, 0⟩] scope pos) (some (.Name y py)) spos.line X.env = pure true) (hy : X.N[i]? = some y := by rfl) (hyl : X.env.scope.names.lookup y = some .local := by rfl) (hs : ∀ x, foldedSetIterable iter X.env x = pure x := by intro _; rfl) :
    DS X W (.Assign [.Name y py] (.ListComp elt [⟨tg, iter, ifs, 0⟩] scope pos) spos) (mAsg (gNm i) (mCallB fLst (mCompL mi (own.map (·.2)) g mt me))) :=
  PS.imp (ps_setLc hc hN hy hyl hsw hi ok hg ht he hs) fun E σ H q => asg_imp (fun σ H Q q => comp_imp (fun _ _ _ _ h => h) (fun _ _ _ h => h) (fun _ _ _ h => h) (fun n ha hi hf ho r e => fin_N n ha hi hf ho r e) q) q
end

/-! ### defs, with nothing that is being shown around them -/
/-- as the layer's FnOk, called where no repr is under way -/
structure FnOkG (P : Program) (w : World) (K : PySem.W.Frag) (mg : Str → Option Value) (base : Heap) (k : Nat) (f : Addr) (fd : FuncData) (ps : List Str) (sp : Sp) : Prop where
  len : ∀ vs H Q E, sp vs H Q E → vs.length = ps.length
  run : ∀ (A : Around) (outer : List PySem.Env) (s : Shared) (H : Hp) (args : PySem.Args) (us : List Value) (vs : List V) (Q : VK) (E : XK), Room k A → A.guards = some [] → Env0 P w K mg base A outer s H → BindsTo s fd args (ps.zip us) → Vals vs us → sp vs H Q E →
    codeAny (model P w) A (.call (.ref f) args) (CR (L2.CX P w) outer P w H s Q E) s
theorem FnOkG.mono {P : Program} {w : World} {K : PySem.W.Frag} {mg : Str → Option Value} {base : Heap} {j k : Nat} {f : Addr} {fd : FuncData} {ps : List Str} {sp : Sp} (F : FnOkG P w K mg base j f fd ps sp) (h : j ≤ k) : FnOkG P w K mg base k f fd ps sp :=
  ⟨F.len, fun A outer s H args us vs Q E hr => F.run A outer s H args us vs Q E (hr.mono h)⟩
theorem fnG_of {P : Program} {w : World} {K : PySem.W.Frag} {mg : Str → Option Value} {base : Heap} {k : Nat} {f : Addr} {name qual : Str} {params : Arguments} {body : List Stmt} {scope : Scope} {dV kV doc pm cdv ct oc : Value} {an od : Option Addr}
    {osl : Array (Option Value)} {N ps : List Str} {sp : Sp} (lk : K.lookup f = some ⟨oc, od, .func (PySem.W.fnOf name qual params body scope dV kV doc pm an cdv ct), osl⟩) (hcd : PySem.W.codeIn K cdv qual = true) (S : FnScope N ps scope)
    (len : ∀ vs H Q E, sp vs H Q E → vs.length = ps.length)
    (hbody : ∀ (A : Around) (outer : List PySem.Env) (s : Shared) (H : Hp) (vs : List V) (Q : VK) (E : XK), Room k (A.deeper (envOfC qual scope s.heap.objs.size f cdv)) → (A.deeper (envOfC qual scope s.heap.objs.size f cdv)).guards = some [] → sp vs H Q E →
      ∃ t, PSs (cxOf (L2.CX P w) P w K mg base N qual scope f cdv A outer s H E) body t ∧ t { nx := fun _ H' => Q .non H', rt := Q } (L2.start N vs) H) :
    FnOkG P w K mg base (k + 1) f (PySem.W.fnOf name qual params body scope dV kV doc pm an cdv ct) ps sp := by
  refine ⟨len, fun A outer s H args us vs Q E hr hgd e0 hb r hsp => ?_⟩
  have KX : K.In s.heap := e0.mod.kin.keeps fun b o e => (e0.bs b o e).1
  have lim : s.heap.NoLimit := e0.mod.nolimit.keeps fun b o e => (e0.bs b o e).1
  have hkind : ∀ y ∈ ps.zip us, scope.names.lookup y.1 = some .local ∨ (scope.names.lookup y.1 = some .cell ∧ ((cellsFrom (s.heap.objs.size + 1) scope.names []).lookup y.1).isSome = true) := fun ⟨n, v⟩ hy => by
    rcases S.par n (List.of_mem_zip hy).1 with q | q
    · exact .inl q
    · exact .inr ⟨q, PySem.W.cellsFrom_some _ _ _ (.inl q)⟩
  refine codeAny_call_function hr.depth (KX _ _ lk) rfl S.co S.gen rfl (PySem.W.codeRec_of KX hcd) (hb _ _ _ _ ?_)
  refine wpAny_newFunctionEnv_cells S.kind hkind fun env he s1 x => ?_
  subst he
  refine ⟨lim.keeps x.toInCall.keep, codeAny_func ?_⟩
  obtain ⟨t, ht, hq⟩ := hbody A outer s H vs Q E (hr.deeper _) hgd hsp
  have I : Inv (cxOf (L2.CX P w) P w K mg base N qual scope f cdv A outer s H E) [] (L2.start N vs) H s1 := inv_start S hr.hd e0 (len _ _ _ _ hsp) r x
  refine wpAny_mono (ht.run [] s1 (L2.start N vs) H _ I hq) (fun fl s' hs => ?_) fun e s' hs => hs
  have done : ∀ {σ' : L2.St} {H' : Hp} {v : V} {u : Value}, Inv (cxOf (L2.CX P w) P w K mg base N qual scope f cdv A outer s H E) [] σ' H' s' → RelV v u → Q v H' → CE outer P w H s Q u s' :=
    fun {σ' H' v u} J rv q => ⟨v, H', J.os, J.bare, J.base, J.hok, rv, q⟩
  cases fl with
  | ret u =>
    obtain ⟨v, σ', H', J, rv, q⟩ := hs
    exact done J rv q
  | next =>
    obtain ⟨σ', H', J, q⟩ := hs
    exact done (v := V.non) (u := Value.none) J rfl q
  | brk =>
    obtain ⟨_, _, _, q⟩ := hs
    exact False.elim q
  | cont =>
    obtain ⟨_, _, _, q⟩ := hs
    exact False.elim q
section
variable {X : Cx} {k : Nat} {f : Addr} {fd : FuncData} {ps : List Str} {sp : Sp} {E : L2.St → XK} {x : Str} {p pos : Pos} {e : Expr} {es : List Expr} {t : TA}
theorem run_fnG {pins : List (Addr × Obj)} {σ : L2.St} {H : Hp} {s : Shared} {Q : VK} {us : List Value} {vs : List V} (F : FnOkG X.prog X.w X.K X.mg X.base k f fd ps sp) (hr : Room k X.A) (hgd : X.A.guards = some []) (hb : Binds X.K fd ps []) (hx : PassesAt (L2.CX X.prog X.w) X σ (E σ))
    (I : Inv X pins σ H s) (r : Vals vs us) (h : sp vs H Q (E σ)) : wpAny (model X.prog X.w) X.A (call (.ref f) us) (EP X pins σ Q) X.xe s := by
  have hl : us.length = ps.length := by rw [← r.length]; exact F.len _ _ _ _ h
  have b := hb s us I.kIn (by rw [List.append_nil]; exact hl)
  rw [List.append_nil] at b
  refine wpAny_call (codeAny_mono (F.run X.A X.stack s H ⟨us, []⟩ us vs Q (E σ) hr hgd I.env0 b r h) fun r s' hq => ?_)
  cases r with
  | error e => exact hx pins H s e s' I hq
  | ok fl =>
    cases fl with
    | ret u => exact I.after hq
    | next => exact False.elim hq
    | brk => exact False.elim hq
    | cont => exact False.elim hq
theorem pe_callG (F : FnOkG X.prog X.w X.K X.mg X.base k f fd ps sp) (hr : Room k X.A) (hgd : X.A.guards = some []) (hg : Gl X x) (hm : X.mg x = some (.ref f)) (hk : PySem.W.keepIn X.K (.ref f) = true) (hb : Binds X.K fd ps []) (hx : ∀ σ, PassesAt (L2.CX X.prog X.w) X σ (E σ))
    (ha : PA X (e :: es) t) (hdb : (x == ("__debug__" : Str)) = false := by decide) (he : starEach (e :: es) X.env = (false, eval e X.env) :: starEach es X.env := by rfl) (hpl : (backTo pos (starEach es X.env)).any (·.1) = false := by rfl) :
    PE X (.Call (.Name x p) (e :: es) [] pos) (tCallS sp E t) := by
  refine ⟨fun pins s σ H Q I h => ?_⟩
  refine wpAny_Call_Name_kw (ld_glob I hg hm ?_ hdb)
  refine PySem.W.callWith_K (h₀ := X.base) I.ok.mod.kin hk (thn (ha.run pos pins s σ H _ I h) fun us s1 ⟨vs, H1, I1, r, q⟩ => ⟨I1.kIn, ?_⟩) he hpl
  exact run_fnG F hr hgd hb (hx σ) I1 r q
end

/-! ### defs -/
def spD (G : Gb) (n : Nat) (mf : List D → M D) : Sp := fun vs H Q E => vs.length = n ∧ ∃ ds S ι F, R G F ι S H ∧ RelDs G F ι H ds vs ∧ Then G E F ι H (mf ds S) fun d _ F' ι' H' => ∀ v, RelD G F' ι' H' d v → Q v H'
/-- a def of the module: by at most level k, of n parameters, its run mf -/
def FnD (P : Program) (w : World) (K : PySem.W.Frag) (mg : Str → Option Value) (base : Heap) (x : Str) (k n : Nat) (mf : List D → M D) : Prop :=
  ∃ f fd ps, mg x = some (.ref f) ∧ PySem.W.keepIn K (.ref f) = true ∧ Binds K fd ps [] ∧ ps.length = n ∧ FnOkG P w K mg base k f fd ps (spD ⟨K, mg⟩ n mf)
theorem FnD.mono {P : Program} {w : World} {K : PySem.W.Frag} {mg : Str → Option Value} {base : Heap} {x : Str} {j k n : Nat} {mf : List D → M D} (h : FnD P w K mg base x j n mf) (hj : j ≤ k) : FnD P w K mg base x k n mf := by
  obtain ⟨f, fd, ps, a, b, c, d, e⟩ := h
  exact ⟨f, fd, ps, a, b, c, d, e.mono hj⟩
def asRet : Out → M D
  | .nx _ => fun S => .ok (.p .non) S
  | .rt d => fun S => .ok d S
  | _ => fun _ => .stuck
/-! what is thrown away behind a call -/
/-- the first k things alone -/
def Store.cut (k : Nat) (S : Store) : Option Store := if h : (decide (k ≤ S.objs.length) && allBelow k (S.objs.take k)) = true then some ⟨S.objs.take k, by
    simp only [Bool.and_eq_true, decide_eq_true_eq] at h
    rw [List.length_take, Nat.min_eq_left h.1]
    exact h.2⟩ else none
mutual
/-- data of a value whose lists were all made behind the first k things -/
def frzD (k : Nat) (S : Store) : Nat → D → Option P
  | _, .p x => some x
  | 0, _ => none
  | f + 1, .r n => if k ≤ n then (match S.objs[n]? with
    | some (.lst ds) => (frzDs k S f ds).map P.lst
    | _ => none) else none
  | f + 1, .t ds => (frzDs k S f ds).map P.tup
def frzDs (k : Nat) (S : Store) : Nat → List D → Option (List P)
  | _, [] => some []
  | f, d :: ds => match frzD k S f d, frzDs k S f ds with
    | some p, some ps => some (p :: ps)
    | _, _ => none
end
abbrev Fin := Nat → D → Store → D × Store
/-- nothing is thrown away -/
def fin0 : Fin := fun _ d S => (d, S)
/-- the answer is data -/
def finP : Fin := fun k d S => match Store.cut k S with
  | some S' => (match frzD k S 8 d with
    | some p => (.p p, S')
    | none => (d, S))
  | none => (d, S)
/-- the answer is a new list of the store, or data, or a thing from before -/
def finN : Fin := fun k d S => match Store.cut k S with
  | some S' => (match d with
    | .r n => if k ≤ n then (match S.objs[n]? with
      | some o => if h : o.lo S'.objs.length = true then (.r S'.objs.length, S'.new o h) else (d, S)
      | none => (d, S)) else (d, S')
    | .p x => (.p x, S')
    | .t _ => (d, S))
  | none => (d, S)
def FinOk (fin : Fin) : Prop := ∀ {G : Gb} {F F' : Addr → Prop} {ι ι' : List Addr} {H H' : Hp} {S S' : Store} {d : D} {v : V}, R G F ι S H → Nxt G F ι H F' ι' S' H' → RelD G F' ι' H' d v →
  ∃ F'' ι'', Nxt G F ι H F'' ι'' (fin S.objs.length d S').2 H' ∧ RelD G F'' ι'' H' (fin S.objs.length d S').1 v
theorem fin0_ok : FinOk fin0 := fun rs n r => ⟨_, _, n, r⟩
mutual
theorem RelD.lo {G : Gb} {F : Addr → Prop} {ι ι' : List Addr} {H : Hp} (p : ι <+: ι') : ∀ {d : D} {v : V}, d.lo ι.length = true → RelD G F ι' H d v → RelD G F ι H d v
  | .p x, _, _, h => by simpa only [RelD] using h
  | .r n, _, e, h => by
    simp only [RelD, D.lo, decide_eq_true_eq] at h e ⊢
    obtain ⟨a, ev, q⟩ := h
    obtain ⟨t, rfl⟩ := p
    rw [List.getElem?_append_left e] at q
    exact ⟨a, ev, q⟩
  | .t xs, _, e, h => by
    simp only [RelD, D.lo] at h e ⊢
    obtain ⟨a, vs, ev, q, r⟩ := h
    exact ⟨a, vs, ev, q, RelDs.lo p e r⟩
theorem RelDs.lo {G : Gb} {F : Addr → Prop} {ι ι' : List Addr} {H : Hp} (p : ι <+: ι') : ∀ {ds : List D} {vs : List V}, D.los ι.length ds = true → RelDs G F ι' H ds vs → RelDs G F ι H ds vs
  | [], _, _, h => by simpa only [RelDs] using h
  | d :: ds, _, e, h => by
    simp only [RelDs, D.los, Bool.and_eq_true] at h e ⊢
    obtain ⟨v, ws, ev, a, b⟩ := h
    exact ⟨v, ws, ev, RelD.lo p e.1 a, RelDs.lo p e.2 b⟩
end
theorem relDf_lo {G : Gb} {F : Addr → Prop} {ι ι' : List Addr} {H : Hp} (p : ι <+: ι') : ∀ {fs : List (Str × D)} {vs : List (Str × V)}, D.los ι.length (fs.map (·.2)) = true → RelDf G F ι' H fs vs → RelDf G F ι H fs vs
  | [], _, _, h => h
  | (f, d) :: fs, _, e, h => by
    obtain ⟨v, ws, ev, a, b⟩ := h
    simp only [List.map, D.los, Bool.and_eq_true] at e
    exact ⟨v, ws, ev, RelD.lo p e.1 a, relDf_lo p e.2 b⟩
theorem RelO.lo {G : Gb} {F : Addr → Prop} {ι ι' : List Addr} {H : Hp} {a : Addr} {o : O} (p : ι <+: ι') (e : o.lo ι.length = true) (h : RelO G F ι' H a o) : RelO G F ι H a o := by
  cases o with
  | lst ds =>
    obtain ⟨vs, q, r⟩ := h
    exact ⟨vs, q, r.lo p e⟩
  | ins c fs =>
    obtain ⟨C, dx, fvs, m, q, r⟩ := h
    exact ⟨C, dx, fvs, m, q, relDf_lo p e r⟩
theorem allBelow_get {k : Nat} : ∀ {os : List O} {n : Nat} {o : O}, allBelow k os = true → os[n]? = some o → o.lo k = true
  | [], _, _, _, h => by simp at h
  | x :: os, 0, o, e, h => by
    simp only [allBelow, Bool.and_eq_true] at e
    simp at h
    rw [← h]
    exact e.1
  | x :: os, n + 1, o, e, h => by
    simp only [allBelow, Bool.and_eq_true] at e
    exact allBelow_get (n := n) e.2 (by simpa using h)
/-- all that is new in the store is thrown away; it counts as frozen -/
theorem Nxt.cut {G : Gb} {F F' : Addr → Prop} {ι ι' : List Addr} {H H' : Hp} {S S' S'' : Store} (rs : R G F ι S H) (n : Nxt G F ι H F' ι' S' H') (e : Store.cut S.objs.length S' = some S'') :
    Nxt G F ι H (fun a => F' a ∨ (a ∈ ι' ∧ a ∉ ι)) ι S'' H' ∧ S''.objs = S'.objs.take S.objs.length ∧ S''.objs.length = S.objs.length := by
  unfold Store.cut at e
  split at e
  · rename_i h
    simp only [Bool.and_eq_true, decide_eq_true_eq] at h
    cases e
    have hl : (S'.objs.take S.objs.length).length = S.objs.length := by rw [List.length_take, Nat.min_eq_left h.1]
    refine ⟨⟨fun a z => .inl (n.sub a z), n.keep, List.prefix_refl _, fun x a b => absurd a b, fun x a b => ?_, n.old, ⟨?_, rs.nd, fun a ha z => ?_, fun a z => ?_, n.r.tb, fun m a o ea eo => ?_⟩⟩, rfl, hl⟩
    · rcases a with a | a
      · exact n.nF x a b
      · exact n.nw x a.1 a.2
    · rw [rs.len]
      exact hl.symm
    · rcases z with z | z
      · obtain ⟨t, ht⟩ := n.pre
        exact n.r.nf a (ht ▸ List.mem_append_left _ ha) z
      · exact z.2 ha
    · rcases z with z | z
      · exact n.r.fz a z
      · exact n.r.thing z.1
    · have hm : m < S.objs.length := by
        rw [← rs.len]
        exact (List.getElem?_eq_some_iff.mp ea).1
      have eo' : S'.objs[m]? = some o := by
        have : (S'.objs.take S.objs.length)[m]? = some o := eo
        rwa [List.getElem?_take_of_lt hm] at this
      have ea' : ι'[m]? = some a := pre_get n.pre ea
      have q := n.r.ob m a o ea' eo'
      refine RelO.mono (F' := fun a => F' a ∨ (a ∈ ι' ∧ a ∉ ι)) (fun b u e _ => e) (fun _ h => Or.inl h) (List.prefix_refl _) rfl (RelO.lo n.pre ?_ q)
      rw [rs.len]
      exact allBelow_get h.2 eo
  · cases e
mutual
theorem frzD_rel {G : Gb} {F F' : Addr → Prop} {ι ι' : List Addr} {H H' : Hp} {S S' : Store} (rs : R G F ι S H) (n : Nxt G F ι H F' ι' S' H') : ∀ {f : Nat} {d : D} {v : V} {p : P}, frzD S.objs.length S' f d = some p → RelD G F' ι' H' d v → RelP G (fun a => F' a ∨ (a ∈ ι' ∧ a ∉ ι)) H' p v
  | f, .p x, v, p, e, r => by
    have e' : x = p := by cases f <;> simpa [frzD] using e
    subst e'
    simp only [RelD] at r
    exact r.mono (fun b u e _ => e) fun _ h => .inl h
  | 0, .r n, v, p, e, r => by simp [frzD] at e
  | 0, .t ds, v, p, e, r => by simp [frzD] at e
  | f + 1, .r m, v, p, e, r => by
    simp only [frzD] at e
    split at e
    · rename_i hk
      split at e
      · rename_i ds eo
        obtain ⟨ps, ep, rfl⟩ := Option.map_eq_some_iff.mp e
        simp only [RelD] at r
        obtain ⟨a, rfl, ea⟩ := r
        obtain ⟨vs, hv, rv⟩ := n.r.ob m a _ ea eo
        simp only [RelP]
        refine ⟨a, vs, rfl, .inr ⟨List.mem_of_getElem? ea, fun z => ?_⟩, hv, frzDs_rel rs n ep rv⟩
        obtain ⟨j, hj, ej⟩ := List.getElem_of_mem z
        have ej' : ι'[j]? = some a := pre_get n.pre (by rw [List.getElem?_eq_getElem hj, ej])
        obtain ⟨h1, e1⟩ := List.getElem?_eq_some_iff.mp ea
        obtain ⟨h2, e2⟩ := List.getElem?_eq_some_iff.mp ej'
        have := (List.getElem_inj n.r.nd).mp (e1.trans e2.symm)
        rw [rs.len] at hj
        omega
      · cases e
    · cases e
  | f + 1, .t ds, v, p, e, r => by
    simp only [frzD] at e
    obtain ⟨ps, ep, rfl⟩ := Option.map_eq_some_iff.mp e
    simp only [RelD] at r
    obtain ⟨a, vs, rfl, q, rv⟩ := r
    simp only [RelP]
    exact ⟨a, vs, rfl, q, frzDs_rel rs n ep rv⟩
theorem frzDs_rel {G : Gb} {F F' : Addr → Prop} {ι ι' : List Addr} {H H' : Hp} {S S' : Store} (rs : R G F ι S H) (n : Nxt G F ι H F' ι' S' H') : ∀ {f : Nat} {ds : List D} {vs : List V} {ps : List P}, frzDs S.objs.length S' f ds = some ps → RelDs G F' ι' H' ds vs → RelPs G (fun a => F' a ∨ (a ∈ ι' ∧ a ∉ ι)) H' ps vs
  | f, [], vs, ps, e, r => by
    have e' : ps = [] := by cases f <;> simpa [frzDs] using e.symm
    subst e'
    simpa only [RelDs, RelPs] using r
  | f, d :: ds, vs, ps, e, r => by
    have e' : (match frzD S.objs.length S' f d, frzDs S.objs.length S' f ds with
      | some p, some ps => some (p :: ps)
      | _, _ => none) = some ps := by cases f <;> simpa only [frzDs] using e
    split at e'
    · rename_i q qs e1 e2
      cases e'
      simp only [RelDs] at r
      obtain ⟨v, ws, rfl, a, b⟩ := r
      simp only [RelPs]
      exact ⟨v, ws, rfl, frzD_rel rs n e1 a, frzDs_rel rs n e2 b⟩
    · cases e'
end
theorem finP_ok : FinOk finP := fun {G F F' ι ι' H H' S S' d v} rs n r => by
  unfold finP
  split
  · rename_i S2 e
    split
    · rename_i q eq
      exact ⟨_, _, (n.cut rs e).1, by simp only [RelD]; exact frzD_rel rs n eq r⟩
    · exact ⟨_, _, n, r⟩
  · exact ⟨_, _, n, r⟩
theorem finN_ok : FinOk finN := fun {G F F' ι ι' H H' S S' d v} rs n r => by
  unfold finN
  split
  · rename_i S2 e
    obtain ⟨n2, eo, el⟩ := n.cut rs e
    split
    · rename_i m
      split
      · rename_i hk
        split
        · rename_i o em
          split
          · rename_i hw
            -- a new thing, put behind the old ones
            simp only [RelD] at r
            obtain ⟨a, rfl, ea⟩ := r
            have hnot : a ∉ ι := fun z => by
              obtain ⟨j, hj, ej⟩ := List.getElem_of_mem z
              have ej' : ι'[j]? = some a := pre_get n.pre (by rw [List.getElem?_eq_getElem hj, ej])
              obtain ⟨h1, e1⟩ := List.getElem?_eq_some_iff.mp ea
              obtain ⟨h2, e2⟩ := List.getElem?_eq_some_iff.mp ej'
              have := (List.getElem_inj n.r.nd).mp (e1.trans e2.symm)
              rw [rs.len] at hj
              omega
            have ha' : a ∈ ι' := List.mem_of_getElem? ea
            have hlen : ι.length = S2.objs.length := n2.r.len
            have ro : RelO G F' ι H' a o := by
              refine RelO.lo n.pre ?_ (n.r.ob m a o ea em)
              rw [hlen]
              exact hw
            refine ⟨F', ι ++ [a], ⟨n.sub, n.keep, List.prefix_append _ _, fun x h z => ?_, n.nF, n.old, ⟨by simp [Store.new, hlen], ?_, fun b h => ?_, n.r.fz, n.r.tb, fun j b x eb ex => ?_⟩⟩, ?_⟩
            · rcases List.mem_append.mp h with h | h
              · exact absurd h z
              · have e3 : x = a := by simpa using h
                rw [e3]
                exact n.nw a ha' hnot
            · rw [List.nodup_append]
              refine ⟨rs.nd, by simp, fun b hb c hc => ?_⟩
              have e3 : c = a := by simpa using hc
              rw [e3]
              exact fun z => hnot (z ▸ hb)
            · rcases List.mem_append.mp h with h | h
              · obtain ⟨t, ht⟩ := n.pre
                exact n.r.nf b (ht ▸ List.mem_append_left _ h)
              · have e3 : b = a := by simpa using h
                rw [e3]
                exact n.r.nf a ha'
            · by_cases hj : j < ι.length
              · rw [List.getElem?_append_left hj] at eb
                have ex' : S2.objs[j]? = some x := by
                  have hj' : j < S2.objs.length := by rw [← hlen]; exact hj
                  simpa [Store.new, List.getElem?_append_left hj'] using ex
                have ex2 : S'.objs[j]? = some x := by
                  rw [eo] at ex'
                  rwa [List.getElem?_take_of_lt (by rw [← rs.len]; exact hj)] at ex'
                refine RelO.mono (fun b u e _ => e) (fun _ h => h) (List.prefix_append ι [a]) rfl (RelO.lo n.pre ?_ (n.r.ob j b x (pre_get n.pre eb) ex2))
                rw [hlen]
                exact allBelow_get S2.wf ex'
              · have hj2 : j = ι.length := by
                  have := (List.getElem?_eq_some_iff.mp eb).1
                  simp at this
                  omega
                subst hj2
                simp at eb
                subst eb
                have ex' : x = o := by
                  have : (S2.objs ++ [o])[ι.length]? = some x := ex
                  rw [hlen] at this
                  simp at this
                  exact this.symm
                subst ex'
                exact RelO.mono (fun b u e _ => e) (fun _ h => h) (List.prefix_append _ _) rfl ro
            · simp only [RelD]
              exact ⟨a, rfl, by rw [← hlen]; simp⟩
          · exact ⟨_, _, n, r⟩
        · exact ⟨_, _, n, r⟩
      · rename_i hk
        refine ⟨_, _, n2, ?_⟩
        have r' := r.mono (F' := fun a => F' a ∨ (a ∈ ι' ∧ a ∉ ι)) (fun b u e _ => e) (fun _ h => Or.inl h) (List.prefix_refl _)
        refine RelD.lo n.pre ?_ r'
        simp only [D.lo, decide_eq_true_eq]
        rw [rs.len]
        omega
    · refine ⟨_, _, n2, ?_⟩
      simp only [RelD] at r ⊢
      exact r.mono (fun b u e _ => e) fun _ h => .inl h
    · exact ⟨_, _, n, r⟩
  · exact ⟨_, _, n, r⟩

/-- an error's data; what is new in the store is thrown away -/
def pureFs : List (Str × D) → Bool
  | [] => true
  | (_, .p _) :: fs => pureFs fs
  | _ => false
def finE (k : Nat) (e : Exc) (S : Store) : Res D := if pureFs e.fs = true then (match Store.cut k S with
  | some S' => .err e S'
  | none => .err e S) else .err e S
def finR (fin : Fin) (k : Nat) : Res D → Res D
  | .ok d S => .ok (fin k d S).1 (fin k d S).2
  | .err e S => finE k e S
  | .stuck => .stuck
def env0 (N : Nat) (ds : List D) : Env := ds.map some ++ List.replicate (N - ds.length) none
def mFn (N : Nat) (fin : Fin) (body : MS) : List D → M D := fun ds S => finR fin S.objs.length ((body (env0 N ds) S).bind asRet)
theorem pureFs_rel {G : Gb} {F F' : Addr → Prop} {ι ι' : List Addr} {H : Hp} (s : ∀ a, F a → F' a) : ∀ {fs : List (Str × D)} {vs : List (Str × V)}, pureFs fs = true → RelDf G F ι H fs vs → RelDf G F' ι' H fs vs
  | [], _, _, h => h
  | (f, .p x) :: fs, _, e, h => by
    obtain ⟨v, ws, ev, a, b⟩ := h
    refine ⟨v, ws, ev, ?_, pureFs_rel s e b⟩
    simp only [RelD] at a ⊢
    exact a.mono (fun b u e _ => e) s
  | (f, .r _) :: fs, _, e, h => by simp [pureFs] at e
  | (f, .t _) :: fs, _, e, h => by simp [pureFs] at e
theorem finR_then {G : Gb} {W : Value → Option Addr → Hp → Prop} {F : Addr → Prop} {ι : List Addr} {H : Hp} {S : Store} {fin : Fin} {r : Res D} {Q : VK} (rs : R G F ι S H) (fo : FinOk fin) (h : Then G W F ι H (finR fin S.objs.length r) fun d _ F' ι' H' => ∀ v, RelD G F' ι' H' d v → Q v H') :
    Then G W F ι H r fun d _ F' ι' H' => ∀ v, RelD G F' ι' H' d v → Q v H' := by
  cases r with
  | ok d S' =>
    intro F' ι' H' n v rv
    obtain ⟨F'', ι'', n2, r2⟩ := fo rs n rv
    exact h F'' ι'' H' n2 v r2
  | err e S' =>
    intro F' ι' H' c d n x
    have h : Then G W F ι H (finE S.objs.length e S') fun d _ F' ι' H' => ∀ v, RelD G F' ι' H' d v → Q v H' := h
    unfold finE at h
    split at h
    · rename_i hp
      split at h
      · rename_i S2 e2
        obtain ⟨n2, _, _⟩ := n.cut rs e2
        refine h _ _ H' c d n2 ?_
        obtain ⟨C, m, ec, ef⟩ := x
        refine ⟨C, m, ec, ?_⟩
        revert ef hp
        generalize e.fs = fs
        cases fs with
        | nil => exact fun _ ef => ef
        | cons y ys =>
          intro hp ef
          obtain ⟨dd, fvs, ed, hd, rf⟩ := ef
          exact ⟨dd, fvs, ed, hd, pureFs_rel (fun _ h => .inl h) hp rf⟩
      · exact h F' ι' H' c d n x
    · exact h F' ι' H' c d n x
  | stuck => exact h
theorem relE_none {G : Gb} {F : Addr → Prop} {ι : List Addr} {H : Hp} : ∀ n : Nat, RelE G F ι H (List.replicate n none) (List.replicate n none)
  | 0 => rfl
  | n + 1 => ⟨none, _, rfl, relE_none n⟩
theorem relE_start {G : Gb} {F : Addr → Prop} {ι : List Addr} {H : Hp} (m : Nat) : ∀ {ds : List D} {vs : List V}, RelDs G F ι H ds vs → RelE G F ι H (ds.map some ++ List.replicate m none) (vs.map some ++ List.replicate m none)
  | [], _, h => by
    rw [relDs_nil] at h
    subst h
    exact relE_none m
  | d :: ds, _, h => by
    simp only [RelDs] at h
    obtain ⟨v, ws, rfl, a, b⟩ := h
    exact ⟨v, _, rfl, a, relE_start m b⟩
abbrev WfE (E : XK) : WX := fun c d _ H => E c d H
/-- a def's promise by its body's run -/
theorem fn_body {P : Program} {w : World} {K : PySem.W.Frag} {mg : Str → Option Value} {base : Heap} {x qual : Str} {params : Arguments} {body : List Stmt} {scope : Scope} {f : Addr} {fd : FuncData} {N ps : List Str} {dvs : List V} {kws : List (Str × V)} {k n m : Nat} {fin : Fin} {ms : MS}
    (Fd : FunD K x qual params body scope dvs kws f fd) (S : FnScope N ps scope) (hn : ps.length = n) (hm : N.length = m) (fo : FinOk fin)
    (hb : ∀ (cdv : Value) (A : Around) (outer : List PySem.Env) (s : Shared) (H : Hp) (E : XK), Room k (A.deeper (envOfC qual scope s.heap.objs.size f cdv)) → (A.deeper (envOfC qual scope s.heap.objs.size f cdv)).guards = some [] → DSs (cxOf (L2.CX P w) P w K mg base N qual scope f cdv A outer s H E) (WfE E) body ms) :
    FnOkG P w K mg base (k + 1) f fd ps (spD ⟨K, mg⟩ n (mFn m fin ms)) := by
  obtain ⟨oc, od, dV, kV, doc, pm, an, cdv, ct, osl, rfl, lk, hcd, _, _⟩ := Fd.ex
  refine fnG_of lk hcd S (fun vs H Q E h => by rw [hn]; exact h.1) fun A outer s H vs Q E hr hgd h => ⟨_, hb cdv A outer s H E hr hgd, ?_⟩
  obtain ⟨hl, ds, St, ι, F, rs, rd, t⟩ := h
  have t1 := finR_then rs fo t
  refine ⟨env0 m ds, St, ι, F, ⟨?_, rs⟩, ?_⟩
  · unfold env0 L2.start
    rw [hm, relDs_len rd]
    exact relE_start _ rd
  · refine Then.wimp (W := E) ?_ fun c d H z _ => z
    refine (Then.bind' t1).mono fun o S1 F1 ι1 H1 n1 t2 => ?_
    cases o with
    | nx ρ => exact fun σ _ _ => (Then.later t2 n1).now n1.r .non (by simp only [RelD, RelP])
    | rt d => exact fun v rv => (Then.later t2 n1).now n1.r v rv
    | bk ρ => exact t2.elim
    | ct ρ => exact t2.elim
/-- .. as a def of the module -/
theorem fn_mkD {P : Program} {w : World} {K : PySem.W.Frag} {mg : Str → Option Value} {base : Heap} {x qual : Str} {params : Arguments} {body : List Stmt} {scope : Scope} {f : Addr} {fd : FuncData} {N ps : List Str} {k n m : Nat} {fin : Fin} {ms : MS}
    (hg : mg x = some (.ref f)) (Fd : FunD K x qual params body scope [] [] f fd) (S : FnScope N ps scope) (hn : ps.length = n) (hm : N.length = m) (fo : FinOk fin)
    (hbind : ∀ (kV doc pm : Value) (an : Option Addr) (cdv ct : Value) (us : List Value), us.length = ps.length → bindArgs (PySem.W.fnOf x qual params body scope .none kV doc pm an cdv ct) ⟨us, []⟩ = pure (ps.zip us))
    (hb : ∀ (cdv : Value) (A : Around) (outer : List PySem.Env) (s : Shared) (H : Hp) (E : XK), Room k (A.deeper (envOfC qual scope s.heap.objs.size f cdv)) → (A.deeper (envOfC qual scope s.heap.objs.size f cdv)).guards = some [] → DSs (cxOf (L2.CX P w) P w K mg base N qual scope f cdv A outer s H E) (WfE E) body ms) :
    FnD P w K mg base x (k + 1) n (mFn m fin ms) := ⟨f, fd, ps, hg, Fd.kp, Fd.bindsN hbind, hn, fn_body Fd S hn hm fo hb⟩

/-- the length of an argument list -/
class Args (m : ME (List D)) (n : outParam Nat) : Prop where
  len : ∀ ρ S ds S', m ρ S = .ok ds S' → ds.length = n
instance : Args mNil 0 := ⟨fun ρ S ds S' h => by cases h; rfl⟩
instance {ma : ME D} {mr : ME (List D)} {n : Nat} [i : Args mr n] : Args (mCons ma mr) (n + 1) := ⟨fun ρ S ds S' h => by
  unfold mCons at h
  cases e1 : ma ρ S with
  | ok d S1 =>
    rw [e1] at h
    simp only [Res.bind] at h
    cases e2 : mr ρ S1 with
    | ok ds2 S3 =>
      rw [e2] at h
      cases h
      rw [List.length_cons, i.len ρ S1 ds2 _ e2]
    | err x S2 => rw [e2] at h; cases h
    | stuck => rw [e2] at h; cases h
  | err x S1 => rw [e1] at h; cases h
  | stuck => rw [e1] at h; cases h⟩
/-! ### calls -/
def mCall (mf : List D → M D) (m : ME (List D)) : ME D := fun ρ S => (m ρ S).bind mf
section
variable {X : Cx} {W : WX} {e : Expr} {es : List Expr} {pos p : Pos} {mr : ME (List D)}
theorem de_call {x : Str} {k n : Nat} {mf : List D → M D} (F : FnD X.prog X.w X.K X.mg X.base x k n mf) (hr : Room k X.A) (hgd : X.A.guards = some []) (tk : Takes X W) (ha : DA X W (e :: es) mr) [ar : Args mr n] (hg : Gl X x := by rfl)
    (hdb : (x == ("__debug__" : Str)) = false := by decide) (he : starEach (e :: es) X.env = (false, eval e X.env) :: starEach es X.env := by rfl) (hpl : (backTo pos (starEach es X.env)).any (·.1) = false := by rfl) :
    DE X W (.Call (.Name x p) (e :: es) [] pos) (mCall mf mr) := by
  obtain ⟨f, fd, ps, hm, hk, hb, hn, Fo⟩ := F
  refine PE.imp (pe_callG Fo hr hgd hg hm hk hb (fun σ => passAt tk σ) ha hdb he hpl) fun σ H Q q => ?_
  obtain ⟨ρ, S, ι, F, a, t⟩ := q
  refine ⟨ρ, S, ι, F, a, ?_⟩
  have t1 := Then.bind t
  revert t1
  generalize em : mr ρ S = r
  intro t1
  cases r with
  | ok ds S' =>
    intro F' ι' H' nx vs rv
    exact ⟨by rw [← relDs_len rv]; exact ar.len ρ S ds S' em, ds, S', ι', F', nx.r, rv, t1 F' ι' H' nx⟩
  | err x S' => exact t1
  | stuck => exact t1.elim
end
end DL
set_option maxHeartbeats 2000000
/-! DLLib: operators and built-in functions over the data layer. -/
namespace DL
open PySem PySem.Spec PyProof.Rows L2
variable [HasT]
section
variable {X : Cx}

/-! ### relation by cases -/
theorem relBl {G : Gb} {F : Addr → Prop} {ι : List Addr} {H : Hp} {b : Bool} {v : V} (h : RelD G F ι H (.p (.bl b)) v) : v = .bl b := by simpa only [RelD, RelP] using h
theorem relStr {G : Gb} {F : Addr → Prop} {ι : List Addr} {H : Hp} {b : Str} {v : V} (h : RelD G F ι H (.p (.str b)) v) : v = .str b := by simpa only [RelD, RelP] using h
theorem relNon {G : Gb} {F : Addr → Prop} {ι : List Addr} {H : Hp} {v : V} (h : RelD G F ι H (.p .non) v) : v = .non := by simpa only [RelD, RelP] using h
theorem relTy {G : Gb} {F : Addr → Prop} {ι : List Addr} {H : Hp} {n : String} {v : V} (h : RelD G F ι H (.p (.ty n)) v) : v = .ty n := by simpa only [RelD, RelP] using h
theorem mkInt {G : Gb} {F : Addr → Prop} {ι : List Addr} {H : Hp} {i : Int} : RelD G F ι H (.p (.int i)) (.int i) := by simp only [RelD, RelP]
theorem mkBl {G : Gb} {F : Addr → Prop} {ι : List Addr} {H : Hp} {i : Bool} : RelD G F ι H (.p (.bl i)) (.bl i) := by simp only [RelD, RelP]
theorem mkStr {G : Gb} {F : Addr → Prop} {ι : List Addr} {H : Hp} {i : Str} : RelD G F ι H (.p (.str i)) (.str i) := by simp only [RelD, RelP]
theorem mkNon {G : Gb} {F : Addr → Prop} {ι : List Addr} {H : Hp} : RelD G F ι H (.p .non) .non := by simp only [RelD, RelP]

/-! ### ints -/
/-- an operator on two ints, where C holds -/
def fII (C : Int → Int → Bool) (g : Int → Int → P) : F2 := fun x y S => match x, y with
  | .p (.int i), .p (.int j) => if C i j = true then some (.p (g i j), S) else none
  | _, _ => none
theorem opd_II {g : Value → Value → Sem Value} {C : Int → Int → Bool} {C' : Int → Int → Prop} {f : Int → Int → P} {v : Int → Int → V} (o : OpR X g (rI C' v)) (hc : ∀ i j, C i j = true → C' i j) (hv : ∀ i j F H, RelP (gb X) F H (f i j) (v i j)) : OpD X g (fII C f) :=
  ⟨_, o, fun {F ι S S' H d1 d2 d' v1 v2 Q} rs r1 r2 e q => by
    unfold fII at e
    split at e
    · rename_i i j
      split at e
      · rename_i h
        cases e
        cases relInt r1
        cases relInt r2
        exact ⟨i, j, rfl, rfl, hc i j h, q F ι H _ (Nxt.refl rs) (by simp only [RelD]; exact hv i j F H)⟩
      · cases e
    · cases e⟩
theorem opd_II0 {g : Value → Value → Sem Value} {f : Int → Int → P} {v : Int → Int → V} (o : OpR X g (rI0 v)) (hv : ∀ i j F H, RelP (gb X) F H (f i j) (v i j)) : OpD X g (fII (fun _ _ => true) f) :=
  ⟨_, o, fun {F ι S S' H d1 d2 d' v1 v2 Q} rs r1 r2 e q => by
    unfold fII at e
    split at e
    · rename_i i j
      rw [if_pos rfl] at e
      cases e
      cases relInt r1
      cases relInt r2
      exact ⟨i, j, rfl, rfl, q F ι H _ (Nxt.refl rs) (by simp only [RelD]; exact hv i j F H)⟩
    · cases e⟩
def fAddI : F2 := fII (fun _ _ => true) fun i j => .int (i + j)
def fSub : F2 := fII (fun _ _ => true) fun i j => .int (i - j)
/-- bits of an int, a bound -/
def bitsB (n : Nat) (i : Int) : Bool := decide (i.natAbs.log2 < n)
def fMulI : F2 := fII (fun i j => bitsB 400000 i && bitsB 400000 j) fun i j => .int (i * j)
def fDiv : F2 := fII (fun _ j => decide (0 < j) && bitsB 9000 j) fun i j => .int (i / j)
def fMod : F2 := fII (fun _ j => decide (0 < j)) fun i j => .int (i % j)
def fPow : F2 := fII (fun i j => decide (0 ≤ j) && decide ((i.natAbs.log2 + 1 : Int) * j ≤ 1000000)) fun i j => .int (i ^ j.toNat)
def fLt : F2 := fII (fun _ _ => true) fun i j => .bl (decide (i < j))
def fLe : F2 := fII (fun _ _ => true) fun i j => .bl (decide (i ≤ j))
def fGt : F2 := fII (fun _ _ => true) fun i j => .bl (decide (j < i))
def fGe : F2 := fII (fun _ _ => true) fun i j => .bl (decide (j ≤ i))
theorem od_addI : OpD X (binaryOp .Add) fAddI := opd_II0 op_add fun _ _ _ _ => by simp only [RelP]
theorem od_sub : OpD X (binaryOp .Sub) fSub := opd_II0 op_sub fun _ _ _ _ => by simp only [RelP]
theorem od_mulI : OpD X (binaryOp .Mult) fMulI := opd_II op_mulW (fun i j h => by
  simp only [Bool.and_eq_true, bitsB, decide_eq_true_eq] at h
  unfold CMulW
  omega) fun _ _ _ _ => by simp only [RelP]
theorem od_div : OpD X (binaryOp .FloorDiv) fDiv := opd_II op_fdivW (fun i j h => by
  simp only [Bool.and_eq_true, bitsB, decide_eq_true_eq] at h
  exact h) fun _ _ _ _ => by simp only [RelP]
theorem od_mod : OpD X (binaryOp .Mod) fMod := opd_II op_mod (fun i j h => by simpa using h) fun _ _ _ _ => by simp only [RelP]
def CPowG (i j : Int) : Prop := 0 ≤ j ∧ (Builtin.Int.intBits i : Int) * j ≤ 2 ^ 27
theorem op_powG : OpR X (binaryOp .Pow) (rI CPowG fun i j => .int (i ^ j.toNat)) := opI fun _ _ _ _ _ _ _ hc q => pow_int hc.1 hc.2 q
theorem bits_le (x : Int) : Builtin.Int.intBits x ≤ x.natAbs.log2 + 1 := by
  unfold Builtin.Int.intBits
  split <;> omega
theorem od_pow : OpD X (binaryOp .Pow) fPow := opd_II op_powG (fun i j h => by
  simp only [Bool.and_eq_true, decide_eq_true_eq] at h
  refine ⟨h.1, Int.le_trans (Int.le_trans (Int.mul_le_mul_of_nonneg_right ?_ h.1) h.2) (by decide)⟩
  have := bits_le i
  omega) fun _ _ _ _ => by simp only [RelP]
theorem od_lt : OpD X (compareOp .Lt) fLt := opd_II0 op_lt fun _ _ _ _ => by simp only [RelP]
theorem od_le : OpD X (compareOp .LtE) fLe := opd_II0 op_le fun _ _ _ _ => by simp only [RelP]
theorem od_gt : OpD X (compareOp .Gt) fGt := opd_II0 op_gt fun _ _ _ _ => by simp only [RelP]
theorem od_ge : OpD X (compareOp .GtE) fGe := opd_II0 op_ge fun _ _ _ _ => by simp only [RelP]
def fNeg : F1 := fun x S => match x with
  | .p (.int i) => some (.p (.int (-i)), S)
  | _ => none
theorem ud_neg : UnD X (unaryOp .USub) fNeg := ⟨_, un_neg, fun {F ι S S' H d d' v Q} rs r e q => by
  unfold fNeg at e
  split at e
  · cases e
    cases relInt r
    exact ⟨_, rfl, q F ι H _ (Nxt.refl rs) mkInt⟩
  · cases e⟩
/-! a op= b of ints -/
theorem ip_of {op : Operator} {r : R2} (o : OpR X (inplaceOp op) r) : PIp X op r := o
theorem ipd_add : IpD X .Add fAddI := ⟨_, ip_of iop_add, by
  intro F ι S S' H d1 d2 d' v1 v2 Q rs r1 r2 e q
  unfold fAddI fII at e
  split at e
  · rename_i i j
    rw [if_pos rfl] at e
    cases e
    cases relInt r1
    cases relInt r2
    exact ⟨i, j, rfl, rfl, q F ι H _ (Nxt.refl rs) mkInt⟩
  · cases e⟩
theorem ipd_sub : IpD X .Sub fSub := ⟨_, ip_of iop_sub, by
  intro F ι S S' H d1 d2 d' v1 v2 Q rs r1 r2 e q
  unfold fSub fII at e
  split at e
  · rename_i i j
    rw [if_pos rfl] at e
    cases e
    cases relInt r1
    cases relInt r2
    exact ⟨i, j, rfl, rfl, q F ι H _ (Nxt.refl rs) mkInt⟩
  · cases e⟩

/-! ### lists and tuples joined, repeated -/
def fAddS : F2 := fun x y S => match x, y with
  | .p (.str a), .p (.str b) => if a.length + b.length ≤ 100000 then some (.p (.str (a ++ b)), S) else none
  | _, _ => none
theorem od_addS : OpD X (binaryOp .Add) fAddS := ⟨_, op_add_str, fun {F ι S S' H d1 d2 d' v1 v2 Q} rs r1 r2 e q => by
  unfold fAddS at e
  split at e
  · split at e
    · rename_i h
      cases e
      cases relStr r1
      cases relStr r2
      exact ⟨_, _, rfl, rfl, szOk h, q F ι H _ (Nxt.refl rs) mkStr⟩
    · cases e
  · cases e⟩
def fAddT : F2 := fun x y S => match x.tup?, y.tup? with
  | some a, some b => if a.length + b.length ≤ 100000 then some (mkTup (a ++ b), S) else none
  | _, _ => none
theorem od_addT : OpD X (binaryOp .Add) fAddT := ⟨_, op_catA, fun {F ι S S' H d1 d2 d' v1 v2 Q} rs r1 r2 e q => by
  unfold fAddT at e
  split at e
  · rename_i a b ea eb
    split at e
    · rename_i h
      cases e
      obtain ⟨p1, vs, rfl, q1, rd1⟩ := tup?_rel ea r1
      obtain ⟨p2, ws, rfl, q2, rd2⟩ := tup?_rel eb r2
      refine ⟨p1, p2, vs, ws, rfl, rfl, q1, q2, by rw [← relDs_len rd1, ← relDs_len rd2]; exact szOk h, fun z => ?_, fun z z2 => ?_, fun z z2 p hp => ?_⟩
      · subst z
        have : a = [] := by
          have := relDs_len rd1
          simpa using this
        subst this
        exact q F ι H _ (Nxt.refl rs) (mkTup_rel q2 rd2)
      · subst z2
        have : b = [] := by
          have := relDs_len rd2
          simpa using this
        subst this
        rw [List.append_nil] at q
        exact q F ι H _ (Nxt.refl rs) (mkTup_rel q1 rd1)
      · exact q F ι _ _ (Nxt.fresh rs hp) (rel_newT hp (relDs_append rd1 rd2))
    · cases e
  · cases e⟩
/-- two lists joined, the answer frozen | of the store -/
def fAddL (fin : FL) : F2 := fun x y S => match x.own? S, y.own? S with
  | some a, some b => if a.length + b.length ≤ 100000 then fin (a ++ b) S else none
  | _, _ => none
def NewL (X : Cx) (fin : FL) : Prop := ∀ {F : Addr → Prop} {ι : List Addr} {S S' : Store} {H : Hp} {ds : List D} {d' : D} {vs : List V} {Q : VK}, R (gb X) F ι S H → RelDs (gb X) F ι H ds vs → fin ds S = some (d', S') →
    (∀ F' ι' H' v, Nxt (gb X) F ι H F' ι' S' H' → RelD (gb X) F' ι' H' d' v → Q v H') → vs.length ≤ sizeLine ∧ ∀ p, H p = none → Q (.ref p) (upd H p (.lst vs))
theorem newL_F : NewL X fLstF := fun rs r e q => fLstF_new rs r e q
theorem newL_N : NewL X fLst := fun rs r e q => fLst_new rs r e q
theorem od_addL {fin : FL} (n : NewL X fin) : OpD X (binaryOp .Add) (fAddL fin) := ⟨_, op_cat, fun {F ι S S' H d1 d2 d' v1 v2 Q} rs r1 r2 e q => by
  unfold fAddL at e
  split at e
  · rename_i a b ea eb
    split at e
    · rename_i h
      obtain ⟨p1, vs, rfl, q1, rd1⟩ := own?_rel rs ea r1
      obtain ⟨p2, ws, rfl, q2, rd2⟩ := own?_rel rs eb r2
      exact ⟨p1, p2, vs, ws, rfl, rfl, q1, q2, by rw [← relDs_len rd1, ← relDs_len rd2]; exact szOk h, (n rs (relDs_append rd1 rd2) e q).2⟩
    · cases e
  · cases e⟩
/-- a + b: ints, texts, tuples, lists -/
def fAddG (fin : FL) : F2 := fun x y S => match fAddI x y S with
  | some z => some z
  | none => match fAddS x y S with
    | some z => some z
    | none => match fAddT x y S with
      | some z => some z
      | none => fAddL fin x y S
def fAdd : F2 := fAddG fLstF
def fAddN : F2 := fAddG fLst
theorem od_addG {fin : FL} (n : NewL X fin) : OpD X (binaryOp .Add) (fAddG fin) := od_addI.or (od_addS.or (od_addT.or (od_addL n)))
theorem od_add : OpD X (binaryOp .Add) fAdd := od_addG newL_F
theorem od_addN : OpD X (binaryOp .Add) fAddN := od_addG newL_N
def fRepT : F2 := fun x y S => match x.tup?, y with
  | some a, .p (.int k) => if (decide (a ≠ []) && decide (2 ≤ k) && decide (k ≤ 1000) && decide (a.length ≤ 1000)) = true then some (mkTup (List.replicate k.toNat a).flatten, S) else none
  | _, _ => none
theorem od_repT : OpD X (binaryOp .Mult) fRepT := ⟨_, op_repT, fun {F ι S S' H d1 d2 d' v1 v2 Q} rs r1 r2 e q => by
  unfold fRepT at e
  split at e
  · rename_i a k ea
    split at e
    · rename_i h
      cases e
      simp only [Bool.and_eq_true, decide_eq_true_eq] at h
      obtain ⟨p1, vs, rfl, q1, rd1⟩ := tup?_rel ea r1
      cases relInt r2
      have hl := relDs_len rd1
      refine ⟨p1, k, vs, rfl, rfl, q1, fun z => h.1.1.1 ?_, h.1.1.2, h.1.2, by omega, fun p hp => q F ι _ _ (Nxt.fresh rs hp) (rel_newT hp (relDs_flat rd1 _))⟩
      subst z
      simpa using hl
    · cases e
  · cases e⟩
def fRepL (fin : FL) : F2 := fun x y S => match x.own? S, y with
  | some a, .p (.int k) => if (decide (-1000 ≤ k) && decide (k ≤ 100000) && decide (a.length * k.toNat ≤ 100000)) = true then fin (List.replicate k.toNat a).flatten S else none
  | _, _ => none
theorem od_repL {fin : FL} (n : NewL X fin) : OpD X (binaryOp .Mult) (fRepL fin) := ⟨_, op_rep, fun {F ι S S' H d1 d2 d' v1 v2 Q} rs r1 r2 e q => by
  unfold fRepL at e
  split at e
  · rename_i a k ea
    split at e
    · rename_i h
      simp only [Bool.and_eq_true, decide_eq_true_eq] at h
      obtain ⟨p1, vs, rfl, q1, rd1⟩ := own?_rel rs ea r1
      cases relInt r2
      exact ⟨p1, k, vs, rfl, rfl, q1, by omega, by omega, by rw [← relDs_len rd1]; exact szOk h.2, (n rs (relDs_flat rd1 _) e q).2⟩
    · cases e
  · cases e⟩
def fMulG (fin : FL) : F2 := fun x y S => match fMulI x y S with
  | some z => some z
  | none => match fRepT x y S with
    | some z => some z
    | none => fRepL fin x y S
def fMul : F2 := fMulG fLstF
def fMulN : F2 := fMulG fLst
theorem od_mul : OpD X (binaryOp .Mult) fMul := od_mulI.or (od_repT.or (od_repL newL_F))
theorem od_mulN : OpD X (binaryOp .Mult) fMulN := od_mulI.or (od_repT.or (od_repL newL_N))

/-! ### equality of data -/
mutual
def P.py : P → Option PyData
  | .non => some .none
  | .bl b => some (.bool b)
  | .int i => some (.int i)
  | .str s => some (.str s)
  | .tup xs => match P.pys xs with
    | some ds => some (.tuple ds)
    | none => none
  | .lst xs => match P.pys xs with
    | some ds => some (.list ds)
    | none => none
  | .scr xs => match P.pys xs with
    | some ds => some (.list ds)
    | none => none
  | _ => none
def P.pys : List P → Option (List PyData)
  | [] => some []
  | x :: xs => match P.py x, P.pys xs with
    | some d, some ds => some (d :: ds)
    | _, _ => none
end
mutual
theorem P.py_dp {G : Gb} {F : Addr → Prop} {H : Hp} : ∀ {x : P} {d : PyData} {v : V}, x.py = some d → RelP G F H x v → Dp G.K H v d
  | .non, d, v, e, r => by
    simp only [P.py, Option.some.injEq, RelP] at e r
    subst e
    subst r
    exact .non
  | .bl b, d, v, e, r => by
    simp only [P.py, Option.some.injEq, RelP] at e r
    subst e
    subst r
    exact .bl b
  | .int i, d, v, e, r => by
    simp only [P.py, Option.some.injEq, RelP] at e r
    subst e
    subst r
    exact .int i
  | .str s, d, v, e, r => by
    simp only [P.py, Option.some.injEq, RelP] at e r
    subst e
    subst r
    exact .str s
  | .tup xs, d, v, e, r => by
    simp only [P.py, RelP] at e r
    split at e
    · rename_i ds eds
      cases e
      obtain ⟨a, vs, rfl, q, rv⟩ := r
      exact .tup q (P.pys_dp eds rv)
    · cases e
  | .lst xs, d, v, e, r => by
    simp only [P.py, RelP] at e r
    split at e
    · rename_i ds eds
      cases e
      obtain ⟨a, vs, rfl, _, q, rv⟩ := r
      exact .lst (SqL.of q) (P.pys_dp eds rv)
    · cases e
  | .scr xs, d, v, e, r => by
    simp only [P.py, RelP] at e r
    split at e
    · rename_i ds eds
      cases e
      obtain ⟨a, vs, rfl, q, rv⟩ := r
      exact .lst q.sq (P.pys_dp eds rv)
    · cases e
  | .ins c fs, d, v, e, r => by simp [P.py] at e
  | .dic fs, d, v, e, r => by simp [P.py] at e
  | .glo x, d, v, e, r => by simp [P.py] at e
  | .ty n, d, v, e, r => by simp [P.py] at e
theorem P.pys_dp {G : Gb} {F : Addr → Prop} {H : Hp} : ∀ {xs : List P} {ds : List PyData} {vs : List V}, P.pys xs = some ds → RelPs G F H xs vs → DpAll G.K H vs ds
  | [], ds, vs, e, r => by
    simp only [P.pys, Option.some.injEq, RelPs] at e r
    subst e
    subst r
    exact .nil
  | x :: xs, ds, vs, e, r => by
    simp only [P.pys, RelPs] at e r
    split at e
    · rename_i d es e1 e2
      cases e
      obtain ⟨v, ws, rfl, a, b⟩ := r
      exact .cons (P.py_dp e1 a) (P.pys_dp e2 b)
    · cases e
end
/-- the data behind a value; a list of the store as it stands -/
def D.dat? (d : D) (S : Store) : Option P := match d with
  | .p x => some x
  | .r n => match S.objs[n]? with
    | some (.lst ds) => (match pures ds with
      | some ps => some (.lst ps)
      | none => none)
    | _ => none
  | .t _ => none
/-- data of a value as the layer's equality wants it -/
def D.py? (d : D) (S : Store) : Option PyData := match d with
  | .p x => x.py
  | .r n => match S.objs[n]? with
    | some (.lst ds) => (match pures ds with
      | some ps => (match P.pys ps with
        | some es => some (.list es)
        | none => none)
      | none => none)
    | _ => none
  | .t _ => none
theorem D.py?_dp {G : Gb} {F : Addr → Prop} {ι : List Addr} {S : Store} {H : Hp} {d : D} {z : PyData} {v : V} (rs : R G F ι S H) (e : d.py? S = some z) (r : RelD G F ι H d v) : Dp G.K H v z := by
  cases d with
  | p x =>
    simp only [RelD] at r
    exact P.py_dp e r
  | r n =>
    simp only [D.py?] at e
    split at e
    · rename_i ds eo
      split at e
      · rename_i ps ep
        split at e
        · rename_i es ee
          cases e
          simp only [RelD] at r
          obtain ⟨a, rfl, ea⟩ := r
          obtain ⟨vs, hv, rv⟩ := rs.ob n a _ ea eo
          exact .lst (SqL.of hv) (P.pys_dp ee (pures_rel ep rv))
        · cases e
      · cases e
    · cases e
  | t xs => cases e
def fEq : F2 := fun x y S => match x.py? S, y.py? S with
  | some a, some b => if (SeqAt.shaped a && SeqAt.shaped b) = true then some (.p (.bl (PyData.eqv a b)), S) else none
  | _, _ => none
def fNe : F2 := fun x y S => match x.py? S, y.py? S with
  | some a, some b => if (SeqAt.shaped a && SeqAt.shaped b) = true then some (.p (.bl (!PyData.eqv a b)), S) else none
  | _, _ => none
theorem od_eq (hu : X.A.units + 65 < cLine) : OpD X (compareOp .Eq) fEq := ⟨_, op_eqD (by omega), fun {F ι S S' H d1 d2 d' v1 v2 Q} rs r1 r2 e q => by
  unfold fEq at e
  split at e
  · rename_i a b ea eb
    split at e
    · rename_i h
      cases e
      simp only [Bool.and_eq_true] at h
      exact ⟨a, b, D.py?_dp rs ea r1, D.py?_dp rs eb r2, h.1, h.2, q F ι H _ (Nxt.refl rs) mkBl⟩
    · cases e
  · cases e⟩
theorem od_ne (hu : X.A.units + 65 < cLine) : OpD X (compareOp .NotEq) fNe := ⟨_, op_neD (by omega), fun {F ι S S' H d1 d2 d' v1 v2 Q} rs r1 r2 e q => by
  unfold fNe at e
  split at e
  · rename_i a b ea eb
    split at e
    · rename_i h
      cases e
      simp only [Bool.and_eq_true] at h
      exact ⟨a, b, D.py?_dp rs ea r1, D.py?_dp rs eb r2, h.1, h.2, q F ι H _ (Nxt.refl rs) mkBl⟩
    · cases e
  · cases e⟩
/-! is None, is True -/
def isNonP : D → Bool
  | .p .non => true
  | _ => false
theorem rel_non {G : Gb} {F : Addr → Prop} {ι : List Addr} {H : Hp} {d : D} {v : V} (r : RelD G F ι H d v) (hg : ∀ x, d ≠ .p (.glo x)) : decide (v = .non) = isNonP d := by
  cases d with
  | p x =>
    cases x with
    | non => cases relNon r; rfl
    | bl b => cases relBl r; rfl
    | int b => cases relInt r; rfl
    | str b => cases relStr r; rfl
    | ty b => cases relTy r; rfl
    | tup xs => simp only [RelD, RelP] at r; obtain ⟨a, vs, rfl, _⟩ := r; rfl
    | lst xs => simp only [RelD, RelP] at r; obtain ⟨a, vs, rfl, _⟩ := r; rfl
    | scr xs => simp only [RelD, RelP] at r; obtain ⟨a, vs, rfl, _⟩ := r; rfl
    | ins c xs => simp only [RelD, RelP] at r; obtain ⟨a, _, _, _, rfl, _⟩ := r; rfl
    | dic xs => simp only [RelD, RelP] at r; obtain ⟨a, _, rfl, _⟩ := r; rfl
    | glo x => exact absurd rfl (hg x)
  | r n => simp only [RelD] at r; obtain ⟨a, rfl, _⟩ := r; rfl
  | t xs => simp only [RelD] at r; obtain ⟨a, vs, rfl, _⟩ := r; rfl
def notGlo : D → Bool
  | .p (.glo _) => false
  | _ => true
theorem notGlo_ne {d : D} (h : notGlo d = true) : ∀ x, d ≠ .p (.glo x) := fun x e => by
  subst e
  cases h
/-- x is None, x is True (two truth values) -/
def fIs (neg : Bool) : F2 := fun x y S => match y with
  | .p .non => if notGlo x = true then some (.p (.bl (xor neg (isNonP x))), S) else none
  | .p (.bl b) => (match x with
    | .p (.bl a) => some (.p (.bl (xor neg (decide (a = b)))), S)
    | _ => none)
  | _ => none
theorem od_is : OpD X (compareOp .Is) (fIs false) := ⟨_, op_isN.or op_isBl, fun {F ι S S' H d1 d2 d' v1 v2 Q} rs r1 r2 e q => by
  unfold fIs at e
  split at e
  · split at e
    · rename_i hg
      cases e
      cases relNon r2
      refine .inl ⟨rfl, ?_⟩
      rw [rel_non r1 (notGlo_ne hg)]
      exact q F ι H _ (Nxt.refl rs) (by simp only [Bool.false_bne]; exact mkBl)
    · cases e
  · split at e
    · cases e
      cases relBl r2
      cases relBl r1
      exact .inr ⟨_, _, rfl, rfl, q F ι H _ (Nxt.refl rs) (by simp only [Bool.false_bne]; exact mkBl)⟩
    · cases e
  · cases e⟩
theorem od_isnot : OpD X (compareOp .IsNot) (fIs true) := ⟨_, op_notN.or op_notBl, fun {F ι S S' H d1 d2 d' v1 v2 Q} rs r1 r2 e q => by
  unfold fIs at e
  split at e
  · split at e
    · rename_i hg
      cases e
      cases relNon r2
      refine .inl ⟨rfl, ?_⟩
      rw [rel_non r1 (notGlo_ne hg)]
      exact q F ι H _ (Nxt.refl rs) (by simp only [Bool.true_bne]; exact mkBl)
    · cases e
  · split at e
    · cases e
      cases relBl r2
      cases relBl r1
      exact .inr ⟨_, _, rfl, rfl, q F ι H _ (Nxt.refl rs) (by simp only [Bool.true_bne]; exact mkBl)⟩
    · cases e
  · cases e⟩
end
end DL
set_option maxHeartbeats 2000000
/-! DLSort: rules over the layer for tuples: sorted, sum, all, any; what sorted ints are. -/
namespace DL
open PySem PySem.Spec PyProof.Rows L2

/-! ### a tuple's items, collected -/
section
variable {prog : Program} {w : World} {A : Around} {E : Value → Shared → Prop} {s : Shared}
def colHeap (h : Heap) (vs : List Value) : Heap := (h.push (seqObj "list" #[] 0)).update h.objs.size (Obj.mapSeq (· ++ vs.toArray))
/-- l is collected as vs, without a walk -/
def Coll (s : Shared) (l : Addr) (vs : List Value) : Prop := s.heap.IsList l vs.toArray ∨ s.heap.IsTuple l vs.toArray
theorem coll_run {l : Addr} {vs : List Value} {Q : List Value → Shared → Prop} (hl : Coll s l vs) (hsz : vs.length ≤ sizeLine) (h : Q vs { s with heap := colHeap s.heap vs }) : wpAny (model prog w) A (collect (.ref l)) Q E s := by
  rcases hl with hl | hl
  · exact collect_list hl h hsz
  · obtain ⟨o, ho, hc, n, hd⟩ := id hl
    unfold collect
    refine wpAny_bind (wpAny_runValue (codeAny_builtin entry_proto_collect' ?_))
    show wpAny _ _ (do again (.builtin "list.__iadd__" ⟨[← newList [], .ref l], []⟩)) _ _ s
    refine wpAny_bind (wpAny_newList (wpAny_pure ⟨Code.quiet_builtin _ (by decide +kernel), codeAny_builtin entry_list_iadd' ?_⟩))
    show wpAny _ _ (Builtin.List.listExtendWith (.ref s.heap.objs.size) (.ref l) (.ref s.heap.objs.size)) _ _ { s with heap := s.heap.push (seqObj "list" #[] 0) }
    unfold Builtin.List.listExtendWith
    have ho' : (s.heap.push (seqObj "list" #[] 0)).get? l = some o := Heap.get?_push_of_some _ ho
    refine wpAny_bind (wpAny_typeOf (T := "tuple") ⟨o, ho', hc⟩ ?_)
    have ht : (Value.type "tuple" == Value.type "tuple") = true := by rfl
    rw [if_pos (by rw [ht]; simp)]
    refine wpAny_bind (listItems_at ho' hd ?_)
    refine wpAny_bind (listItems_at (xs := #[]) (n := 0) (Heap.get?_push_size _ rfl) rfl ?_)
    rw [if_neg (by simp)]
    refine wpAny_bind (listUpdate_at (xs := #[]) (n := 0) (Heap.get?_push_size _ rfl) rfl ?_ (Nat.zero_le _) (by show (#[] ++ vs.toArray).size ≤ sizeLine + 1; simp only [Array.size_append, List.size_toArray, List.length_nil]; omega))
    refine wpAny_pure ?_
    show wpAny (model prog w) A (do
        let o ← load s.heap.objs.size
        match o.data with
        | .seq xs _ => pure xs.toList
        | _ => unsupported "internal:collect") Q E { s with heap := (s.heap.push (seqObj "list" #[] 0)).update s.heap.objs.size (Obj.mapSeq (· ++ vs.toArray)) }
    refine wpAny_bind (wpAny_load (get?_update_seq (Heap.get?_push_size _ rfl) _) ?_)
    show wpAny _ _ (pure ((#[] : Array Value) ++ vs.toArray).toList) Q E _
    rw [show ((#[] : Array Value) ++ vs.toArray).toList = vs by simp]
    exact wpAny_pure h
theorem col_size (h : Heap) (vs : List Value) : (colHeap h vs).objs.size = h.objs.size + 1 := by
  unfold colHeap
  rw [Heap.size_update, size_push']
theorem col_new (h : Heap) (vs : List Value) : ((colHeap h vs).push (seqObj "list" vs.toArray 0)).get? (h.objs.size + 1) = some (seqObj "list" vs.toArray 0) := by
  rw [← col_size h vs]
  exact Heap.get?_push_size _ rfl
theorem col_keep (h : Heap) (vs : List Value) : ∀ b o, h.get? b = some o → b ≠ h.objs.size + 1 ∧ ((colHeap h vs).push (seqObj "list" vs.toArray 0)).get? b = some o := fun b o q => by
  have hlt : b < h.objs.size := Heap.lt_size q
  refine ⟨Nat.ne_of_lt (Nat.lt_succ_of_lt hlt), Heap.get?_push_of_some _ ?_⟩
  unfold colHeap
  rw [Heap.get?_update_ne _ _ _ _ (Nat.ne_of_lt hlt)]
  exact Heap.get?_push_of_some _ q
/-- sorted of ints, a list or a tuple, up or down -/
theorem sorted_coll {l : Addr} {vs : List Value} {ns : List Int} {b : Bool} {kw : List (Str × Value)} {Q : Value → Shared → Prop} (hk : (kw = [] ∧ b = false) ∨ kw = [(Str.ofString "reverse", .bool b)])
    (hl : Coll s l vs) (hi : IntsAre vs ns) (hz : vs.length ≤ sizeLine)
    (h : ∀ (out : Array Value) (ns' : List Int), IntsAre out.toList ns' → ns'.Perm ns → Ordered b ns' → Q (.ref (s.heap.objs.size + 1)) { s with heap := sortedAll s.heap vs out }) :
    wpAny (model prog w) A (call (.builtin "sorted") [.ref l] kw) Q E s := by
  have go : ∀ {out : List Value}, SrtO.Srtd SrtO.ltIv out → SrtO.Stb SrtO.ltIv out (if b = true then vs.reverse else vs) → Q (.ref (s.heap.objs.size + 1)) { s with heap := sortedAll s.heap vs (if b = true then out.toArray.reverse else out.toArray) } := fun h1 h2 => by
    obtain ⟨ns', k1, k2, k3⟩ := SrtR.ints_outR hi h1 h2
    exact h _ ns' k1 k2 k3
  have hS : ∀ (h₁ : Heap) (a : Addr), 2 ≤ vs.length → SrtO.SortableO prog w A.in1.in1 { s with heap := h₁ } a vs SrtO.ltIv := fun h₁ a h2 => SrtO.ints_sortable hi h2
  rcases hk with ⟨rfl, rfl⟩ | rfl
  · refine Calls.call_function_entry kind_sorted plain_sorted entry_sorted (args_sorted1 _) ?_
    unfold Builtin.«sorted»
    refine wpAny_bind (m := checkCount "sorted" 1 1 _) (wpAny_pure ?_)
    refine wpAny_bind (coll_run hl hz ?_)
    refine wpAny_bind (wpAny_newList ?_ hz)
    show wpAny _ _ _ _ _ { s with heap := (colHeap s.heap vs).push (seqObj "list" vs.toArray 0) }
    simp only [col_size]
    refine wpAny_bind (wpAny_holding (wpAny_call_entry slot_list_sort ⟨_, col_new s.heap vs, rfl⟩ entry_list_sort (SrtO.list_sort_ord SrtO.swo_int (col_new s.heap vs) hz (fun h2 => hS _ _ h2) fun out hs hb => ⟨_, rfl, ?_⟩) (args_list_sort _)))
    exact wpAny_pure ⟨_, rfl, go hs (by simpa using hb)⟩
  · refine call_function_entry_kw kind_sorted plain_sorted entry_sorted (PyProof.Rows.args_sorted_rev _ _) ?_
    unfold Builtin.«sorted»
    refine wpAny_bind (m := checkCount "sorted" 1 1 _) (wpAny_pure ?_)
    refine wpAny_bind (coll_run hl hz ?_)
    refine wpAny_bind (wpAny_newList ?_ hz)
    show wpAny _ _ _ _ _ { s with heap := (colHeap s.heap vs).push (seqObj "list" vs.toArray 0) }
    simp only [col_size]
    refine wpAny_bind (wpAny_holding (wpAny_call_entry_kw slot_list_sort ⟨_, col_new s.heap vs, rfl⟩ entry_list_sort ?_ (PyProof.Rows.args_list_sort_rev _ _)))
    refine SrtR.list_sort_ordR SrtO.swo_int (col_new s.heap vs) hz (fun h2 => hS _ _ h2) fun out hs hb => ⟨_, rfl, ?_⟩
    exact wpAny_pure ⟨_, rfl, go hs hb⟩
end

/-! ### the rules -/
def sortUp (ns : List Int) : List Int := ns.mergeSort (fun x y => decide (x ≤ y))
def sortDn (ns : List Int) : List Int := (sortUp ns).reverse
def sortBy (b : Bool) (ns : List Int) : List Int := if b = true then sortDn ns else sortUp ns
theorem sortBy_eq {b : Bool} {a ns : List Int} (h : a.Perm ns) (o : Ordered b a) : a = sortBy b ns := by
  cases b with
  | false => exact PySem.W.os_sorted_mergeSort h o
  | true =>
    have h1 : a.reverse = sortUp ns := PySem.W.os_sorted_mergeSort ((List.reverse_perm a).trans h) (by
      rw [List.pairwise_reverse]
      exact o)
    show a = (sortUp ns).reverse
    rw [← h1, List.reverse_reverse]
section
variable {X : Cx}
/-- a list or a tuple of the layer's heap, its values in the machine's -/
theorem seq_coll {pins : List (Addr × Obj)} {σ : L2.St} {H : Hp} {s : Shared} {a : Addr} {xs : List V} (I : Inv X pins σ H s) (h : SqL X.K H a xs ∨ SqT X.K H a xs) : ∃ its : List Value, Vals xs its ∧ Coll s a its ∧ xs.length ≤ sizeLine := by
  rcases h with h | h
  · obtain ⟨its, rv, hl, hz⟩ := I.list h
    exact ⟨its, rv, .inl hl.isList, hz⟩
  · obtain ⟨its, rv, hl, hz⟩ := I.tuple h
    exact ⟨its, rv, .inr hl, hz⟩
def rSrt (K : PySem.W.Frag) (b : Bool) : List V → Hp → VK → Prop := fun vs H Q => ∃ (a : Addr) (ns : List Int), vs = [V.ref a] ∧ (SqL K H a (ns.map V.int) ∨ SqT K H a (ns.map V.int)) ∧
  ∀ p, H p = none → Q (.ref p) (upd H p (.lst ((sortBy b ns).map V.int)))
theorem srt_run {b : Bool} {kw : List (Str × Value)} {pins : List (Addr × Obj)} {s : Shared} {σ : L2.St} {H : Hp} {a : Addr} {ns : List Int} {Q : VK} (hk : (kw = [] ∧ b = false) ∨ kw = [(Str.ofString "reverse", .bool b)]) (I : Inv X pins σ H s)
    (hs : SqL X.K H a (ns.map V.int) ∨ SqT X.K H a (ns.map V.int)) (q : ∀ p, H p = none → Q (.ref p) (upd H p (.lst ((sortBy b ns).map V.int)))) : wpAny (model X.prog X.w) X.A (call (.builtin "sorted") [.ref a] kw) (EP X pins σ Q) X.xe s := by
  obtain ⟨its, rv, hl, hz⟩ := seq_coll I hs
  have hi := rv.ints
  refine sorted_coll hk hl hi (by rw [← rv.length]; exact hz) fun out ns' h1 h2 h3 => ?_
  have e := sortBy_eq h2 h3
  subst e
  obtain ⟨ep, he'⟩ := PyProof.Rows.sortedAll_at s.heap its out
  have hlen : ((sortBy b ns).map V.int).length ≤ sizeLine := by
    rw [List.length_map, h2.length_eq]
    rw [List.length_map] at hz
    exact hz
  exact ⟨.ref _, upd H (s.heap.objs.size + 1) (.lst ((sortBy b ns).map V.int)), I.laid (t' := s.toks) (fun _ _ => PyProof.Rows.sortedAll_old) (Nat.le_succ _) ⟨hlen, out.toList, ep, vals_of_ints h1, he'⟩, rfl, q _ (I.hok.fresh (Nat.le_succ _))⟩
theorem cr_srt : CallR X (.builtin "sorted") (rSrt X.K false) := by
  intro pins s σ H vs us Q I r h
  obtain ⟨a, ns, rfl, hs, q⟩ := h
  rw [Vals.ref1 r]
  exact srt_run (.inl ⟨rfl, rfl⟩) I hs q
theorem cr_srtR {b : Bool} : CallRK X (.builtin "sorted") [Str.ofString "reverse"] (fun vs zs H Q => zs = [.bl b] ∧ rSrt X.K b vs H Q) := by
  intro pins s σ H vs zs us ws Q I r rz h
  obtain ⟨rfl, a, ns, rfl, hs, q⟩ := h
  obtain rfl := Vals.ref1 r
  obtain ⟨w1, rfl, e1⟩ := vals1 rz
  obtain rfl : w1 = Value.bool b := e1
  exact srt_run (.inr rfl) I hs q
theorem cr_sumT (hc : X.calm = true) : CallR X (.builtin "sum") (fun vs H Q => ∃ (a : Addr) (ns : List Int), vs = [V.ref a] ∧ SqT X.K H a (ns.map V.int) ∧ Q (.int ns.sum) H) := by
  intro pins s σ H vs us Q I r h
  obtain ⟨a, ns, rfl, hs, q⟩ := h
  obtain ⟨its, rv, hl, _⟩ := I.tuple hs
  rw [Vals.ref1 r]
  have hi := rv.ints
  obtain ⟨xs, hx⟩ := hi.allInts.items
  have hn : numsOf its.toArray.toList = ns := by rw [show its.toArray.toList = its from rfl, hi.numsOf]
  rw [hx] at hl hn
  rw [nums_intItems] at hn
  refine PySem.W.ktm_sumG (I.ok.hd hc) hl fun h' tk t' hk => ⟨.int _, H, I.kept hk, ⟨_, rfl⟩, ?_⟩
  rw [preSum_eq, List.take_of_length_le (by simp), hn]
  exact q
end
end DL
set_option maxHeartbeats 2000000
/-! DLSeq: subscripts, slices, stores, methods of lists, built-in functions over data. -/
namespace DL
open PySem PySem.Spec PyProof.Rows L2
variable [HasT]
section
variable {X : Cx} {W : WX} {e a b o i : Expr} {es : List Expr} {pos p p2 : Pos} {ma mb mo mi me : ME D} {mr : ME (List D)}

/-! ### views -/
def intsD : List D → Option (List Int)
  | [] => some []
  | .p (.int i) :: r => match intsD r with
    | some ns => some (i :: ns)
    | none => none
  | _ => none
def bools : List D → Option (List Bool)
  | [] => some []
  | .p (.bl i) :: r => match bools r with
    | some ns => some (i :: ns)
    | none => none
  | _ => none
def dInts (ns : List Int) : List D := ns.map fun i => .p (.int i)
theorem ints_dInts : ∀ ns : List Int, intsD (dInts ns) = some ns
  | [] => rfl
  | n :: ns => by
    show intsD (D.p (.int n) :: dInts ns) = _
    simp only [intsD, ints_dInts ns]
theorem ints_eq : ∀ {ds : List D} {ns : List Int}, intsD ds = some ns → ds = dInts ns
  | [], _, h => by cases h; rfl
  | .p (.int i) :: r, ns, h => by
    simp only [intsD] at h
    split at h
    · rename_i ms e
      cases h
      rw [ints_eq e]
      rfl
    · cases h
  | .p .non :: _, _, h => by cases h
  | .p (.bl _) :: _, _, h => by cases h
  | .p (.str _) :: _, _, h => by cases h
  | .p (.tup _) :: _, _, h => by cases h
  | .p (.lst _) :: _, _, h => by cases h
  | .p (.scr _) :: _, _, h => by cases h
  | .p (.ins _ _) :: _, _, h => by cases h
  | .p (.dic _) :: _, _, h => by cases h
  | .p (.glo _) :: _, _, h => by cases h
  | .p (.ty _) :: _, _, h => by cases h
  | .r _ :: _, _, h => by cases h
  | .t _ :: _, _, h => by cases h
theorem relInts {G : Gb} {F : Addr → Prop} {ι : List Addr} {H : Hp} : ∀ {ns : List Int} {vs : List V}, RelDs G F ι H (dInts ns) vs → vs = ns.map V.int
  | [], _, h => by simpa only [RelDs, dInts, List.map] using h
  | n :: ns, _, h => by
    have h' : RelDs G F ι H (D.p (.int n) :: dInts ns) _ := h
    simp only [RelDs] at h'
    obtain ⟨v, ws, rfl, a, b⟩ := h'
    rw [relInt a, relInts b]
    rfl
theorem mkInts {G : Gb} {F : Addr → Prop} {ι : List Addr} {H : Hp} : ∀ ns : List Int, RelDs G F ι H (dInts ns) (ns.map V.int)
  | [] => relDs_nil'
  | n :: ns => relDs_cons.mpr ⟨mkInt, mkInts ns⟩
theorem relBools {G : Gb} {F : Addr → Prop} {ι : List Addr} {H : Hp} : ∀ {ds : List D} {bs : List Bool} {vs : List V}, bools ds = some bs → RelDs G F ι H ds vs → vs = bs.map V.bl
  | [], _, _, h, r => by
    cases h
    simpa only [RelDs, List.map] using r
  | .p (.bl i) :: ds, bs, _, h, r => by
    simp only [bools] at h
    split at h
    · rename_i ms e
      cases h
      simp only [RelDs] at r
      obtain ⟨v, ws, rfl, a, b⟩ := r
      rw [relBl a, relBools e b]
      rfl
    · cases h
  | .p .non :: _, _, _, h, _ => by cases h
  | .p (.int _) :: _, _, _, h, _ => by cases h
  | .p (.str _) :: _, _, _, h, _ => by cases h
  | .p (.tup _) :: _, _, _, h, _ => by cases h
  | .p (.lst _) :: _, _, _, h, _ => by cases h
  | .p (.scr _) :: _, _, _, h, _ => by cases h
  | .p (.ins _ _) :: _, _, _, h, _ => by cases h
  | .p (.dic _) :: _, _, _, h, _ => by cases h
  | .p (.glo _) :: _, _, _, h, _ => by cases h
  | .p (.ty _) :: _, _, _, h, _ => by cases h
  | .r _ :: _, _, _, h, _ => by cases h
  | .t _ :: _, _, _, h, _ => by cases h

theorem relDs_dropLast {G : Gb} {F : Addr → Prop} {ι : List Addr} {H : Hp} {xs : List D} {vs : List V} (r : RelDs G F ι H xs vs) : RelDs G F ι H xs.dropLast vs.dropLast := by
  rw [List.dropLast_eq_take, List.dropLast_eq_take, ← relDs_len r]
  exact relDs_take _ r

/-! ### a[i] -/
def IxD (X : Cx) (f : F2) : Prop :=
  ∃ r : R2, IxR X r ∧ ∀ {F : Addr → Prop} {ι : List Addr} {S S' : Store} {H : Hp} {d1 d2 d' : D} {v1 v2 : V} {Q : VK}, R (gb X) F ι S H → RelD (gb X) F ι H d1 v1 → RelD (gb X) F ι H d2 v2 → f d1 d2 S = some (d', S') →
    (∀ F' ι' H' v, Nxt (gb X) F ι H F' ι' S' H' → RelD (gb X) F' ι' H' d' v → Q v H') → r v1 v2 H Q
theorem de_ix {f : F2} (ho : IxD X f) (ha : DE X W a ma) (hb : DE X W b mb) (hs : PlainIx b := by intro _ _; rfl) : DE X W (.Subscript a b pos) (mOp2 f ma mb) := by
  obtain ⟨r, o, k⟩ := ho
  exact PE.imp (pe_ix o ha hb hs) (op2_imp k)
def fIx : F2 := fun x y S => match y with
  | .p (.int i) => (match x.tup? with
    | some xs => (match atI xs i with
      | some d => some (d, S)
      | none => none)
    | none => (match x.lst? S with
      | some xs => (match atI xs i with
        | some d => some (d, S)
        | none => none)
      | none => (match x with
        | .p (.str z) => if z.length ≤ 100000 then (match atI z.cps.toList i with
          | some c => some (.p (.str ⟨#[c]⟩), S)
          | none => none) else none
        | _ => none)))
  | _ => none
theorem atI_rel {G : Gb} {F : Addr → Prop} {ι : List Addr} {H : Hp} {xs : List D} {vs : List V} {i : Int} {d : D} (r : RelDs G F ι H xs vs) (h : atI xs i = some d) : ∃ v, atI vs i = some v ∧ RelD G F ι H d v := by
  unfold atI at h ⊢
  rw [← relDs_len r]
  cases e : ixN xs.length i with
  | none => rw [e] at h; cases h
  | some j =>
    rw [e] at h
    exact relDs_get r h
theorem ixd : IxD X fIx := ⟨_, ix_seq, fun {F ι S S' H d1 d2 d' v1 v2 Q} rs r1 r2 e q => by
  unfold fIx at e
  split at e
  · rename_i i
    cases relInt r2
    split at e
    · rename_i xs ex
      split at e
      · rename_i d ed
        cases e
        obtain ⟨p, vs, rfl, q1, rd⟩ := tup?_rel ex r1
        obtain ⟨v, hv, rv⟩ := atI_rel rd ed
        exact .inr (.inl ⟨p, vs, i, v, rfl, rfl, q1, hv, q F ι H v (Nxt.refl rs) rv⟩)
      · cases e
    · split at e
      · rename_i xs ex
        split at e
        · rename_i d ed
          cases e
          obtain ⟨p, vs, rfl, q1, rd⟩ := lst?_rel rs ex r1
          obtain ⟨v, hv, rv⟩ := atI_rel rd ed
          exact .inl ⟨p, vs, i, v, rfl, rfl, q1, hv, q F ι H v (Nxt.refl rs) rv⟩
        · cases e
      · split at e
        · split at e
          · rename_i hz
            split at e
            · rename_i c ec
              cases e
              cases relStr r1
              exact .inr (.inr ⟨_, i, c, rfl, rfl, szOk hz, ec, q F ι H _ (Nxt.refl rs) mkStr⟩)
            · cases e
          · cases e
        · cases e
  · cases e⟩

/-! ### a[lo:hi] -/
def mNoPart : ME (Option Int) := fun _ S => .ok none S
def asInt : D → M Int
  | .p (.int i) => fun S => .ok i S
  | _ => fun _ => .stuck
def mPart (m : ME D) : ME (Option Int) := fun ρ S => (m ρ S).bind fun x => fun S => (asInt x S).bind fun i S => .ok (some i) S
def TOp (G : Gb) (W : WX) (m : ME (Option Int)) : TO := fun σ H Q => ∃ ρ S ι F, At G F ι H σ ρ S ∧ Then G (fun c d H' => W c d σ H') F ι H (m ρ S) fun o _ F' ι' H' => Q o H'
abbrev DO (X : Cx) (W : WX) (e : Option Expr) (m : ME (Option Int)) : Prop := PO X e (TOp (gb X) W m)
theorem PO.imp {X : Cx} {e : Option Expr} {t t' : TO} (h : PO X e t) (i : ∀ σ H Q, t' σ H Q → t σ H Q) : PO X e t' := ⟨fun pins s σ H Q I q => h.run pins s σ H Q I (i σ H Q q)⟩
theorem do_none : DO X W none mNoPart := PO.imp po_none fun σ H Q q => by
  obtain ⟨ρ, S, ι, F, at', t⟩ := q
  exact t.now at'.r
theorem asInt_then {G : Gb} {W : Value → Option Addr → Hp → Prop} {F : Addr → Prop} {ι : List Addr} {H : Hp} {α : Type} {d : D} {S : Store} {k : Int → M α} {v : V} {Q : α → Store → (Addr → Prop) → List Addr → Hp → Prop}
    (h : Then G W F ι H ((asInt d S).bind k) Q) (r : RelD G F ι H d v) : ∃ b, v = .int b ∧ Then G W F ι H (k b S) Q := by
  unfold asInt at h
  split at h
  · rename_i b
    exact ⟨b, relInt r, h⟩
  · exact h.elim
theorem do_some (h : DE X W e me) : DO X W (some e) (mPart me) := PO.imp (po_some h) fun σ H Q q => by
  obtain ⟨ρ, S, ι, F, at', t⟩ := q
  refine T.first at' t fun d1 S1 F1 ι1 H1 v1 n1 a1 r1 t1 => ?_
  obtain ⟨b, eb, t2⟩ := asInt_then t1 r1
  exact ⟨b, eb, t2.now a1.r⟩
def cutD (xs : List D) (lo hi : Option Int) : List D := (xs.drop (HT.sIx xs.length 0 lo)).take (HT.sIx xs.length xs.length hi - HT.sIx xs.length 0 lo)
theorem cut_rel {G : Gb} {F : Addr → Prop} {ι : List Addr} {H : Hp} {xs : List D} {vs : List V} (r : RelDs G F ι H xs vs) (lo hi : Option Int) : RelDs G F ι H (cutD xs lo hi) (cutV vs lo hi) := by
  unfold cutD cutV
  rw [← relDs_len r]
  exact relDs_take _ (relDs_drop _ r)
abbrev FS := D → Option Int → Option Int → Store → Option (D × Store)
/-- a slice of a list (the answer by fin) or of a tuple, not the whole of it -/
def fCut (fin : FL) : FS := fun x lo hi S => match x.tup? with
  | some xs => if HT.sIx xs.length 0 lo = 0 ∧ HT.sIx xs.length xs.length hi = xs.length then none else some (mkTup (cutD xs lo hi), S)
  | none => match x.lst? S with
    | some xs => fin (cutD xs lo hi) S
    | none => none
def mSl (f : FS) (ma : ME D) (ml mh : ME (Option Int)) : ME D := fun ρ S => (ma ρ S).bind fun x => fun S => (ml ρ S).bind fun l => fun S => (mh ρ S).bind fun h => lift (f x l h)
theorem TO.first {G : Gb} {W : WX} {α : Type} {F : Addr → Prop} {ι : List Addr} {σ : L2.St} {ρ : Env} {S : Store} {H : Hp} {m : ME (Option Int)} {k : Option Int → M α} {Q : α → Store → (Addr → Prop) → List Addr → Hp → Prop} {Q' : Option Int → Hp → Prop}
    (a : At G F ι H σ ρ S) (h : Then G (fun c d H' => W c d σ H') F ι H ((m ρ S).bind k) Q)
    (q : ∀ d S1 F1 ι1 H1, Nxt G F ι H F1 ι1 S1 H1 → At G F1 ι1 H1 σ ρ S1 → Then G (fun c d H' => W c d σ H') F1 ι1 H1 (k d S1) Q → Q' d H1) : TOp G W m σ H Q' :=
  ⟨ρ, S, ι, F, a, h.bind.mono fun d S1 F1 ι1 H1 n t => q d S1 F1 ι1 H1 n (a.next n) t⟩
theorem de_cut {fin : FL} {lo hi : Option Expr} {ml mh : ME (Option Int)} (n : NewL X fin) (ha : DE X W a ma) (hl : DO X W lo ml) (hh : DO X W hi mh) : DE X W (.Subscript a (.Slice lo hi none p2) pos) (mSl (fCut fin) ma ml mh) :=
  PE.imp (pe_slice (SlR.or sl_tup sl_list) ha hl hh) fun σ H Q q => by
    obtain ⟨ρ, S, ι, F, at', t⟩ := q
    refine T.first at' t fun d1 S1 F1 ι1 H1 v1 n1 a1 r1 t1 => ?_
    refine TO.first a1 t1 fun l S2 F2 ι2 H2 n2 a2 t2 => ?_
    refine TO.first a2 t2 fun h S3 F3 ι3 H3 n3 a3 t3 => ?_
    obtain ⟨d', S', e, q⟩ := lift_then t3
    have r3 := n3.d (n2.d r1)
    unfold fCut at e
    split at e
    · rename_i xs ex
      split at e
      · cases e
      · rename_i hw
        cases e
        obtain ⟨p, vs, rfl, q1, rd⟩ := tup?_rel ex r3
        refine .inl ⟨p, vs, rfl, q1, by rw [← relDs_len rd]; exact hw, fun p hp => ?_⟩
        exact q _ _ _ (Nxt.fresh a3.r hp) _ (rel_newT hp (cut_rel rd l h))
    · split at e
      · rename_i xs ex
        obtain ⟨p, vs, rfl, q1, rd⟩ := lst?_rel a3.r ex r3
        exact .inr ⟨p, vs, rfl, q1, (n a3.r (cut_rel rd l h) e fun F' ι' H' v n r => q F' ι' H' n v r).2⟩
      · cases e
/-- xs[::-1] -/
def fRevL (fin : FL) : F1 := fun x S => match x.lst? S with
  | some xs => fin xs.reverse S
  | none => none
theorem de_revL {fin : FL} {k : Nat} {p1 p3 p4 : Pos} (n : NewL X fin) (ha : DE X W a ma) : DE X W (.Subscript a (.Slice none none (some (.UnaryOp .USub (.Constant (.int 1) k p1) p3)) p4) pos) (mOp1 (fRevL fin) ma) :=
  PE.imp (pe_revL ha) fun σ H Q q => by
    obtain ⟨ρ, S, ι, F, at', t⟩ := q
    refine T.first at' t fun d1 S1 F1 ι1 H1 v1 n1 a1 r1 t1 => ?_
    obtain ⟨d', S', e, q⟩ := lift_then t1
    unfold fRevL at e
    split at e
    · rename_i xs ex
      obtain ⟨p, vs, rfl, q1, rd⟩ := lst?_rel a1.r ex r1
      exact ⟨p, vs, rfl, q1, (n a1.r (relDs_reverse rd) e fun F' ι' H' v n r => q F' ι' H' n v r).2⟩
    · cases e

/-! ### a[i] = e -/
def putL (n : Nat) (xs : List D) (S : Store) : Option Store := if h : (O.lst xs).lo S.objs.length = true then some (S.put n (.lst xs) h) else none
/-- a list of the store, at its place -/
def D.mut? (d : D) (S : Store) : Option (Nat × List D) := match d with
  | .r n => match S.objs[n]? with
    | some (.lst xs) => some (n, xs)
    | _ => none
  | _ => none
theorem mut?_rel {G : Gb} {F : Addr → Prop} {ι : List Addr} {S : Store} {H : Hp} {d : D} {n : Nat} {xs : List D} {v : V} (rs : R G F ι S H) (h : d.mut? S = some (n, xs)) (r : RelD G F ι H d v) : ∃ a vs, v = .ref a ∧ ι[n]? = some a ∧ H a = some (.lst vs) ∧ RelDs G F ι H xs vs := by
  unfold D.mut? at h
  split at h
  · rename_i m
    split at h
    · rename_i ys e
      cases h
      simp only [RelD] at r
      obtain ⟨a, rfl, q⟩ := r
      obtain ⟨b, qb, ro⟩ := rs.obj e
      rw [q] at qb
      cases qb
      obtain ⟨vs, hv, rv⟩ := ro
      exact ⟨a, vs, rfl, q, hv, rv⟩
    · cases h
  · cases h
/-- a list of the store is changed -/
theorem putL_nxt {G : Gb} {F : Addr → Prop} {ι : List Addr} {S S' : Store} {H : Hp} {n : Nat} {a : Addr} {us vs : List V} {es : List D} (rs : R G F ι S H) (hi : ι[n]? = some a) (hu : H a = some (.lst us)) (rd : RelDs G F ι H es vs) (e : putL n es S = some S') : Nxt G F ι H F ι S' (upd H a (.lst vs)) := by
  unfold putL at e
  split at e
  · rename_i hw
    cases e
    exact Nxt.putL rs hi hu rd hw
  · cases e
def fPut : D → D → D → Store → Option Store := fun x i y S => match x.mut? S, i with
  | some (n, xs), .p (.int k) => (match ixN xs.length k with
    | some j => putL n (xs.set j y) S
    | none => none)
  | _, _ => none
def liftS (f : Store → Option Store) (ρ : Env) : M Out := fun S => match f S with
  | some S' => .ok (.nx ρ) S'
  | none => .stuck
def mPut (me mo mi : ME D) : MS := fun ρ S => (me ρ S).bind fun y => fun S => (mo ρ S).bind fun x => fun S => (mi ρ S).bind fun i => liftS (fPut x i y) ρ
theorem liftS_then {G : Gb} {W : Value → Option Addr → Hp → Prop} {F : Addr → Prop} {ι : List Addr} {H : Hp} {f : Store → Option Store} {ρ : Env} {S : Store} {Q : Out → Store → (Addr → Prop) → List Addr → Hp → Prop}
    (h : Then G W F ι H (liftS f ρ S) Q) : ∃ S', f S = some S' ∧ ∀ F' ι' H', Nxt G F ι H F' ι' S' H' → Q (.nx ρ) S' F' ι' H' := by
  unfold liftS at h
  split at h
  · rename_i S' e
    exact ⟨S', e, h⟩
  · exact h.elim
theorem ds_put (he : DE X W e me) (ho : DE X W o mo) (hi : DE X W i mi)
    (ha : ∀ v, assign (.Subscript o i p) X.env v = (do
      let ov ← holding [v] (eval o X.env)
      let iv ← holding [v, ov] (eval i X.env)
      standAt p
      holding [v, ov, iv] (setItem ov iv v)
      release [v, ov, iv] []) := by intro _; rfl)
    (hs : swapsWithSole [.Subscript o i p] e pos.line X.env = pure false := by rfl) (hw : swappedStores [.Subscript o i p] e X.env = pure none := by rfl) (h1 : (assignEach [.Subscript o i p] X.env).map (·.2) = [assign (.Subscript o i p) X.env] := by rfl) :
    DS X W (.Assign [.Subscript o i p] e pos) (mPut me mo mi) := PS.imp (ps_asg he (pg_sub ho hi set_list ha) hs hw h1) fun E σ H q => by
  obtain ⟨ρ, S, ι, F, a, t⟩ := q
  refine T.firstS a t fun d S1 F1 ι1 H1 v n a1 r t1 => ?_
  refine T.firstS a1 t1 fun d2 S2 F2 ι2 H2 v2 n2 a2 r2 t2 => ?_
  refine T.firstS a2 t2 fun d3 S3 F3 ι3 H3 v3 n3 a3 r3 t3 => ?_
  obtain ⟨S', e', q⟩ := liftS_then t3
  unfold fPut at e'
  split at e'
  · rename_i n xs k em
    split at e'
    · rename_i j ej
      obtain ⟨a4, vs, rfl, q4, h4, rd⟩ := mut?_rel a3.r em (n3.d r2)
      cases relInt r3
      refine ⟨a4, vs, k, j, rfl, rfl, h4, by rw [← relDs_len rd]; exact ej, ?_⟩
      have nx := putL_nxt a3.r q4 h4 (relDs_set (n3.d (n2.d r)) j rd) e'
      exact q _ _ _ nx σ rfl (a3.e.mono nx)
    · cases e'
  · cases e'

/-! ### methods -/
abbrev FM := D → List D → Store → Option (D × Store)
def MtD (X : Cx) (id : String) (f : FM) : Prop :=
  ∃ r : V → List V → Hp → VK → Prop, MtR X id r ∧ ∀ {F : Addr → Prop} {ι : List Addr} {S S' : Store} {H : Hp} {d d' : D} {ds : List D} {v : V} {vs : List V} {Q : VK}, R (gb X) F ι S H → RelD (gb X) F ι H d v → RelDs (gb X) F ι H ds vs → f d ds S = some (d', S') →
    (∀ F' ι' H' v, Nxt (gb X) F ι H F' ι' S' H' → RelD (gb X) F' ι' H' d' v → Q v H') → r v vs H Q
/-- the receiver is a list -/
def mMeth (f : FM) (mo : ME D) (mr : ME (List D)) : ME D := fun ρ S => (mo ρ S).bind fun x => fun S => (lift (fun S => match x.lst? S with
  | some _ => some ((), S)
  | none => none) S).bind fun _ S => (mr ρ S).bind fun ys => lift (f x ys)
theorem lst_ty {F : Addr → Prop} {ι : List Addr} {S : Store} {H : Hp} {d : D} {xs : List D} {v : V} (rs : R (gb X) F ι S H) (h : d.lst? S = some xs) (r : RelD (gb X) F ι H d v) : tyV X.K "list" v H := by
  obtain ⟨a, vs, rfl, q, _⟩ := lst?_rel rs h r
  exact .inl ⟨rfl, vs, q⟩
theorem de_meth {name : Str} {apos cpos : Pos} {id : String} {f : FM} (hm : MtD X id f) (slot : Slot "list" name id) (hty : typeOf (.builtin id) = pure (.type "method_descriptor")) (ho : DE X W o mo) (ha : DA X W (e :: es) mr)
    (hbase : attributeBase o name X.env (eval o X.env) = eval o X.env := by rfl)
    (hfew : ((backTo cpos (starEach (e :: es) X.env)).all (fun x => !x.1) && (backToKw cpos (keywordEach [] X.env)).all (fun x => x.1.isSome)
      && decide ((e :: es).length + ([] : List Keyword).length + (if ([] : List Keyword).isEmpty then 0 else 1) < 30)) = true := by rfl)
    (hline : (apos.endLine == cpos.line) = true := by rfl) (hs : starEach (e :: es) X.env = (false, eval e X.env) :: starEach es X.env := by rfl) (hplain : (backTo cpos (starEach es X.env)).any (·.1) = false := by rfl) :
    DE X W (.Call (.Attribute o name apos) (e :: es) [] cpos) (mMeth f mo mr) := by
  obtain ⟨r, hr, k⟩ := hm
  refine PE.imp (pe_bm PySem.F.plainAttrs_list slot hty hr ho ha hbase hfew hline hs hplain) fun σ H Q q => ?_
  obtain ⟨ρ, S, ι, F, at', t⟩ := q
  refine T.first at' t fun d1 S1 F1 ι1 H1 v1 n1 a1 r1 t1 => ?_
  obtain ⟨u, S2, e2, q2⟩ := lift_then t1.bind
  split at e2
  · rename_i xs ex
    cases e2
    refine ⟨lst_ty a1.r ex r1, ?_⟩
    refine TL.first a1 (q2 _ _ _ (Nxt.refl a1.r)) fun ds S2 F2 ι2 H2 vs n2 a2 r2 t2 => ?_
    obtain ⟨d', S', e, q⟩ := lift_then t2
    exact k a2.r (n2.d r1) r2 e fun F' ι' H' v n r => q F' ι' H' n v r
  · cases e2
theorem de_meth0 {name : Str} {apos cpos : Pos} {id : String} {f : FM} (hm : MtD X id f) (slot : Slot "list" name id) (hty : typeOf (.builtin id) = pure (.type "method_descriptor")) (ho : DE X W o mo)
    (hbase : attributeBase o name X.env (eval o X.env) = eval o X.env := by rfl) (hline : (apos.endLine == cpos.line) = true := by rfl) :
    DE X W (.Call (.Attribute o name apos) [] [] cpos) (mMeth f mo mNil) := by
  obtain ⟨r, hr, k⟩ := hm
  refine PE.imp (pe_bm0 PySem.F.plainAttrs_list slot hty hr ho hbase hline) fun σ H Q q => ?_
  obtain ⟨ρ, S, ι, F, at', t⟩ := q
  refine T.first at' t fun d1 S1 F1 ι1 H1 v1 n1 a1 r1 t1 => ?_
  obtain ⟨u, S2, e2, q2⟩ := lift_then t1.bind
  split at e2
  · rename_i xs ex
    cases e2
    refine ⟨lst_ty a1.r ex r1, ?_⟩
    obtain ⟨d', S', e, q⟩ := lift_then (q2 _ _ _ (Nxt.refl a1.r))
    exact k a1.r r1 relDs_nil' e fun F' ι' H' v n r => q F' ι' H' n v r
  · cases e2
def fAppend : FM := fun x ys S => match x.mut? S, ys with
  | some (n, xs), [y] => if xs.length < 100000 then (match putL n (xs ++ [y]) S with
    | some S' => some (.p .non, S')
    | none => none) else none
  | _, _ => none
theorem md_append : MtD X "list.append" fAppend := ⟨_, mt_append, fun {F ι S S' H d d' ds v vs Q} rs r1 r2 e q => by
  unfold fAppend at e
  split at e
  · rename_i n xs y em
    split at e
    · rename_i hl
      split at e
      · rename_i S2 e2
        cases e
        obtain ⟨a, us, rfl, hi, hu, rd⟩ := mut?_rel rs em r1
        obtain ⟨w, rfl, ry⟩ := relDs1 r2
        exact ⟨a, us, w, rfl, rfl, hu, by rw [← relDs_len rd]; rw [sizeLine_eq]; omega, q _ _ _ _ (putL_nxt rs hi hu (relDs_append rd (relDs_cons.mpr ⟨ry, relDs_nil'⟩)) e2) mkNon⟩
      · cases e
    · cases e
  · cases e⟩
def fPopAt : FM := fun x ys S => match x.mut? S, ys with
  | some (n, xs), [.p (.int i)] => (match seqIndex? i xs.length with
    | some k => if fitR i = true then (match xs[k]? with
      | some y => (match putL n (xs.eraseIdx k) S with
        | some S' => some (y, S')
        | none => none)
      | none => none) else none
    | none => none)
  | _, _ => none
theorem md_popAt : MtD X "list.pop" fPopAt := ⟨_, mt_popAt, fun {F ι S S' H d d' ds v vs Q} rs r1 r2 e q => by
  unfold fPopAt at e
  split at e
  · rename_i n xs i em
    split at e
    · rename_i k ek
      split at e
      · rename_i hf
        split at e
        · rename_i y ey
          split at e
          · rename_i S2 e2
            cases e
            obtain ⟨a, us, rfl, hi, hu, rd⟩ := mut?_rel rs em r1
            obtain ⟨w, rfl, ry⟩ := relDs1 r2
            cases relInt ry
            obtain ⟨v, hv, rv⟩ := relDs_get rd ey
            have nx := putL_nxt rs hi hu (relDs_erase k rd) e2
            have := fitR_ok hf
            exact ⟨a, us, i, k, v, rfl, rfl, hu, by omega, by omega, by rw [← relDs_len rd]; exact ek, hv, q _ _ _ _ nx (nx.d rv)⟩
          · cases e
        · cases e
      · cases e
    · cases e
  · cases e⟩
def fPop : FM := fun x ys S => match x.mut? S, ys with
  | some (n, xs), [] => (match xs[xs.length - 1]? with
      | some y => (match putL n xs.dropLast S with
        | some S' => some (y, S')
        | none => none)
      | none => none)
  | _, _ => none
theorem md_pop : MtD X "list.pop" fPop := ⟨_, mt_pop, fun {F ι S S' H d d' ds v vs Q} rs r1 r2 e q => by
  unfold fPop at e
  split at e
  · rename_i n xs em
    split at e
    · rename_i y ey
      split at e
      · rename_i S2 e2
        cases e
        obtain ⟨a, us, rfl, hi, hu, rd⟩ := mut?_rel rs em r1
        rw [relDs_nil] at r2
        subst r2
        obtain ⟨v, hv, rv⟩ := relDs_get rd ey
        have nx := putL_nxt rs hi hu (relDs_dropLast rd) e2
        exact ⟨a, us, v, rfl, rfl, hu, by rw [← relDs_len rd]; exact hv, q _ _ _ _ nx (nx.d rv)⟩
      · cases e
    · cases e
  · cases e⟩

/-! ### built-in functions -/
def fLen : FL := fun ds S => match ds with
  | [x] => (match x.seq? S with
    | some xs => some (.p (.int xs.length), S)
    | none => (match x with
      | .p (.str z) => if z.length ≤ 100000 then some (.p (.int z.length), S) else none
      | _ => none))
  | _ => none
theorem cd_len : CallD X (.builtin "len") fLen := ⟨_, call_len_seq.or call_len_str, fun {F ι S S' H ds d' vs Q} rs r e q => by
  unfold fLen at e
  split at e
  · obtain ⟨v, rfl, r1⟩ := relDs1 r
    split at e
    · rename_i xs ex
      cases e
      obtain ⟨p, us, rfl, q1, rd⟩ := seq?_rel rs ex r1
      exact .inl ⟨p, us, rfl, q1, by rw [← relDs_len rd]; exact q F ι H _ (Nxt.refl rs) mkInt⟩
    · split at e
      · split at e
        · rename_i hz
          cases e
          cases relStr r1
          exact .inr ⟨_, rfl, szOk hz, q F ι H _ (Nxt.refl rs) mkInt⟩
        · cases e
      · cases e
  · cases e⟩
def fAbs : FL := fun ds S => match ds with
  | [.p (.int i)] => some (.p (.int (if i < 0 then -i else i)), S)
  | _ => none
theorem cd_abs : CallD X (.builtin "abs") fAbs := ⟨_, call_abs, fun {F ι S S' H ds d' vs Q} rs r e q => by
  unfold fAbs at e
  split at e
  · cases e
    obtain ⟨v, rfl, r1⟩ := relDs1 r
    cases relInt r1
    exact ⟨_, rfl, q F ι H _ (Nxt.refl rs) mkInt⟩
  · cases e⟩
def fInt : FL := fun ds S => match ds with
  | [.p (.int i)] => some (.p (.int i), S)
  | [.p (.bl k)] => some (.p (.int (if k then 1 else 0)), S)
  | _ => none
theorem cd_int : CallD X (.type "int") fInt := ⟨_, call_int1, fun {F ι S S' H ds d' vs Q} rs r e q => by
  unfold fInt at e
  split at e
  · cases e
    obtain ⟨v, rfl, r1⟩ := relDs1 r
    cases relInt r1
    exact .inl ⟨_, rfl, q F ι H _ (Nxt.refl rs) mkInt⟩
  · cases e
    obtain ⟨v, rfl, r1⟩ := relDs1 r
    cases relBl r1
    exact .inr ⟨_, rfl, q F ι H _ (Nxt.refl rs) mkInt⟩
  · cases e⟩
def fBool : FL := fun ds S => match ds with
  | [.p (.int i)] => some (.p (.bl (i != 0)), S)
  | [.p (.bl k)] => some (.p (.bl k), S)
  | _ => none
theorem cd_bool : CallD X (.type "bool") fBool := ⟨_, call_bool1, fun {F ι S S' H ds d' vs Q} rs r e q => by
  unfold fBool at e
  split at e
  · cases e
    obtain ⟨v, rfl, r1⟩ := relDs1 r
    cases relInt r1
    exact .inl ⟨_, rfl, q F ι H _ (Nxt.refl rs) mkBl⟩
  · cases e
    obtain ⟨v, rfl, r1⟩ := relDs1 r
    cases relBl r1
    exact .inr ⟨_, rfl, q F ι H _ (Nxt.refl rs) mkBl⟩
  · cases e⟩
def fMax2 : FL := fun ds S => match ds with
  | [.p (.int i), .p (.int j)] => some (.p (.int (if j > i then j else i)), S)
  | _ => none
def fMin2 : FL := fun ds S => match ds with
  | [.p (.int i), .p (.int j)] => some (.p (.int (if j < i then j else i)), S)
  | _ => none
theorem cd_max2 (hc : X.calm = true) : CallD X (.builtin "max") fMax2 := ⟨_, call_max2 hc, fun {F ι S S' H ds d' vs Q} rs r e q => by
  unfold fMax2 at e
  split at e
  · cases e
    obtain ⟨v, w, rfl, r1, r2⟩ := relDs2 r
    cases relInt r1
    cases relInt r2
    exact ⟨_, _, rfl, q F ι H _ (Nxt.refl rs) mkInt⟩
  · cases e⟩
theorem cd_min2 (hc : X.calm = true) : CallD X (.builtin "min") fMin2 := ⟨_, call_min2 hc, fun {F ι S S' H ds d' vs Q} rs r e q => by
  unfold fMin2 at e
  split at e
  · cases e
    obtain ⟨v, w, rfl, r1, r2⟩ := relDs2 r
    cases relInt r1
    cases relInt r2
    exact ⟨_, _, rfl, q F ι H _ (Nxt.refl rs) mkInt⟩
  · cases e⟩
/-! list(x), tuple(x) -/
def fToL (fin : FL) : FL := fun ds S => match ds with
  | [x] => (match x.seq? S with
    | some xs => fin xs S
    | none => none)
  | _ => none
theorem cd_toL {fin : FL} (n : NewL X fin) : CallD X (.type "list") (fToL fin) := ⟨_, call_list_of, fun {F ι S S' H ds d' vs Q} rs r e q => by
  unfold fToL at e
  split at e
  · obtain ⟨v, rfl, r1⟩ := relDs1 r
    split at e
    · rename_i xs ex
      obtain ⟨p, us, rfl, q1, rd⟩ := seq?_rel rs ex r1
      exact ⟨p, us, rfl, q1, (n rs rd e q).2⟩
    · cases e
  · cases e⟩
def fToT : FL := fun ds S => match ds with
  | [x] => (match x.seq? S with
    | some xs => some (mkTup xs, S)
    | none => none)
  | _ => none
theorem cd_toT : CallD X (.type "tuple") fToT := ⟨_, call_tuple_of, fun {F ι S S' H ds d' vs Q} rs r e q => by
  unfold fToT at e
  split at e
  · obtain ⟨v, rfl, r1⟩ := relDs1 r
    split at e
    · rename_i xs ex
      cases e
      obtain ⟨p, us, rfl, q1, rd⟩ := seq?_rel rs ex r1
      rcases q1 with q1 | q1
      · exact ⟨p, us, rfl, .inl ⟨q1, fun l hl => q _ _ _ _ (Nxt.fresh rs hl) (rel_newT hl rd)⟩⟩
      · exact ⟨p, us, rfl, .inr ⟨q1, q _ _ _ _ (Nxt.refl rs) (mkTup_rel q1 rd)⟩⟩
    · cases e
  · cases e⟩
/-! sum, all, any -/
def fSum : FL := fun ds S => match ds with
  | [x] => (match x.seq? S with
    | some xs => (match intsD xs with
      | some ns => some (.p (.int ns.sum), S)
      | none => none)
    | none => none)
  | _ => none
theorem cd_sum (hc : X.calm = true) : CallD X (.builtin "sum") fSum := ⟨_, (cr_sum hc).or (cr_sumT hc), fun {F ι S S' H ds d' vs Q} rs r e q => by
  unfold fSum at e
  split at e
  · obtain ⟨v, rfl, r1⟩ := relDs1 r
    split at e
    · rename_i xs ex
      split at e
      · rename_i ns en
        cases e
        obtain ⟨p, us, rfl, q1, rd⟩ := seq?_rel rs ex r1
        rw [ints_eq en] at rd
        rw [relInts rd] at q1
        rcases q1 with q1 | q1
        · exact .inl ⟨p, ns, rfl, q1, q _ _ _ _ (Nxt.refl rs) mkInt⟩
        · exact .inr ⟨p, ns, rfl, q1, q _ _ _ _ (Nxt.refl rs) mkInt⟩
      · cases e
    · cases e
  · cases e⟩
def fAll : FL := fun ds S => match ds with
  | [x] => (match x.lst? S with
    | some xs => (match bools xs with
      | some ns => some (.p (.bl (ns.all id)), S)
      | none => none)
    | none => none)
  | _ => none
theorem cd_all (hc : X.calm = true) : CallD X (.builtin "all") fAll := ⟨_, cr_all hc, fun {F ι S S' H ds d' vs Q} rs r e q => by
  unfold fAll at e
  split at e
  · obtain ⟨v, rfl, r1⟩ := relDs1 r
    split at e
    · rename_i xs ex
      split at e
      · rename_i ns en
        cases e
        obtain ⟨p, us, rfl, q1, rd⟩ := lst?_rel rs ex r1
        rw [relBools en rd] at q1
        exact ⟨p, ns, rfl, q1, q _ _ _ _ (Nxt.refl rs) mkBl⟩
      · cases e
    · cases e
  · cases e⟩
def fAny : FL := fun ds S => match ds with
  | [x] => (match x.lst? S with
    | some xs => (match bools xs with
      | some ns => some (.p (.bl (ns.any id)), S)
      | none => none)
    | none => none)
  | _ => none
theorem cd_any (hc : X.calm = true) : CallD X (.builtin "any") fAny := ⟨_, cr_any hc, fun {F ι S S' H ds d' vs Q} rs r e q => by
  unfold fAny at e
  split at e
  · obtain ⟨v, rfl, r1⟩ := relDs1 r
    split at e
    · rename_i xs ex
      split at e
      · rename_i ns en
        cases e
        obtain ⟨p, us, rfl, q1, rd⟩ := lst?_rel rs ex r1
        rw [relBools en rd] at q1
        exact ⟨p, ns, rfl, q1, q _ _ _ _ (Nxt.refl rs) mkBl⟩
      · cases e
    · cases e
  · cases e⟩
/-! sorted -/
def fSrt (b : Bool) (fin : FL) : FL := fun ds S => match ds with
  | [x] => (match x.seq? S with
    | some xs => (match intsD xs with
      | some ns => fin (dInts (sortBy b ns)) S
      | none => none)
    | none => none)
  | _ => none
theorem srt_imp {b : Bool} {fin : FL} (n : NewL X fin) {F : Addr → Prop} {ι : List Addr} {S S' : Store} {H : Hp} {ds : List D} {d' : D} {vs : List V} {Q : VK} (rs : R (gb X) F ι S H) (r : RelDs (gb X) F ι H ds vs) (e : fSrt b fin ds S = some (d', S'))
    (q : ∀ F' ι' H' v, Nxt (gb X) F ι H F' ι' S' H' → RelD (gb X) F' ι' H' d' v → Q v H') : rSrt X.K b vs H Q := by
  unfold fSrt at e
  split at e
  · obtain ⟨v, rfl, r1⟩ := relDs1 r
    split at e
    · rename_i xs ex
      split at e
      · rename_i ns en
        obtain ⟨p, us, rfl, q1, rd⟩ := seq?_rel rs ex r1
        rw [ints_eq en] at rd
        rw [relInts rd] at q1
        exact ⟨p, ns, rfl, q1, (n rs (mkInts _) e q).2⟩
      · cases e
    · cases e
  · cases e
theorem cd_srt {fin : FL} (n : NewL X fin) : CallD X (.builtin "sorted") (fSrt false fin) := ⟨_, cr_srt, fun rs r e q => srt_imp n rs r e q⟩
end
end DL
set_option maxHeartbeats 2000000
/-! DLEnum: for i, x in enumerate(xs), a list or a tuple. -/
namespace DL
open PySem PySem.Spec PyProof.Rows L2

theorem enum1_new {v : Value} {o : Obj} {H : Heap → Prop} (B : Begins v o H) :
    Meets (Builtin.«enumerate.__new__» ⟨[.type "enumerate", v], []⟩) (fun _ R s => H s.heap ∧
      R (.ok (.ret (.ref (s.heap.push o).objs.size))) { s with heap := (s.heap.push o).push { cls := .type "enumerate", data := .fields #[.none, .bool false, .ref s.heap.objs.size, rawInt 0, .none, .none] } }) :=
  .of_wp fun prog w A R s h => by
    obtain ⟨hp, g, d, tk, os⟩ := s
    obtain ⟨h1, h⟩ := h
    have hsub := sub_enumerate
    have q1 : ∀ {A' : Around} {E : Value → Shared → Prop} {Q : Value → Shared → Prop}, Q (.ref hp.objs.size) ⟨hp.push o, g, d, tk, os⟩ → wpAny (model prog w) A' (pyIter v) Q E ⟨hp, g, d, tk, os⟩ :=
      fun q => B.iter prog w _ _ ⟨hp, g, d, tk, os⟩ _ h1 q
    wp_walk using q1
    refine wpAny_stack_any fun st => wpAny_pure ?_
    split
    · rename_i c _ _ _ _ _
      cases (c == Value.type "enumerate")
      · wp_walk using q1
        exact ⟨_, rfl, h⟩
      · wp_walk using q1
        exact ⟨_, rfl, h⟩
    · wp_walk using q1
      exact ⟨_, rfl, h⟩
section
variable {prog : Program} {w : World} {A : Around} {E : Value → Shared → Prop} {s : Shared}
theorem enum1_call {v : Value} {o : Obj} {H : Heap → Prop} {Q : Value → Shared → Prop} (B : Begins v o H) (h1 : H s.heap)
    (h : ∀ h', IsEnum h' (s.heap.objs.size + 1) s.heap.objs.size ((0 : Nat) : Int) .none → h'.get? s.heap.objs.size = some o → h'.objs.size = s.heap.objs.size + 2 →
      (∀ b o, s.heap.get? b = some o → h'.get? b = some o) → Q (.ref (s.heap.objs.size + 1)) { s with heap := h' }) :
    wpAny (model prog w) A (call (.type "enumerate") [v]) Q E s := by
  refine callType_new F.called_enumerate (by decide) (F.typeCall_enumerate_1 _) (F.newCall_enumerate_1 _) (fun obj => F.args_object_init_2 obj _) F.entry_enumerate_new (enum1_new B) ⟨h1, ?_⟩
  have hz : (s.heap.push o).objs.size = s.heap.objs.size + 1 := Heap.size_push ..
  show _ ∧ _
  rw [hz]
  have he : IsEnum ((s.heap.push o).push { cls := .type "enumerate", data := .fields #[.none, .bool false, .ref s.heap.objs.size, rawInt 0, .none, .none] }) (s.heap.objs.size + 1) s.heap.objs.size ((0 : Nat) : Int) .none := by
    have := Heap.get?_push_size (s.heap.push o) (o := { cls := .type "enumerate", data := .fields #[.none, .bool false, .ref s.heap.objs.size, rawInt 0, .none, .none] }) rfl
    rw [hz] at this
    exact this
  refine ⟨⟨_, he, rfl⟩, h _ he (Heap.get?_push_of_some _ (Heap.get?_push_size _ B.free)) (by rw [Heap.size_push, hz]) fun b o x => Heap.get?_push_of_some _ (Heap.get?_push_of_some _ x)⟩
end
theorem isTup_tuple {h : Heap} {a : Addr} {items : Array Value} (p : IsTup h a items) : h.IsTuple a items := p

/-- the tuple at a, its items in new pairs -/
def IteT (K : PySem.W.Frag) (a : Addr) : It :=
  ⟨fun i H => ∃ (xs : List V) (x : V), SqT K H a xs ∧ xs[i]? = some x, fun i H v H' => ∃ T x, v = .ref T ∧ H T = none ∧ H' = upd H T (.tup [.int (i : Nat), x]) ∧ ∀ xs, SqT K H a xs → xs[i]? = some x, fun i H => ∃ xs : List V, SqT K H a xs ∧ xs.length ≤ i⟩
theorem tup_ne_enum {h : Heap} {a e it : Addr} {i : Int} {old : Value} {its : Array Value} (p : h.IsTuple a its) (q : IsEnum h e it i old) : a ≠ e := fun z => by
  obtain ⟨o, ho, hc, _⟩ := p
  have q' : h.get? e = some _ := q
  rw [z, q'] at ho
  cases ho
  injection (show Value.type "enumerate" = Value.type "tuple" from hc) with hc
  exact absurd hc (by decide)
theorem tup_ne_iter {h : Heap} {a b it : Addr} {i : Nat} {its : Array Value} (p : h.IsTuple a its) (q : h.IsTupleIter it b i) : a ≠ it := fun z => by
  obtain ⟨o, ho, hc, _⟩ := p
  obtain ⟨o2, ho2, hc2, _⟩ := q
  rw [z, ho2] at ho
  cases ho
  rw [hc2] at hc
  exact absurd hc (by decide)
theorem turn_enumT {P : Program} {w : World} {K : PySem.W.Frag} {elts : List Expr} {kk : Nat} {tpos : Pos} (a e it : Addr) :
    Turn P w K (.Tuple elts kk tpos) (IteT K a) [e, it] e (fun i h => (∃ old, IsEnum h e it ((i : Nat) : Int) old) ∧ h.IsTupleIter it a i ∧ e ≠ it) where
  mem := by simp
  obj := fun i h st b hb => by
    obtain ⟨⟨old, he⟩, ⟨o, ho, hc, hd⟩, _⟩ := st
    have e' : b = e ∨ b = it := by simpa using hb
    rcases e' with z | z
    · rw [z]; exact ⟨_, he, fun v q => nomatch q⟩
    · rw [z]; exact ⟨o, ho, fun v q => by rw [hd] at q; cases q⟩
  keep := fun i h h' st k => let ⟨⟨old, he⟩, hi, hne⟩ := st; ⟨⟨old, k e (by simp) _ he⟩, hi.at fun o q => k it (by simp) o q, hne⟩
  item := by
    intro X hP hw hK hc i pins s σ H E I hf st hg
    subst hP hw hK
    obtain ⟨⟨old, he⟩, hit, hne⟩ := st
    obtain ⟨xs, x, hq, hx⟩ := hg
    obtain ⟨its, rv, p, hz⟩ := I.tuple hq
    obtain ⟨u, hu, ru⟩ := rv.get hx
    have hel : e < s.heap.objs.size := Heap.lt_size he
    have hil : it < s.heap.objs.size := by obtain ⟨_, q, _⟩ := hit; exact Heap.lt_size q
    have hi : i < its.toArray.size := by
      have := (List.getElem?_eq_some_iff.mp hu).1
      simpa using this
    have n1 := tup_ne_iter p hit
    have n2 := tup_ne_enum p he
    refine wpAny_pyNext_enum_itemD (Draws.tuple (A := X.A.in1) (I.ok.hd hc) it a n1 its.toArray) he ⟨hit, p⟩ hi hne (by simp [hne, Ne.symm n2]) fun x' h' tk hPx ho hst hT hsz hk => ?_
    have ex : x' = u := by
      have : its.toArray[i]? = some x' := hPx
      rw [List.getElem?_toArray, hu] at this
      exact (Option.some.inj this).symm
    subst ex
    refine ⟨_, rfl, wpAny_letOwnedTupleGo_enum (s := { s with heap := h', toks := tk + 1 }) ho fun h'' he' sb => ?_⟩
    have hT2 : h''.get? s.heap.objs.size = some { cls := .type "tuple", data := .seq #[.int i tk, x'] } := (sb.2 _ (Nat.ne_of_gt hel)).trans hT
    have new : ObjOk X.prog X.w (upd H s.heap.objs.size (.tup [.int (i : Nat), x])) h'' s.heap.objs.size (.tup [.int (i : Nat), x]) :=
      ⟨by show 2 ≤ sizeLine; decide, [.int i tk, x'], .cons ⟨_, rfl⟩ (.cons ru .nil), ⟨_, hT2, rfl, _, rfl⟩⟩
    have I1 : Inv X pins σ (upd H s.heap.objs.size (.tup [.int (i : Nat), x])) { s with heap := h'', toks := tk + 1 } :=
      I.turnedNew (ch := [e, it]) (fun b ob hb q => (sb.2 b (fun z => hb (by simp [z]))).trans (hk b ob (fun z => hb (by simp [z])) (fun z => hb (by simp [z])) q)) hf (Nat.le_refl _) new
    refine ⟨.ref s.heap.objs.size, _, I1, rfl, ⟨_, x, rfl, I.hok.fresh (Nat.le_refl _), rfl, fun ys hy => by rw [I.tuple_inj hy hq]; exact hx⟩, ⟨⟨x', ?_⟩, hst.1.at fun o q => (sb.2 it (Ne.symm hne)).trans q, hne⟩, fun b hb => ?_⟩
    · have e1 : ((i + 1 : Nat) : Int) = (i : Int) + 1 := by omega
      rw [e1]
      exact he'
    · have hb' : b < s.heap.objs.size := by
        have e' : b = e ∨ b = it := by simpa using hb
        rcases e' with z | z
        · rw [z]; exact hel
        · rw [z]; exact hil
      rw [upd_ne (Nat.ne_of_lt hb')]
      exact (hf b hb).1
  done := by
    intro X hP hw hK hc i pins s σ H E I hf st hg
    subst hP hw hK
    obtain ⟨⟨old, he⟩, hit, hne⟩ := st
    obtain ⟨xs, hq, hx⟩ := hg
    obtain ⟨its, rv, p, hz⟩ := I.tuple hq
    obtain ⟨f0, f1, f2, f3, f4, f5⟩ := hf it (by simp)
    have hl := rv.length
    have n1 := tup_ne_iter p hit
    have hT : s.TypeIs (.ref e) "enumerate" := ⟨_, he, rfl⟩
    unfold pyNext
    refine wpAny_bind (wpAny_attempt (wpAny_callSpecial?_slot (name := Str.ofString "__next__") hT F.slot_enumerate_next
      (wpAny_call_entry F.slot_enumerate_next hT F.entry_enumerate_next ?_ (F.args_enumerate_next_1 _))))
    show wpAny _ _ (field (.ref e) 2 >>= _) _ _ _
    refine wpAny_bind (wpAny_field he rfl (x := .ref it) rfl ?_)
    refine wpAny_bind (wpAny_nextOf_tuple_end (items := its.toArray) (I.ok.hd hc) hit p ?_ fun h' x he' hx' => ?_)
    · rw [List.getElem?_toArray, List.getElem?_eq_none_iff]
      omega
    · obtain ⟨o, ho, hcx⟩ := hx'
      refine wpAny_bind (wpAny_isInstance (T := "StopIteration") (b := true) ⟨o, ho, hcx⟩ isSubtype_stop ?_)
      exact wpAny_pure ⟨rfl, I.turned (t' := s.toks) (fun b o hb q => he' b o hb q) f0 f1 f3 f4 f5⟩
  self := fun A i s Q E st h => let ⟨⟨_, he⟩, _⟩ := st; wpAny_pyIter_enum he h

def iEnumA (K : PySem.W.Frag) (ta : TA) : TI := fun σ H R => ta σ H fun vs H1 => ∃ a xs, vs = [.ref a] ∧ ((SqL K H1 a xs ∧ R (Ite K a) H1) ∨ (SqT K H1 a xs ∧ R (IteT K a) H1))
theorem pi_enumA {X : Cx} {e : Expr} {ta : TA} {p pos tpos : Pos} {elts : List Expr} {kk : Nat} (hg : Gl X "enumerate") (hm : X.mg "enumerate" = none) (ha : PA X [e] ta) (hs : starEach [e] X.env = [(false, eval e X.env)] := by rfl) :
    PI X (.Tuple elts kk tpos) (.Call (.Name "enumerate" p) [e] [] pos) (iEnumA X.K ta) := by
  refine ⟨fun pins s σ H R I h => ?_⟩
  refine Call_ (ld_blt I hg hm boot_enumerate (PyProof.Rows.callWith_type1 (thn (ha.run pos pins s σ H _ I h) fun us s1 ⟨vs, H1, I1, r1, q1⟩ => ?_) hs rfl))
  obtain ⟨a, xs, ex, q1⟩ := q1
  subst ex
  cases r1 with
  | cons r rr =>
    cases rr
    cases r
    have fp : ∀ b ∈ [s1.heap.objs.size + 1, s1.heap.objs.size], s1.heap.objs.size ≤ b := fun b hb => by
      have e' : b = s1.heap.objs.size + 1 ∨ b = s1.heap.objs.size := by simpa using hb
      rcases e' with z | z
      · rw [z]; exact Nat.le_add_right _ _
      · rw [z]; exact Nat.le_refl _
    rcases q1 with ⟨hq, q⟩ | ⟨hq, q⟩
    · obtain ⟨its, rv, p', hz⟩ := I1.list hq
      refine enum1_call (begins_list a its.toArray) p'.isList fun h' he hit hsz hk => wpAny_pyIter_enum he ?_
      have I2 : Inv X pins σ H1 { s1 with heap := h' } := I1.kept (t' := s1.toks) hk
      exact ⟨s1.heap.objs.size + 1, [s1.heap.objs.size + 1, s1.heap.objs.size], _, _, H1, rfl, I2, turn_enum a (s1.heap.objs.size + 1) s1.heap.objs.size, ⟨⟨.none, he⟩, ⟨_, hit, rfl, rfl⟩, Nat.succ_ne_self _⟩, fun b hb => I1.fpOk (fp b hb) (I1.hok.fresh (fp b hb)), q⟩
    · obtain ⟨its, rv, p', hz⟩ := I1.tuple hq
      refine enum1_call (begins_tuple a its.toArray) p' fun h' he hit hsz hk => wpAny_pyIter_enum he ?_
      have I2 : Inv X pins σ H1 { s1 with heap := h' } := I1.kept (t' := s1.toks) hk
      exact ⟨s1.heap.objs.size + 1, [s1.heap.objs.size + 1, s1.heap.objs.size], _, _, H1, rfl, I2, turn_enumT a (s1.heap.objs.size + 1) s1.heap.objs.size, ⟨⟨.none, he⟩, ⟨_, hit, rfl, rfl⟩, Nat.succ_ne_self _⟩, fun b hb => I1.fpOk (fp b hb) (I1.hok.fresh (fp b hb)), q⟩

/-! ### over the data layer -/
variable [HasT]
section
variable {X : Cx} {W : WX} {e : Expr} {es : List Expr} {pos p : Pos} {mr : ME (List D)}
def enumD (xs : List D) : List D := (List.range xs.length).zip xs |>.map fun q => mkTup [.p (.int q.1), q.2]
theorem enumD_get {xs : List D} {i : Nat} {d : D} (h : (enumD xs)[i]? = some d) : ∃ x, xs[i]? = some x ∧ d = mkTup [.p (.int i), x] := by
  unfold enumD at h
  rw [List.getElem?_map] at h
  cases e : ((List.range xs.length).zip xs)[i]? with
  | none => rw [e] at h; cases h
  | some q =>
    rw [e] at h
    cases h
    obtain ⟨k, x⟩ := q
    rw [List.getElem?_zip_eq_some] at e
    obtain ⟨e1, e2⟩ := e
    have hi : i < (List.range xs.length).length := (List.getElem?_eq_some_iff.mp e1).1
    rw [List.getElem?_range (by simpa using hi)] at e1
    cases e1
    exact ⟨x, e2, rfl⟩
theorem enumD_len (xs : List D) : (enumD xs).length = xs.length := by simp [enumD]
def srcEnum : List D → Store → Option (Src × Store)
  | [x], S => match x.tup? with
    | some xs => some (⟨enumD xs, []⟩, S)
    | none => match x.lst? S with
      | some xs => some (⟨enumD xs, watchOf x xs⟩, S)
      | none => none
  | _, _ => none
theorem ite_ok {G : Gb} {F : Addr → Prop} {ι : List Addr} {H : Hp} {S : Store} {d : D} {ds : List D} {a : Addr} (hl : d.lst? S = some ds) (r : RelD G F ι H d (.ref a)) : ItOk G F ι H (Ite G.K a) ⟨enumD ds, watchOf d ds⟩ := fun F' ι' H' S' n w i => by
  obtain ⟨a', vs, e, q, rd⟩ := lst?_rel n.r (lst_later r hl n w) (n.d r)
  cases e
  refine ⟨fun h => ⟨vs, q, ?_⟩, fun x hx => ?_⟩
  · have h' : (enumD ds).length ≤ i := h
    rw [enumD_len, relDs_len rd] at h'
    exact h'
  · obtain ⟨x1, e1, rfl⟩ := enumD_get hx
    obtain ⟨v, hv, rv⟩ := relDs_get rd e1
    refine ⟨⟨vs, v, q, hv⟩, fun y H'' ⟨T, y1, ey, hT, eH, g1⟩ => ?_⟩
    have k1 := g1 vs q
    rw [hv] at k1
    cases k1
    subst ey
    subst eH
    exact ⟨Nxt.fresh n.r hT, rel_newT hT (relDs_cons.mpr ⟨mkInt, relDs_cons.mpr ⟨rv, relDs_nil'⟩⟩)⟩
theorem iteT_ok {G : Gb} {F : Addr → Prop} {ι : List Addr} {H : Hp} {d : D} {ds : List D} {a : Addr} (hl : d.tup? = some ds) (r : RelD G F ι H d (.ref a)) : ItOk G F ι H (IteT G.K a) ⟨enumD ds, []⟩ := fun F' ι' H' S' n w i => by
  obtain ⟨a', vs, e, q, rd⟩ := tup?_rel hl (n.d r)
  cases e
  refine ⟨fun h => ⟨vs, q, ?_⟩, fun x hx => ?_⟩
  · have h' : (enumD ds).length ≤ i := h
    rw [enumD_len, relDs_len rd] at h'
    exact h'
  · obtain ⟨x1, e1, rfl⟩ := enumD_get hx
    obtain ⟨v, hv, rv⟩ := relDs_get rd e1
    refine ⟨⟨vs, v, q, hv⟩, fun y H'' ⟨T, y1, ey, hT, eH, g1⟩ => ?_⟩
    have k1 := g1 vs q
    rw [hv] at k1
    cases k1
    subst ey
    subst eH
    exact ⟨Nxt.fresh n.r hT, rel_newT hT (relDs_cons.mpr ⟨mkInt, relDs_cons.mpr ⟨rv, relDs_nil'⟩⟩)⟩
theorem di_enum {elts : List Expr} {kk : Nat} {tpos : Pos} (hm : X.mg "enumerate" = none) (h : DA X W [e] mr) (hg : Gl X "enumerate" := by rfl) (hs : starEach [e] X.env = [(false, eval e X.env)] := by rfl) :
    DI X W (.Tuple elts kk tpos) (.Call (.Name "enumerate" p) [e] [] pos) (mSrcA srcEnum mr) := PI.imp (pi_enumA hg hm h hs) fun σ H Rr q => by
  obtain ⟨ρ, S, ι, F, at', t⟩ := q
  refine srcA_first at' t fun ds S1 F1 ι1 H1 vs src S2 a1 r1 e z => ?_
  unfold srcEnum at e
  split at e
  · obtain ⟨v, rfl, r⟩ := relDs1 r1
    split at e
    · rename_i xs ex
      cases e
      obtain ⟨a', us, ev, q, rd⟩ := tup?_rel ex r
      subst ev
      exact ⟨a', us, rfl, .inr ⟨q, z _ _ _ (Nxt.refl a1.r) _ (iteT_ok ex r)⟩⟩
    · split at e
      · rename_i xs ex
        cases e
        obtain ⟨a', us, ev, q, rd⟩ := lst?_rel a1.r ex r
        subst ev
        exact ⟨a', us, rfl, .inl ⟨q, z _ _ _ (Nxt.refl a1.r) _ (ite_ok ex r)⟩⟩
      · cases e
  · cases e
end
end DL
set_option maxHeartbeats 2000000
/-! DLMore: max and min of sequences, isinstance, in, index, extend, parallel assignments. -/
namespace DL
open PySem PySem.Spec PyProof.Rows L2

/-! ### max, min of a tuple of ints -/
section
variable {prog : Program} {w : World} {A : Around} {E : Value → Shared → Prop} {s : Shared}
theorem ints_reads {h : Heap} : ∀ {vs : List Value} {ns : List Int}, IntsAre vs ns → ReadsAll h vs (ns.map PyData.int) []
  | _, _, .nil => .nil
  | _, _, .cons n t i => .cons (as := []) (bs := []) (Reads.int n t) (ints_reads i)
theorem ints_alike (n : Int) (ns : List Int) : PySem.W.AlikeAll (.int n :: ns.map .int) := by
  have k : ∀ x ∈ (PyData.int n :: ns.map .int), ∃ i, x = .int i := fun x hx => by
    rcases List.mem_cons.mp hx with rfl | hx
    · exact ⟨n, rfl⟩
    · obtain ⟨i, _, rfl⟩ := List.mem_map.mp hx
      exact ⟨i, rfl⟩
  refine ⟨fun x hx y hy => ?_, fun x hx z => ?_⟩
  · obtain ⟨i, rfl⟩ := k x hx
    obtain ⟨j, rfl⟩ := k y hy
    simp [PySem.W.alike]
  · obtain ⟨i, rfl⟩ := k x hx
    cases z
theorem ints_depth : ∀ (ns : List Int), PyData.depthAll (ns.map .int) = 0
  | [] => by simp [PyData.depthAll]
  | n :: ns => by
    rw [List.map_cons, PyData.depthAll, ints_depth ns]
    simp [PyData.depth]
end
variable [HasT]
section
variable {X : Cx}
def rMxT (K : PySem.W.Frag) : List V → Hp → VK → Prop := fun vs H Q => ∃ (a : Addr) (n : Int) (ns : List Int), vs = [V.ref a] ∧ SqT K H a ((n :: ns).map V.int) ∧ Q (.int (ns.foldl max n)) H
def rMnT (K : PySem.W.Frag) : List V → Hp → VK → Prop := fun vs H Q => ∃ (a : Addr) (n : Int) (ns : List Int), vs = [V.ref a] ∧ SqT K H a ((n :: ns).map V.int) ∧ Q (.int (ns.foldl min n)) H
theorem cr_maxT (hc : X.calm = true) (hu : X.A.units + 65 < cLine) : CallR X (.builtin "max") (rMxT X.K) := by
  intro pins s σ H vs us Q I r h
  obtain ⟨a, n, ns, rfl, hs, q⟩ := h
  obtain ⟨its, rv, hl, _⟩ := I.tuple hs
  rw [Vals.ref1 r]
  have hi := rv.ints
  refine PySem.W.max_tuple_data (x := .int n) (xs := ns.map .int) (I.ok.hd hc) hl (ints_reads hi) (ints_alike n ns) (by rw [show PyData.int n :: ns.map PyData.int = (n :: ns).map PyData.int from rfl, ints_depth]; omega) fun i v h' tk bs hv hr hk => ?_
  rw [PySem.W.maxD_ints] at hr
  cases hr
  exact ⟨.int _, H, I.kept hk, ⟨_, rfl⟩, q⟩
theorem cr_minT (hc : X.calm = true) (hu : X.A.units + 65 < cLine) : CallR X (.builtin "min") (rMnT X.K) := by
  intro pins s σ H vs us Q I r h
  obtain ⟨a, n, ns, rfl, hs, q⟩ := h
  obtain ⟨its, rv, hl, _⟩ := I.tuple hs
  rw [Vals.ref1 r]
  have hi := rv.ints
  refine PySem.W.min_tuple_data (x := .int n) (xs := ns.map .int) (I.ok.hd hc) hl (ints_reads hi) (ints_alike n ns) (by rw [show PyData.int n :: ns.map PyData.int = (n :: ns).map PyData.int from rfl, ints_depth]; omega) fun i v h' tk bs hv hr hk => ?_
  rw [PySem.W.minD_ints] at hr
  cases hr
  exact ⟨.int _, H, I.kept hk, ⟨_, rfl⟩, q⟩
theorem max_uniq {n : Int} {ns : List Int} {m : Int} (h1 : m ∈ n :: ns) (h2 : ∀ y, y ∈ n :: ns → y ≤ m) : m = ns.foldl max n := by
  have a1 : ∀ (ns : List Int) (n : Int), n ≤ ns.foldl max n ∧ (∀ y ∈ ns, y ≤ ns.foldl max n) ∧ (ns.foldl max n = n ∨ ns.foldl max n ∈ ns) := by
    intro ns
    induction ns with
    | nil => intro n; simp
    | cons k ns ih =>
      intro n
      obtain ⟨b1, b2, b3⟩ := ih (max n k)
      have e : (k :: ns).foldl max n = ns.foldl max (max n k) := rfl
      rw [e]
      have c1 : n ≤ max n k := Int.le_max_left _ _
      have c2 : k ≤ max n k := Int.le_max_right _ _
      refine ⟨Int.le_trans c1 b1, fun y hy => ?_, ?_⟩
      · rcases List.mem_cons.mp hy with rfl | hy
        · exact Int.le_trans c2 b1
        · exact b2 y hy
      · rcases b3 with b3 | b3
        · rw [b3]
          by_cases h : n ≤ k
          · exact .inr (by rw [Int.max_eq_right h]; exact List.mem_cons_self)
          · exact .inl (Int.max_eq_left (by omega))
        · exact .inr (List.mem_cons_of_mem _ b3)
  obtain ⟨b1, b2, b3⟩ := a1 ns n
  have hm : ns.foldl max n ∈ n :: ns := by
    rcases b3 with b3 | b3
    · rw [b3]; exact List.mem_cons_self
    · exact List.mem_cons_of_mem _ b3
  have le1 := h2 _ hm
  have le2 : m ≤ ns.foldl max n := by
    rcases List.mem_cons.mp h1 with rfl | h1
    · exact b1
    · exact b2 m h1
  omega
theorem min_uniq {n : Int} {ns : List Int} {m : Int} (h1 : m ∈ n :: ns) (h2 : ∀ y, y ∈ n :: ns → m ≤ y) : m = ns.foldl min n := by
  have a1 : ∀ (ns : List Int) (n : Int), ns.foldl min n ≤ n ∧ (∀ y ∈ ns, ns.foldl min n ≤ y) ∧ (ns.foldl min n = n ∨ ns.foldl min n ∈ ns) := by
    intro ns
    induction ns with
    | nil => intro n; simp
    | cons k ns ih =>
      intro n
      obtain ⟨b1, b2, b3⟩ := ih (min n k)
      have e : (k :: ns).foldl min n = ns.foldl min (min n k) := rfl
      rw [e]
      have c1 : min n k ≤ n := Int.min_le_left _ _
      have c2 : min n k ≤ k := Int.min_le_right _ _
      refine ⟨Int.le_trans b1 c1, fun y hy => ?_, ?_⟩
      · rcases List.mem_cons.mp hy with rfl | hy
        · exact Int.le_trans b1 c2
        · exact b2 y hy
      · rcases b3 with b3 | b3
        · rw [b3]
          by_cases h : n ≤ k
          · exact .inl (Int.min_eq_left h)
          · exact .inr (by rw [Int.min_eq_right (by omega)]; exact List.mem_cons_self)
        · exact .inr (List.mem_cons_of_mem _ b3)
  obtain ⟨b1, b2, b3⟩ := a1 ns n
  have hm : ns.foldl min n ∈ n :: ns := by
    rcases b3 with b3 | b3
    · rw [b3]; exact List.mem_cons_self
    · exact List.mem_cons_of_mem _ b3
  have le1 := h2 _ hm
  have le2 : ns.foldl min n ≤ m := by
    rcases List.mem_cons.mp h1 with rfl | h1
    · exact b1
    · exact b2 m h1
  omega
/-- max(a, b); max(xs) of ints -/
def fMax : FL := fun ds S => match ds with
  | [.p (.int i), .p (.int j)] => some (.p (.int (if j > i then j else i)), S)
  | [x] => (match x.seq? S with
    | some xs => (match intsD xs with
      | some (n :: ns) => some (.p (.int (ns.foldl max n)), S)
      | _ => none)
    | none => none)
  | _ => none
def fMin : FL := fun ds S => match ds with
  | [.p (.int i), .p (.int j)] => some (.p (.int (if j < i then j else i)), S)
  | [x] => (match x.seq? S with
    | some xs => (match intsD xs with
      | some (n :: ns) => some (.p (.int (ns.foldl min n)), S)
      | _ => none)
    | none => none)
  | _ => none
theorem cd_max (hc : X.calm = true) (hu : X.A.units + 65 < cLine) : CallD X (.builtin "max") fMax := ⟨_, (call_max2 hc).or ((cr_max hc).or (cr_maxT hc hu)), fun {F ι S S' H ds d' vs Q} rs r e q => by
  unfold fMax at e
  split at e
  · cases e
    obtain ⟨v, w, rfl, r1, r2⟩ := relDs2 r
    cases relInt r1
    cases relInt r2
    exact .inl ⟨_, _, rfl, q F ι H _ (Nxt.refl rs) mkInt⟩
  · obtain ⟨v, rfl, r1⟩ := relDs1 r
    split at e
    · rename_i xs ex
      split at e
      · rename_i n ns en
        cases e
        obtain ⟨p, us, rfl, q1, rd⟩ := seq?_rel rs ex r1
        rw [ints_eq en] at rd
        rw [relInts rd] at q1
        rcases q1 with q1 | q1
        · refine .inr (.inl ⟨p, _, rfl, q1, by simp, fun m h1 h2 => ?_⟩)
          rw [max_uniq h1 h2]
          exact q F ι H _ (Nxt.refl rs) mkInt
        · exact .inr (.inr ⟨p, n, ns, rfl, q1, q F ι H _ (Nxt.refl rs) mkInt⟩)
      · cases e
    · cases e
  · cases e⟩
theorem cd_min (hc : X.calm = true) (hu : X.A.units + 65 < cLine) : CallD X (.builtin "min") fMin := ⟨_, (call_min2 hc).or ((cr_min hc).or (cr_minT hc hu)), fun {F ι S S' H ds d' vs Q} rs r e q => by
  unfold fMin at e
  split at e
  · cases e
    obtain ⟨v, w, rfl, r1, r2⟩ := relDs2 r
    cases relInt r1
    cases relInt r2
    exact .inl ⟨_, _, rfl, q F ι H _ (Nxt.refl rs) mkInt⟩
  · obtain ⟨v, rfl, r1⟩ := relDs1 r
    split at e
    · rename_i xs ex
      split at e
      · rename_i n ns en
        cases e
        obtain ⟨p, us, rfl, q1, rd⟩ := seq?_rel rs ex r1
        rw [ints_eq en] at rd
        rw [relInts rd] at q1
        rcases q1 with q1 | q1
        · refine .inr (.inl ⟨p, _, rfl, q1, by simp, fun m h1 h2 => ?_⟩)
          rw [min_uniq h1 h2]
          exact q F ι H _ (Nxt.refl rs) mkInt
        · exact .inr (.inr ⟨p, n, ns, rfl, q1, q F ι H _ (Nxt.refl rs) mkInt⟩)
      · cases e
    · cases e
  · cases e⟩

/-! ### x in xs, x not in xs -/
def D.pyL? (d : D) (S : Store) : Option (List PyData) := match d.py? S with
  | some (.list ds) => some ds
  | _ => none
def fIn (neg : Bool) : F2 := fun x y S => match x.py? S, y.pyL? S with
  | some d, some ds => if (SeqAt.shaped d && SeqAt.shaped (.list ds)) = true then some (.p (.bl (xor neg (ds.any fun z => PyData.eqv z d))), S) else none
  | _, _ => none
theorem pyL?_dp {G : Gb} {F : Addr → Prop} {ι : List Addr} {S : Store} {H : Hp} {d : D} {ds : List PyData} {v : V} (rs : R G F ι S H) (e : d.pyL? S = some ds) (r : RelD G F ι H d v) : Dp G.K H v (.list ds) := by
  unfold D.pyL? at e
  split at e
  · rename_i es ee
    cases e
    exact D.py?_dp rs ee r
  · cases e
theorem od_in (hu : X.A.units + 65 < cLine) : OpD X (compareOp .In) (fIn false) := ⟨_, op_inD hu, fun {F ι S S' H d1 d2 d' v1 v2 Q} rs r1 r2 e q => by
  unfold fIn at e
  split at e
  · rename_i d ds ed eds
    split at e
    · rename_i hs
      cases e
      simp only [Bool.and_eq_true] at hs
      exact ⟨d, ds, D.py?_dp rs ed r1, pyL?_dp rs eds r2, hs.1, hs.2, q F ι H _ (Nxt.refl rs) (by simp only [Bool.false_bne]; exact mkBl)⟩
    · cases e
  · cases e⟩
theorem od_notin (hu : X.A.units + 65 < cLine) : OpD X (compareOp .NotIn) (fIn true) := ⟨_, op_notInD hu, fun {F ι S S' H d1 d2 d' v1 v2 Q} rs r1 r2 e q => by
  unfold fIn at e
  split at e
  · rename_i d ds ed eds
    split at e
    · rename_i hs
      cases e
      simp only [Bool.and_eq_true] at hs
      exact ⟨d, ds, D.py?_dp rs ed r1, pyL?_dp rs eds r2, hs.1, hs.2, q F ι H _ (Nxt.refl rs) (by simp only [Bool.true_bne]; exact mkBl)⟩
    · cases e
  · cases e⟩
/-! ### xs.index(i), ints; xs.extend(ys) -/
def fIndex : FM := fun x ys S => match x.lst? S, ys with
  | some xs, [.p (.int i)] => (match intsD xs with
    | some ns => (match ns.idxOf? i with
      | some j => some (.p (.int j), S)
      | none => none)
    | none => none)
  | _, _ => none
theorem all_flat : ∀ ns : List Int, (ns.map V.int).all flatV = true
  | [] => rfl
  | _ :: ns => by
    rw [List.map_cons, List.all_cons, all_flat ns]
    rfl
theorem md_index : MtD X "list.index" fIndex := ⟨_, mt_index, fun {F ι S S' H d d' ds v vs Q} rs r1 r2 e q => by
  unfold fIndex at e
  split at e
  · rename_i xs i ex
    split at e
    · rename_i ns en
      split at e
      · rename_i j ej
        cases e
        obtain ⟨a, us, rfl, hu, rd⟩ := lst?_rel rs ex r1
        obtain ⟨w, rfl, ry⟩ := relDs1 r2
        cases relInt ry
        rw [ints_eq en] at rd
        cases relInts rd
        rw [List.idxOf?, List.findIdx?_eq_some_iff_getElem] at ej
        obtain ⟨hj, e1, e2⟩ := ej
        have e1' : ns[j] = i := by simpa using e1
        refine ⟨a, ns.map V.int, .int i, j, .int i, rfl, rfl, hu, rfl, all_flat ns, by rw [List.getElem?_map, List.getElem?_eq_getElem hj, e1']; rfl, by simp [eqV], fun m z' hm hz => ?_, q F ι H _ (Nxt.refl rs) mkInt⟩
        have hml : m < ns.length := by omega
        rw [List.getElem?_map, List.getElem?_eq_getElem hml] at hz
        cases hz
        have := e2 m hm
        have this' : ¬ ns[m] = i := by simpa using this
        simp [eqV, this']
      · cases e
    · cases e
  · cases e⟩
def fExtend : FM := fun x ys S => match x.mut? S, ys with
  | some (n, xs), [y] => (match y.own? S with
    | some zs => if xs.length + zs.length ≤ 100000 then (match putL n (xs ++ zs) S with
      | some S' => some (.p .non, S')
      | none => none) else none
    | none => none)
  | _, _ => none
theorem md_extend : MtD X "list.extend" fExtend := ⟨_, mt_extend, fun {F ι S S' H d d' ds v vs Q} rs r1 r2 e q => by
  unfold fExtend at e
  split at e
  · rename_i n xs y em
    split at e
    · rename_i zs ez
      split at e
      · rename_i hl
        split at e
        · rename_i S2 e2
          cases e
          obtain ⟨a, us, rfl, hi, hu, rd⟩ := mut?_rel rs em r1
          obtain ⟨w, rfl, ry⟩ := relDs1 r2
          obtain ⟨b, ws, rfl, hb, rz⟩ := own?_rel rs ez ry
          exact ⟨a, b, us, ws, rfl, rfl, hu, hb, by rw [← relDs_len rd, ← relDs_len rz]; exact szOk hl, q _ _ _ _ (putL_nxt rs hi hu (relDs_append rd rz) e2) mkNon⟩
        · cases e
      · cases e
    · cases e
  · cases e⟩

/-! ### isinstance with a built-in class -/
def D.tyOf? (d : D) (S : Store) : Option String := match d with
  | .p .non => some "NoneType"
  | .p (.bl _) => some "bool"
  | .p (.int _) => some "int"
  | .p (.str _) => some "str"
  | .p (.tup _) => some "tuple"
  | .t _ => some "tuple"
  | .p (.lst _) => some "list"
  | .p (.scr _) => some "list"
  | .p (.dic _) => some "dict"
  | .r n => (match S.objs[n]? with
    | some (.lst _) => some "list"
    | _ => none)
  | _ => none
theorem sqT_ty {K : PySem.W.Frag} {H : Hp} {a : Addr} {vs : List V} (h : SqT K H a vs) : TyX K H (.ref a) (.type "tuple") := by
  rcases h with h | ⟨o, its, n, hk, hc, _⟩
  · rcases h with h | ⟨o, h⟩
    · exact .base (.tup h)
    · exact .fTuple h
  · exact .kTuple hk hc
theorem sqC_ty {K : PySem.W.Frag} {H : Hp} {a : Addr} {vs : List V} (h : SqC K H a vs) : TyX K H (.ref a) (.type "list") := by
  rcases h with ⟨o, h⟩ | ⟨o, its, n, hk, hc, _⟩
  · exact .base (.frz h)
  · exact .kList hk hc
theorem tyOf_rel {G : Gb} {F : Addr → Prop} {ι : List Addr} {S : Store} {H : Hp} {d : D} {t : String} {v : V} (rs : R G F ι S H) (e : d.tyOf? S = some t) (r : RelD G F ι H d v) : TyX G.K H v (.type t) := by
  cases d with
  | p x =>
    simp only [RelD] at r
    cases x with
    | non => simp only [RelP] at r; subst r; cases e; exact .base .non
    | bl b => simp only [RelP] at r; subst r; cases e; exact .base (.bl b)
    | int b => simp only [RelP] at r; subst r; cases e; exact .base (.int b)
    | str b => simp only [RelP] at r; subst r; cases e; exact .base (.str b)
    | tup xs => simp only [RelP] at r; obtain ⟨a, vs, rfl, q, _⟩ := r; cases e; exact sqT_ty q
    | lst xs => simp only [RelP] at r; obtain ⟨a, vs, rfl, _, q, _⟩ := r; cases e; exact .base (.lst q)
    | scr xs => simp only [RelP] at r; obtain ⟨a, vs, rfl, q, _⟩ := r; cases e; exact sqC_ty q
    | dic xs => simp only [RelP] at r; obtain ⟨a, vs, rfl, _, q, _⟩ := r; cases e; exact .base (.dK q)
    | ins c xs => cases e
    | glo x => cases e
    | ty x => cases e
  | t xs => simp only [RelD] at r; obtain ⟨a, vs, rfl, q, _⟩ := r; cases e; exact sqT_ty q
  | r n =>
    simp only [D.tyOf?] at e
    split at e
    · rename_i ds eo
      cases e
      simp only [RelD] at r
      obtain ⟨a, rfl, ea⟩ := r
      obtain ⟨vs, hv, rv⟩ := rs.ob n a _ ea eo
      exact .base (.lst hv)
    · cases e
def tyNames : List String := ["NoneType", "bool", "int", "str", "tuple", "list", "dict"]
def isiB (a b : String) : Bool := a == b || (a == "bool" && b == "int")
theorem isiB_ok {a b : String} (h : (tyNames.contains a && tyNames.contains b && b != "NoneType") = true) : kitB a b = some (isiB a b) := by
  have all : tyNames.all (fun a => tyNames.all fun b => b == "NoneType" || decide (kitB a b = some (isiB a b))) = true := by decide +kernel
  simp only [Bool.and_eq_true, List.contains_iff_mem, bne_iff_ne, ne_eq] at h
  have h1 := List.all_eq_true.mp all a h.1.1
  have h2 := List.all_eq_true.mp h1 b h.1.2
  simp only [Bool.or_eq_true, beq_iff_eq, decide_eq_true_eq] at h2
  exact h2.resolve_left h.2
def fIsi : FL := fun ds S => match ds with
  | [x, .p (.ty b)] => (match x.tyOf? S with
    | some a => if (tyNames.contains a && tyNames.contains b && b != "NoneType") = true then some (.p (.bl (isiB a b)), S) else none
    | none => none)
  | _ => none
theorem cd_isi : CallD X (.builtin "isinstance") fIsi := ⟨_, call_isi, fun {F ι S S' H ds d' vs Q} rs r e q => by
  unfold fIsi at e
  split at e
  · rename_i x b
    split at e
    · rename_i a ea
      split at e
      · rename_i hh
        cases e
        obtain ⟨v, w, rfl, r1, r2⟩ := relDs2 r
        cases relTy r2
        exact ⟨v, .ty b, .type a, .type b, _, rfl, .ty b, tyOf_rel rs ea r1, kit_ty (isiB_ok hh), q F ι H _ (Nxt.refl rs) mkBl⟩
      · cases e
    · cases e
  · cases e⟩
/-- a built-in class's name -/
theorem de_tyn {W : WX} {x : Str} {n : String} {pos : Pos} (hm : X.mg x = none) (hv : bootBuiltins x = some (.type n)) (hg : Gl X x := by rfl) (hn : x ≠ "__name__" := by decide) (hdb : (x == ("__debug__" : Str)) = false := by decide) : DE X W (.Name x pos) (mC (.ty n)) :=
  PE.imp (pe_bltn (v := .ty n) hg hm hv rfl hn hdb) fun σ H Q q => T_c (fun _ _ => by simp only [RelP]) q

/-! ### sorted(x, reverse=b) -/
theorem de_srtR {W : WX} {e : Expr} {m : ME D} {b : Bool} {fin : FL} {j : Nat} {p p2 pos kp : Pos} (n : NewL X fin) (hm : X.mg "sorted" = none) (hb : bootBuiltins "sorted" = some (.builtin "sorted")) (h : DE X W e m) (hg : Gl X "sorted" := by rfl)
    (hs : starEach [e] X.env = (false, eval e X.env) :: starEach [] X.env := by rfl)
    (he : backTo pos (starEach [e] X.env) = (false, eval e X.env) :: backTo pos (starEach [] X.env) := by rfl) (hpl : (backTo pos (starEach [e] X.env)).any (·.1) = false := by rfl)
    (hk : PK X [⟨some "reverse", .Constant (.bool b) j p2, kp⟩] (fun σ H Q => Q [.bl b] H) := pk_cons pe_bl pk_nil)
    (hall : (backToKw pos (keywordEach [⟨some "reverse", .Constant (.bool b) j p2, kp⟩] X.env)).all (·.1.isSome) = true := by rfl) (hnone : (backToKw pos (keywordEach [⟨some "reverse", .Constant (.bool b) j p2, kp⟩] X.env)).any (·.1.isNone) = false := by rfl)
    (hks : (backToKw pos (keywordEach [⟨some "reverse", .Constant (.bool b) j p2, kp⟩] X.env)).filterMap (·.1) = [Str.ofString "reverse"] := by rfl) :
    DE X W (.Call (.Name "sorted" p) [e] [⟨some "reverse", .Constant (.bool b) j p2, kp⟩] pos) (mCallB (fSrt b fin) (mCons m mNil)) :=
  PE.imp (pe_callBK cr_srtR hg hm hb (da_cons h da_nil hs) hk (by decide) (by decide) he hpl hall hnone hks) fun σ H Q q => by
    obtain ⟨ρ, S, ι, F, at', t⟩ := q
    refine TL.first at' t fun ds S1 F1 ι1 H1 vs n1 a1 r1 t1 => ?_
    obtain ⟨d', S', e, q⟩ := lift_then t1
    exact ⟨rfl, srt_imp n a1.r r1 e fun F' ι' H' v n r => q F' ι' H' n v r⟩

/-! ### a, b = e1, e2 -/
variable {W : WX} {pos : Pos}
def gPar (is : List Nat) (ds : List D) (ρ : Env) : Env := (is.zip ds).foldl (fun ρ q => ρ.set q.1 (some q.2)) ρ
def mPar (is : List Nat) (m : ME (List D)) : MS := fun ρ S => (m ρ S).bind fun ds S => if ds.length = is.length then .ok (.nx (gPar is ds ρ)) S else .stuck
theorem TL.firstS {G : Gb} {W : WX} {α : Type} {F : Addr → Prop} {ι : List Addr} {σ : L2.St} {ρ : Env} {S : Store} {H : Hp} {m : ME (List D)} {k : List D → M α} {Q : α → Store → (Addr → Prop) → List Addr → Hp → Prop} {Q' : List V → Hp → Prop}
    (a : At G F ι H σ ρ S) (h : Then G (WS W) F ι H ((m ρ S).bind k) Q)
    (q : ∀ d S1 F1 ι1 H1 v, Nxt G F ι H F1 ι1 S1 H1 → At G F1 ι1 H1 σ ρ S1 → RelDs G F1 ι1 H1 d v → Then G (WS W) F1 ι1 H1 (k d S1) Q → Q' v H1) : TL G W m σ H Q' :=
  ⟨ρ, S, ι, F, a, Then.wimp (h.bind.mono fun d S1 F1 ι1 H1 n t v r => q d S1 F1 ι1 H1 v n (a.next n) r t) fun c d H' w => w σ⟩
theorem ds_par2 (i j : Nat) {x y : Str} {a b : Expr} {ta : ME (List D)} {px py pt : Pos} {kt k2 pt2} (hc : X.calm = true) (hN : X.N.Nodup) (ha : DA X W [a, b] ta)
    (hw : swappedStores [.Tuple [.Name x px, .Name y py] kt pt] (.Tuple [a, b] k2 pt2) X.env = pure (some [x, y]) := by rfl)
    (hi : X.N[i]? = some x := by rfl) (hj : X.N[j]? = some y := by rfl) (hij : i ≠ j := by decide)
    (hx : X.env.scope.names.lookup x = some .local := by rfl) (hy : X.env.scope.names.lookup y = some .local := by rfl)
    (hs : swapsWithSole [.Tuple [.Name x px, .Name y py] kt pt] (.Tuple [a, b] k2 pt2) pos.line X.env = pure false := by rfl) :
    DS X W (.Assign [.Tuple [.Name x px, .Name y py] kt pt] (.Tuple [a, b] k2 pt2) pos) (mPar [i, j] ta) := PS.imp (ps_par hc hN hi hj hij hx hy ha hw hs) fun E σ H q => by
  obtain ⟨ρ, S, ι, F, a, t⟩ := q
  refine TL.firstS a t fun ds S1 F1 ι1 H1 vs n a1 r t1 => ?_
  split at t1
  · rename_i hl
    match ds, hl, r, t1 with
    | [d, e], _, r, t1 =>
      obtain ⟨v, w, rfl, r1, r2⟩ := relDs2 r
      exact ⟨v, w, rfl, t1.now a1.r _ (by simp) ((a1.e.set r1 i).set r2 j)⟩
  · exact t1.elim
theorem ds_par3 (i j l : Nat) {x y z : Str} {a b c : Expr} {ta : ME (List D)} {px py pz pt : Pos} {kt k2 pt2} (hc : X.calm = true) (hN : X.N.Nodup) (ha : DA X W [a, b, c] ta)
    (hw : swappedStores [.Tuple [.Name x px, .Name y py, .Name z pz] kt pt] (.Tuple [a, b, c] k2 pt2) X.env = pure (some [x, y, z]) := by rfl)
    (hi : X.N[i]? = some x := by rfl) (hj : X.N[j]? = some y := by rfl) (hl : X.N[l]? = some z := by rfl) (hij : i ≠ j := by decide) (hil : i ≠ l := by decide) (hjl : j ≠ l := by decide)
    (hx : X.env.scope.names.lookup x = some .local := by rfl) (hy : X.env.scope.names.lookup y = some .local := by rfl) (hz : X.env.scope.names.lookup z = some .local := by rfl)
    (hs : swapsWithSole [.Tuple [.Name x px, .Name y py, .Name z pz] kt pt] (.Tuple [a, b, c] k2 pt2) pos.line X.env = pure false := by rfl) :
    DS X W (.Assign [.Tuple [.Name x px, .Name y py, .Name z pz] kt pt] (.Tuple [a, b, c] k2 pt2) pos) (mPar [i, j, l] ta) := PS.imp (ps_par3 hc hN hi hj hl hij hil hjl hx hy hz ha hw hs) fun E σ H q => by
  obtain ⟨ρ, S, ι, F, a, t⟩ := q
  refine TL.firstS a t fun ds S1 F1 ι1 H1 vs n a1 r t1 => ?_
  split at t1
  · rename_i hl
    match ds, hl, r, t1 with
    | [d, e, f], _, r, t1 =>
      obtain ⟨v, w, u, rfl, r1, r2, r3⟩ := relDs3 r
      exact ⟨v, w, u, rfl, t1.now a1.r _ (by simp) (((a1.e.set r1 i).set r2 j).set r3 l)⟩
  · exact t1.elim
/-! ### what is never reached -/
def mNever : MS := fun _ _ => .stuck
theorem ds_never {st : Stmt} : DS X W st mNever := PS.imp ps_never fun E σ H q => by
  obtain ⟨ρ, S, ι, F, a, t⟩ := q
  exact t.elim
end
end DL
set_option maxHeartbeats 4000000
/-! DLDict: written dicts that stay as they are; a tuple once, no times. -/
namespace DL
open PySem PySem.Spec PyProof.Rows L2

/-! ### a tuple once, or no times -/
theorem tuple_mul1 (l : Addr) (items : Array Value) (n : Nat) (sl : Array (Option Value)) (dd : Option Addr) (x : Int) (u : Tok) (c0 : (decide (x < -(2 ^ 63)) || decide (x ≥ 2 ^ 63)) = false) (c1 : (items.isEmpty || x == 1) = true) :
    Meets (Builtin.«tuple.__mul__» ⟨[.ref l, .int x u], []⟩) (fun _ R s => s.heap.get? l = some { cls := .type "tuple", dict := dd, data := .seq items n, slots := sl } ∧ R (.ok (.ret (Value.ref l))) s) :=
  .of_wp fun prog w A R s h => by
    obtain ⟨hp, g, d, tk, os⟩ := s
    obtain ⟨hl, h⟩ := h
    have f1 := AutoSeq1.idx_int
    wp_walk using wpAny_loadPart' hl
    repeat (first
      | (refine wpAny_ite_false (decide_eq_false (by rw [c0]; exact Bool.false_ne_true)) ?_; wp_walk using wpAny_loadPart' hl)
      | (refine wpAny_ite_true (decide_eq_true (by rw [c1])) ?_; wp_walk using wpAny_loadPart' hl)
      | (rw [if_pos c1]; wp_walk using wpAny_loadPart' hl))
    exact ⟨_, rfl, h⟩
theorem tuple_mul0 (l : Addr) (items : Array Value) (n : Nat) (sl : Array (Option Value)) (dd : Option Addr) (x : Int) (u : Tok) (c0 : (decide (x < -(2 ^ 63)) || decide (x ≥ 2 ^ 63)) = false) (c1 : (items.isEmpty || x == 1) = false) (c2 : (decide (x ≤ 0) || items.isEmpty) = true) :
    Meets (Builtin.«tuple.__mul__» ⟨[.ref l, .int x u], []⟩) (fun _ R s => s.heap.get? l = some { cls := .type "tuple", dict := dd, data := .seq items n, slots := sl } ∧
      R (.ok (.ret (Value.ref s.heap.objs.size))) { s with heap := s.heap.push { cls := Value.type "tuple", data := Data.seq #[] }, toks := s.toks }) :=
  .of_wp fun prog w A R s h => by
    obtain ⟨hp, g, d, tk, os⟩ := s
    obtain ⟨hl, h⟩ := h
    have f1 := AutoSeq1.idx_int
    wp_walk using wpAny_loadPart' hl
    repeat (first
      | (refine wpAny_ite_false (decide_eq_false (by rw [c0]; exact Bool.false_ne_true)) ?_; wp_walk using wpAny_loadPart' hl)
      | (refine wpAny_ite_false (decide_eq_false (by rw [c1]; exact Bool.false_ne_true)) ?_; wp_walk using wpAny_loadPart' hl)
      | (refine wpAny_ite_true (decide_eq_true (by rw [c2])) ?_; wp_walk using wpAny_loadPart' hl)
      | (rw [if_pos c2]; wp_walk using wpAny_loadPart' hl))
    exact ⟨_, rfl, h⟩
variable [HasT]
section
variable {X : Cx} {W : WX} {pos : Pos}
def rRep1 (K : PySem.W.Frag) : R2 := fun x y H Q => ∃ l k xs, x = .ref l ∧ y = .int k ∧ SqT K H l xs ∧ -1000 ≤ k ∧ k ≤ 1 ∧ ((k = 1 ∨ xs = []) → Q (.ref l) H) ∧ (k ≤ 0 → xs ≠ [] → ∀ p, H p = none → Q (.ref p) (upd H p (.tup [])))
theorem op_rep1 : OpR X (binaryOp .Mult) (rRep1 X.K) := by
  intro pins s σ H x y v u Q I rx ry h
  obtain ⟨l, k, xs, rfl, rfl, hT, h1, h2, q1, q2⟩ := h
  cases rx
  obtain ⟨t, rfl⟩ := ry
  obtain ⟨its, r, ⟨⟨cls, dd, data, sl⟩, ho, hc, n, hd⟩, hs⟩ := I.tuple hT
  simp only at hc hd
  subst hc hd
  have hle : its.length = xs.length := r.length.symm
  have c0 : (decide (k < -(2 ^ 63)) || decide (k ≥ 2 ^ 63)) = false := by
    rw [decide_eq_false (by omega), decide_eq_false (by omega)] <;> rfl
  refine wpAny_binaryOp_repeat_ref (T := "tuple") (U := "int") (by decide) ⟨_, ho, rfl⟩ (fun s' => typeIs_int s' k t) noFill_tuple_mul F.fills_int_mul F.slot_int_rmul repeat_tuple F.slot_int_index.lookup
    (call_meets F.slot_int_rmul (typeIs_int s k t) F.entry_int_rmul (F.args_int_rmul_2 _ _) (int_rmul_tuple k t l its.toArray n dd sl)
      ⟨ho, rfl, ⟨_, ho, rfl⟩, ?_⟩)
  by_cases hx : k = 1 ∨ xs = []
  · have c1 : (its.toArray.isEmpty || k == 1) = true := by
      rcases hx with hx | hx
      · rw [hx]; simp
      · subst hx
        have : its = [] := List.eq_nil_of_length_eq_zero hle
        rw [this]
        rfl
    exact call_meets F.slot_tuple_mul ⟨_, ho, rfl⟩ F.entry_tuple_mul (F.args_tuple_mul_2 _ _) (tuple_mul1 l its.toArray n sl dd k t c0 c1) ⟨ho, ⟨.ref l, H, I, rfl, q1 hx⟩⟩
  · have hk : k ≤ 0 := by
      have : k ≠ 1 := fun z => hx (.inl z)
      omega
    have hn : xs ≠ [] := fun z => hx (.inr z)
    have hn2 : its ≠ [] := fun e => hn (List.eq_nil_of_length_eq_zero (by rw [← hle, e]; rfl))
    have hi : its.toArray.isEmpty = false := by
      cases its with
      | nil => exact absurd rfl hn2
      | cons a b => rfl
    have c1 : (its.toArray.isEmpty || k == 1) = false := by
      rw [hi, Bool.false_or]
      exact beq_eq_false_iff_ne.mpr (by omega)
    have c2 : (decide (k ≤ 0) || its.toArray.isEmpty) = true := by
      rw [decide_eq_true hk]
      rfl
    refine call_meets F.slot_tuple_mul ⟨_, ho, rfl⟩ F.entry_tuple_mul (F.args_tuple_mul_2 _ _) (tuple_mul0 l its.toArray n sl dd k t c0 c1 c2) ⟨ho, ?_⟩
    exact ⟨.ref s.heap.objs.size, _, I.laid (t' := s.toks) (o := .tup []) (fun b ob q => Heap.get?_push_of_some _ q) (Nat.le_refl _) ⟨Nat.zero_le _, [], .nil, IsTup.new _ _⟩, rfl, q2 hk hn _ (I.hok.fresh (Nat.le_refl _))⟩
def fRep1 : F2 := fun x y S => match x.tup?, y with
  | some a, .p (.int k) => if (decide (-1000 ≤ k) && decide (k ≤ 1)) = true then (if k = 1 ∨ a = [] then some (mkTup a, S) else some (mkTup [], S)) else none
  | _, _ => none
theorem od_rep1 : OpD X (binaryOp .Mult) fRep1 := ⟨_, op_rep1, fun {F ι S S' H d1 d2 d' v1 v2 Q} rs r1 r2 e q => by
  unfold fRep1 at e
  split at e
  · rename_i a k ea
    split at e
    · rename_i h
      simp only [Bool.and_eq_true, decide_eq_true_eq] at h
      obtain ⟨p1, vs, rfl, q1, rd1⟩ := tup?_rel ea r1
      cases relInt r2
      have hl := relDs_len rd1
      refine ⟨p1, k, vs, rfl, rfl, q1, h.1, h.2, fun hx => ?_, fun hk hn p hp => ?_⟩
      · have hx' : k = 1 ∨ a = [] := hx.imp id fun z => by
          subst z
          simpa using hl
        rw [if_pos hx'] at e
        cases e
        exact q F ι _ _ (Nxt.refl rs) (mkTup_rel q1 rd1)
      · have hx' : ¬ (k = 1 ∨ a = []) := fun z => z.elim (fun z => by omega) fun z => hn (by
          subst z
          exact List.eq_nil_of_length_eq_zero hl.symm)
        rw [if_neg hx'] at e
        cases e
        exact q F ι _ _ (Nxt.fresh rs hp) (rel_newT hp relDs_nil')
    · cases e
  · cases e⟩
/-- a * b: ints, tuples by any small number, lists -/
def fMulA (fin : FL) : F2 := fun x y S => match fRep1 x y S with
  | some z => some z
  | none => fMulG fin x y S
theorem od_mulA {fin : FL} (n : NewL X fin) : OpD X (binaryOp .Mult) (fMulA fin) := od_rep1.or (od_mulI.or (od_repT.or (od_repL n)))

/-! ### {} and {k: v} of ints -/
def mDic0 : ME D := fun _ S => .ok (.p (.dic [])) S
theorem de_dic0 : DE X W (.Dict [] [] pos) mDic0 := PE.imp pe_dnewK fun σ H Q q => by
  obtain ⟨ρ, S, ι, F, a, t⟩ := q
  intro p hp
  refine t _ _ _ (Nxt.frz a.r hp) _ ?_
  simp only [RelD, RelP, RelPk]
  exact ⟨p, [], rfl, .inr rfl, upd_same, rfl⟩
theorem upd_upd {H : Hp} {p : Addr} {o u : HO} : upd (upd H p o) p u = upd H p u := by
  funext b
  by_cases h : b = p
  · rw [h, upd_same, upd_same]
  · rw [upd_ne h, upd_ne h, upd_ne h]
def mDic1 (k v : Int) : ME D := fun _ S => .ok (.p (.dic [(.inl k, .int v)])) S
theorem de_dic1 {k v : Int} {i j : Nat} {p1 p2 : Pos} : DE X W (.Dict [some (.Constant (.int k) i p1)] [.Constant (.int v) j p2] pos) (mDic1 k v) :=
  PE.imp (pe_disp (pps_cons pe_int pe_int pps_nil) (by rfl) (by rfl) (fun z => by cases z) (by show 1 ≤ 15; decide)) fun σ H Q q => by
    obtain ⟨ρ, S, ι, F, a, t⟩ := q
    intro p hp
    refine ⟨upd_same, [(.inl k, .int v)], rfl, (by show 1 ≤ 15; decide), ?_⟩
    rw [upd_upd]
    refine t _ _ _ (Nxt.frz a.r hp) _ ?_
    simp only [RelD, RelP, RelPk]
    exact ⟨p, [(.inl k, .int v)], rfl, .inr rfl, upd_same, .int v, [], rfl, rfl, rfl⟩
end
end DL
set_option maxHeartbeats 4000000
/-! DLEnd: the law at its caller. -/
namespace DL
open PySem PySem.Spec PyProof.Rows L2 LamX
theorem CX_no {P : Program} {w : World} {H : Hp} {s : Shared} {e : Value} {s' : Shared} {α : Prop} (h : L2.CX P w [] H s (fun _ _ _ => False) e s') : α := by
  obtain ⟨_, _, _, _, _, _, _, _, _, _, _, _, z⟩ := h
  exact z.elim
theorem end_call {P : Program} {w : World} {K : PySem.W.Frag} {mg mb : Str → Option Value} {k : Nat} {fa a : Addr} {cs : List (Addr × Addr)} {fd : FuncData} {x : Str} {sp : Sp} {s₁ : Shared} {vs : List Value} {ns : List Int}
    (KX : K.In s₁.heap) (hns : s₁.heap.Ns mainGlobals mg) (hb : s₁.heap.Ns builtinsNs mb) (hbb : ∀ x : Str, x ≠ "__name__" → mb x = bootBuiltins x) (hlim : s₁.heap.NoLimit) (hg : s₁.gens = #[])
    (hT : ∀ p ∈ cs, s₁.heap.get? p.2 = some { cls := .none, data := .fields #[] }) (nT : ∀ p ∈ cs, K.lookup p.2 = none) (C : ∀ p ∈ cs, PySem.W.CodeHd s₁.heap p.1 p.2)
    (hbm : ∃ (bm : Addr) (ob : Obj), mg "__builtins__" = some (.ref bm) ∧ bm ≠ builtinsNs ∧ s₁.heap.get? bm = some ob ∧ ob.cls = .type "module" ∧ ob.dict = some builtinsNs ∧ ob.data = .plain)
    (ha : s₁.heap.get? a = some { cls := .type "list", data := .seq vs.toArray }) (hi : IntsAre vs ns) (hl : ns.length ≤ sizeLine) (hr : Room k callerA)
    (F : ∀ base : Heap, K.In base → base.Ns mainGlobals mg → (∀ p ∈ cs, TabB base mg p.1 p.2) → FnOkG P w K mg base k fa fd [x] sp) (hbind : ∀ (s : Shared) (u : Value), BindsTo s fd ⟨[u], []⟩ [(x, u)])
    (hsp : ∀ H : Hp, (∀ p ∈ cs, H p.2 = some (.tbl #[])) → SqC K H a (ns.map V.int) → sp [.ref a] H (fun v _ => v = .bl true) fun _ _ _ => False) :
    codeAny (model P w) callerA (.call (.ref fa) ⟨[.ref a], []⟩) (fun r s' => r = .ok (.ret (.bool true)) ∧ OldK s₁.heap s'.heap ∧ s'.os = s₁.os ∧ AllBare s'.gens) s₁ := by
  have rv := vals_ints hi
  have lenV := hi.length
  have isT : ∀ b : Addr, b ∈ cs.map (·.2) → s₁.heap.get? b = some { cls := .none, data := .fields #[] } := fun b hb => by
    obtain ⟨p, hp, e⟩ := List.mem_map.mp hb
    rw [← e]
    exact hT p hp
  have aT : a ∉ cs.map (·.2) := fun z => by
    have q := isT a z
    rw [ha] at q
    have z' : Data.seq vs.toArray _ = Data.fields #[] := congrArg Obj.data (Option.some.inj q)
    cases z'
  have memT : ∀ p ∈ cs, p.2 ∈ cs.map (·.2) := fun p hp => List.mem_map.mpr ⟨p, hp, rfl⟩
  -- from an abstract heap in which nothing but the script and the tables may be tracked
  have core : ∀ H : Hp, (∀ p ∈ cs, H p.2 = some (.tbl #[])) → (∀ b, H b = none ∨ b ∈ cs.map (·.2) ∨ ∃ o xs, H b = some (.frz o (.lst xs))) → SqC K H a (ns.map V.int) → HOk P w H s₁.heap → (∀ b, H b ≠ none → b = a ∨ b ∈ cs.map (·.2)) → (H a ≠ none → K.lookup a = none) →
      codeAny (model P w) callerA (.call (.ref fa) ⟨[.ref a], []⟩) (fun r s' => r = .ok (.ret (.bool true)) ∧ OldK s₁.heap s'.heap ∧ s'.os = s₁.os ∧ AllBare s'.gens) s₁ := by
    intro H hH hO hS hok hA hK
    have base_of : ∀ {b : Addr} {o : Obj}, s₁.heap.get? b = some o → H b = none → (hidT s₁.heap H).get? b = some o := fun e n => hidT_get e n
    have noD : ∀ {b : Addr} {o : Obj}, s₁.heap.get? b = some o → (∀ vs n, o.data ≠ .seq vs n) → o.data ≠ .fields #[] → H b = none := fun {b o} e h1 h2 => by
      cases q : H b with
      | none => rfl
      | some u =>
        rcases hA b (by rw [q]; simp) with e' | e'
        · rw [e', ha] at e
          cases e
          exact (h1 _ _ rfl).elim
        · rw [isT b e'] at e
          cases e
          exact (h2 rfl).elim
    have noA : ∀ {b : Addr} {o : Obj} {es : Array DictEntry} {ep : Nat}, s₁.heap.get? b = some o → o.data = .dict es ep → H b = none := fun {b o es ep} e d => by
      refine noD e (fun vs n z => ?_) fun z => ?_
      · rw [d] at z
        cases z
      · rw [d] at z
        cases z
    have nsK : ∀ {b : Addr} {m : Str → Option Value}, s₁.heap.Ns b m → (hidT s₁.heap H).Ns b m := fun {b m} ⟨o, es, ep, e, d, r⟩ => ⟨o, es, ep, base_of e (noA e d), d, r⟩
    have hKb : K.In (hidT s₁.heap H) := fun b o e => base_of (KX b o e) (by
      cases q : H b with
      | none => rfl
      | some u =>
        rcases hA b (by rw [q]; simp) with e' | e'
        · rw [e'] at e q
          rw [hK (by rw [q]; simp)] at e
          cases e
        · obtain ⟨p, hp, ep⟩ := List.mem_map.mp e'
          rw [← ep, nT p hp] at e
          cases e)
    have hM : L2.Mod K mg (hidT s₁.heap H) := ⟨hKb, nsK hns, ⟨mb, nsK hb, hbb⟩, let ⟨mc, h1, h2⟩ := hlim; ⟨mc, nsK h1, h2⟩⟩
    have TB : ∀ p ∈ cs, TabB (hidT s₁.heap H) mg p.1 p.2 := fun p hp => by
      have hTp := hT p hp
      refine ⟨?_, ?_, fun z => ?_⟩
      · obtain ⟨o, us, file, tf, flags, tg, inF, text, tt, e1, r1, r2, r3, r4, r5, r6, r7, r8, hne⟩ := C p hp
        refine ⟨o, us, file, tf, flags, tg, inF, text, tt, base_of e1 (noD e1 (fun vs n z => ?_) fun z => ?_), r1, r2, r3, r4, r5, r6, r7, r8, hne⟩
        · rw [r2] at z
          cases z
        · rw [r2] at z
          cases z
          simp at r3
      · obtain ⟨bm, ob, b1, b2, b3, b4, b5, b6⟩ := hbm
        have nG : bm ≠ mainGlobals := fun q => by
          obtain ⟨o, es, ep, e, hd, _⟩ := hns
          rw [q, e] at b3
          cases b3
          rw [hd] at b6
          cases b6
        have nP : bm ≠ p.2 := fun q => by
          rw [q, hTp] at b3
          cases b3
          cases b6
        refine ⟨bm, ob, b1, b2, nG, nP, base_of b3 (noD b3 (fun vs n z => ?_) fun z => ?_), b4, b5, b6⟩
        · rw [b6] at z
          cases z
        · rw [b6] at z
          cases z
      · obtain ⟨o, es, ep, e, hd, _⟩ := hns
        rw [z, hTp] at e
        cases e
        cases hd
    have e0 : Env0 P w K mg (hidT s₁.heap H) callerA [] s₁ H := ⟨rfl, hM, fun b o e => of_hidT e, Nat.le_of_eq (hidT_size _ _), trivial, fun b hb => absurd (show b ∈ ([] : List Addr) from hb) (by simp), hok, .of_eq hg⟩
    refine codeAny_mono ((F _ hKb (nsK hns) TB).run callerA [] s₁ H ⟨[.ref a], []⟩ [.ref a] [.ref a] _ _ hr rfl e0 (hbind s₁ (.ref a)) (.cons rfl .nil) (hsp H hH hS)) fun r s' h => ?_
    cases r with
    | error e => exact CX_no h
    | ok fl =>
      cases fl with
      | next => exact False.elim h
      | brk => exact False.elim h
      | cont => exact False.elim h
      | ret u =>
        obtain ⟨v, H', os, bare, un, hok', r', q⟩ := h
        have q' : v = .bl true := q
        subst q'
        obtain rfl : u = Value.bool true := r'
        have key : ∀ b o, b ∉ cs.map (·.2) → s₁.heap.get? b = some o → s'.heap.get? b = some o := fun b o nb e => by
          cases q : H b with
          | none => exact un.keep b o e q (by intro z; exact absurd (show b ∈ ([] : List Addr) from z) (by simp)) (by simp)
          | some u =>
            rcases hO b with z | z | ⟨ob, xs, z⟩
            · rw [q] at z; cases z
            · exact absurd z nb
            · have z2 := un.frzs b ob _ z
              obtain ⟨e1, _⟩ := hok b _ z
              obtain ⟨e2, _⟩ := hok' b _ z2
              rw [e] at e1; cases e1
              exact e2
        have grown : ∀ p ∈ cs, ∃ more : Array Value, s'.heap.get? p.2 = some { cls := .none, data := .fields more } := fun p hp => by
          obtain ⟨more, z⟩ := un.tbls p.2 #[] (hH p hp)
          exact ⟨_, hok' p.2 _ z⟩
        refine ⟨rfl, ⟨fun b o e => ?_, fun b o e => ?_⟩, os, bare⟩
        · by_cases hb : b ∈ cs.map (·.2)
          · obtain ⟨p, hp, ep⟩ := List.mem_map.mp hb
            obtain ⟨more, hm⟩ := grown p hp
            rw [← ep] at e ⊢
            rw [hT p hp] at e
            cases e
            exact .inr (.inl ⟨((C p hp).tab (hT p hp)).isCodeTable, rfl, #[], more, rfl, by rw [Array.empty_append]; exact hm⟩)
          · exact .inl (key b o hb e)
        · by_cases hb : b ∈ cs.map (·.2)
          · obtain ⟨p, hp, ep⟩ := List.mem_map.mp hb
            obtain ⟨more, hm⟩ := grown p hp
            rw [← ep]
            exact ⟨_, hm⟩
          · exact ⟨o, key b o hb e⟩
  cases hk : K.lookup a with
  | some o =>
    have e := KX a o hk
    rw [ha] at e
    cases e
    refine core (fun b => if b ∈ cs.map (·.2) then some (.tbl #[]) else none) (fun p hp => if_pos (memT p hp)) (fun b => ?_) (.inr ⟨_, vs.toArray, _, hk, rfl, rfl, rfl, by rw [List.size_toArray, lenV]; exact hl, by simpa using rv⟩) (fun b u z => ?_) (fun b z => ?_) fun z => absurd (show (if a ∈ cs.map (·.2) then some (HO.tbl #[]) else none) = none from if_neg aT) z
    · by_cases hb : b ∈ cs.map (·.2)
      · exact .inr (.inl hb)
      · exact .inl (if_neg hb)
    · by_cases hb : b ∈ cs.map (·.2)
      · have z' := (if_pos hb).symm.trans z
        cases z'
        exact isT b hb
      · have z' := (if_neg hb).symm.trans z
        cases z'
    · by_cases hb : b ∈ cs.map (·.2)
      · exact .inr hb
      · exact absurd (if_neg hb) z
  | none =>
    refine core (fun b => if b = a then some (.frz { cls := .type "list", data := .seq vs.toArray } (.lst (ns.map V.int))) else if b ∈ cs.map (·.2) then some (.tbl #[]) else none) (fun p hp => (if_neg (show ¬ p.2 = a from fun z => aT (by rw [← z]; exact memT p hp))).trans (if_pos (memT p hp))) (fun b => ?_)
      (.inl ⟨{ cls := .type "list", data := .seq vs.toArray }, if_pos rfl⟩) (fun b u z => ?_) (fun b z => ?_) fun _ => hk
    · by_cases hb : b = a
      · exact .inr (.inr ⟨_, _, if_pos hb⟩)
      · by_cases hb2 : b ∈ cs.map (·.2)
        · exact .inr (.inl hb2)
        · exact .inl ((if_neg hb).trans (if_neg hb2))
    · by_cases hb : b = a
      · have z' := (if_pos hb).symm.trans z
        cases z'
        rw [hb]
        exact ⟨ha, by rw [List.length_map]; exact hl, vs, _, rv, ha⟩
      · have z1 := (if_neg hb).symm.trans z
        by_cases hb2 : b ∈ cs.map (·.2)
        · have z' := (if_pos hb2).symm.trans z1
          cases z'
          exact isT b hb2
        · have z' := (if_neg hb2).symm.trans z1
          cases z'
    · by_cases hb : b = a
      · exact .inl hb
      · by_cases hb2 : b ∈ cs.map (·.2)
        · exact .inr hb2
        · exact absurd ((if_neg hb).trans (if_neg hb2)) z


/-- what the walk shows at the head's heap h: the law's run mf answers True -/
theorem walk_G {l : PySem.W.OpenLaw} {n k : Nat} {q : Program} {loose : List Str} {XP : (Str → Option Value) → Heap → Prop} {YP : World → Heap → Prop} {d : DefRec} {x : Str} {mf : List D → M D}
    (hn : l.most = some n) (hn2 : n ≤ sizeLine) (hdf : d.params.defaults = []) (hr : Room k callerA)
    (hlaw : ∀ ns : List Int, ns.length ≤ n → (∀ z ∈ ns, Builtin.Int.intBits z ≤ 1048576) → ∃ S', mf [.p (.scr (ns.map P.int))] ⟨[], rfl⟩ = .ok (.p (.bl true)) S')
    (F : ∀ (w : World) (mg : Str → Option Value) (fa : Addr) (h : Heap), YP w h → h.Ns mainGlobals mg → mg d.name = some (.ref fa) →
      ∃ (K : PySem.W.Frag) (fd : FuncData) (cs : List ((Addr × Addr) × Str)), K.In h ∧ (∀ p ∈ cs, h.get? p.1.2 = some { cls := .none, data := .fields #[] }) ∧ (∀ p ∈ cs, K.lookup p.1.2 = none) ∧ (∀ p ∈ cs, PySem.W.CodeHd h p.1.1 p.1.2) ∧ (∀ (s : Shared) (u : Value), BindsTo s fd ⟨[u], []⟩ [(x, u)]) ∧
        ∀ base : Heap, K.In base → base.Ns mainGlobals mg → (∀ p ∈ cs, TabB base mg p.1.1 p.1.2) → letI : HasT := ⟨cs.map fun p => (p.1.2, p.2)⟩; FnOkG l.prog w K mg base k fa fd [x] (spD ⟨K, mg⟩ 1 mf)) :
    PySem.W.WalkO q loose XP YP l.row.toRowW d [] (fun f vs => PySem.call f vs) := by
  refine Att.attach_callB hn hdf fun w s₀ s₁ mg mb fa o pm cd doc a vs ns G Y ho hd hcd hmg hobj hints hlen hbits hg => ?_
  obtain ⟨K, fd, cs, KX, hT, nT, C, hb, hF⟩ := F w mg fa _ Y G.T.g hmg
  refine end_call (cs := cs.map (·.1)) (k := k) KX G.T.g G.T.b G.T.builtins G.T.nolimit hg (fun p hp => ?_) (fun p hp => ?_) (fun p hp => ?_) G.T.bmain hobj hints (Nat.le_trans hlen hn2) hr (fun base h1 h2 h3 => hF base h1 h2 fun p hp => h3 p.1 (List.mem_map.mpr ⟨p, hp, rfl⟩)) hb fun H hH hS => ?_
  · obtain ⟨p', hp', rfl⟩ := List.mem_map.mp hp
    exact hT p' hp'
  · obtain ⟨p', hp', rfl⟩ := List.mem_map.mp hp
    exact nT p' hp'
  · obtain ⟨p', hp', rfl⟩ := List.mem_map.mp hp
    exact C p' hp'
  · letI : HasT := ⟨cs.map fun p => (p.1.2, p.2)⟩
    obtain ⟨S', e⟩ := hlaw ns hlen hbits
    refine ⟨rfl, [.p (.scr (ns.map P.int))], ⟨[], rfl⟩, [], fun _ => False, ⟨rfl, List.nodup_nil, (fun a h => absurd h List.not_mem_nil), (fun a h => h.elim), fun q hq => ?_, fun m b u h => by simp at h⟩, ?_, ?_⟩
    · obtain ⟨p, hp, rfl⟩ := List.mem_map.mp hq
      exact TabS.nil (hH p.1 (List.mem_map.mpr ⟨p, hp, rfl⟩))
    · refine relDs_cons.mpr ⟨?_, relDs_nil'⟩
      simp only [RelD, RelP]
      refine ⟨a, ns.map V.int, rfl, hS, ?_⟩
      have all : ∀ ns : List Int, RelPs ⟨K, mg⟩ (fun _ => False) H (ns.map P.int) (ns.map V.int) := by
        intro ns
        induction ns with
        | nil => simp only [List.map, RelPs]
        | cons m ns ih =>
          simp only [List.map, RelPs]
          exact ⟨_, _, rfl, by simp only [RelP], ih⟩
      exact all ns
    · show Then _ _ _ _ _ (mf [.p (.scr (ns.map P.int))] ⟨[], rfl⟩) _
      rw [e]
      intro F' ι' H' nx v rv
      exact relBl rv
end DL
set_option maxHeartbeats 4000000
/-! DLGen: what the printed walks lean on. -/
namespace DL
open PySem PySem.Spec PyProof.Rows L2
theorem boot_len : bootBuiltins "len" = some (.builtin "len") := by rfl
theorem boot_abs : bootBuiltins "abs" = some (.builtin "abs") := by rfl
theorem boot_max : bootBuiltins "max" = some (.builtin "max") := by rfl
theorem boot_min : bootBuiltins "min" = some (.builtin "min") := by rfl
theorem boot_sum : bootBuiltins "sum" = some (.builtin "sum") := by rfl
theorem boot_all : bootBuiltins "all" = some (.builtin "all") := by rfl
theorem boot_any : bootBuiltins "any" = some (.builtin "any") := by rfl
theorem boot_sorted : bootBuiltins "sorted" = some (.builtin "sorted") := by rfl
theorem boot_isinstance : bootBuiltins "isinstance" = some (.builtin "isinstance") := by rfl
theorem boot_repr : bootBuiltins "repr" = some (.builtin "repr") := by rfl
theorem boot_int : bootBuiltins "int" = some (.type "int") := by rfl
theorem boot_bool : bootBuiltins "bool" = some (.type "bool") := by rfl
theorem boot_str : bootBuiltins "str" = some (.type "str") := by rfl
theorem boot_tuple : bootBuiltins "tuple" = some (.type "tuple") := by rfl
theorem boot_list : bootBuiltins "list" = some (.type "list") := by rfl
theorem boot_dict : bootBuiltins "dict" = some (.type "dict") := by rfl
theorem room_u {k : Nat} {A : Around} (r : Room k A) : A.units + 65 < cLine := by
  have := r.un
  omega
end DL
set_option maxHeartbeats 4000000
/-! DLPure: how runs are reckoned. -/
namespace DL
open PySem PySem.Spec PyProof.Rows L2

/-! ### one step each -/
section
variable {ρ : Env} {S S' : Store} {ma mb mc mo mi me : ME D} {mr : ME (List D)} {mt mu : ME Bool} {f g : F2} {h : F1} {fl : FL} {fm : FM} {a b : MS} {α β : Type}
theorem r_ok {x : α} {k : α → M β} : Res.bind (.ok x S) k = k x S := rfl
theorem r_err {x : Exc} {k : α → M β} : Res.bind (.err x S) k = .err x S := rfl
theorem r_c {p : P} : mC p ρ S = .ok (.p p) S := rfl
theorem r_var {i : Nat} {d : D} (e : ρ[i]? = some (some d)) : mVar i ρ S = .ok d S := by
  unfold mVar
  rw [e]
theorem r_op2 : mOp2 f ma mb ρ S = (ma ρ S).bind fun x => fun S => (mb ρ S).bind fun y => lift (f x y) := rfl
theorem r_op1 : mOp1 h ma ρ S = (ma ρ S).bind fun x => lift (h x) := rfl
theorem r_lift {f : Store → Option (α × Store)} {x : α} (e : f S = some (x, S')) : lift f S = .ok x S' := by
  unfold lift
  rw [e]
theorem r_nil : mNil ρ S = .ok [] S := rfl
theorem r_cons : mCons ma mr ρ S = (ma ρ S).bind fun x => fun S => (mr ρ S).bind fun xs => fun S => .ok (x :: xs) S := rfl
theorem r_callB : mCallB fl mr ρ S = (mr ρ S).bind fun xs => lift (fl xs) := rfl
theorem r_call {mf : List D → M D} : mCall mf mr ρ S = (mr ρ S).bind mf := rfl
theorem r_and : mAnd ma mb ρ S = (ma ρ S).bind fun x => fun S => (asB x S).bind fun b => fun S => if b = true then mb ρ S else .ok (.p (.bl false)) S := rfl
theorem r_or : mOr ma mb ρ S = (ma ρ S).bind fun x => fun S => (asB x S).bind fun b => fun S => if b = true then .ok (.p (.bl true)) S else mb ρ S := rfl
theorem r_not : mNot ma ρ S = (ma ρ S).bind fun x => fun S => (asB x S).bind fun b => fun S => .ok (.p (.bl (!b))) S := rfl
theorem r_asB {b : Bool} : asB (.p (.bl b)) S = .ok b S := rfl
theorem r_if : mIf mt ma mb ρ S = (mt ρ S).bind fun b => fun S => if b = true then ma ρ S else mb ρ S := rfl
theorem r_andT : mAndT mt mu ρ S = (mt ρ S).bind fun b => fun S => if b = true then mu ρ S else .ok false S := rfl
theorem r_orT : mOrT mt mu ρ S = (mt ρ S).bind fun b => fun S => if b = true then .ok true S else mu ρ S := rfl
theorem r_notT : mNotT mt ρ S = (mt ρ S).bind fun b => fun S => .ok (!b) S := rfl
theorem r_test : mTest ma ρ S = (ma ρ S).bind asB := rfl
theorem r_chain : mChain f g ma mb mc ρ S = (ma ρ S).bind fun x => fun S => (mb ρ S).bind fun y => fun S => (lift (f x y) S).bind fun z => fun S => (asB z S).bind fun b => fun S =>
  if b = true then (mc ρ S).bind fun u => lift (g y u) else .ok (.p (.bl false)) S := rfl
theorem r_seq : mSeq a b ρ S = (a ρ S).bind (oSeq b) := rfl
theorem r_nx : oSeq b (.nx ρ) S = b ρ S := rfl
theorem r_rt {d : D} : oSeq b (.rt d) S = .ok (.rt d) S := rfl
theorem r_bk : oSeq b (.bk ρ) S = .ok (.bk ρ) S := rfl
theorem r_ct : oSeq b (.ct ρ) S = .ok (.ct ρ) S := rfl
theorem r_next : mNext ρ S = .ok (.nx ρ) S := rfl
theorem r_break : mBreak ρ S = .ok (.bk ρ) S := rfl
theorem r_cont : mCont ρ S = .ok (.ct ρ) S := rfl
theorem r_drop : mDrop ma ρ S = (ma ρ S).bind fun _ S => .ok (.nx ρ) S := rfl
theorem r_ret : mRet ma ρ S = (ma ρ S).bind fun d S => .ok (.rt d) S := rfl
theorem r_retN : mRetN ρ S = .ok (.rt (.p .non)) S := rfl
theorem r_asg {i : Nat} : mAsg (gNm i) ma ρ S = (ma ρ S).bind fun d S => .ok (.nx (ρ.set i (some d))) S := rfl
theorem r_asgG {g : MG} : mAsg g ma ρ S = (ma ρ S).bind fun d => gRun g d ρ := rfl
theorem r_aug {i : Nat} : mAug i f ma ρ S = (mVar i ρ S).bind fun x => fun S => (ma ρ S).bind fun y => fun S => (lift (f x y) S).bind fun z S => .ok (.nx (ρ.set i (some z))) S := rfl
theorem r_ifS : mIfS mt a b ρ S = (mt ρ S).bind fun k => if k = true then a ρ else b ρ := rfl
theorem r_par {is : List Nat} : mPar is mr ρ S = (mr ρ S).bind fun ds S => if ds.length = is.length then .ok (.nx (gPar is ds ρ)) S else .stuck := rfl
theorem r_sl {f : FS} {ml mh : ME (Option Int)} : mSl f ma ml mh ρ S = (ma ρ S).bind fun x => fun S => (ml ρ S).bind fun l => fun S => (mh ρ S).bind fun h => lift (f x l h) := rfl
theorem r_noPart : mNoPart ρ S = .ok none S := rfl
theorem r_part : mPart ma ρ S = (ma ρ S).bind fun x => fun S => (asInt x S).bind fun i S => .ok (some i) S := rfl
theorem r_asInt {i : Int} : asInt (.p (.int i)) S = .ok i S := rfl
theorem r_put : mPut me mo mi ρ S = (me ρ S).bind fun y => fun S => (mo ρ S).bind fun x => fun S => (mi ρ S).bind fun i => liftS (fPut x i y) ρ := rfl
theorem r_liftS {f : Store → Option Store} (e : f S = some S') : liftS f ρ S = .ok (.nx ρ) S' := by
  unfold liftS
  rw [e]
theorem r_meth : mMeth fm mo mr ρ S = (mo ρ S).bind fun x => fun S => (lift (fun S => match x.lst? S with
  | some _ => some ((), S)
  | none => none) S).bind fun _ S => (mr ρ S).bind fun ys => lift (fm x ys) := rfl
theorem r_for {mi : ME Src} {g : MG} : mFor mi g a ρ S = (mi ρ S).bind fun src => loopI src.watch g a src.xs ρ := rfl
theorem r_src {f : D → Store → Option (Src × Store)} : mSrc f ma ρ S = (ma ρ S).bind fun d => lift (f d) := rfl
theorem r_srcA {f : List D → Store → Option (Src × Store)} : mSrcA f mr ρ S = (mr ρ S).bind fun d => lift (f d) := rfl
theorem r_comp {mi : ME Src} {vs : List Nat} {g : MG} : mCompL mi vs g mt me ρ S = (mi ρ S).bind fun src => compI src.watch g mt me (unsetE ρ vs) [] src.xs := rfl
theorem r_while0 : mWhile mt a 0 ρ S = .stuck := rfl
theorem r_while {n : Nat} : mWhile mt a (n + 1) ρ S = (mt ρ S).bind fun k => if k = true then fun S => (a ρ S).bind (oLoop (mWhile mt a n)) else fun S => .ok (.nx ρ) S := rfl
theorem r_oNx {k : Env → M Out} : oLoop k (.nx ρ) S = k ρ S := rfl
theorem r_oCt {k : Env → M Out} : oLoop k (.ct ρ) S = k ρ S := rfl
theorem r_oBk {k : Env → M Out} : oLoop k (.bk ρ) S = .ok (.nx ρ) S := rfl
theorem r_oRt {k : Env → M Out} {d : D} : oLoop k (.rt d) S = .ok (.rt d) S := rfl
theorem r_fn {N : Nat} {fin : Fin} {ds : List D} : mFn N fin a ds S = finR fin S.objs.length ((a (env0 N ds) S).bind asRet) := rfl
theorem r_asNx : asRet (.nx ρ) S = .ok (.p .non) S := rfl
theorem r_asRt {d : D} : asRet (.rt d) S = .ok d S := rfl
theorem r_finOk {fin : Fin} {k : Nat} {d : D} : finR fin k (.ok d S) = .ok (fin k d S).1 (fin k d S).2 := rfl
theorem r_tt {α : Type} {x y : α} : (if true = true then x else y) = x := if_pos rfl
theorem r_ff {α : Type} {x y : α} : (if false = true then x else y) = y := if_neg (by decide)
theorem r_yes : mYes ρ S = .ok true S := rfl
end

/-! ### the ends of defs -/
theorem cut_self (S : Store) : Store.cut S.objs.length S = some S := by
  unfold Store.cut
  have h : (decide (S.objs.length ≤ S.objs.length) && allBelow S.objs.length (S.objs.take S.objs.length)) = true := by
    rw [List.take_length, S.wf, decide_eq_true (Nat.le_refl _)]
    rfl
  rw [dif_pos h]
  exact congrArg some (Store.ext' (List.take_length))
theorem cut_pre {S S' : Store} (h : S'.objs.take S.objs.length = S.objs) : Store.cut S.objs.length S' = some S := by
  unfold Store.cut
  have hl : S.objs.length ≤ S'.objs.length := by
    have := congrArg List.length h
    rw [List.length_take] at this
    omega
  have h2 : (decide (S.objs.length ≤ S'.objs.length) && allBelow S.objs.length (S'.objs.take S.objs.length)) = true := by
    rw [h, S.wf, decide_eq_true hl]
    rfl
  rw [dif_pos h2]
  exact congrArg some (Store.ext' h)
theorem finP_p {S S' : Store} {x : P} (h : S'.objs.take S.objs.length = S.objs) : finP S.objs.length (.p x) S' = (.p x, S) := by
  unfold finP
  rw [cut_pre h]
  simp only [frzD]
theorem finP_self {S : Store} {x : P} : finP S.objs.length (.p x) S = (.p x, S) := finP_p (List.take_length)
/-- a def that answers data and leaves the store longer at most -/
theorem fn_pure {N : Nat} {a : MS} {ds : List D} {S S' : Store} {x : P} (h : a (env0 N ds) S = .ok (.rt (.p x)) S') (hs : S'.objs.take S.objs.length = S.objs) : mFn N finP a ds S = .ok (.p x) S := by
  rw [r_fn, h, r_ok, r_asRt, r_finOk, finP_p hs]
theorem fn_pure0 {N : Nat} {a : MS} {ds : List D} {S : Store} {x : P} (h : a (env0 N ds) S = .ok (.rt (.p x)) S) : mFn N finP a ds S = .ok (.p x) S := fn_pure h (List.take_length)
theorem fn_none {N : Nat} {a : MS} {ds : List D} {S S' : Store} {ρ : Env} (h : a (env0 N ds) S = .ok (.nx ρ) S') (hs : S'.objs.take S.objs.length = S.objs) : mFn N finP a ds S = .ok (.p .non) S := by
  rw [r_fn, h, r_ok, r_asNx, r_finOk, finP_p hs]

/-! ### comprehensions without a change of the store -/
theorem compI_nil {w : List (Nat × List D)} {g : MG} {t : ME Bool} {e : ME D} {ρ : Env} {acc : List D} {S : Store} (hw : watchOk w S = true) : compI w g t e ρ acc [] S = .ok acc S := by
  unfold compI
  rw [if_pos hw]
theorem compI_pure {w : List (Nat × List D)} {g : MG} {t : ME Bool} {e : ME D} {ρ : Env} {S : Store} {p : D → Bool} {f : D → D} (hw : watchOk w S = true) : ∀ (xs acc : List D), acc.length + xs.length ≤ 100000 →
    (∀ x ∈ xs, ∃ ρ', g x ρ S = some ρ' ∧ t ρ' S = .ok (p x) S ∧ (p x = true → e ρ' S = .ok (f x) S)) → compI w g t e ρ acc xs S = .ok (acc ++ (xs.filter p).map f) S
  | [], acc, _, _ => by
    rw [compI_nil hw]
    simp
  | x :: xs, acc, hl, h => by
    obtain ⟨ρ', e1, e2, e3⟩ := h x List.mem_cons_self
    have hl' : acc.length < 100000 := by
      rw [List.length_cons] at hl
      omega
    unfold compI
    rw [if_pos hw, e1]
    simp only [e2, noErr, r_ok]
    cases hp : p x with
    | false =>
      simp only [Bool.false_eq_true, if_false]
      rw [compI_pure hw xs acc (by rw [List.length_cons] at hl; omega) fun y hy => h y (List.mem_cons_of_mem _ hy)]
      rw [List.filter_cons_of_neg (by rw [hp]; decide)]
    | true =>
      simp only [if_true, e3 hp, noErr, r_ok]
      rw [if_pos hl', compI_pure hw xs (acc ++ [f x]) (by rw [List.length_append, List.length_singleton]; rw [List.length_cons] at hl; omega) fun y hy => h y (List.mem_cons_of_mem _ hy)]
      rw [List.filter_cons_of_pos hp, List.map_cons, List.append_assoc]
      rfl
/-- all items kept -/
theorem compI_map {w : List (Nat × List D)} {g : MG} {e : ME D} {ρ : Env} {S : Store} {f : D → D} (hw : watchOk w S = true) (xs : List D) (hl : xs.length ≤ 100000)
    (h : ∀ x ∈ xs, ∃ ρ', g x ρ S = some ρ' ∧ e ρ' S = .ok (f x) S) : compI w g mYes e ρ [] xs S = .ok (xs.map f) S := by
  rw [compI_pure (p := fun _ => true) (f := f) hw xs [] (by simpa using hl) fun x hx => by
    obtain ⟨ρ', a, b⟩ := h x hx
    exact ⟨ρ', a, rfl, fun _ => b⟩]
  rw [List.nil_append, List.filter_eq_self.mpr fun _ _ => rfl]
/-! ### comprehensions that change the store -/
theorem compI_inv {w : List (Nat × List D)} {g : MG} {e : ME D} {ρ : Env} {I : List D → List D → Store → Prop} (hw : ∀ acc xs S, I acc xs S → watchOk w S = true)
    (step : ∀ acc x xs S, I acc (x :: xs) S → acc.length < 100000 ∧ ∃ ρ' y S', g x ρ S = some ρ' ∧ e ρ' S = .ok y S' ∧ I (acc ++ [y]) xs S') :
    ∀ (xs acc : List D) (S : Store), I acc xs S → ∃ out S', compI w g mYes e ρ acc xs S = .ok out S' ∧ I out [] S'
  | [], acc, S, h => ⟨acc, S, compI_nil (hw _ _ _ h), h⟩
  | x :: xs, acc, S, h => by
    obtain ⟨hl, ρ', y, S1, e1, e2, h1⟩ := step acc x xs S h
    obtain ⟨out, S2, e3, h2⟩ := compI_inv hw step xs (acc ++ [y]) S1 h1
    refine ⟨out, S2, ?_, h2⟩
    unfold compI
    rw [if_pos (hw _ _ _ h), e1]
    simp only [r_yes, noErr, r_ok, if_true, e2]
    rw [if_pos hl]
    exact e3
/-! ### loops -/
theorem loopI_nil {w : List (Nat × List D)} {g : MG} {b : MS} {ρ : Env} {S : Store} (hw : watchOk w S = true) : loopI w g b [] ρ S = .ok (.nx ρ) S := by
  unfold loopI
  rw [if_pos hw]
theorem loopI_cons {w : List (Nat × List D)} {g : MG} {b : MS} {ρ ρ' : Env} {S : Store} {x : D} {xs : List D} (hw : watchOk w S = true) (hg : g x ρ S = some ρ') : loopI w g b (x :: xs) ρ S = (b ρ' S).bind (oLoop (loopI w g b xs)) := by
  conv => lhs; unfold loopI
  rw [if_pos hw]
  unfold gBind
  rw [hg]
theorem loopI_inv {w : List (Nat × List D)} {g : MG} {b : MS} {I : List D → Env → Store → Prop} (hw : ∀ xs ρ S, I xs ρ S → watchOk w S = true)
    (step : ∀ x xs ρ S, I (x :: xs) ρ S → ∃ ρ' ρ'' S', g x ρ S = some ρ' ∧ b ρ' S = .ok (.nx ρ'') S' ∧ I xs ρ'' S') :
    ∀ (xs : List D) (ρ : Env) (S : Store), I xs ρ S → ∃ ρ' S', loopI w g b xs ρ S = .ok (.nx ρ') S' ∧ I [] ρ' S'
  | [], ρ, S, h => ⟨ρ, S, loopI_nil (hw _ _ _ h), h⟩
  | x :: xs, ρ, S, h => by
    obtain ⟨ρ', ρ'', S1, e1, e2, h1⟩ := step x xs ρ S h
    obtain ⟨ρ3, S3, e3, h3⟩ := loopI_inv hw step xs ρ'' S1 h1
    refine ⟨ρ3, S3, ?_, h3⟩
    rw [loopI_cons (hw _ _ _ h) e1, e2, r_ok, r_oNx]
    exact e3

/-! ### ints in lists and tuples -/
theorem intsD_d : ∀ ns : List Int, intsD (dInts ns) = some ns
  | [] => rfl
  | n :: ns => by
    show intsD (D.p (.int n) :: dInts ns) = _
    simp only [intsD, intsD_d ns]
theorem intsD_of : ∀ {ds : List D} {ns : List Int}, intsD ds = some ns → ds = dInts ns := fun {ds ns} h => @ints_eq ⟨[]⟩ ds ns h
def tI (ns : List Int) : D := .p (.tup (ns.map P.int))
def lI (ns : List Int) : D := .p (.lst (ns.map P.int))
theorem map_dInts (ns : List Int) : (ns.map P.int).map D.p = dInts ns := by
  rw [List.map_map]
  rfl
section
variable {S : Store} {ns : List Int}
theorem tI_tup : (tI ns).tup? = some (dInts ns) := by
  show some ((ns.map P.int).map D.p) = _
  rw [map_dInts]
theorem tI_seq : (tI ns).seq? S = some (dInts ns) := by
  unfold D.seq?
  rw [tI_tup]
theorem lI_lst : (lI ns).lst? S = some (dInts ns) := by
  show some ((ns.map P.int).map D.p) = _
  rw [map_dInts]
theorem lI_seq : (lI ns).seq? S = some (dInts ns) := by
  show (lI ns).lst? S = _
  exact lI_lst
theorem pures_dInts : ∀ ns : List Int, pures (dInts ns) = some (ns.map P.int)
  | [] => rfl
  | n :: ns => by
    show pures (D.p (.int n) :: dInts ns) = _
    simp only [pures, pures_dInts ns, List.map_cons]
theorem mkTup_dInts : mkTup (dInts ns) = tI ns := by
  unfold mkTup
  rw [pures_dInts]
  rfl
theorem dInts_len : (dInts ns).length = ns.length := by simp [dInts]
theorem f_toT_l : fToT [lI ns] S = some (tI ns, S) := by
  show (match (lI ns).seq? S with | some xs => some (mkTup xs, S) | none => none) = _
  rw [lI_seq]
  show some (mkTup (dInts ns), S) = _
  rw [mkTup_dInts]
theorem f_toT_t : fToT [tI ns] S = some (tI ns, S) := by
  show (match (tI ns).seq? S with | some xs => some (mkTup xs, S) | none => none) = _
  rw [tI_seq]
  show some (mkTup (dInts ns), S) = _
  rw [mkTup_dInts]
theorem f_lstF (h : ns.length ≤ 100000) : fLstF (dInts ns) S = some (lI ns, S) := by
  unfold fLstF
  rw [if_pos (by rw [dInts_len]; exact h), pures_dInts]
  rfl
theorem f_srt {b : Bool} {d : D} (hd : d.seq? S = some (dInts ns)) (h : ns.length ≤ 100000) : fSrt b fLstF [d] S = some (lI (sortBy b ns), S) := by
  show (match d.seq? S with | some xs => (match intsD xs with | some ns => fLstF (dInts (sortBy b ns)) S | none => none) | none => none) = _
  rw [hd]
  show (match intsD (dInts ns) with | some ns => fLstF (dInts (sortBy b ns)) S | none => none) = _
  rw [intsD_d]
  refine f_lstF ?_
  have : (sortBy b ns).length = ns.length := by
    cases b
    · exact (List.mergeSort_perm ns _).length_eq
    · show (sortUp ns).reverse.length = _
      rw [List.length_reverse]
      exact (List.mergeSort_perm ns _).length_eq
  omega
theorem f_sum {d : D} (hd : d.seq? S = some (dInts ns)) : fSum [d] S = some (.p (.int ns.sum), S) := by
  show (match d.seq? S with | some xs => (match intsD xs with | some ns => some (D.p (.int ns.sum), S) | none => none) | none => none) = _
  rw [hd]
  show (match intsD (dInts ns) with | some ns => some (D.p (.int ns.sum), S) | none => none) = _
  rw [intsD_d]
theorem f_len {d : D} {xs : List D} (hd : d.seq? S = some xs) : fLen [d] S = some (.p (.int xs.length), S) := by
  unfold fLen
  simp only [hd]
end
end DL
set_option maxHeartbeats 4000000
/-! DLPure2: operators at what they are used on. -/
namespace DL
open PySem PySem.Spec PyProof.Rows L2
section
variable {ρ : Env} {S : Store} {fin : FL} {i j : Int} {b c : Bool}
theorem r_var' {n : Nat} : mVar n ρ S = match ρ[n]? with
  | some (some d) => .ok d S
  | _ => .stuck := rfl
theorem r_lift' {α : Type} {f : Store → Option (α × Store)} : lift f S = match f S with
  | some (a, S') => .ok a S'
  | none => .stuck := rfl
theorem r_env {N : Nat} {ds : List D} : env0 N ds = ds.map some ++ List.replicate (N - ds.length) none := rfl
theorem o_add : fAddG fin (.p (.int i)) (.p (.int j)) S = some (.p (.int (i + j)), S) := rfl
theorem o_addI : fAddI (.p (.int i)) (.p (.int j)) S = some (.p (.int (i + j)), S) := rfl
theorem o_sub : fSub (.p (.int i)) (.p (.int j)) S = some (.p (.int (i - j)), S) := rfl
theorem o_neg : fNeg (.p (.int i)) S = some (.p (.int (-i)), S) := rfl
theorem o_mul (h : bitsB 400000 i = true) (h2 : bitsB 400000 j = true) : fMulA fin (.p (.int i)) (.p (.int j)) S = some (.p (.int (i * j)), S) := by
  unfold fMulA
  have e : fRep1 (.p (.int i)) (.p (.int j)) S = none := rfl
  rw [e]
  unfold fMulG
  have e2 : fMulI (.p (.int i)) (.p (.int j)) S = some (.p (.int (i * j)), S) := by
    unfold fMulI fII
    simp only [h, h2, Bool.and_self, if_true]
  simp only [e2]
theorem o_mod (h : 0 < j) : fMod (.p (.int i)) (.p (.int j)) S = some (.p (.int (i % j)), S) := by
  unfold fMod fII
  simp only [decide_eq_true h, if_true]
theorem o_div (h : 0 < j) (h2 : bitsB 9000 j = true) : fDiv (.p (.int i)) (.p (.int j)) S = some (.p (.int (i / j)), S) := by
  unfold fDiv fII
  simp only [decide_eq_true h, h2, Bool.and_self, if_true]
theorem o_lt : fLt (.p (.int i)) (.p (.int j)) S = some (.p (.bl (decide (i < j))), S) := rfl
theorem o_le : fLe (.p (.int i)) (.p (.int j)) S = some (.p (.bl (decide (i ≤ j))), S) := rfl
theorem o_gt : fGt (.p (.int i)) (.p (.int j)) S = some (.p (.bl (decide (j < i))), S) := rfl
theorem o_ge : fGe (.p (.int i)) (.p (.int j)) S = some (.p (.bl (decide (j ≤ i))), S) := rfl
theorem o_eq : fEq (.p (.int i)) (.p (.int j)) S = some (.p (.bl (decide (i = j))), S) := by
  have e : fEq (.p (.int i)) (.p (.int j)) S = some (.p (.bl (i == j)), S) := by
    simp only [fEq, D.py?, P.py, SeqAt.shaped, PyData.canLay0, PyData.depth, PyData.eqv, Bool.true_and, Nat.zero_le, decide_true, if_true]
  rw [e, show (i == j) = decide (i = j) by by_cases h : i = j <;> simp [h]]
theorem o_ne : fNe (.p (.int i)) (.p (.int j)) S = some (.p (.bl (!decide (i = j))), S) := by
  have e : fNe (.p (.int i)) (.p (.int j)) S = some (.p (.bl (!(i == j))), S) := by
    simp only [fNe, D.py?, P.py, SeqAt.shaped, PyData.canLay0, PyData.depth, PyData.eqv, Bool.true_and, Nat.zero_le, decide_true, if_true]
  rw [e, show (i == j) = decide (i = j) by by_cases h : i = j <;> simp [h]]
theorem o_int : fInt [.p (.int i)] S = some (.p (.int i), S) := rfl
theorem o_intB : fInt [.p (.bl b)] S = some (.p (.int (if b then 1 else 0)), S) := rfl
theorem o_abs : fAbs [.p (.int i)] S = some (.p (.int (if i < 0 then -i else i)), S) := rfl
theorem o_max : fMax [.p (.int i), .p (.int j)] S = some (.p (.int (max i j)), S) := by
  show some (D.p (.int (if j > i then j else i)), S) = _
  congr 4
  by_cases h : j > i
  · rw [if_pos h]; omega
  · rw [if_neg h]; omega
theorem o_min : fMin [.p (.int i), .p (.int j)] S = some (.p (.int (min i j)), S) := by
  show some (D.p (.int (if j < i then j else i)), S) = _
  congr 4
  by_cases h : j < i
  · rw [if_pos h]; omega
  · rw [if_neg h]; omega
theorem o_maxL {d : D} {n : Int} {ns : List Int} (hd : d.seq? S = some (dInts (n :: ns))) : fMax [d] S = some (.p (.int (ns.foldl max n)), S) := by
  have e : fMax [d] S = (match d.seq? S with
    | some xs => (match intsD xs with
      | some (n :: ns) => some (.p (.int (ns.foldl max n)), S)
      | _ => none)
    | none => none) := by
    cases d with
    | p x => cases x <;> rfl
    | r n => rfl
    | t xs => rfl
  rw [e, hd]
  simp only [intsD_d]
theorem o_minL {d : D} {n : Int} {ns : List Int} (hd : d.seq? S = some (dInts (n :: ns))) : fMin [d] S = some (.p (.int (ns.foldl min n)), S) := by
  have e : fMin [d] S = (match d.seq? S with
    | some xs => (match intsD xs with
      | some (n :: ns) => some (.p (.int (ns.foldl min n)), S)
      | _ => none)
    | none => none) := by
    cases d with
    | p x => cases x <;> rfl
    | r n => rfl
    | t xs => rfl
  rw [e, hd]
  simp only [intsD_d]
theorem o_ixT {xs : List D} {d x : D} (hd : d.tup? = some xs) (h : atI xs i = some x) : fIx d (.p (.int i)) S = some (x, S) := by
  simp only [fIx, hd, h]
theorem o_ixL {xs : List D} {d x : D} (h0 : d.tup? = none) (hd : d.lst? S = some xs) (h : atI xs i = some x) : fIx d (.p (.int i)) S = some (x, S) := by
  simp only [fIx, h0, hd, h]
theorem atI_get {α : Type} {xs : List α} {k : Nat} {x : α} (h : xs[k]? = some x) : atI xs (k : Int) = some x := atI_nat h
/-- a slice from a place on; up to a place -/
theorem cut_from {xs : List D} {k : Nat} : cutD xs (some (k : Int)) none = xs.drop k := by
  have e1 : HT.sIx xs.length 0 (some (k : Int)) = min k xs.length := HT.sIx_nat _ _ _
  have e2 : HT.sIx xs.length xs.length none = xs.length := rfl
  unfold cutD
  rw [e1, e2]
  by_cases h : k ≤ xs.length
  · rw [Nat.min_eq_left h, List.take_of_length_le]
    rw [List.length_drop]
    omega
  · rw [Nat.min_eq_right (by omega), List.drop_of_length_le (Nat.le_refl _), List.drop_of_length_le (by omega), List.take_nil]
theorem cut_to {xs : List D} {k : Nat} : cutD xs none (some (k : Int)) = xs.take k := by
  have e1 : HT.sIx xs.length xs.length (some (k : Int)) = min k xs.length := HT.sIx_nat _ _ _
  have e2 : HT.sIx xs.length 0 none = 0 := rfl
  unfold cutD
  rw [e1, e2, List.drop_zero, Nat.sub_zero]
  by_cases h : k ≤ xs.length
  · rw [Nat.min_eq_left h]
  · rw [Nat.min_eq_right (by omega), List.take_of_length_le (Nat.le_refl _), List.take_of_length_le (by omega)]
theorem o_cutT {xs : List D} {d : D} {lo hi : Option Int} (hd : d.tup? = some xs) (h : ¬ (HT.sIx xs.length 0 lo = 0 ∧ HT.sIx xs.length xs.length hi = xs.length)) : fCut fin d lo hi S = some (mkTup (cutD xs lo hi), S) := by
  simp only [fCut, hd]
  rw [if_neg h]
theorem o_cutL {xs : List D} {d : D} {lo hi : Option Int} (h0 : d.tup? = none) (hd : d.lst? S = some xs) : fCut fin d lo hi S = fin (cutD xs lo hi) S := by
  simp only [fCut, h0, hd]
theorem sIx_from {n : Nat} {k : Nat} : HT.sIx n 0 (some (k : Int)) = min k n := HT.sIx_nat _ _ _
theorem dInts_drop (ns : List Int) (k : Nat) : (dInts ns).drop k = dInts (ns.drop k) := by simp [dInts, List.map_drop]
theorem dInts_take (ns : List Int) (k : Nat) : (dInts ns).take k = dInts (ns.take k) := by simp [dInts, List.map_take]
theorem o_srcT {xs : List D} {d : D} (hd : d.tup? = some xs) : srcSeq d S = some (⟨xs, []⟩, S) := by
  simp only [srcSeq, hd]
theorem o_srcL {xs : List D} {d : D} (h0 : d.tup? = none) (hd : d.lst? S = some xs) : srcSeq d S = some (⟨xs, watchOf d xs⟩, S) := by
  simp only [srcSeq, h0, hd]
theorem o_range1 (h : fitR i = true) : srcR1 [.p (.int i)] S = some (⟨rangeD 0 i.toNat, []⟩, S) := by
  simp only [srcR1, h, if_true]
theorem o_range2 (h : fitR i = true) (h2 : fitR j = true) : srcR2 [.p (.int i), .p (.int j)] S = some (⟨rangeD i (j - i).toNat, []⟩, S) := by
  simp only [srcR2, h, h2, Bool.and_self, if_true]
theorem o_enumT {xs : List D} {d : D} (hd : d.tup? = some xs) : srcEnum [d] S = some (⟨enumD xs, []⟩, S) := by
  simp only [srcEnum, hd]
theorem o_zipT {xs ys : List D} {d e : D} (hd : d.tup? = some xs) (he : e.tup? = some ys) : srcZip [d, e] S = some (⟨zipD xs ys, []⟩, S) := by
  simp only [srcZip, hd, he]
theorem o_allL {d : D} {xs : List D} {bs : List Bool} (hd : d.lst? S = some xs) (h : bools xs = some bs) : fAll [d] S = some (.p (.bl (bs.all id)), S) := by
  simp only [fAll, hd, h]
theorem o_anyL {d : D} {xs : List D} {bs : List Bool} (hd : d.lst? S = some xs) (h : bools xs = some bs) : fAny [d] S = some (.p (.bl (bs.any id)), S) := by
  simp only [fAny, hd, h]
theorem bools_map (bs : List Bool) : bools (bs.map fun b => D.p (.bl b)) = some bs := by
  induction bs with
  | nil => rfl
  | cons b bs ih => simp only [List.map_cons, bools, ih]
theorem fit_small {i : Int} (h : 0 ≤ i) (h2 : i ≤ 1000000) : fitR i = true := by
  simp only [fitR, decide_eq_true_eq]
  omega
theorem bits_of {i : Int} {n : Nat} (h : i.natAbs < 2 ^ n) (hn : 0 < n) : bitsB n i = true := by
  simp only [bitsB, decide_eq_true_eq]
  by_cases z : i.natAbs = 0
  · rw [z]
    simpa using hn
  · exact (Nat.log2_lt z).mpr h
end
end DL
namespace DL
open PySem PySem.Spec PyProof.Rows L2
/-- a comprehension from ints to ints -/
theorem compI_ints {w : List (Nat × List D)} {g : MG} {e : ME D} {ρ : Env} {S : Store} {f : Int → Int} (hw : watchOk w S = true) (rest : List Int) (hl : rest.length ≤ 100000)
    (h : ∀ i ∈ rest, ∃ ρ', g (.p (.int i)) ρ S = some ρ' ∧ e ρ' S = .ok (.p (.int (f i))) S) : compI w g mYes e ρ [] (dInts rest) S = .ok (dInts (rest.map f)) S := by
  have k := compI_map (w := w) (g := g) (e := e) (ρ := ρ) (S := S) (f := fun x => match x with
    | .p (.int i) => .p (.int (f i))
    | x => x) hw (dInts rest) (by rw [dInts_len]; exact hl) fun x hx => by
      obtain ⟨i, hi, rfl⟩ := List.mem_map.mp hx
      exact h i hi
  rw [k]
  congr 1
  simp [dInts]
/-- .. with a test -/
theorem compI_intsIf {w : List (Nat × List D)} {g : MG} {t : ME Bool} {e : ME D} {ρ : Env} {S : Store} {p : Int → Bool} {f : Int → Int} (hw : watchOk w S = true) (rest : List Int) (hl : rest.length ≤ 100000)
    (h : ∀ i ∈ rest, ∃ ρ', g (.p (.int i)) ρ S = some ρ' ∧ t ρ' S = .ok (p i) S ∧ (p i = true → e ρ' S = .ok (.p (.int (f i))) S)) : compI w g t e ρ [] (dInts rest) S = .ok (dInts ((rest.filter p).map f)) S := by
  have k := compI_pure (w := w) (g := g) (t := t) (e := e) (ρ := ρ) (S := S) (p := fun x => match x with
    | .p (.int i) => p i
    | _ => false) (f := fun x => match x with
    | .p (.int i) => .p (.int (f i))
    | x => x) hw (dInts rest) [] (by rw [dInts_len]; simpa using hl) fun x hx => by
      obtain ⟨i, hi, rfl⟩ := List.mem_map.mp hx
      exact h i hi
  rw [k]
  congr 1
  simp only [List.nil_append]
  induction rest with
  | nil => rfl
  | cons a r ih =>
    have ih' := ih (by rw [List.length_cons] at hl; omega) (fun i hi => h i (List.mem_cons_of_mem _ hi)) (by
      rw [compI_pure (p := fun x => match x with
        | .p (.int i) => p i
        | _ => false) (f := fun x => match x with
        | .p (.int i) => .p (.int (f i))
        | x => x) hw (dInts r) [] (by rw [dInts_len]; rw [List.length_cons] at hl; simp; omega) fun x hx => by
          obtain ⟨i, hi, rfl⟩ := List.mem_map.mp hx
          exact h i (List.mem_cons_of_mem _ hi)])
    show List.map _ (List.filter _ (D.p (.int a) :: dInts r)) = _
    by_cases q : p a = true
    · rw [List.filter_cons_of_pos (by simpa using q), List.filter_cons_of_pos q, List.map_cons, List.map_cons, ih']
      rfl
    · rw [List.filter_cons_of_neg (by simpa using q), List.filter_cons_of_neg q, ih']
end DL
namespace DL
open PySem PySem.Spec PyProof.Rows L2
/-! ### pure lists in the store -/
abbrev pD (ps : List P) : List D := ps.map D.p
theorem los_pD (k : Nat) : ∀ ps : List P, D.los k (pD ps) = true
  | [] => rfl
  | p :: ps => by
    show (D.lo k (.p p) && D.los k (pD ps)) = true
    rw [los_pD k ps]
    rfl
theorem pures_pD (ps : List P) : pures (pD ps) = some ps := by
  induction ps with
  | nil => rfl
  | cons p ps ih =>
    show pures (D.p p :: pD ps) = _
    simp only [pures, ih]
theorem mkTup_pD (ps : List P) : mkTup (pD ps) = .p (.tup ps) := by
  unfold mkTup
  rw [pures_pD]
theorem dInts_pD (ns : List Int) : dInts ns = pD (ns.map P.int) := (map_dInts ns).symm
/-- one more list, of data, in the store -/
def SP (S : Store) (ps : List P) : Store := S.new (.lst (pD ps)) (los_pD _ _)
section
variable {S : Store} {ps : List P}
theorem SP_objs : (SP S ps).objs = S.objs ++ [.lst (pD ps)] := rfl
theorem SP_at : (SP S ps).objs[S.objs.length]? = some (.lst (pD ps)) := by
  rw [SP_objs]
  simp
theorem SP_len : (SP S ps).objs.length = S.objs.length + 1 := by
  rw [SP_objs]
  simp
theorem SP_take : (SP S ps).objs.take S.objs.length = S.objs := by
  rw [SP_objs]
  simp
theorem SP_old {n : Nat} (h : n < S.objs.length) : (SP S ps).objs[n]? = S.objs[n]? := by
  rw [SP_objs, List.getElem?_append_left h]
theorem SP_lst : (D.r S.objs.length).lst? (SP S ps) = some (pD ps) := by
  show (match (SP S ps).objs[S.objs.length]? with | some (.lst xs) => some xs | _ => none) = _
  rw [SP_at]
theorem SP_seq : (D.r S.objs.length).seq? (SP S ps) = some (pD ps) := SP_lst
theorem SP_mut : (D.r S.objs.length).mut? (SP S ps) = some (S.objs.length, pD ps) := by
  show (match (SP S ps).objs[S.objs.length]? with | some (.lst xs) => some (S.objs.length, xs) | _ => none) = _
  rw [SP_at]
theorem SP_put {qs : List P} : putL S.objs.length (pD qs) (SP S ps) = some (SP S qs) := by
  unfold putL
  have h : (O.lst (pD qs)).lo (SP S ps).objs.length = true := los_pD _ _
  rw [dif_pos h]
  refine congrArg some (Store.ext' ?_)
  show (SP S ps).objs.set S.objs.length (.lst (pD qs)) = S.objs ++ [.lst (pD qs)]
  rw [SP_objs]
  simp
theorem f_new (h : ps.length ≤ 100000) : fLst (pD ps) S = some (.r S.objs.length, SP S ps) := by
  unfold fLst
  have h2 : (O.lst (pD ps)).lo S.objs.length = true := los_pD _ _
  rw [if_pos (by simpa using h), dif_pos h2]
  rfl
theorem f_append {p : P} (h : ps.length < 100000) : fAppend (.r S.objs.length) [.p p] (SP S ps) = some (.p .non, SP S (ps ++ [p])) := by
  unfold fAppend
  simp only [SP_mut]
  rw [if_pos (by simpa using h)]
  have e : pD ps ++ [D.p p] = pD (ps ++ [p]) := by simp [pD]
  rw [e, SP_put]
theorem f_put {i : Int} {j : Nat} {p : P} (h : ixN ps.length i = some j) : fPut (.r S.objs.length) (.p (.int i)) (.p p) (SP S ps) = some (SP S (ps.set j p)) := by
  unfold fPut
  simp only [SP_mut]
  have e : (pD ps).length = ps.length := by simp [pD]
  rw [e, h]
  have e2 : (pD ps).set j (.p p) = pD (ps.set j p) := by simp [pD, List.map_set]
  show putL S.objs.length ((pD ps).set j (.p p)) (SP S ps) = _
  rw [e2, SP_put]
theorem f_toT_r : fToT [.r S.objs.length] (SP S ps) = some (.p (.tup ps), SP S ps) := by
  show (match (D.r S.objs.length).seq? (SP S ps) with | some xs => some (mkTup xs, SP S ps) | none => none) = _
  rw [SP_seq]
  show some (mkTup (pD ps), SP S ps) = _
  rw [mkTup_pD]
theorem r_methR {fm : FM} {mo : ME D} {mr : ME (List D)} {ρ : Env} {d : D} {T : Store} {xs : List D} (h : mo ρ T = .ok d T) (hd : d.lst? T = some xs) : mMeth fm mo mr ρ T = (mr ρ T).bind fun ys => lift (fm d ys) := by
  rw [r_meth, h, r_ok]
  show (lift (fun S => match d.lst? S with | some _ => some ((), S) | none => none) T).bind _ = _
  rw [r_lift (x := ()) (S' := T) (by rw [hd]), r_ok]
end
/-! ### isinstance -/
theorem o_isi {S : Store} {d : D} {a b : String} (hd : d.tyOf? S = some a) (h : (tyNames.contains a && tyNames.contains b && b != "NoneType") = true) : fIsi [d, .p (.ty b)] S = some (.p (.bl (isiB a b)), S) := by
  simp only [fIsi, hd, h, if_true]
end DL
namespace DL
theorem bools_pD (bs : List Bool) : bools (pD (bs.map P.bl)) = some bs := by
  induction bs with
  | nil => rfl
  | cons b bs ih =>
    show bools (D.p (.bl b) :: pD (bs.map P.bl)) = _
    simp only [bools, ih]
end DL
namespace DL
open PySem PySem.Spec PyProof.Rows L2
theorem rangeD_succ (lo : Int) (n : Nat) : rangeD lo (n + 1) = .p (.int lo) :: rangeD (lo + 1) n := by
  unfold rangeD
  rw [List.range_succ_eq_map, List.map_cons, List.map_map]
  congr 1
  · simp
  · refine List.map_congr_left fun i _ => ?_
    show D.p (.int (lo + ((i + 1 : Nat) : Int))) = D.p (.int (lo + 1 + (i : Int)))
    congr 2
    omega
theorem rangeD_zero (lo : Int) : rangeD lo 0 = [] := rfl
theorem rangeD_length (lo : Int) (n : Nat) : (rangeD lo n).length = n := by simp [rangeD]
section
variable {S : Store} {ps qs : List P} {fin : FL}
theorem f_lstP (h : ps.length ≤ 100000) : fLstF (pD ps) S = some (.p (.lst ps), S) := by
  unfold fLstF
  rw [if_pos (by simpa using h), pures_pD]
theorem o_addT {xs ys : List P} (h : xs.length + ys.length ≤ 100000) : fAddG fin (.p (.tup xs)) (.p (.tup ys)) S = some (.p (.tup (xs ++ ys)), S) := by
  have e : fAddT (.p (.tup xs)) (.p (.tup ys)) S = some (.p (.tup (xs ++ ys)), S) := by
    show (if (pD xs).length + (pD ys).length ≤ 100000 then some (mkTup (pD xs ++ pD ys), S) else none) = _
    rw [if_pos (by simpa using h), ← List.map_append, mkTup_pD]
  have e1 : fAddI (.p (.tup xs)) (.p (.tup ys)) S = none := rfl
  have e2 : fAddS (.p (.tup xs)) (.p (.tup ys)) S = none := rfl
  simp only [fAddG, e1, e2, e]
theorem o_addL {xs ys : List P} (h : xs.length + ys.length ≤ 100000) : fAddG fLstF (.p (.lst xs)) (.p (.lst ys)) S = some (.p (.lst (xs ++ ys)), S) := by
  have e : fAddL fLstF (.p (.lst xs)) (.p (.lst ys)) S = some (.p (.lst (xs ++ ys)), S) := by
    show (if (pD xs).length + (pD ys).length ≤ 100000 then fLstF (pD xs ++ pD ys) S else none) = _
    rw [if_pos (by simpa using h), ← List.map_append]
    exact f_lstP (by simpa using h)
  have e1 : fAddI (.p (.lst xs)) (.p (.lst ys)) S = none := rfl
  have e2 : fAddS (.p (.lst xs)) (.p (.lst ys)) S = none := rfl
  have e3 : fAddT (.p (.lst xs)) (.p (.lst ys)) S = none := rfl
  simp only [fAddG, e1, e2, e3, e]
theorem f_extend {T : Store} (h : ps.length + qs.length ≤ 100000) : fExtend (.r T.objs.length) [.p (.lst qs)] (SP T ps) = some (.p .non, SP T (ps ++ qs)) := by
  unfold fExtend
  simp only [SP_mut]
  have e : (D.p (.lst qs)).own? (SP T ps) = some (pD qs) := rfl
  simp only [e]
  rw [if_pos (by simpa using h)]
  have e : pD ps ++ pD qs = pD (ps ++ qs) := by simp [pD]
  rw [e, SP_put]
/-- a def that answers a list of the store, made in it -/
theorem fn_pureR {N : Nat} {a : MS} {ds : List D} {S' : Store} {f : Nat} (h : a (env0 N ds) S = .ok (.rt (.r f)) S') (hs : S'.objs.take S.objs.length = S.objs) (hf : S.objs.length ≤ f) (ho : S'.objs[f]? = some (.lst (pD ps))) : mFn N finP a ds S = .ok (.p (.lst ps)) S := by
  have e : frzD S.objs.length S' 8 (.r f) = some (.lst ps) := by
    have all : ∀ (n : Nat) (ps : List P), frzDs S.objs.length S' n (pD ps) = some ps := by
      intro n ps
      induction ps with
      | nil => cases n <;> simp [frzDs]
      | cons p ps ih =>
        show frzDs S.objs.length S' n (D.p p :: pD ps) = _
        have e1 : frzD S.objs.length S' n (.p p) = some p := by cases n <;> simp [frzD]
        cases n <;> simp only [frzDs, e1, ih]
    simp only [frzD]
    rw [if_pos hf, ho]
    show (frzDs S.objs.length S' 7 (pD ps)).map P.lst = _
    rw [all]
    rfl
  have e2 : finP S.objs.length (.r f) S' = (.p (.lst ps), S) := by
    unfold finP
    rw [cut_pre hs]
    simp only [e]
  rw [r_fn, h, r_ok, r_asRt, r_finOk, e2]
end
end DL
namespace DL
theorem r_forE {mi : ME Src} {g : MG} {b : MS} {ρ : Env} {S S1 : Store} {xs : List D} {w : List (Nat × List D)} {r : Res Out} (h : mi ρ S = .ok ⟨xs, w⟩ S1) (h2 : loopI w g b xs ρ S1 = r) : mFor mi g b ρ S = r := by
  rw [r_for, h, r_ok]
  exact h2
end DL
namespace DL
open PySem PySem.Spec PyProof.Rows L2
/-! ### a list of data that is changed in its place -/
def setP (T : Store) (r : Nat) (ps : List P) : Store := T.put r (.lst (pD ps)) (los_pD _ _)
section
variable {T S S' S2 : Store} {r : Nat} {ps qs : List P}
theorem setP_objs : (setP T r ps).objs = T.objs.set r (.lst (pD ps)) := rfl
theorem setP_len : (setP T r ps).objs.length = T.objs.length := by rw [setP_objs, List.length_set]
theorem at_lt {o : O} (h : T.objs[r]? = some o) : r < T.objs.length := (List.getElem?_eq_some_iff.mp h).1
theorem setP_at (h : r < T.objs.length) : (setP T r ps).objs[r]? = some (.lst (pD ps)) := by
  rw [setP_objs, List.getElem?_set_self h]
theorem setP_ne {j : Nat} (h : r ≠ j) : (setP T r ps).objs[j]? = T.objs[j]? := by
  rw [setP_objs, List.getElem?_set_ne h]
theorem setP_setP : setP (setP T r ps) r qs = setP T r qs := Store.ext' (by
  rw [setP_objs, setP_objs, setP_objs, List.set_set])
theorem setP_same (h : T.objs[r]? = some (.lst (pD ps))) : setP T r ps = T := Store.ext' (by
  rw [setP_objs]
  have hl := at_lt h
  have e : T.objs[r] = .lst (pD ps) := by
    rw [List.getElem?_eq_getElem hl] at h
    exact Option.some.inj h
  rw [← e, List.set_getElem_self])
theorem setP_SP (h : r < T.objs.length) : setP (SP T qs) r ps = SP (setP T r ps) qs := Store.ext' (by
  rw [setP_objs, SP_objs, SP_objs, setP_objs, List.set_append_left _ _ h])
theorem R_lst (h : T.objs[r]? = some (.lst (pD ps))) : (D.r r).lst? T = some (pD ps) := by
  show (match T.objs[r]? with | some (.lst xs) => some xs | _ => none) = _
  rw [h]
theorem R_seq (h : T.objs[r]? = some (.lst (pD ps))) : (D.r r).seq? T = some (pD ps) := R_lst h
theorem R_mut (h : T.objs[r]? = some (.lst (pD ps))) : (D.r r).mut? T = some (r, pD ps) := by
  show (match T.objs[r]? with | some (.lst xs) => some (r, xs) | _ => none) = _
  rw [h]
theorem putL_setP : putL r (pD qs) T = some (setP T r qs) := by
  unfold putL
  have h : (O.lst (pD qs)).lo T.objs.length = true := los_pD _ _
  rw [dif_pos h]
  rfl
theorem f_putR {i : Int} {j : Nat} {p : P} (h : T.objs[r]? = some (.lst (pD ps))) (hi : ixN ps.length i = some j) : fPut (.r r) (.p (.int i)) (.p p) T = some (setP T r (ps.set j p)) := by
  unfold fPut
  simp only [R_mut h]
  have e : (pD ps).length = ps.length := by simp [pD]
  rw [e, hi]
  have e2 : (pD ps).set j (.p p) = pD (ps.set j p) := by simp [pD, List.map_set]
  show putL r ((pD ps).set j (.p p)) T = _
  rw [e2, putL_setP]
theorem f_popAtR {i : Int} {k : Nat} {p : P} (h : T.objs[r]? = some (.lst (pD ps))) (hi : i = k) (hs : i ≤ 1000000) (hp : ps[k]? = some p) : fPopAt (.r r) [.p (.int i)] T = some (.p p, setP T r (ps.eraseIdx k)) := by
  have hk : k < ps.length := (List.getElem?_eq_some_iff.mp hp).1
  unfold fPopAt
  simp only [R_mut h]
  have e : (pD ps).length = ps.length := by simp [pD]
  have e1 : seqIndex? i (pD ps).length = some k := by
    rw [e, seqIndex_of (by omega) (by omega)]
    congr 1
    omega
  simp only [e1]
  rw [if_pos (fit_small (by omega) hs)]
  have e3 : (pD ps)[k]? = some (.p p) := by
    rw [List.getElem?_map, hp]
    rfl
  simp only [e3]
  have e2 : (pD ps).eraseIdx k = pD (ps.eraseIdx k) := by simp [pD, List.eraseIdx_eq_take_drop_succ, List.map_take, List.map_drop]
  rw [e2, putL_setP]
theorem cut_to' (h : S'.objs.take S.objs.length = S2.objs) (hl : S2.objs.length = S.objs.length) : Store.cut S.objs.length S' = some S2 := by
  have := cut_pre (S := S2) (S' := S') (by rw [hl]; exact h)
  rwa [hl] at this
/-- a def that answers data, what was there before being changed -/
theorem fn_to {N : Nat} {a : MS} {ds : List D} {x : P} (h : a (env0 N ds) S = .ok (.rt (.p x)) S') (hs : S'.objs.take S.objs.length = S2.objs) (hl : S2.objs.length = S.objs.length) : mFn N finP a ds S = .ok (.p x) S2 := by
  have e : finP S.objs.length (.p x) S' = (.p x, S2) := by
    unfold finP
    rw [cut_to' hs hl]
    simp only [frzD]
  rw [r_fn, h, r_ok, r_asRt, r_finOk, e]
theorem fn_same {N : Nat} {a : MS} {ds : List D} {x : P} (h : a (env0 N ds) S = .ok (.rt (.p x)) S') (hl : S'.objs.length = S.objs.length) : mFn N finP a ds S = .ok (.p x) S' :=
  fn_to h (by rw [← hl, List.take_length]) hl
end
end DL
namespace DL
theorem compI_step {w : List (Nat × List D)} {g : MG} {e : ME D} {ρ ρ' : Env} {S S' : Store} {x y : D} {xs acc : List D} (hw : watchOk w S = true) (hg : g x ρ S = some ρ') (he : e ρ' S = .ok y S') (hl : acc.length < 100000) :
    compI w g mYes e ρ acc (x :: xs) S = compI w g mYes e ρ (acc ++ [y]) xs S' := by
  conv => lhs; unfold compI
  rw [if_pos hw, hg]
  simp only [r_yes, noErr, r_ok, if_true, he]
  rw [if_pos hl]
theorem erase_perm {α : Type} {l : List α} {k : Nat} (h : k < l.length) : (l[k] :: l.eraseIdx k).Perm l := by
  have e : l = l.take k ++ l[k] :: l.drop (k + 1) := by rw [List.getElem_cons_drop, List.take_append_drop]
  have e2 : l.eraseIdx k = l.take k ++ l.drop (k + 1) := List.eraseIdx_eq_take_drop_succ l k
  rw [e2]
  exact List.perm_middle.symm.trans (List.Perm.of_eq e.symm)
end DL
set_option maxHeartbeats 8000000
namespace DL
open PySem PySem.Spec PyProof.Rows L2
abbrev TopR : PySem.Program := PySem.Challenge.pw_arrowsums_k33_whole_nearest_rows
def top (i : Nat) : Stmt := TopR.main.body.getD i (.Pass ⟨0, 0, 0, 0⟩)

/-! ### what is known of the text -/
abbrev HasD (K : PySem.W.Frag) (mg : Str → Option Value) (x : Str) (st : Stmt) : Prop := ∃ f fd, mg x = some (.ref f) ∧ FunD K x x (defArgs st) (defBody st) (defScope st) [] [] f fd
structure Txt (K : PySem.W.Frag) (mg : Str → Option Value) : Prop where
  f_abs : mg "abs" = none
  f_all : mg "all" = none
  f_any : mg "any" = none
  f_bool : mg "bool" = none
  f_enumerate : mg "enumerate" = none
  f_int : mg "int" = none
  f_isinstance : mg "isinstance" = none
  f_len : mg "len" = none
  f_list : mg "list" = none
  f_max : mg "max" = none
  f_min : mg "min" = none
  f_range : mg "range" = none
  f_sorted : mg "sorted" = none
  f_sum : mg "sum" = none
  f_tuple : mg "tuple" = none
  f_zip : mg "zip" = none
  i_MAX_LENGTH : ∃ t, mg "MAX_LENGTH" = some (.int 64 t)
  i_MAX_NUMBER : ∃ t, mg "MAX_NUMBER" = some (.int 999999999999999999999999999999 t)
  d__law_dip : HasD K mg "_law_dip" (top 25)
  d__law_greatest : HasD K mg "_law_greatest" (top 29)
  d__law_fewest : HasD K mg "_law_fewest" (top 32)
  d__law_is_possible : HasD K mg "_law_is_possible" (top 30)
  d__law_pick : HasD K mg "_law_pick" (top 26)
  d__law_row : HasD K mg "_law_row" (top 28)
  d_falling : HasD K mg "falling" (top 12)
  d_heaviest : HasD K mg "heaviest" (top 14)
  d_fewest_in : HasD K mg "fewest_in" (top 17)
  d_is_integer : HasD K mg "is_integer" (top 1)
  d_is_from : HasD K mg "is_from" (top 2)
  d_is_amount : HasD K mg "is_amount" (top 9)
  d_is_row : HasD K mg "is_row" (top 10)
  d_require_row : HasD K mg "require_row" (top 11)
  d_fewest_away : HasD K mg "fewest_away" (top 20)
  d_is_web_row : HasD K mg "is_web_row" (top 15)
  d_is_nearest : HasD K mg "is_nearest" (top 22)
  d_excess_in : HasD K mg "excess_in" (top 18)
  d_lowered : HasD K mg "lowered" (top 19)
  d_nearest : HasD K mg "nearest" (top 21)
  d__law_long_right : HasD K mg "_law_long_right" (top 35)
  d__law_below : HasD K mg "_law_below" (top 31)
  d__law_mixed : HasD K mg "_law_mixed" (top 27)
  d__law_taken : HasD K mg "_law_taken" (top 33)
  d__law_small_right : HasD K mg "_law_small_right" (top 34)
  d__law_vat : HasD K mg "_law_vat" (top 24)
  d_law : HasD K mg "law" (top 36)

/-! ### the runs -/
/-- _law_dip: 0 vat, 1 size, 2 found, 3 one, 4 two -/
def b__law_dip : MS := (mSeq (mIfS (mTest (mOp2 fGt (mOp2 fIx (mVar 0) (mC (.int 0))) (mC (.int 0)))) (mSeq (mAsg (gNm 2) (mOp2 fMod (mCallB fInt (mCons (mOp2 fIx (mVar 0) (mC (.int 0))) mNil)) (mVar 1))) (mSeq (mPut (mOp2 fDiv (mOp2 fIx (mVar 0) (mC (.int 0))) (mVar 1)) (mVar 0) (mC (.int 0))) (mRet (mVar 2)))) mNext) (mSeq (mPut (mOp2 (fAddG fLstF) (mOp2 fIx (mVar 0) (mC (.int 2))) (mC (.int 1))) (mVar 0) (mC (.int 2))) (mSeq (mAsg (gNm 3) (mOp2 fMod (mCallB fInt (mCons (mOp2 (fAddG fLstF) (mOp2 fIx (mVar 0) (mC (.int 1))) (mOp2 (fMulA fLstF) (mC (.int 961748927)) (mOp2 fIx (mVar 0) (mC (.int 2))))) mNil)) (mC (.int 2305843009213693967)))) (mSeq (mAsg (gNm 4) (mOp2 (fAddG fLstF) (mOp2 (fMulA fLstF) (mOp2 fMod (mCallB fInt (mCons (mOp2 (fMulA fLstF) (mVar 3) (mVar 3)) mNil)) (mC (.int 1000000000000063))) (mVar 3)) (mOp2 (fMulA fLstF) (mC (.int 5867)) (mOp2 fIx (mVar 0) (mC (.int 2)))))) (mRet (mOp2 fMod (mCallB fInt (mCons (mOp2 fDiv (mOp2 fMod (mCallB fInt (mCons (mOp2 (fAddG fLstF) (mVar 4) (mOp2 fIx (mVar 0) (mC (.int 1)))) mNil)) (mC (.int 4398046511119))) (mC (.int 64))) mNil)) (mVar 1)))))))
def m__law_dip : List D → M D := mFn 5 finP b__law_dip
/-- _law_greatest: 0 degrees, 1 falling_v, 2 found, 3 size, 4 others, 5 entry -/
def ce__law_greatest : ME D := (mCallB fMin (mCons (mVar 3) (mCons (mVar 5) mNil)))
def lb__law_greatest : MS := (mSeq (mAsg (gNm 4) (mCallB fSum (mCons (mCallB fLstF (mCompL (mSrc srcSeq (mSl (fCut fLstF) (mVar 1) (mPart (mVar 3)) mNoPart)) [5] (gNm 5) mYes ce__law_greatest)) mNil))) (mDrop (mMeth fAppend (mVar 2) (mCons (mOp2 fSub (mOp2 fSub (mCallB fSum (mCons (mSl (fCut fLstF) (mVar 1) mNoPart (mPart (mVar 3))) mNil)) (mOp2 (fMulA fLstF) (mVar 3) (mOp2 fSub (mVar 3) (mC (.int 1))))) (mVar 4)) mNil))))
def b__law_greatest : MS := (mSeq (mPar [1, 2] (mCons (mCallB (fSrt true fLstF) (mCons (mVar 0) mNil)) (mCons (mCallB fLst (mCons (mC (.int 0)) mNil)) mNil))) (mSeq (mFor (mSrcA srcR2 (mCons (mC (.int 1)) (mCons (mOp2 (fAddG fLstF) (mCallB fLen (mCons (mVar 1) mNil)) (mC (.int 1))) mNil))) (gNm 3) lb__law_greatest) (mRet (mCallB fMax (mCons (mVar 2) mNil)))))
def m__law_greatest : List D → M D := mFn 6 finP b__law_greatest
/-- _law_fewest: 0 row, 1 most -/
def b__law_fewest : MS := (mSeq (mAsg (gNm 1) (mCall m__law_greatest (mCons (mVar 0) mNil))) (mRet (mOp2 (fAddG fLstF) (mVar 1) (mOp2 fMod (mOp2 fSub (mCallB fSum (mCons (mVar 0) mNil)) (mVar 1)) (mC (.int 2))))))
def m__law_fewest : List D → M D := mFn 2 finP b__law_fewest
/-- _law_is_possible: 0 degrees -/
def b__law_is_possible : MS := (mRet (mAnd (mOp2 fEq (mOp2 fMod (mCallB fSum (mCons (mVar 0) mNil)) (mC (.int 2))) (mC (.int 0))) (mOp2 fEq (mCall m__law_greatest (mCons (mVar 0) mNil)) (mC (.int 0)))))
def m__law_is_possible : List D → M D := mFn 1 finP b__law_is_possible
/-- _law_pick: 0 vat, 1 items -/
def b__law_pick : MS := (mRet (mOp2 fIx (mVar 1) (mCall m__law_dip (mCons (mVar 0) (mCons (mCallB fLen (mCons (mVar 1) mNil)) mNil)))))
def m__law_pick : List D → M D := mFn 2 finP b__law_pick
/-- _law_row: 0 vat, 1 most, 2 high, 3 place -/
def ce__law_row : ME D := (mCall m__law_dip (mCons (mVar 0) (mCons (mOp2 (fAddG fLstF) (mVar 2) (mC (.int 1))) mNil)))
def b__law_row : MS := (mRet (mCallB fToT (mCons (mCallB fLstF (mCompL (mSrcA srcR1 (mCons (mOp2 (fAddG fLstF) (mC (.int 1)) (mCall m__law_dip (mCons (mVar 0) (mCons (mVar 1) mNil)))) mNil)) [3] (gNm 3) mYes ce__law_row)) mNil)))
def m__law_row : List D → M D := mFn 4 finP b__law_row
/-- falling: 0 row -/
def b_falling : MS := (mRet (mCallB fToT (mCons (mCallB (fSrt true fLstF) (mCons (mVar 0) mNil)) mNil)))
def m_falling : List D → M D := mFn 1 finP b_falling
/-- heaviest: 0 degrees, 1 entries, 2 best, 3 total, 4 many, 5 entry, 6 size, 7 found, 8 one -/
def ce_heaviest : ME D := (mCallB fMin (mCons (mVar 6) (mCons (mVar 8) mNil)))
def lb_heaviest : MS := (mSeq (mAug 3 fAddI (mVar 5)) (mSeq (mAsg (gNm 6) (mOp2 (fAddG fLstF) (mVar 4) (mC (.int 1)))) (mSeq (mAsg (gNm 7) (mOp2 fSub (mOp2 fSub (mVar 3) (mOp2 (fMulA fLstF) (mVar 6) (mVar 4))) (mCallB fSum (mCons (mCallB fLstF (mCompL (mSrc srcSeq (mSl (fCut fLstF) (mVar 1) (mPart (mVar 6)) mNoPart)) [8] (gNm 8) mYes ce_heaviest)) mNil)))) (mIfS (mTest (mOp2 fGt (mVar 7) (mOp2 fIx (mVar 2) (mC (.int 0))))) (mAsg (gNm 2) (mCallB fTup (mCons (mVar 7) (mCons (mVar 6) mNil)))) mNext))))
def b_heaviest : MS := (mSeq (mPar [1, 2, 3] (mCons (mCall m_falling (mCons (mVar 0) mNil)) (mCons (mCallB fTup (mCons (mC (.int 0)) (mCons (mC (.int 0)) mNil))) (mCons (mC (.int 0)) mNil)))) (mSeq (mFor (mSrcA srcEnum (mCons (mVar 1) mNil)) (gTp 2 (gsCons (gNm 4) (gsCons (gNm 5) gsNil))) lb_heaviest) (mRet (mVar 2))))
def m_heaviest : List D → M D := mFn 9 finP b_heaviest
/-- fewest_in: 0 degrees, 1 most -/
def b_fewest_in : MS := (mSeq (mAsg (gNm 1) (mOp2 fIx (mCall m_heaviest (mCons (mVar 0) mNil)) (mC (.int 0)))) (mRet (mOp2 (fAddG fLstF) (mVar 1) (mOp2 fMod (mOp2 fSub (mCallB fSum (mCons (mVar 0) mNil)) (mVar 1)) (mC (.int 2))))))
def m_fewest_in : List D → M D := mFn 2 finP b_fewest_in
/-- is_integer: 0 value -/
def b_is_integer : MS := (mRet (mAnd (mCallB fIsi (mCons (mVar 0) (mCons (mC (.ty "int")) mNil))) (mNot (mCallB fIsi (mCons (mVar 0) (mCons (mC (.ty "bool")) mNil))))))
def m_is_integer : List D → M D := mFn 1 finP b_is_integer
/-- is_from: 0 value, 1 first, 2 last -/
def b_is_from : MS := (mRet (mAnd (mCall m_is_integer (mCons (mVar 0) mNil)) (mChain fLe fLe (mVar 1) (mVar 0) (mVar 2))))
def m_is_from : List D → M D := mFn 3 finP b_is_from
/-- is_amount: 0 value -/
def b_is_amount : MS := (mRet (mCall m_is_from (mCons (mVar 0) (mCons (mC (.int 0)) (mCons (mC (.int 999999999999999999999999999999)) mNil)))))
def m_is_amount : List D → M D := mFn 1 finP b_is_amount
/-- is_row: 0 value, 1 entry -/
def ce_is_row : ME D := (mCall m_is_amount (mCons (mVar 1) mNil))
def b_is_row : MS := (mSeq (mIfS (mOrT (mNotT (mTest (mCallB fIsi (mCons (mVar 0) (mCons (mC (.ty "tuple")) mNil))))) (mNotT (mTest (mCall m_is_from (mCons (mCallB fLen (mCons (mVar 0) mNil)) (mCons (mC (.int 1)) (mCons (mC (.int 64)) mNil))))))) (mRet (mC (.bl false))) mNext) (mRet (mCallB fAll (mCons (mCallB fLstF (mCompL (mSrc srcSeq (mVar 0)) [1] (gNm 1) mYes ce_is_row)) mNil))))
def m_is_row : List D → M D := mFn 2 finP b_is_row
/-- require_row: 0 value -/
def b_require_row : MS := (mIfS (mNotT (mTest (mCall m_is_row (mCons (mVar 0) mNil)))) mNever mNext)
def m_require_row : List D → M D := mFn 1 finP b_require_row
/-- fewest_away: 0 degrees -/
def b_fewest_away : MS := (mSeq (mDrop (mCall m_require_row (mCons (mVar 0) mNil))) (mRet (mCall m_fewest_in (mCons (mVar 0) mNil))))
def m_fewest_away : List D → M D := mFn 1 finP b_fewest_away
/-- is_web_row: 0 degrees -/
def b_is_web_row : MS := (mRet (mAnd (mOp2 fEq (mOp2 fMod (mCallB fSum (mCons (mVar 0) mNil)) (mC (.int 2))) (mC (.int 0))) (mOp2 fEq (mOp2 fIx (mCall m_heaviest (mCons (mVar 0) mNil)) (mC (.int 0))) (mC (.int 0)))))
def m_is_web_row : List D → M D := mFn 1 finP b_is_web_row
/-- is_nearest: 0 degrees, 1 value, 2 less, 3 more -/
def ce_is_nearest : ME D := (mOp2 fGt (mVar 2) (mVar 3))
def b_is_nearest : MS := (mSeq (mDrop (mCall m_require_row (mCons (mVar 0) mNil))) (mSeq (mIfS (mOrT (mNotT (mTest (mCall m_is_row (mCons (mVar 1) mNil)))) (mTest (mOp2 fNe (mCallB fLen (mCons (mVar 1) mNil)) (mCallB fLen (mCons (mVar 0) mNil))))) (mRet (mC (.bl false))) mNext) (mSeq (mIfS (mOrT (mTest (mCallB fAny (mCons (mCallB fLstF (mCompL (mSrcA srcZip (mCons (mVar 1) (mCons (mVar 0) mNil))) [2, 3] (gTp 2 (gsCons (gNm 2) (gsCons (gNm 3) gsNil))) mYes ce_is_nearest)) mNil))) (mTest (mOp2 fNe (mOp2 fSub (mCallB fSum (mCons (mVar 0) mNil)) (mCallB fSum (mCons (mVar 1) mNil))) (mCall m_fewest_in (mCons (mVar 0) mNil))))) (mRet (mC (.bl false))) mNext) (mRet (mCall m_is_web_row (mCons (mVar 1) mNil))))))
def m_is_nearest : List D → M D := mFn 4 finP b_is_nearest
/-- excess_in: 0 degrees, 1 level, 2 one -/
def ce_excess_in : ME D := (mCallB fMax (mCons (mC (.int 0)) (mCons (mOp2 fSub (mVar 2) (mVar 1)) mNil)))
def b_excess_in : MS := (mRet (mCallB fSum (mCons (mCallB fLstF (mCompL (mSrc srcSeq (mVar 0)) [2] (gNm 2) mYes ce_excess_in)) mNil)))
def m_excess_in : List D → M D := mFn 3 finP b_excess_in
/-- lowered: 0 degrees, 1 many, 2 low, 3 high, 4 level, 5 back, 6 found, 7 one, 8 more -/
def wt_lowered : ME Bool := (mTest (mOp2 fLt (mVar 2) (mVar 3)))
def wb_lowered : MS := (mSeq (mAsg (gNm 4) (mOp2 fDiv (mOp2 (fAddG fLstF) (mOp2 (fAddG fLstF) (mVar 2) (mVar 3)) (mC (.int 1))) (mC (.int 2)))) (mIfS (mTest (mOp2 fGe (mCall m_excess_in (mCons (mVar 0) (mCons (mVar 4) mNil))) (mVar 1))) (mAsg (gNm 2) (mVar 4)) (mAsg (gNm 3) (mOp2 fSub (mVar 4) (mC (.int 1))))))
def lb_lowered : MS := (mSeq (mAsg (gNm 8) (mCallB fInt (mCons (mAnd (mOp2 fGt (mVar 7) (mVar 2)) (mOp2 fGt (mVar 5) (mC (.int 0)))) mNil))) (mSeq (mAug 5 fSub (mVar 8)) (mDrop (mMeth fAppend (mVar 6) (mCons (mOp2 (fAddG fLstF) (mCallB fMin (mCons (mVar 7) (mCons (mVar 2) mNil))) (mVar 8)) mNil)))))
def b_lowered : MS := (mSeq (mPar [2, 3] (mCons (mC (.int 0)) (mCons (mCallB fMax (mCons (mVar 0) mNil)) mNil))) (mSeq (mWhile wt_lowered wb_lowered 200) (mSeq (mPar [5, 6] (mCons (mOp2 fSub (mCall m_excess_in (mCons (mVar 0) (mCons (mVar 2) mNil))) (mVar 1)) (mCons (mCallB fLst mNil) mNil))) (mSeq (mFor (mSrc srcSeq (mVar 0)) (gNm 7) lb_lowered) (mRet (mCallB fToT (mCons (mVar 6) mNil)))))))
def m_lowered : List D → M D := mFn 9 finP b_lowered
/-- nearest: 0 degrees -/
def b_nearest : MS := (mSeq (mDrop (mCall m_require_row (mCons (mVar 0) mNil))) (mRet (mCall m_lowered (mCons (mVar 0) (mCons (mCall m_fewest_in (mCons (mVar 0) mNil)) mNil)))))
def m_nearest : List D → M D := mFn 1 finP b_nearest
/-- _law_long_right: 0 vat, 1 row, 2 units, 3 told, 4 odd, 5 less, 6 more -/
def ce__law_long_right : ME D := (mC (.int 1))
def ct__law_long_right : ME Bool := (mNotT (mTest (mChain fLe fLe (mC (.int 0)) (mVar 5) (mVar 6))))
def b__law_long_right : MS := (mSeq (mAsg (gNm 1) (mCallB (fToL fLst) (mCons (mCall m__law_row (mCons (mVar 0) (mCons (mC (.int 20)) (mCons (mC (.int 25)) mNil)))) mNil))) (mSeq (mIfS (mTest (mOp2 fEq (mCall m__law_dip (mCons (mVar 0) (mCons (mC (.int 3)) mNil))) (mC (.int 0)))) (mPut (mCall m__law_pick (mCons (mVar 0) (mCons (mCallB fLstF (mCons (mOp2 fSub (mOp2 fPow (mC (.int 10)) (mC (.int 30))) (mC (.int 1))) (mCons (mOp2 fPow (mC (.int 10)) (mC (.int 12))) (mCons (mC (.int 19)) (mCons (mC (.int 20)) mNil))))) mNil))) (mVar 1) (mC (.int 0))) mNext) (mSeq (mPar [1, 2] (mCons (mCallB fToT (mCons (mVar 1) mNil)) (mCons (mCall m__law_fewest (mCons (mVar 1) mNil)) mNil))) (mSeq (mAsg (gNm 3) (mCall m_nearest (mCons (mVar 1) mNil))) (mSeq (mIfS (mOrT (mTest (mOp2 fNe (mCall m_fewest_away (mCons (mVar 1) mNil)) (mVar 2))) (mOrT (mTest (mOp2 fNe (mOp2 fSub (mCallB fSum (mCons (mVar 1) mNil)) (mCallB fSum (mCons (mVar 3) mNil))) (mVar 2))) (mNotT (mTest (mCall m__law_is_possible (mCons (mVar 3) mNil)))))) (mRet (mC (.bl false))) mNext) (mSeq (mIfS (mOrT (mTest (mOp2 fNe (mCallB fLstF (mCompL (mSrcA srcZip (mCons (mVar 3) (mCons (mVar 1) mNil))) [5, 6] (gTp 2 (gsCons (gNm 5) (gsCons (gNm 6) gsNil))) ct__law_long_right ce__law_long_right)) (mCallB fLstF mNil))) (mNotT (mTest (mCall m_is_nearest (mCons (mVar 1) (mCons (mVar 3) mNil)))))) (mRet (mC (.bl false))) mNext) (mSeq (mAsg (gNm 4) (mCallB fLstF (mCons (mC .non) (mCons (mC (.int 0)) (mCons (mCallB fTup mNil) (mCons (mCallB (fToL fLstF) (mCons (mVar 3) mNil)) (mCons (mOp2 (fAddG fLstF) (mVar 3) (mCallB fTup (mCons (mC (.int 0)) mNil))) (mCons (mSl (fCut fLstF) (mVar 3) (mPart (mC (.int 1))) mNoPart) (mCons (mOp2 (fMulA fLstF) (mCallB fTup (mCons (mC .non) mNil)) (mCallB fLen (mCons (mVar 1) mNil))) (mCons (mIf (mTest (mOp2 fGt (mVar 2) (mC (.int 0)))) (mVar 1) (mOp2 (fAddG fLstF) (mVar 1) (mVar 1))) (mCons mDic0 mNil))))))))))) (mRet (mNot (mCall m_is_nearest (mCons (mVar 1) (mCons (mCall m__law_pick (mCons (mVar 0) (mCons (mVar 4) mNil))) mNil))))))))))))
def m__law_long_right : List D → M D := mFn 7 finP b__law_long_right
/-- _law_below: 0 row, 1 found, 2 entry, 3 longer, 4 one, 5 less -/
def ce__law_below : ME D := (mOp2 (fAddG fLstF) (mVar 4) (mCallB fTup (mCons (mVar 5) mNil)))
def lb__law_below : MS := (mDrop (mMeth fExtend (mVar 3) (mCons (mCallB fLstF (mCompL (mSrcA srcR1 (mCons (mOp2 (fAddG fLstF) (mVar 2) (mC (.int 1))) mNil)) [5] (gNm 5) mYes ce__law_below)) mNil)))
def lb__law_below_1 : MS := (mSeq (mAsg (gNm 3) (mCallB fLst mNil)) (mSeq (mFor (mSrc srcSeq (mVar 1)) (gNm 4) lb__law_below) (mAsg (gNm 1) (mVar 3))))
def b__law_below : MS := (mSeq (mAsg (gNm 1) (mCallB fLstF (mCons (mCallB fTup mNil) mNil))) (mSeq (mFor (mSrc srcSeq (mVar 0)) (gNm 2) lb__law_below_1) (mRet (mVar 1))))
def m__law_below : List D → M D := mFn 6 finP b__law_below
/-- _law_mixed: 0 vat, 1 items, 2 left, 3 turn -/
def ce__law_mixed : ME D := (mMeth fPopAt (mVar 2) (mCons (mCall m__law_dip (mCons (mVar 0) (mCons (mCallB fLen (mCons (mVar 2) mNil)) mNil))) mNil))
def b__law_mixed : MS := (mSeq (mAsg (gNm 2) (mCallB (fToL fLst) (mCons (mVar 1) mNil))) (mRet (mCallB fLstF (mCompL (mSrcA srcR1 (mCons (mCallB fLen (mCons (mVar 1) mNil)) mNil)) [3] (gNm 3) mYes ce__law_mixed))))
def m__law_mixed : List D → M D := mFn 4 finP b__law_mixed
/-- _law_taken: 0 row, 1 units, 2 found, 3 turn, 4 at -/
def lb__law_taken : MS := (mSeq (mAsg (gNm 4) (mMeth fIndex (mVar 2) (mCons (mCallB fMax (mCons (mVar 2) mNil)) mNil))) (mPut (mOp2 fSub (mOp2 fIx (mVar 2) (mVar 4)) (mC (.int 1))) (mVar 2) (mVar 4)))
def b__law_taken : MS := (mSeq (mAsg (gNm 2) (mCallB (fToL fLst) (mCons (mVar 0) mNil))) (mSeq (mFor (mSrcA srcR1 (mCons (mVar 1) mNil)) (gNm 3) lb__law_taken) (mRet (mCallB fToT (mCons (mVar 2) mNil)))))
def m__law_taken : List D → M D := mFn 5 finP b__law_taken
/-- _law_small_right: 0 vat, 1 row, 2 some, 3 units, 4 others, 5 one -/
def ce__law_small_right : ME D := (mVar 5)
def ct__law_small_right : ME Bool := (mTest (mCall m__law_is_possible (mCons (mVar 5) mNil)))
def ce__law_small_right_1 : ME D := (mOp2 fSub (mCallB fSum (mCons (mVar 1) mNil)) (mCallB fSum (mCons (mVar 5) mNil)))
def ce__law_small_right_2 : ME D := (mVar 5)
def ct__law_small_right_1 : ME Bool := (mTest (mOp2 fEq (mOp2 fSub (mCallB fSum (mCons (mVar 1) mNil)) (mCallB fSum (mCons (mVar 5) mNil))) (mVar 3)))
def ce__law_small_right_3 : ME D := (mCallB fToT (mCons (mCall m__law_mixed (mCons (mVar 0) (mCons (mVar 5) mNil))) mNil))
def ce__law_small_right_4 : ME D := (mVar 5)
def ct__law_small_right_2 : ME Bool := (mTest (mOp2 fNe (mCall m_is_nearest (mCons (mVar 1) (mCons (mVar 5) mNil))) (mOp2 (fIn false) (mVar 5) (mVar 2))))
def b__law_small_right : MS := (mSeq (mAsg (gNm 1) (mCall m__law_row (mCons (mVar 0) (mCons (mC (.int 4)) (mCons (mC (.int 4)) mNil))))) (mSeq (mAsg (gNm 2) (mCallB fLstF (mCompL (mSrc srcSeq (mCall m__law_below (mCons (mVar 1) mNil))) [5] (gNm 5) ct__law_small_right ce__law_small_right))) (mSeq (mAsg (gNm 3) (mCallB fMin (mCons (mCallB fLstF (mCompL (mSrc srcSeq (mVar 2)) [5] (gNm 5) mYes ce__law_small_right_1)) mNil))) (mSeq (mIfS (mOrT (mTest (mOp2 fNe (mCall m_fewest_away (mCons (mVar 1) mNil)) (mVar 3))) (mTest (mOp2 fNe (mCall m__law_fewest (mCons (mVar 1) mNil)) (mVar 3)))) (mRet (mC (.bl false))) mNext) (mSeq (mAsg (gNm 2) (mCallB fLstF (mCompL (mSrc srcSeq (mVar 2)) [5] (gNm 5) ct__law_small_right_1 ce__law_small_right_2))) (mSeq (mIfS (mOrT (mTest (mOp2 (fIn true) (mCall m_nearest (mCons (mVar 1) mNil)) (mVar 2))) (mNotT (mTest (mCall m_is_nearest (mCons (mVar 1) (mCons (mCall m__law_taken (mCons (mVar 1) (mCons (mVar 3) mNil))) mNil)))))) (mRet (mC (.bl false))) mNext) (mSeq (mAsg (gNm 4) (mOp2 (fAddG fLstF) (mOp2 (fAddG fLstF) (mSl (fCut fLstF) (mCall m__law_mixed (mCons (mVar 0) (mCons (mCall m__law_below (mCons (mVar 1) mNil)) mNil))) mNoPart (mPart (mC (.int 12)))) (mSl (fCut fLstF) (mVar 2) mNoPart (mPart (mC (.int 3))))) (mCallB fLstF (mCompL (mSrc srcSeq (mSl (fCut fLstF) (mVar 2) mNoPart (mPart (mC (.int 6))))) [5] (gNm 5) mYes ce__law_small_right_3)))) (mRet (mOp2 fEq (mCallB fLstF (mCompL (mSrc srcSeq (mVar 4)) [5] (gNm 5) ct__law_small_right_2 ce__law_small_right_4)) (mCallB fLstF mNil))))))))))
def m__law_small_right : List D → M D := mFn 6 finP b__law_small_right
/-- _law_vat: 0 script, 1 spot, 2 cell, 3 great, 4 seed -/
def b__law_vat : MS := (mSeq (mAsg (gNm 2) (mIf (mTest (mOp2 fLt (mVar 1) (mCallB fLen (mCons (mVar 0) mNil)))) (mOp2 fIx (mVar 0) (mVar 1)) (mOp2 (fAddG fLstF) (mOp2 (fMulA fLstF) (mC (.int 67)) (mVar 1)) (mC (.int 19))))) (mSeq (mAsg (gNm 3) (mOp2 fMod (mCallB fInt (mCons (mCallB fAbs (mCons (mVar 2) mNil)) mNil)) (mOp2 fPow (mOp2 fPow (mC (.int 10)) (mC (.int 58))) (mC (.int 9))))) (mSeq (mAsg (gNm 4) (mOp2 fMod (mCallB fInt (mCons (mOp2 (fAddG fLstF) (mOp2 (fAddG fLstF) (mOp2 (fAddG fLstF) (mOp2 (fMulA fLstF) (mVar 3) (mC (.int 1000231))) (mOp2 (fMulA fLstF) (mC (.int 8111)) (mVar 1))) (mOp2 (fMulA fLstF) (mC (.int 53)) (mCallB fInt (mCons (mOp2 fLt (mVar 2) (mC (.int 0))) mNil)))) (mC (.int 7))) mNil)) (mC (.int 1152921504606846883)))) (mRet (mCallB fLst (mCons (mCallB fMax (mCons (mC (.int 0)) (mCons (mOp2 fSub (mVar 3) (mOp2 fPow (mC (.int 10)) (mC (.int 17)))) mNil))) (mCons (mVar 4) (mCons (mC (.int 0)) mNil))))))))
def m__law_vat : List D → M D := mFn 5 finN b__law_vat
/-- law: 0 script, 1 spot, 2 vat, 3 told -/
def lb_law : MS := (mSeq (mAsg (gNm 2) (mCall m__law_vat (mCons (mVar 0) (mCons (mVar 1) mNil)))) (mIfS (mOrT (mNotT (mTest (mCall m__law_small_right (mCons (mVar 2) mNil)))) (mNotT (mTest (mCall m__law_long_right (mCons (mVar 2) mNil))))) (mRet (mC (.bl false))) mNext))
def b_law : MS := (mSeq (mFor (mSrcA srcR1 (mCons (mCallB fMax (mCons (mC (.int 1)) (mCons (mCallB fMin (mCons (mC (.int 4)) (mCons (mCallB fLen (mCons (mVar 0) mNil)) mNil))) mNil))) mNil)) (gNm 1) lb_law) (mSeq (mAsg (gNm 3) (mCallB fLstF (mCons (mCall m_fewest_away (mCons (mCallB fTup (mCons (mC (.int 3)) (mCons (mC (.int 3)) (mCons (mC (.int 1)) (mCons (mC (.int 1)) mNil))))) mNil)) (mCons (mCall m_fewest_away (mCons (mCallB fTup (mCons (mC (.int 5)) (mCons (mC (.int 2)) (mCons (mC (.int 2)) (mCons (mC (.int 2)) mNil))))) mNil)) (mCons (mCall m_fewest_away (mCons (mCallB fTup (mCons (mC (.int 1)) (mCons (mC (.int 1)) (mCons (mC (.int 1)) mNil)))) mNil)) (mCons (mCall m_fewest_away (mCons (mCallB fTup (mCons (mC (.int 6)) (mCons (mC (.int 2)) (mCons (mC (.int 2)) mNil)))) mNil)) mNil)))))) (mSeq (mAsg (gNm 3) (mOp2 (fAddG fLstF) (mVar 3) (mCallB fLstF (mCons (mCall m_is_nearest (mCons (mCallB fTup (mCons (mC (.int 5)) (mCons (mC (.int 2)) (mCons (mC (.int 2)) (mCons (mC (.int 2)) mNil))))) (mCons (mCallB fTup (mCons (mC (.int 3)) (mCons (mC (.int 2)) (mCons (mC (.int 2)) (mCons (mC (.int 1)) mNil))))) mNil))) (mCons (mCall m_is_nearest (mCons (mCallB fTup (mCons (mC (.int 5)) (mCons (mC (.int 2)) (mCons (mC (.int 2)) (mCons (mC (.int 2)) mNil))))) (mCons (mCallB fTup (mCons (mC (.int 2)) (mCons (mC (.int 2)) (mCons (mC (.int 2)) (mCons (mC (.int 2)) mNil))))) mNil))) (mCons (mCall m_nearest (mCons (mCallB fTup (mCons (mC (.int 0)) (mCons (mC (.int 0)) mNil))) mNil)) mNil)))))) (mSeq (mAsg (gNm 3) (mOp2 (fAddG fLstF) (mVar 3) (mCallB fLstF (mCons (mCall m_is_nearest (mCons (mCallB fTup (mCons (mC (.int 6)) (mCons (mC (.int 2)) (mCons (mC (.int 2)) mNil)))) (mCons (mCallB fTup (mCons (mC (.int 2)) (mCons (mC (.int 2)) (mCons (mC (.int 2)) mNil)))) mNil))) (mCons (mCall m_is_nearest (mCons (mCallB fTup (mCons (mC (.int 1)) (mCons (mC (.int 1)) (mCons (mC (.int 1)) mNil)))) (mCons (mCallB fTup (mCons (mC (.int 0)) (mCons (mC (.int 0)) (mCons (mC (.int 0)) mNil)))) mNil))) (mCons (mCall m_is_nearest (mCons (mCallB fTup (mCons (mC (.int 1)) (mCons (mC (.int 1)) (mCons (mC (.int 0)) mNil)))) (mCons (mCallB fTup (mCons (mC (.int 1)) (mCons (mC (.int 0)) (mCons (mC (.int 1)) mNil)))) mNil))) mNil)))))) (mRet (mOp2 fEq (mVar 3) (mCallB fLstF (mCons (mC (.int 2)) (mCons (mC (.int 3)) (mCons (mC (.int 1)) (mCons (mC (.int 4)) (mCons (mC (.bl true)) (mCons (mC (.bl true)) (mCons (mCallB fTup (mCons (mC (.int 0)) (mCons (mC (.int 0)) mNil))) (mCons (mC (.bl true)) (mCons (mC (.bl false)) (mCons (mC (.bl false)) mNil)))))))))))))))))
def m_law : List D → M D := mFn 4 finP b_law

/-! ### the walks -/
section
variable [HasT] {P : Program} {w : World} {K : PySem.W.Frag} {mg : Str → Option Value} {base : Heap}
theorem sc__law_dip : FnScope ["vat", "size", "found", "one", "two"] ["vat", "size"] (defScope (top 25)) := ⟨rfl, rfl, rfl, by decide +kernel, rfl, by decide +kernel, by decide +kernel⟩
theorem D__law_dip (T : Txt K mg) : FnD P w K mg base "_law_dip" 1 2 m__law_dip := by
  obtain ⟨f, fd, hg, Fd⟩ := T.d__law_dip
  refine fn_mkD (k := 0) hg Fd sc__law_dip rfl rfl finP_ok (fun _ _ _ _ _ _ us hl => match us, hl with | [_, _], _ => rfl) fun cdv A outer s H E hr hgd => ?_
  have nd := sc__law_dip.nd
  have hu := room_u hr
  unfold b__law_dip
  exact (dss_cons (ds_if (dt_cmp od_gt (de_ix ixd (de_var 0) de_int) de_int (nomark _)) (dss_cons (ds_set 2 nd (de_op2 od_mod (de_callTy cd_int T.f_int boot_int (da_cons (de_ix ixd (de_var 0) de_int) da_nil)) (de_var 1)))
    (dss_cons (ds_put (de_op2 od_div (de_ix ixd (de_var 0) de_int) (de_var 1)) (de_var 0) de_int)
    (dss_one (ds_ret (de_var 2))))) dss_nil)
    (dss_cons (ds_put (de_op2 (od_addG newL_F) (de_ix ixd (de_var 0) de_int) de_int) (de_var 0) de_int)
    (dss_cons (ds_set 3 nd (de_op2 od_mod (de_callTy cd_int T.f_int boot_int (da_cons (de_op2 (od_addG newL_F) (de_ix ixd (de_var 0) de_int) (de_op2 (od_mulA newL_F) de_int (de_ix ixd (de_var 0) de_int))) da_nil)) de_int))
    (dss_cons (ds_set 4 nd (de_op2 (od_addG newL_F) (de_op2 (od_mulA newL_F) (de_op2 od_mod (de_callTy cd_int T.f_int boot_int (da_cons (de_op2 (od_mulA newL_F) (de_var 3) (de_var 3)) da_nil)) de_int) (de_var 3)) (de_op2 (od_mulA newL_F) de_int (de_ix ixd (de_var 0) de_int))))
    (dss_one (ds_ret (de_op2 od_mod (de_callTy cd_int T.f_int boot_int (da_cons (de_op2 od_div (de_op2 od_mod (de_callTy cd_int T.f_int boot_int (da_cons (de_op2 (od_addG newL_F) (de_var 4) (de_ix ixd (de_var 0) de_int)) da_nil)) de_int) de_int) da_nil)) (de_var 1))))))))
theorem sc__law_greatest : FnScope ["degrees", "falling_v", "found", "size", "others", "entry"] ["degrees"] (defScope (top 29)) := ⟨rfl, rfl, rfl, by decide +kernel, rfl, by decide +kernel, by decide +kernel⟩
theorem D__law_greatest (T : Txt K mg) : FnD P w K mg base "_law_greatest" 1 1 m__law_greatest := by
  obtain ⟨f, fd, hg, Fd⟩ := T.d__law_greatest
  refine fn_mkD (k := 0) hg Fd sc__law_greatest rfl rfl finP_ok (fun _ _ _ _ _ _ us hl => match us, hl with | [_], _ => rfl) fun cdv A outer s H E hr hgd => ?_
  have nd := sc__law_greatest.nd
  have hu := room_u hr
  unfold b__law_greatest
  exact (dss_cons (ds_par2 1 2 rfl nd (da_cons (de_srtR newL_F T.f_sorted boot_sorted (de_var 0)) (da_cons (de_lst (da_cons de_int da_nil)) da_nil)))
    (dss_cons (ds_for (ws := [3]) (passes_of rfl) rfl (di_range2 T.f_range (da_cons de_int (da_cons (de_op2 (od_addG newL_F) (de_callB cd_len T.f_len boot_len (da_cons (de_var 1) da_nil)) de_int) da_nil))) (dg_name 3 nd) (dss_cons (ds_set 4 nd (de_callB (cd_sum rfl) T.f_sum boot_sum (da_cons (de_lcF (own := [("entry", 5)]) rfl nd (blkOk_by (by kernel_rfl)) (di_seq (de_cut newL_F (de_var 1) (do_some (de_var 3)) do_none)) (fun _ _ _ _ _ => (dg_name 5 nd)) (fun _ _ _ _ _ => dts_nil) (fun _ _ _ _ _ => (de_callB (cd_min rfl hu) T.f_min boot_min (da_cons (de_var 3) (da_cons (de_var 5) da_nil))))) da_nil)))
    (dss_one (ds_expr (de_meth md_append PySem.F.slot_list_append PySem.F.type_list_append (de_var 2) (da_cons (de_op2 od_sub (de_op2 od_sub (de_callB (cd_sum rfl) T.f_sum boot_sum (da_cons (de_cut newL_F (de_var 1) do_none (do_some (de_var 3))) da_nil)) (de_op2 (od_mulA newL_F) (de_var 3) (de_op2 od_sub (de_var 3) de_int))) (de_var 4)) da_nil))))))
    (dss_one (ds_ret (de_callB (cd_max rfl hu) T.f_max boot_max (da_cons (de_var 2) da_nil))))))
theorem sc__law_fewest : FnScope ["row", "most"] ["row"] (defScope (top 32)) := ⟨rfl, rfl, rfl, by decide +kernel, rfl, by decide +kernel, by decide +kernel⟩
theorem D__law_fewest (T : Txt K mg) : FnD P w K mg base "_law_fewest" 2 1 m__law_fewest := by
  obtain ⟨f, fd, hg, Fd⟩ := T.d__law_fewest
  refine fn_mkD (k := 1) hg Fd sc__law_fewest rfl rfl finP_ok (fun _ _ _ _ _ _ us hl => match us, hl with | [_], _ => rfl) fun cdv A outer s H E hr hgd => ?_
  have nd := sc__law_fewest.nd
  have hu := room_u hr
  unfold b__law_fewest
  exact (dss_cons (ds_set 1 nd (de_call (D__law_greatest T) (hr.mono (by decide)) hgd (takes_of rfl rfl rfl rfl) (da_cons (de_var 0) da_nil)))
    (dss_one (ds_ret (de_op2 (od_addG newL_F) (de_var 1) (de_op2 od_mod (de_op2 od_sub (de_callB (cd_sum rfl) T.f_sum boot_sum (da_cons (de_var 0) da_nil)) (de_var 1)) de_int)))))
theorem sc__law_is_possible : FnScope ["degrees"] ["degrees"] (defScope (top 30)) := ⟨rfl, rfl, rfl, by decide +kernel, rfl, by decide +kernel, by decide +kernel⟩
theorem D__law_is_possible (T : Txt K mg) : FnD P w K mg base "_law_is_possible" 2 1 m__law_is_possible := by
  obtain ⟨f, fd, hg, Fd⟩ := T.d__law_is_possible
  refine fn_mkD (k := 1) hg Fd sc__law_is_possible rfl rfl finP_ok (fun _ _ _ _ _ _ us hl => match us, hl with | [_], _ => rfl) fun cdv A outer s H E hr hgd => ?_
  have nd := sc__law_is_possible.nd
  have hu := room_u hr
  unfold b__law_is_possible
  exact (dss_one (ds_ret (de_and (de_cmp (od_eq hu) (de_op2 od_mod (de_callB (cd_sum rfl) T.f_sum boot_sum (da_cons (de_var 0) da_nil)) de_int) de_int (nomark _)) (de_one (de_cmp (od_eq hu) (de_call (D__law_greatest T) (hr.mono (by decide)) hgd (takes_of rfl rfl rfl rfl) (da_cons (de_var 0) da_nil)) de_int (nomark _))))))
theorem sc__law_pick : FnScope ["vat", "items"] ["vat", "items"] (defScope (top 26)) := ⟨rfl, rfl, rfl, by decide +kernel, rfl, by decide +kernel, by decide +kernel⟩
theorem D__law_pick (T : Txt K mg) : FnD P w K mg base "_law_pick" 2 2 m__law_pick := by
  obtain ⟨f, fd, hg, Fd⟩ := T.d__law_pick
  refine fn_mkD (k := 1) hg Fd sc__law_pick rfl rfl finP_ok (fun _ _ _ _ _ _ us hl => match us, hl with | [_, _], _ => rfl) fun cdv A outer s H E hr hgd => ?_
  have nd := sc__law_pick.nd
  have hu := room_u hr
  unfold b__law_pick
  exact (dss_one (ds_ret (de_ix ixd (de_var 1) (de_call (D__law_dip T) (hr.mono (by decide)) hgd (takes_of rfl rfl rfl rfl) (da_cons (de_var 0) (da_cons (de_callB cd_len T.f_len boot_len (da_cons (de_var 1) da_nil)) da_nil))))))
theorem sc__law_row : FnScope ["vat", "most", "high", "place"] ["vat", "most", "high"] (defScope (top 28)) := ⟨rfl, rfl, rfl, by decide +kernel, rfl, by decide +kernel, by decide +kernel⟩
theorem D__law_row (T : Txt K mg) : FnD P w K mg base "_law_row" 2 3 m__law_row := by
  obtain ⟨f, fd, hg, Fd⟩ := T.d__law_row
  refine fn_mkD (k := 1) hg Fd sc__law_row rfl rfl finP_ok (fun _ _ _ _ _ _ us hl => match us, hl with | [_, _, _], _ => rfl) fun cdv A outer s H E hr hgd => ?_
  have nd := sc__law_row.nd
  have hu := room_u hr
  unfold b__law_row
  exact (dss_one (ds_ret (de_callTy cd_toT T.f_tuple boot_tuple (da_cons (de_lcF (own := [("place", 3)]) rfl nd (blkOk_by (by kernel_rfl)) (di_range1 T.f_range (da_cons (de_op2 (od_addG newL_F) de_int (de_call (D__law_dip T) (hr.mono (by decide)) hgd (takes_of rfl rfl rfl rfl) (da_cons (de_var 0) (da_cons (de_var 1) da_nil)))) da_nil)) (fun _ _ _ _ _ => (dg_name 3 nd)) (fun _ _ _ _ _ => dts_nil) (fun _ _ _ _ _ => (de_call (D__law_dip T) (hr.mono (by decide)) hgd takes0 (da_cons (de_var 0) (da_cons (de_op2 (od_addG newL_F) (de_var 2) de_int) da_nil))))) da_nil))))
theorem sc_falling : FnScope ["row"] ["row"] (defScope (top 12)) := ⟨rfl, rfl, rfl, by decide +kernel, rfl, by decide +kernel, by decide +kernel⟩
theorem D_falling (T : Txt K mg) : FnD P w K mg base "falling" 1 1 m_falling := by
  obtain ⟨f, fd, hg, Fd⟩ := T.d_falling
  refine fn_mkD (k := 0) hg Fd sc_falling rfl rfl finP_ok (fun _ _ _ _ _ _ us hl => match us, hl with | [_], _ => rfl) fun cdv A outer s H E hr hgd => ?_
  have nd := sc_falling.nd
  have hu := room_u hr
  unfold b_falling
  exact (dss_one (ds_ret (de_callTy cd_toT T.f_tuple boot_tuple (da_cons (de_srtR newL_F T.f_sorted boot_sorted (de_var 0)) da_nil))))
theorem sc_heaviest : FnScope ["degrees", "entries", "best", "total", "many", "entry", "size", "found", "one"] ["degrees"] (defScope (top 14)) := ⟨rfl, rfl, rfl, by decide +kernel, rfl, by decide +kernel, by decide +kernel⟩
theorem D_heaviest (T : Txt K mg) : FnD P w K mg base "heaviest" 2 1 m_heaviest := by
  obtain ⟨f, fd, hg, Fd⟩ := T.d_heaviest
  refine fn_mkD (k := 1) hg Fd sc_heaviest rfl rfl finP_ok (fun _ _ _ _ _ _ us hl => match us, hl with | [_], _ => rfl) fun cdv A outer s H E hr hgd => ?_
  have nd := sc_heaviest.nd
  have hu := room_u hr
  unfold b_heaviest
  exact (dss_cons (ds_par3 1 2 3 rfl nd (da_cons (de_call (D_falling T) (hr.mono (by decide)) hgd (takes_of rfl rfl rfl rfl) (da_cons (de_var 0) da_nil)) (da_cons (de_tup (da_cons de_int (da_cons de_int da_nil))) (da_cons de_int da_nil))))
    (dss_cons (ds_for (ws := [4, 5]) (passes_of rfl) rfl (di_enum T.f_enumerate (da_cons (de_var 1) da_nil)) (dg_tup rfl (dgs_cons (dg_name 4 nd) (dgs_cons (dg_name 5 nd) dgs_nil))) (dss_cons (ds_aug 3 nd ipd_add (de_var 5))
    (dss_cons (ds_set 6 nd (de_op2 (od_addG newL_F) (de_var 4) de_int))
    (dss_cons (ds_set 7 nd (de_op2 od_sub (de_op2 od_sub (de_var 3) (de_op2 (od_mulA newL_F) (de_var 6) (de_var 4))) (de_callB (cd_sum rfl) T.f_sum boot_sum (da_cons (de_lcF (own := [("one", 8)]) rfl nd (blkOk_by (by kernel_rfl)) (di_seq (de_cut newL_F (de_var 1) (do_some (de_var 6)) do_none)) (fun _ _ _ _ _ => (dg_name 8 nd)) (fun _ _ _ _ _ => dts_nil) (fun _ _ _ _ _ => (de_callB (cd_min rfl hu) T.f_min boot_min (da_cons (de_var 6) (da_cons (de_var 8) da_nil))))) da_nil))))
    (dss_one (ds_if (dt_cmp od_gt (de_var 7) (de_ix ixd (de_var 2) de_int) (nomark _)) (dss_one (ds_set 2 nd (de_tup (da_cons (de_var 7) (da_cons (de_var 6) da_nil))))) dss_nil))))))
    (dss_one (ds_ret (de_var 2)))))
theorem sc_fewest_in : FnScope ["degrees", "most"] ["degrees"] (defScope (top 17)) := ⟨rfl, rfl, rfl, by decide +kernel, rfl, by decide +kernel, by decide +kernel⟩
theorem D_fewest_in (T : Txt K mg) : FnD P w K mg base "fewest_in" 3 1 m_fewest_in := by
  obtain ⟨f, fd, hg, Fd⟩ := T.d_fewest_in
  refine fn_mkD (k := 2) hg Fd sc_fewest_in rfl rfl finP_ok (fun _ _ _ _ _ _ us hl => match us, hl with | [_], _ => rfl) fun cdv A outer s H E hr hgd => ?_
  have nd := sc_fewest_in.nd
  have hu := room_u hr
  unfold b_fewest_in
  exact (dss_cons (ds_set 1 nd (de_ix ixd (de_call (D_heaviest T) (hr.mono (by decide)) hgd (takes_of rfl rfl rfl rfl) (da_cons (de_var 0) da_nil)) de_int))
    (dss_one (ds_ret (de_op2 (od_addG newL_F) (de_var 1) (de_op2 od_mod (de_op2 od_sub (de_callB (cd_sum rfl) T.f_sum boot_sum (da_cons (de_var 0) da_nil)) (de_var 1)) de_int)))))
theorem sc_is_integer : FnScope ["value"] ["value"] (defScope (top 1)) := ⟨rfl, rfl, rfl, by decide +kernel, rfl, by decide +kernel, by decide +kernel⟩
theorem D_is_integer (T : Txt K mg) : FnD P w K mg base "is_integer" 1 1 m_is_integer := by
  obtain ⟨f, fd, hg, Fd⟩ := T.d_is_integer
  refine fn_mkD (k := 0) hg Fd sc_is_integer rfl rfl finP_ok (fun _ _ _ _ _ _ us hl => match us, hl with | [_], _ => rfl) fun cdv A outer s H E hr hgd => ?_
  have nd := sc_is_integer.nd
  have hu := room_u hr
  unfold b_is_integer
  exact (dss_one (ds_ret (de_and (de_callB cd_isi T.f_isinstance boot_isinstance (da_cons (de_var 0) (da_cons (de_tyn T.f_int boot_int) da_nil))) (de_one (de_not (de_callB cd_isi T.f_isinstance boot_isinstance (da_cons (de_var 0) (da_cons (de_tyn T.f_bool boot_bool) da_nil))))))))
theorem sc_is_from : FnScope ["value", "first", "last"] ["value", "first", "last"] (defScope (top 2)) := ⟨rfl, rfl, rfl, by decide +kernel, rfl, by decide +kernel, by decide +kernel⟩
theorem D_is_from (T : Txt K mg) : FnD P w K mg base "is_from" 2 3 m_is_from := by
  obtain ⟨f, fd, hg, Fd⟩ := T.d_is_from
  refine fn_mkD (k := 1) hg Fd sc_is_from rfl rfl finP_ok (fun _ _ _ _ _ _ us hl => match us, hl with | [_, _, _], _ => rfl) fun cdv A outer s H E hr hgd => ?_
  have nd := sc_is_from.nd
  have hu := room_u hr
  unfold b_is_from
  exact (dss_one (ds_ret (de_and (de_call (D_is_integer T) (hr.mono (by decide)) hgd (takes_of rfl rfl rfl rfl) (da_cons (de_var 0) da_nil)) (de_one (de_chain od_le od_le (de_var 1) (de_var 0) (de_var 2) fun _ _ o o2 => pe_chain o o2 (de_var 1) (de_var 0) (de_var 2))))))
theorem sc_is_amount : FnScope ["value"] ["value"] (defScope (top 9)) := ⟨rfl, rfl, rfl, by decide +kernel, rfl, by decide +kernel, by decide +kernel⟩
theorem D_is_amount (T : Txt K mg) : FnD P w K mg base "is_amount" 3 1 m_is_amount := by
  obtain ⟨f, fd, hg, Fd⟩ := T.d_is_amount
  refine fn_mkD (k := 2) hg Fd sc_is_amount rfl rfl finP_ok (fun _ _ _ _ _ _ us hl => match us, hl with | [_], _ => rfl) fun cdv A outer s H E hr hgd => ?_
  have nd := sc_is_amount.nd
  have hu := room_u hr
  unfold b_is_amount
  exact (dss_one (ds_ret (de_call (D_is_from T) (hr.mono (by decide)) hgd (takes_of rfl rfl rfl rfl) (da_cons (de_var 0) (da_cons de_int (da_cons (de_gint T.i_MAX_NUMBER) da_nil))))))
theorem sc_is_row : FnScope ["value", "entry"] ["value"] (defScope (top 10)) := ⟨rfl, rfl, rfl, by decide +kernel, rfl, by decide +kernel, by decide +kernel⟩
theorem D_is_row (T : Txt K mg) : FnD P w K mg base "is_row" 4 1 m_is_row := by
  obtain ⟨f, fd, hg, Fd⟩ := T.d_is_row
  refine fn_mkD (k := 3) hg Fd sc_is_row rfl rfl finP_ok (fun _ _ _ _ _ _ us hl => match us, hl with | [_], _ => rfl) fun cdv A outer s H E hr hgd => ?_
  have nd := sc_is_row.nd
  have hu := room_u hr
  unfold b_is_row
  exact (dss_cons (ds_if (dt_bool (dw_or (dt_not (dt_val (de_callB cd_isi T.f_isinstance boot_isinstance (da_cons (de_var 0) (da_cons (de_tyn T.f_tuple boot_tuple) da_nil))))) (dw_or1 (dt_not (dt_val (de_call (D_is_from T) (hr.mono (by decide)) hgd (takes_of rfl rfl rfl rfl) (da_cons (de_callB cd_len T.f_len boot_len (da_cons (de_var 0) da_nil)) (da_cons de_int (da_cons (de_gint T.i_MAX_LENGTH) da_nil))))))))) (dss_one (ds_ret de_bl)) dss_nil)
    (dss_one (ds_ret (de_callB (cd_all rfl) T.f_all boot_all (da_cons (de_lcF (own := [("entry", 1)]) rfl nd (blkOk_by (by kernel_rfl)) (di_seq (de_var 0)) (fun _ _ _ _ _ => (dg_name 1 nd)) (fun _ _ _ _ _ => dts_nil) (fun _ _ _ _ _ => (de_call (D_is_amount T) (hr.mono (by decide)) hgd takes0 (da_cons (de_var 1) da_nil)))) da_nil)))))
theorem sc_require_row : FnScope ["value"] ["value"] (defScope (top 11)) := ⟨rfl, rfl, rfl, by decide +kernel, rfl, by decide +kernel, by decide +kernel⟩
theorem D_require_row (T : Txt K mg) : FnD P w K mg base "require_row" 5 1 m_require_row := by
  obtain ⟨f, fd, hg, Fd⟩ := T.d_require_row
  refine fn_mkD (k := 4) hg Fd sc_require_row rfl rfl finP_ok (fun _ _ _ _ _ _ us hl => match us, hl with | [_], _ => rfl) fun cdv A outer s H E hr hgd => ?_
  have nd := sc_require_row.nd
  have hu := room_u hr
  unfold b_require_row
  exact (dss_one (ds_if (dt_not (dt_val (de_call (D_is_row T) (hr.mono (by decide)) hgd (takes_of rfl rfl rfl rfl) (da_cons (de_var 0) da_nil)))) (dss_one ds_never) dss_nil))
theorem sc_fewest_away : FnScope ["degrees"] ["degrees"] (defScope (top 20)) := ⟨rfl, rfl, rfl, by decide +kernel, rfl, by decide +kernel, by decide +kernel⟩
theorem D_fewest_away (T : Txt K mg) : FnD P w K mg base "fewest_away" 6 1 m_fewest_away := by
  obtain ⟨f, fd, hg, Fd⟩ := T.d_fewest_away
  refine fn_mkD (k := 5) hg Fd sc_fewest_away rfl rfl finP_ok (fun _ _ _ _ _ _ us hl => match us, hl with | [_], _ => rfl) fun cdv A outer s H E hr hgd => ?_
  have nd := sc_fewest_away.nd
  have hu := room_u hr
  unfold b_fewest_away
  exact (dss_cons (ds_expr (de_call (D_require_row T) (hr.mono (by decide)) hgd (takes_of rfl rfl rfl rfl) (da_cons (de_var 0) da_nil)))
    (dss_one (ds_ret (de_call (D_fewest_in T) (hr.mono (by decide)) hgd (takes_of rfl rfl rfl rfl) (da_cons (de_var 0) da_nil)))))
theorem sc_is_web_row : FnScope ["degrees"] ["degrees"] (defScope (top 15)) := ⟨rfl, rfl, rfl, by decide +kernel, rfl, by decide +kernel, by decide +kernel⟩
theorem D_is_web_row (T : Txt K mg) : FnD P w K mg base "is_web_row" 3 1 m_is_web_row := by
  obtain ⟨f, fd, hg, Fd⟩ := T.d_is_web_row
  refine fn_mkD (k := 2) hg Fd sc_is_web_row rfl rfl finP_ok (fun _ _ _ _ _ _ us hl => match us, hl with | [_], _ => rfl) fun cdv A outer s H E hr hgd => ?_
  have nd := sc_is_web_row.nd
  have hu := room_u hr
  unfold b_is_web_row
  exact (dss_one (ds_ret (de_and (de_cmp (od_eq hu) (de_op2 od_mod (de_callB (cd_sum rfl) T.f_sum boot_sum (da_cons (de_var 0) da_nil)) de_int) de_int (nomark _)) (de_one (de_cmp (od_eq hu) (de_ix ixd (de_call (D_heaviest T) (hr.mono (by decide)) hgd (takes_of rfl rfl rfl rfl) (da_cons (de_var 0) da_nil)) de_int) de_int (nomark _))))))
theorem sc_is_nearest : FnScope ["degrees", "value", "less", "more"] ["degrees", "value"] (defScope (top 22)) := ⟨rfl, rfl, rfl, by decide +kernel, rfl, by decide +kernel, by decide +kernel⟩
theorem D_is_nearest (T : Txt K mg) : FnD P w K mg base "is_nearest" 6 2 m_is_nearest := by
  obtain ⟨f, fd, hg, Fd⟩ := T.d_is_nearest
  refine fn_mkD (k := 5) hg Fd sc_is_nearest rfl rfl finP_ok (fun _ _ _ _ _ _ us hl => match us, hl with | [_, _], _ => rfl) fun cdv A outer s H E hr hgd => ?_
  have nd := sc_is_nearest.nd
  have hu := room_u hr
  unfold b_is_nearest
  exact (dss_cons (ds_expr (de_call (D_require_row T) (hr.mono (by decide)) hgd (takes_of rfl rfl rfl rfl) (da_cons (de_var 0) da_nil)))
    (dss_cons (ds_if (dt_bool (dw_or (dt_not (dt_val (de_call (D_is_row T) (hr.mono (by decide)) hgd (takes_of rfl rfl rfl rfl) (da_cons (de_var 1) da_nil)))) (dw_or1 (dt_cmp (od_ne hu) (de_callB cd_len T.f_len boot_len (da_cons (de_var 1) da_nil)) (de_callB cd_len T.f_len boot_len (da_cons (de_var 0) da_nil)) (nomark _))))) (dss_one (ds_ret de_bl)) dss_nil)
    (dss_cons (ds_if (dt_bool (dw_or (dt_val (de_callB (cd_any rfl) T.f_any boot_any (da_cons (de_lcF (own := [("less", 2), ("more", 3)]) rfl nd (blkOk_by (by kernel_rfl)) (di_zip T.f_zip (da_cons (de_var 1) (da_cons (de_var 0) da_nil))) (fun _ _ _ _ _ => (dg_tup rfl (dgs_cons (dg_name 2 nd) (dgs_cons (dg_name 3 nd) dgs_nil)))) (fun _ _ _ _ _ => dts_nil) (fun _ _ _ _ _ => (de_cmp od_gt (de_var 2) (de_var 3) (nomark _)))) da_nil))) (dw_or1 (dt_cmp (od_ne hu) (de_op2 od_sub (de_callB (cd_sum rfl) T.f_sum boot_sum (da_cons (de_var 0) da_nil)) (de_callB (cd_sum rfl) T.f_sum boot_sum (da_cons (de_var 1) da_nil))) (de_call (D_fewest_in T) (hr.mono (by decide)) hgd (takes_of rfl rfl rfl rfl) (da_cons (de_var 0) da_nil)) (nomark _))))) (dss_one (ds_ret de_bl)) dss_nil)
    (dss_one (ds_ret (de_call (D_is_web_row T) (hr.mono (by decide)) hgd (takes_of rfl rfl rfl rfl) (da_cons (de_var 1) da_nil)))))))
theorem sc_excess_in : FnScope ["degrees", "level", "one"] ["degrees", "level"] (defScope (top 18)) := ⟨rfl, rfl, rfl, by decide +kernel, rfl, by decide +kernel, by decide +kernel⟩
theorem D_excess_in (T : Txt K mg) : FnD P w K mg base "excess_in" 1 2 m_excess_in := by
  obtain ⟨f, fd, hg, Fd⟩ := T.d_excess_in
  refine fn_mkD (k := 0) hg Fd sc_excess_in rfl rfl finP_ok (fun _ _ _ _ _ _ us hl => match us, hl with | [_, _], _ => rfl) fun cdv A outer s H E hr hgd => ?_
  have nd := sc_excess_in.nd
  have hu := room_u hr
  unfold b_excess_in
  exact (dss_one (ds_ret (de_callB (cd_sum rfl) T.f_sum boot_sum (da_cons (de_lcF (own := [("one", 2)]) rfl nd (blkOk_by (by kernel_rfl)) (di_seq (de_var 0)) (fun _ _ _ _ _ => (dg_name 2 nd)) (fun _ _ _ _ _ => dts_nil) (fun _ _ _ _ _ => (de_callB (cd_max rfl hu) T.f_max boot_max (da_cons de_int (da_cons (de_op2 od_sub (de_var 2) (de_var 1)) da_nil))))) da_nil))))
theorem sc_lowered : FnScope ["degrees", "many", "low", "high", "level", "back", "found", "one", "more"] ["degrees", "many"] (defScope (top 19)) := ⟨rfl, rfl, rfl, by decide +kernel, rfl, by decide +kernel, by decide +kernel⟩
theorem D_lowered (T : Txt K mg) : FnD P w K mg base "lowered" 2 2 m_lowered := by
  obtain ⟨f, fd, hg, Fd⟩ := T.d_lowered
  refine fn_mkD (k := 1) hg Fd sc_lowered rfl rfl finP_ok (fun _ _ _ _ _ _ us hl => match us, hl with | [_, _], _ => rfl) fun cdv A outer s H E hr hgd => ?_
  have nd := sc_lowered.nd
  have hu := room_u hr
  unfold b_lowered
  exact (dss_cons (ds_par2 2 3 rfl nd (da_cons de_int (da_cons (de_callB (cd_max rfl hu) T.f_max boot_max (da_cons (de_var 0) da_nil)) da_nil)))
    (dss_cons (ds_while 200 (passes_of rfl) (dt_cmp od_lt (de_var 2) (de_var 3) (nomark _)) (dss_cons (ds_set 4 nd (de_op2 od_div (de_op2 (od_addG newL_F) (de_op2 (od_addG newL_F) (de_var 2) (de_var 3)) de_int) de_int))
    (dss_one (ds_if (dt_cmp od_ge (de_call (D_excess_in T) (hr.mono (by decide)) hgd (takes_of rfl rfl rfl rfl) (da_cons (de_var 0) (da_cons (de_var 4) da_nil))) (de_var 1) (nomark _)) (dss_one (ds_set 2 nd (de_var 4))) (dss_one (ds_set 3 nd (de_op2 od_sub (de_var 4) de_int)))))))
    (dss_cons (ds_par2 5 6 rfl nd (da_cons (de_op2 od_sub (de_call (D_excess_in T) (hr.mono (by decide)) hgd (takes_of rfl rfl rfl rfl) (da_cons (de_var 0) (da_cons (de_var 2) da_nil))) (de_var 1)) (da_cons (de_lst da_nil) da_nil)))
    (dss_cons (ds_for (ws := [7]) (passes_of rfl) rfl (di_seq (de_var 0)) (dg_name 7 nd) (dss_cons (ds_set 8 nd (de_callTy cd_int T.f_int boot_int (da_cons (de_and (de_cmp od_gt (de_var 7) (de_var 2) (nomark _)) (de_one (de_cmp od_gt (de_var 5) de_int (nomark _)))) da_nil)))
    (dss_cons (ds_aug 5 nd ipd_sub (de_var 8))
    (dss_one (ds_expr (de_meth md_append PySem.F.slot_list_append PySem.F.type_list_append (de_var 6) (da_cons (de_op2 (od_addG newL_F) (de_callB (cd_min rfl hu) T.f_min boot_min (da_cons (de_var 7) (da_cons (de_var 2) da_nil))) (de_var 8)) da_nil)))))))
    (dss_one (ds_ret (de_callTy cd_toT T.f_tuple boot_tuple (da_cons (de_var 6) da_nil))))))))
theorem sc_nearest : FnScope ["degrees"] ["degrees"] (defScope (top 21)) := ⟨rfl, rfl, rfl, by decide +kernel, rfl, by decide +kernel, by decide +kernel⟩
theorem D_nearest (T : Txt K mg) : FnD P w K mg base "nearest" 6 1 m_nearest := by
  obtain ⟨f, fd, hg, Fd⟩ := T.d_nearest
  refine fn_mkD (k := 5) hg Fd sc_nearest rfl rfl finP_ok (fun _ _ _ _ _ _ us hl => match us, hl with | [_], _ => rfl) fun cdv A outer s H E hr hgd => ?_
  have nd := sc_nearest.nd
  have hu := room_u hr
  unfold b_nearest
  exact (dss_cons (ds_expr (de_call (D_require_row T) (hr.mono (by decide)) hgd (takes_of rfl rfl rfl rfl) (da_cons (de_var 0) da_nil)))
    (dss_one (ds_ret (de_call (D_lowered T) (hr.mono (by decide)) hgd (takes_of rfl rfl rfl rfl) (da_cons (de_var 0) (da_cons (de_call (D_fewest_in T) (hr.mono (by decide)) hgd (takes_of rfl rfl rfl rfl) (da_cons (de_var 0) da_nil)) da_nil))))))
theorem sc__law_long_right : FnScope ["vat", "row", "units", "told", "odd", "less", "more"] ["vat"] (defScope (top 35)) := ⟨rfl, rfl, rfl, by decide +kernel, rfl, by decide +kernel, by decide +kernel⟩
theorem D__law_long_right (T : Txt K mg) : FnD P w K mg base "_law_long_right" 7 1 m__law_long_right := by
  obtain ⟨f, fd, hg, Fd⟩ := T.d__law_long_right
  refine fn_mkD (k := 6) hg Fd sc__law_long_right rfl rfl finP_ok (fun _ _ _ _ _ _ us hl => match us, hl with | [_], _ => rfl) fun cdv A outer s H E hr hgd => ?_
  have nd := sc__law_long_right.nd
  have hu := room_u hr
  unfold b__law_long_right
  exact (dss_cons (ds_set 1 nd (de_callTy (cd_toL newL_N) T.f_list boot_list (da_cons (de_call (D__law_row T) (hr.mono (by decide)) hgd (takes_of rfl rfl rfl rfl) (da_cons (de_var 0) (da_cons de_int (da_cons de_int da_nil)))) da_nil)))
    (dss_cons (ds_if (dt_cmp (od_eq hu) (de_call (D__law_dip T) (hr.mono (by decide)) hgd (takes_of rfl rfl rfl rfl) (da_cons (de_var 0) (da_cons de_int da_nil))) de_int (nomark _)) (dss_one (ds_put (de_call (D__law_pick T) (hr.mono (by decide)) hgd (takes_of rfl rfl rfl rfl) (da_cons (de_var 0) (da_cons (de_lstF (da_cons (de_op2 od_sub (de_op2 od_pow de_int de_int) de_int) (da_cons (de_op2 od_pow de_int de_int) (da_cons de_int (da_cons de_int da_nil))))) da_nil))) (de_var 1) de_int)) dss_nil)
    (dss_cons (ds_par2 1 2 rfl nd (da_cons (de_callTy cd_toT T.f_tuple boot_tuple (da_cons (de_var 1) da_nil)) (da_cons (de_call (D__law_fewest T) (hr.mono (by decide)) hgd (takes_of rfl rfl rfl rfl) (da_cons (de_var 1) da_nil)) da_nil)))
    (dss_cons (ds_set 3 nd (de_call (D_nearest T) (hr.mono (by decide)) hgd (takes_of rfl rfl rfl rfl) (da_cons (de_var 1) da_nil)))
    (dss_cons (ds_if (dt_bool (dw_or (dt_cmp (od_ne hu) (de_call (D_fewest_away T) (hr.mono (by decide)) hgd (takes_of rfl rfl rfl rfl) (da_cons (de_var 1) da_nil)) (de_var 2) (nomark _)) (dw_or (dt_cmp (od_ne hu) (de_op2 od_sub (de_callB (cd_sum rfl) T.f_sum boot_sum (da_cons (de_var 1) da_nil)) (de_callB (cd_sum rfl) T.f_sum boot_sum (da_cons (de_var 3) da_nil))) (de_var 2) (nomark _)) (dw_or1 (dt_not (dt_val (de_call (D__law_is_possible T) (hr.mono (by decide)) hgd (takes_of rfl rfl rfl rfl) (da_cons (de_var 3) da_nil)))))))) (dss_one (ds_ret de_bl)) dss_nil)
    (dss_cons (ds_if (dt_bool (dw_or (dt_cmp (od_ne hu) (de_lcF (own := [("less", 5), ("more", 6)]) rfl nd (blkOk_by (by kernel_rfl)) (di_zip T.f_zip (da_cons (de_var 3) (da_cons (de_var 1) da_nil))) (fun _ _ _ _ _ => (dg_tup rfl (dgs_cons (dg_name 5 nd) (dgs_cons (dg_name 6 nd) dgs_nil)))) (fun _ _ _ _ _ => (dts_one (dt_not (dt_chain od_le od_le de_int (de_var 5) (de_var 6) fun _ _ o o2 => pt_chain o o2 de_int (de_var 5) (de_var 6))))) (fun _ _ _ _ _ => de_int)) (de_lstF da_nil) (nomark _)) (dw_or1 (dt_not (dt_val (de_call (D_is_nearest T) (hr.mono (by decide)) hgd (takes_of rfl rfl rfl rfl) (da_cons (de_var 1) (da_cons (de_var 3) da_nil)))))))) (dss_one (ds_ret de_bl)) dss_nil)
    (dss_cons (ds_set 4 nd (de_lstF (da_cons de_non (da_cons de_int (da_cons (de_tup da_nil) (da_cons (de_callTy (cd_toL newL_F) T.f_list boot_list (da_cons (de_var 3) da_nil)) (da_cons (de_op2 (od_addG newL_F) (de_var 3) (de_tup (da_cons de_int da_nil))) (da_cons (de_cut newL_F (de_var 3) (do_some de_int) do_none) (da_cons (de_op2 (od_mulA newL_F) (de_tup (da_cons de_non da_nil)) (de_callB cd_len T.f_len boot_len (da_cons (de_var 1) da_nil))) (da_cons (de_if (dt_cmp od_gt (de_var 2) de_int (nomark _)) (de_var 1) (de_op2 (od_addG newL_F) (de_var 1) (de_var 1))) (da_cons de_dic0 da_nil)))))))))))
    (dss_one (ds_ret (de_not (de_call (D_is_nearest T) (hr.mono (by decide)) hgd (takes_of rfl rfl rfl rfl) (da_cons (de_var 1) (da_cons (de_call (D__law_pick T) (hr.mono (by decide)) hgd (takes_of rfl rfl rfl rfl) (da_cons (de_var 0) (da_cons (de_var 4) da_nil))) da_nil)))))))))))))
theorem sc__law_below : FnScope ["row", "found", "entry", "longer", "one", "less"] ["row"] (defScope (top 31)) := ⟨rfl, rfl, rfl, by decide +kernel, rfl, by decide +kernel, by decide +kernel⟩
theorem D__law_below (T : Txt K mg) : FnD P w K mg base "_law_below" 1 1 m__law_below := by
  obtain ⟨f, fd, hg, Fd⟩ := T.d__law_below
  refine fn_mkD (k := 0) hg Fd sc__law_below rfl rfl finP_ok (fun _ _ _ _ _ _ us hl => match us, hl with | [_], _ => rfl) fun cdv A outer s H E hr hgd => ?_
  have nd := sc__law_below.nd
  have hu := room_u hr
  unfold b__law_below
  exact (dss_cons (ds_set 1 nd (de_lstF (da_cons (de_tup da_nil) da_nil)))
    (dss_cons (ds_for (ws := [2]) (passes_of rfl) rfl (di_seq (de_var 0)) (dg_name 2 nd) (dss_cons (ds_set 3 nd (de_lst da_nil))
    (dss_cons (ds_for (ws := [4]) (passes_of rfl) rfl (di_seq (de_var 1)) (dg_name 4 nd) (dss_one (ds_expr (de_meth md_extend PySem.F.slot_list_extend PySem.F.type_list_extend (de_var 3) (da_cons (de_lcF (own := [("less", 5)]) rfl nd (blkOk_by (by kernel_rfl)) (di_range1 T.f_range (da_cons (de_op2 (od_addG newL_F) (de_var 2) de_int) da_nil)) (fun _ _ _ _ _ => (dg_name 5 nd)) (fun _ _ _ _ _ => dts_nil) (fun _ _ _ _ _ => (de_op2 (od_addG newL_F) (de_var 4) (de_tup (da_cons (de_var 5) da_nil))))) da_nil)))))
    (dss_one (ds_set 1 nd (de_var 3))))))
    (dss_one (ds_ret (de_var 1)))))
theorem sc__law_mixed : FnScope ["vat", "items", "left", "turn"] ["vat", "items"] (defScope (top 27)) := ⟨rfl, rfl, rfl, by decide +kernel, rfl, by decide +kernel, by decide +kernel⟩
theorem D__law_mixed (T : Txt K mg) : FnD P w K mg base "_law_mixed" 2 2 m__law_mixed := by
  obtain ⟨f, fd, hg, Fd⟩ := T.d__law_mixed
  refine fn_mkD (k := 1) hg Fd sc__law_mixed rfl rfl finP_ok (fun _ _ _ _ _ _ us hl => match us, hl with | [_, _], _ => rfl) fun cdv A outer s H E hr hgd => ?_
  have nd := sc__law_mixed.nd
  have hu := room_u hr
  unfold b__law_mixed
  exact (dss_cons (ds_set 2 nd (de_callTy (cd_toL newL_N) T.f_list boot_list (da_cons (de_var 1) da_nil)))
    (dss_one (ds_ret (de_lcF (own := [("turn", 3)]) rfl nd (blkOk_by (by kernel_rfl)) (di_range1 T.f_range (da_cons (de_callB cd_len T.f_len boot_len (da_cons (de_var 1) da_nil)) da_nil)) (fun _ _ _ _ _ => (dg_name 3 nd)) (fun _ _ _ _ _ => dts_nil) (fun _ _ _ _ _ => (de_meth md_popAt PySem.F.slot_list_pop PySem.F.type_list_pop (de_var 2) (da_cons (de_call (D__law_dip T) (hr.mono (by decide)) hgd takes0 (da_cons (de_var 0) (da_cons (de_callB cd_len T.f_len boot_len (da_cons (de_var 2) da_nil)) da_nil))) da_nil)))))))
theorem sc__law_taken : FnScope ["row", "units", "found", "turn", "at"] ["row", "units"] (defScope (top 33)) := ⟨rfl, rfl, rfl, by decide +kernel, rfl, by decide +kernel, by decide +kernel⟩
theorem D__law_taken (T : Txt K mg) : FnD P w K mg base "_law_taken" 1 2 m__law_taken := by
  obtain ⟨f, fd, hg, Fd⟩ := T.d__law_taken
  refine fn_mkD (k := 0) hg Fd sc__law_taken rfl rfl finP_ok (fun _ _ _ _ _ _ us hl => match us, hl with | [_, _], _ => rfl) fun cdv A outer s H E hr hgd => ?_
  have nd := sc__law_taken.nd
  have hu := room_u hr
  unfold b__law_taken
  exact (dss_cons (ds_set 2 nd (de_callTy (cd_toL newL_N) T.f_list boot_list (da_cons (de_var 0) da_nil)))
    (dss_cons (ds_for (ws := [3]) (passes_of rfl) rfl (di_range1 T.f_range (da_cons (de_var 1) da_nil)) (dg_name 3 nd) (dss_cons (ds_set 4 nd (de_meth md_index PySem.F.slot_list_index PySem.F.type_list_index (de_var 2) (da_cons (de_callB (cd_max rfl hu) T.f_max boot_max (da_cons (de_var 2) da_nil)) da_nil)))
    (dss_one (ds_put (de_op2 od_sub (de_ix ixd (de_var 2) (de_var 4)) de_int) (de_var 2) (de_var 4)))))
    (dss_one (ds_ret (de_callTy cd_toT T.f_tuple boot_tuple (da_cons (de_var 2) da_nil))))))
theorem sc__law_small_right : FnScope ["vat", "row", "some", "units", "others", "one"] ["vat"] (defScope (top 34)) := ⟨rfl, rfl, rfl, by decide +kernel, rfl, by decide +kernel, by decide +kernel⟩
theorem D__law_small_right (T : Txt K mg) : FnD P w K mg base "_law_small_right" 7 1 m__law_small_right := by
  obtain ⟨f, fd, hg, Fd⟩ := T.d__law_small_right
  refine fn_mkD (k := 6) hg Fd sc__law_small_right rfl rfl finP_ok (fun _ _ _ _ _ _ us hl => match us, hl with | [_], _ => rfl) fun cdv A outer s H E hr hgd => ?_
  have nd := sc__law_small_right.nd
  have hu := room_u hr
  unfold b__law_small_right
  exact (dss_cons (ds_set 1 nd (de_call (D__law_row T) (hr.mono (by decide)) hgd (takes_of rfl rfl rfl rfl) (da_cons (de_var 0) (da_cons de_int (da_cons de_int da_nil)))))
    (dss_cons (ds_set 2 nd (de_lcF (own := [("one", 5)]) rfl nd (blkOk_by (by kernel_rfl)) (di_seq (de_call (D__law_below T) (hr.mono (by decide)) hgd (takes_of rfl rfl rfl rfl) (da_cons (de_var 1) da_nil))) (fun _ _ _ _ _ => (dg_name 5 nd)) (fun _ _ _ _ _ => (dts_one (dt_val (de_call (D__law_is_possible T) (hr.mono (by decide)) hgd takes0 (da_cons (de_var 5) da_nil))))) (fun _ _ _ _ _ => (de_var 5))))
    (dss_cons (ds_set 3 nd (de_callB (cd_min rfl hu) T.f_min boot_min (da_cons (de_lcF (own := [("one", 5)]) rfl nd (blkOk_by (by kernel_rfl)) (di_seq (de_var 2)) (fun _ _ _ _ _ => (dg_name 5 nd)) (fun _ _ _ _ _ => dts_nil) (fun _ _ _ _ _ => (de_op2 od_sub (de_callB (cd_sum rfl) T.f_sum boot_sum (da_cons (de_var 1) da_nil)) (de_callB (cd_sum rfl) T.f_sum boot_sum (da_cons (de_var 5) da_nil))))) da_nil)))
    (dss_cons (ds_if (dt_bool (dw_or (dt_cmp (od_ne hu) (de_call (D_fewest_away T) (hr.mono (by decide)) hgd (takes_of rfl rfl rfl rfl) (da_cons (de_var 1) da_nil)) (de_var 3) (nomark _)) (dw_or1 (dt_cmp (od_ne hu) (de_call (D__law_fewest T) (hr.mono (by decide)) hgd (takes_of rfl rfl rfl rfl) (da_cons (de_var 1) da_nil)) (de_var 3) (nomark _))))) (dss_one (ds_ret de_bl)) dss_nil)
    (dss_cons (ds_set 2 nd (de_lcF (own := [("one", 5)]) rfl nd (blkOk_by (by kernel_rfl)) (di_seq (de_var 2)) (fun _ _ _ _ _ => (dg_name 5 nd)) (fun _ _ _ _ _ => (dts_one (dt_cmp (od_eq hu) (de_op2 od_sub (de_callB (cd_sum rfl) T.f_sum boot_sum (da_cons (de_var 1) da_nil)) (de_callB (cd_sum rfl) T.f_sum boot_sum (da_cons (de_var 5) da_nil))) (de_var 3) (nomark _)))) (fun _ _ _ _ _ => (de_var 5))))
    (dss_cons (ds_if (dt_bool (dw_or (dt_cmp (od_notin hu) (de_call (D_nearest T) (hr.mono (by decide)) hgd (takes_of rfl rfl rfl rfl) (da_cons (de_var 1) da_nil)) (de_var 2) (by rfl)) (dw_or1 (dt_not (dt_val (de_call (D_is_nearest T) (hr.mono (by decide)) hgd (takes_of rfl rfl rfl rfl) (da_cons (de_var 1) (da_cons (de_call (D__law_taken T) (hr.mono (by decide)) hgd (takes_of rfl rfl rfl rfl) (da_cons (de_var 1) (da_cons (de_var 3) da_nil))) da_nil)))))))) (dss_one (ds_ret de_bl)) dss_nil)
    (dss_cons (ds_set 4 nd (de_op2 (od_addG newL_F) (de_op2 (od_addG newL_F) (de_cut newL_F (de_call (D__law_mixed T) (hr.mono (by decide)) hgd (takes_of rfl rfl rfl rfl) (da_cons (de_var 0) (da_cons (de_call (D__law_below T) (hr.mono (by decide)) hgd (takes_of rfl rfl rfl rfl) (da_cons (de_var 1) da_nil)) da_nil))) do_none (do_some de_int)) (de_cut newL_F (de_var 2) do_none (do_some de_int))) (de_lcF (own := [("one", 5)]) rfl nd (blkOk_by (by kernel_rfl)) (di_seq (de_cut newL_F (de_var 2) do_none (do_some de_int))) (fun _ _ _ _ _ => (dg_name 5 nd)) (fun _ _ _ _ _ => dts_nil) (fun _ _ _ _ _ => (de_callTy cd_toT T.f_tuple boot_tuple (da_cons (de_call (D__law_mixed T) (hr.mono (by decide)) hgd takes0 (da_cons (de_var 0) (da_cons (de_var 5) da_nil))) da_nil))))))
    (dss_one (ds_ret (de_cmp (od_eq hu) (de_lcF (own := [("one", 5)]) rfl nd (blkOk_by (by kernel_rfl)) (di_seq (de_var 4)) (fun _ _ _ _ _ => (dg_name 5 nd)) (fun _ _ _ _ _ => (dts_one (dt_cmp (od_ne hu) (de_call (D_is_nearest T) (hr.mono (by decide)) hgd takes0 (da_cons (de_var 1) (da_cons (de_var 5) da_nil))) (de_cmp (od_in hu) (de_var 5) (de_var 2) (by rfl)) (nomark _)))) (fun _ _ _ _ _ => (de_var 5))) (de_lstF da_nil) (nomark _)))))))))))
theorem sc__law_vat : FnScope ["script", "spot", "cell", "great", "seed"] ["script", "spot"] (defScope (top 24)) := ⟨rfl, rfl, rfl, by decide +kernel, rfl, by decide +kernel, by decide +kernel⟩
theorem D__law_vat (T : Txt K mg) : FnD P w K mg base "_law_vat" 1 2 m__law_vat := by
  obtain ⟨f, fd, hg, Fd⟩ := T.d__law_vat
  refine fn_mkD (k := 0) hg Fd sc__law_vat rfl rfl finN_ok (fun _ _ _ _ _ _ us hl => match us, hl with | [_, _], _ => rfl) fun cdv A outer s H E hr hgd => ?_
  have nd := sc__law_vat.nd
  have hu := room_u hr
  unfold b__law_vat
  exact (dss_cons (ds_set 2 nd (de_if (dt_cmp od_lt (de_var 1) (de_callB cd_len T.f_len boot_len (da_cons (de_var 0) da_nil)) (nomark _)) (de_ix ixd (de_var 0) (de_var 1)) (de_op2 (od_addG newL_F) (de_op2 (od_mulA newL_F) de_int (de_var 1)) de_int)))
    (dss_cons (ds_set 3 nd (de_op2 od_mod (de_callTy cd_int T.f_int boot_int (da_cons (de_callB cd_abs T.f_abs boot_abs (da_cons (de_var 2) da_nil)) da_nil)) (de_op2 od_pow (de_op2 od_pow de_int de_int) de_int)))
    (dss_cons (ds_set 4 nd (de_op2 od_mod (de_callTy cd_int T.f_int boot_int (da_cons (de_op2 (od_addG newL_F) (de_op2 (od_addG newL_F) (de_op2 (od_addG newL_F) (de_op2 (od_mulA newL_F) (de_var 3) de_int) (de_op2 (od_mulA newL_F) de_int (de_var 1))) (de_op2 (od_mulA newL_F) de_int (de_callTy cd_int T.f_int boot_int (da_cons (de_cmp od_lt (de_var 2) de_int (nomark _)) da_nil)))) de_int) da_nil)) de_int))
    (dss_one (ds_ret (de_lst (da_cons (de_callB (cd_max rfl hu) T.f_max boot_max (da_cons de_int (da_cons (de_op2 od_sub (de_var 3) (de_op2 od_pow de_int de_int)) da_nil))) (da_cons (de_var 4) (da_cons de_int da_nil)))))))))
theorem sc_law : FnScope ["script", "spot", "vat", "told"] ["script"] (defScope (top 36)) := ⟨rfl, rfl, rfl, by decide +kernel, rfl, by decide +kernel, by decide +kernel⟩
theorem G_law (T : Txt K mg) {f : Addr} {fd : FuncData} (Fd : FunD K "law" "law" (defArgs (top 36)) (defBody (top 36)) (defScope (top 36)) [] [] f fd) : FnOkG P w K mg base 8 f fd ["script"] (spD ⟨K, mg⟩ 1 m_law) := by
  refine fn_body (k := 7) Fd sc_law rfl rfl finP_ok fun cdv A outer s H E hr hgd => ?_
  have nd := sc_law.nd
  have hu := room_u hr
  unfold b_law
  exact (dss_cons (ds_for (ws := [1]) (passes_of rfl) rfl (di_range1 T.f_range (da_cons (de_callB (cd_max rfl hu) T.f_max boot_max (da_cons de_int (da_cons (de_callB (cd_min rfl hu) T.f_min boot_min (da_cons de_int (da_cons (de_callB cd_len T.f_len boot_len (da_cons (de_var 0) da_nil)) da_nil))) da_nil))) da_nil)) (dg_name 1 nd) (dss_cons (ds_set 2 nd (de_call (D__law_vat T) (hr.mono (by decide)) hgd (takes_of rfl rfl rfl rfl) (da_cons (de_var 0) (da_cons (de_var 1) da_nil))))
    (dss_one (ds_if (dt_bool (dw_or (dt_not (dt_val (de_call (D__law_small_right T) (hr.mono (by decide)) hgd (takes_of rfl rfl rfl rfl) (da_cons (de_var 2) da_nil)))) (dw_or1 (dt_not (dt_val (de_call (D__law_long_right T) (hr.mono (by decide)) hgd (takes_of rfl rfl rfl rfl) (da_cons (de_var 2) da_nil))))))) (dss_one (ds_ret de_bl)) dss_nil))))
    (dss_cons (ds_set 3 nd (de_lstF (da_cons (de_call (D_fewest_away T) (hr.mono (by decide)) hgd (takes_of rfl rfl rfl rfl) (da_cons (de_tup (da_cons de_int (da_cons de_int (da_cons de_int (da_cons de_int da_nil))))) da_nil)) (da_cons (de_call (D_fewest_away T) (hr.mono (by decide)) hgd (takes_of rfl rfl rfl rfl) (da_cons (de_tup (da_cons de_int (da_cons de_int (da_cons de_int (da_cons de_int da_nil))))) da_nil)) (da_cons (de_call (D_fewest_away T) (hr.mono (by decide)) hgd (takes_of rfl rfl rfl rfl) (da_cons (de_tup (da_cons de_int (da_cons de_int (da_cons de_int da_nil)))) da_nil)) (da_cons (de_call (D_fewest_away T) (hr.mono (by decide)) hgd (takes_of rfl rfl rfl rfl) (da_cons (de_tup (da_cons de_int (da_cons de_int (da_cons de_int da_nil)))) da_nil)) da_nil))))))
    (dss_cons (ds_set 3 nd (de_op2 (od_addG newL_F) (de_var 3) (de_lstF (da_cons (de_call (D_is_nearest T) (hr.mono (by decide)) hgd (takes_of rfl rfl rfl rfl) (da_cons (de_tup (da_cons de_int (da_cons de_int (da_cons de_int (da_cons de_int da_nil))))) (da_cons (de_tup (da_cons de_int (da_cons de_int (da_cons de_int (da_cons de_int da_nil))))) da_nil))) (da_cons (de_call (D_is_nearest T) (hr.mono (by decide)) hgd (takes_of rfl rfl rfl rfl) (da_cons (de_tup (da_cons de_int (da_cons de_int (da_cons de_int (da_cons de_int da_nil))))) (da_cons (de_tup (da_cons de_int (da_cons de_int (da_cons de_int (da_cons de_int da_nil))))) da_nil))) (da_cons (de_call (D_nearest T) (hr.mono (by decide)) hgd (takes_of rfl rfl rfl rfl) (da_cons (de_tup (da_cons de_int (da_cons de_int da_nil))) da_nil)) da_nil))))))
    (dss_cons (ds_set 3 nd (de_op2 (od_addG newL_F) (de_var 3) (de_lstF (da_cons (de_call (D_is_nearest T) (hr.mono (by decide)) hgd (takes_of rfl rfl rfl rfl) (da_cons (de_tup (da_cons de_int (da_cons de_int (da_cons de_int da_nil)))) (da_cons (de_tup (da_cons de_int (da_cons de_int (da_cons de_int da_nil)))) da_nil))) (da_cons (de_call (D_is_nearest T) (hr.mono (by decide)) hgd (takes_of rfl rfl rfl rfl) (da_cons (de_tup (da_cons de_int (da_cons de_int (da_cons de_int da_nil)))) (da_cons (de_tup (da_cons de_int (da_cons de_int (da_cons de_int da_nil)))) da_nil))) (da_cons (de_call (D_is_nearest T) (hr.mono (by decide)) hgd (takes_of rfl rfl rfl rfl) (da_cons (de_tup (da_cons de_int (da_cons de_int (da_cons de_int da_nil)))) (da_cons (de_tup (da_cons de_int (da_cons de_int (da_cons de_int da_nil)))) da_nil))) da_nil))))))
    (dss_one (ds_ret (de_cmp (od_eq hu) (de_var 3) (de_lstF (da_cons de_int (da_cons de_int (da_cons de_int (da_cons de_int (da_cons de_bl (da_cons de_bl (da_cons (de_tup (da_cons de_int (da_cons de_int da_nil))) (da_cons de_bl (da_cons de_bl (da_cons de_bl da_nil))))))))))) (nomark _))))))))
end
end DL
set_option maxHeartbeats 4000000
/-! K33M: rows, lacks, lowering: the plain law. -/
namespace K33
open DL
abbrev Row := List Int
/-- the lack at k -/
def fk (e : Row) (k : Nat) : Int := (e.take k).sum - (k : Int) * ((k : Int) - 1) - ((e.drop k).map (min (k : Int))).sum
def Mx (e : Row) : Int := ((List.range e.length).map fun i => fk e (i + 1)).foldl max 0
def fewS (s : Row) : Int := Mx s + (s.sum - Mx s) % 2
def few (d : Row) : Int := fewS (sortDn d)
abbrev Dn (s : Row) : Prop := s.Pairwise (· ≥ ·)
def Pos (s : Row) : Prop := ∀ x ∈ s, 0 ≤ x

theorem foldl_max (l : List Int) (b : Int) : b ≤ l.foldl max b ∧ (∀ x ∈ l, x ≤ l.foldl max b) ∧ (l.foldl max b = b ∨ l.foldl max b ∈ l) := by
  induction l generalizing b with
  | nil => simp
  | cons a l ih =>
    obtain ⟨h1, h2, h3⟩ := ih (max b a)
    rw [List.foldl_cons]
    refine ⟨by omega, fun x hx => ?_, ?_⟩
    · rcases List.mem_cons.mp hx with rfl | hx
      · omega
      · exact h2 x hx
    · rcases h3 with h3 | h3
      · rw [h3]
        by_cases h : a ≤ b
        · exact .inl (by omega)
        · exact .inr (by rw [show max b a = a by omega]; exact List.mem_cons_self)
      · exact .inr (List.mem_cons_of_mem _ h3)
theorem Mx_pos (e : Row) : 0 ≤ Mx e := (foldl_max _ _).1
theorem fk_zero (e : Row) : fk e 0 = -((e.map (min 0)).sum) := by
  simp [fk]
theorem le_Mx {e : Row} {k : Nat} (h0 : 1 ≤ k) (h : k ≤ e.length) : fk e k ≤ Mx e := by
  refine (foldl_max _ _).2.1 _ (List.mem_map.mpr ⟨k - 1, List.mem_range.mpr (by omega), ?_⟩)
  show fk e (k - 1 + 1) = _
  rw [Nat.sub_add_cancel h0]
theorem Mx_at (e : Row) : Mx e = 0 ∨ ∃ k, 1 ≤ k ∧ k ≤ e.length ∧ Mx e = fk e k := by
  rcases (foldl_max ((List.range e.length).map fun i => fk e (i + 1)) 0).2.2 with h | h
  · exact .inl h
  · obtain ⟨i, hi, e1⟩ := List.mem_map.mp h
    exact .inr ⟨i + 1, by omega, by have := List.mem_range.mp hi; omega, e1.symm⟩
theorem Mx_le {e : Row} {b : Int} (h0 : 0 ≤ b) (h : ∀ k, 1 ≤ k → k ≤ e.length → fk e k ≤ b) : Mx e ≤ b := by
  rcases Mx_at e with h1 | ⟨k, a, c, h1⟩
  · omega
  · rw [h1]
    exact h k a c

/-! ### one unit less at a place of a falling row -/
theorem fk_low {A B : Row} {x : Int} {k : Nat} (h : k ≤ A.length) : fk (A ++ x :: B) k = (A.take k).sum - (k : Int) * ((k : Int) - 1) - (((A.drop k).map (min (k : Int))).sum + (min (k : Int) x + (B.map (min (k : Int))).sum)) := by
  unfold fk
  rw [List.take_append_of_le_length h, List.drop_append_of_le_length h, List.map_append, List.sum_append, List.map_cons, List.sum_cons]
theorem fk_high {A B : Row} {x : Int} {k : Nat} (h : A.length < k) : fk (A ++ x :: B) k = (A.sum + (x + (B.take (k - A.length - 1)).sum)) - (k : Int) * ((k : Int) - 1) - ((B.drop (k - A.length - 1)).map (min (k : Int))).sum := by
  obtain ⟨j, rfl⟩ : ∃ j, k = A.length + (j + 1) := ⟨k - A.length - 1, by omega⟩
  have e1 : A.length + (j + 1) - A.length - 1 = j := by omega
  unfold fk
  rw [e1, List.take_length_add_append, List.drop_length_add_append, List.take_succ_cons, List.drop_succ_cons, List.sum_append, List.sum_cons]
theorem down_any {A B : Row} {x : Int} (k : Nat) : fk (A ++ x :: B) k - 1 ≤ fk (A ++ (x - 1) :: B) k := by
  by_cases h : k ≤ A.length
  · rw [fk_low h, fk_low h]
    omega
  · rw [fk_high (by omega), fk_high (by omega)]
    omega
theorem Mx_down {A B : Row} {x : Int} : Mx (A ++ x :: B) - 1 ≤ Mx (A ++ (x - 1) :: B) := by
  rcases Mx_at (A ++ x :: B) with h | ⟨k, h1, h2, h3⟩
  · have := Mx_pos (A ++ (x - 1) :: B)
    omega
  · have a := down_any (A := A) (B := B) (x := x) k
    have b : fk (A ++ (x - 1) :: B) k ≤ Mx (A ++ (x - 1) :: B) := le_Mx h1 (by
      simp only [List.length_append, List.length_cons] at h2 ⊢
      exact h2)
    omega

theorem sum_pos {s : Row} (h : Pos s) : 0 ≤ s.sum := by
  induction s with
  | nil => simp
  | cons a s ih =>
    rw [List.sum_cons]
    have := h a List.mem_cons_self
    have := ih fun x hx => h x (List.mem_cons_of_mem _ hx)
    omega
theorem sum_rep (k : Nat) (m : Int) : (List.replicate k m).sum = (k : Int) * m := by
  induction k with
  | zero => simp
  | succ k ih =>
    rw [List.replicate_succ, List.sum_cons, ih]
    grind
/-- by how much the mins grow -/
def many (Z : Row) (k : Int) : Int := (Z.map fun z => if k + 1 ≤ z then (1 : Int) else 0).sum
theorem min_succ (Z : Row) (k : Int) : (Z.map (min (k + 1))).sum = (Z.map (min k)).sum + many Z k := by
  induction Z with
  | nil => rfl
  | cons z Z ih =>
    unfold many at ih ⊢
    simp only [List.map_cons, List.sum_cons]
    rw [ih]
    by_cases h : k + 1 ≤ z
    · rw [if_pos h]
      omega
    · rw [if_neg h]
      omega
theorem min_many {Z : Row} {k : Int} (hk : 0 ≤ k) (h : Pos Z) : k * many Z k ≤ (Z.map (min k)).sum := by
  induction Z with
  | nil => simp [many]
  | cons z Z ih =>
    have i := ih fun x hx => h x (List.mem_cons_of_mem _ hx)
    have hz := h z List.mem_cons_self
    unfold many at i ⊢
    simp only [List.map_cons, List.sum_cons]
    by_cases q : k + 1 ≤ z
    · rw [if_pos q, Int.mul_add]
      omega
    · rw [if_neg q, Int.mul_add]
      omega
theorem min_all {Z : Row} {k : Int} (h : ∀ z ∈ Z, z ≤ k) : (Z.map (min k)).sum = Z.sum := by
  induction Z with
  | nil => rfl
  | cons z Z ih =>
    simp only [List.map_cons, List.sum_cons]
    rw [ih fun x hx => h x (List.mem_cons_of_mem _ hx)]
    have := h z List.mem_cons_self
    omega
theorem even_kk (k : Int) : (k * (k - 1)) % 2 = 0 := by
  rcases Int.emod_two_eq k with h | h
  · obtain ⟨q, rfl⟩ : ∃ q, k = 2 * q := ⟨k / 2, by omega⟩
    have e : 2 * q * (2 * q - 1) = 2 * (q * (2 * q - 1)) := by grind
    omega
  · obtain ⟨q, rfl⟩ : ∃ q, k = 2 * q + 1 := ⟨k / 2, by omega⟩
    have e : (2 * q + 1) * (2 * q + 1 - 1) = 2 * ((2 * q + 1) * q) := by grind
    omega
/-- the greatest entry m stands t + 1 times, or more -/
theorem down_max {t : Nat} {m : Int} {B : Row} {k : Nat} (hm : 1 ≤ m) (hB : Pos B) (hle : ∀ z ∈ B, z ≤ m) (h1 : 1 ≤ k) (h : k ≤ t) :
    (fk (List.replicate t m ++ (m - 1) :: B) k ≤ 0 ∨ fk (List.replicate t m ++ (m - 1) :: B) k ≤ fk (List.replicate t m ++ m :: B) (k + 1) - 1) ∨
      (fk (List.replicate t m ++ (m - 1) :: B) k ≤ 1 ∧ (fk (List.replicate t m ++ (m - 1) :: B) k - (List.replicate t m ++ (m - 1) :: B).sum) % 2 = 0) := by
  have hk : k ≤ (List.replicate t m).length := by simpa using h
  have eD : (List.replicate t m).drop k = List.replicate (t - k) m := by simp
  have eT : (List.replicate t m).take k = List.replicate k m := by
    rw [List.take_replicate, Nat.min_eq_left h]
  have pR : ∀ j : Nat, Pos (List.replicate j m) := fun j x hx => by
    have := List.eq_of_mem_replicate hx
    omega
  by_cases q : (k : Int) < m
  · left
    rw [fk_low hk, eD, eT, sum_rep]
    -- the rest behind the next one
    have e2 : List.replicate t m ++ m :: B = List.replicate k m ++ (m :: (List.replicate (t - k) m ++ B)) := by
      have : List.replicate t m ++ m :: B = List.replicate (t + 1) m ++ B := by
        rw [List.replicate_succ', List.append_assoc]
        rfl
      rw [this]
      have e3 : t + 1 = k + (1 + (t - k)) := by omega
      rw [e3, ← List.replicate_append_replicate, ← List.replicate_append_replicate, List.append_assoc, List.append_assoc]
      rfl
    have e4 : fk (List.replicate t m ++ m :: B) (k + 1) = ((k : Int) * m + m) - ((k : Int) + 1) * (k : Int) - ((List.replicate (t - k) m ++ B).map (min ((k : Int) + 1))).sum := by
      rw [e2, fk_high (by simp)]
      have e5 : k + 1 - (List.replicate k m).length - 1 = 0 := by simp
      rw [e5, List.take_zero, List.drop_zero, sum_rep, List.sum_nil]
      have e6 : ((k + 1 : Nat) : Int) = (k : Int) + 1 := by omega
      rw [e6]
      grind
    rw [e4, min_succ]
    have e7 : ((List.replicate (t - k) m).map (min (k : Int))).sum + (min (k : Int) (m - 1) + (B.map (min (k : Int))).sum) = (k : Int) + ((List.replicate (t - k) m ++ B).map (min (k : Int))).sum := by
      rw [List.map_append, List.sum_append]
      omega
    rw [e7]
    have pZ : Pos (List.replicate (t - k) m ++ B) := fun x hx => by
      rcases List.mem_append.mp hx with hx | hx
      · exact pR _ x hx
      · exact hB x hx
    have b1 := min_many (k := (k : Int)) (by omega) pZ
    generalize many (List.replicate (t - k) m ++ B) (k : Int) = c at b1 ⊢
    generalize ((List.replicate (t - k) m ++ B).map (min (k : Int))).sum = s at b1 ⊢
    by_cases hc : c ≤ m - (k : Int) - 1
    · right
      grind
    · left
      have b2 : (k : Int) * (m - k) ≤ k * c := Int.mul_le_mul_of_nonneg_left (by omega) (by omega)
      grind
  · right
    have eS : (List.replicate t m ++ (m - 1) :: B).sum = (t : Int) * m + ((m - 1) + B.sum) := by
      rw [List.sum_append, sum_rep, List.sum_cons]
    rw [fk_low hk, eD, eT, sum_rep, eS]
    have e8 : ((List.replicate (t - k) m).map (min (k : Int))).sum = ((t : Int) - k) * m := by
      rw [min_all fun z hz => by have := List.eq_of_mem_replicate hz; omega, sum_rep]
      congr 1
      omega
    have e9 : (B.map (min (k : Int))).sum = B.sum := min_all fun z hz => by have := hle z hz; omega
    rw [e8, e9, show min (k : Int) (m - 1) = m - 1 by omega]
    have hB0 := sum_pos hB
    have b3 : 0 ≤ ((k : Int) - 1) * ((k : Int) - m) := Int.mul_nonneg (by omega) (by omega)
    have b4 : 0 ≤ ((t : Int) - k) * m := Int.mul_nonneg (by omega) (by omega)
    have b5 := even_kk (k : Int)
    refine ⟨by grind, ?_⟩
    have e10 : (k : Int) * m - (k : Int) * ((k : Int) - 1) - (((t : Int) - k) * m + (m - 1 + B.sum)) - ((t : Int) * m + (m - 1 + B.sum)) = 2 * (-(((t : Int) - k) * m) - (m - 1 + B.sum)) - (k : Int) * ((k : Int) - 1) := by grind
    rw [e10]
    omega
theorem fewS_pos (s : Row) : 0 ≤ fewS s := by
  have := Mx_pos s
  unfold fewS
  omega
/-- a unit less at the greatest entry -/
theorem few_down {t : Nat} {m : Int} {B : Row} (hm : 1 ≤ m) (hB : Pos B) (hle : ∀ z ∈ B, z ≤ m) (h : 1 ≤ fewS (List.replicate t m ++ m :: B)) : fewS (List.replicate t m ++ (m - 1) :: B) ≤ fewS (List.replicate t m ++ m :: B) - 1 := by
  have eS : (List.replicate t m ++ (m - 1) :: B).sum = (List.replicate t m ++ m :: B).sum - 1 := by
    rw [List.sum_append, List.sum_append, List.sum_cons, List.sum_cons]
    omega
  have key : Mx (List.replicate t m ++ (m - 1) :: B) ≤ fewS (List.replicate t m ++ m :: B) - 1 := by
    refine Mx_le (by omega) fun k h1 h2 => ?_
    have hMd := Mx_pos (List.replicate t m ++ m :: B)
    by_cases hk : k ≤ t
    · rcases down_max hm hB hle h1 hk with (c | c) | ⟨c1, c2⟩
      · omega
      · have a : fk (List.replicate t m ++ m :: B) (k + 1) ≤ Mx (List.replicate t m ++ m :: B) := le_Mx (by omega) (by simp; omega)
        unfold fewS at h ⊢
        omega
      · unfold fewS at h ⊢
        omega
    · have e1 : fk (List.replicate t m ++ (m - 1) :: B) k = fk (List.replicate t m ++ m :: B) k - 1 := by
        rw [fk_high (by simp; omega), fk_high (by simp; omega)]
        omega
      have a : fk (List.replicate t m ++ m :: B) k ≤ Mx (List.replicate t m ++ m :: B) := le_Mx h1 (by
        simp only [List.length_append, List.length_cons] at h2 ⊢
        exact h2)
      unfold fewS at h ⊢
      omega
  unfold fewS at key h ⊢
  omega

/-! ### sorted rows -/
theorem sortDn_perm (d : Row) : (sortDn d).Perm d := (List.reverse_perm _).trans (List.mergeSort_perm _ _)
theorem sortDn_dn (d : Row) : Dn (sortDn d) := by
  unfold sortDn sortUp Dn
  rw [List.pairwise_reverse]
  have h := List.pairwise_mergeSort (le := fun x y : Int => decide (x ≤ y)) (fun a b c h1 h2 => by simp only [decide_eq_true_eq] at h1 h2 ⊢; omega) (fun a b => by
    simp only [Bool.or_eq_true, decide_eq_true_eq]
    omega) d
  exact h.imp fun {a b} h => by simpa using h
theorem sortDn_uniq {a d : Row} (p : a.Perm d) (h : Dn a) : a = sortDn d := sortBy_eq (b := true) p h
theorem sortDn_sum (d : Row) : (sortDn d).sum = d.sum := by
  have h : ∀ {a b : Row}, a.Perm b → a.sum = b.sum := fun p => by
    induction p with
    | nil => rfl
    | cons x _ ih => rw [List.sum_cons, List.sum_cons, ih]
    | swap x y l =>
      simp only [List.sum_cons]
      omega
    | trans _ _ h1 h2 => exact h1.trans h2
  exact h (sortDn_perm d)
theorem last_at {s : Row} {x : Int} (h : Dn s) (hx : x ∈ s) : ∃ A B, s = A ++ x :: B ∧ (∀ a ∈ A, x ≤ a) ∧ ∀ b ∈ B, b ≤ x - 1 := by
  induction s with
  | nil => cases hx
  | cons y s ih =>
    have h1 := List.pairwise_cons.mp h
    by_cases q : x ∈ s
    · obtain ⟨A, B, e, h2, h3⟩ := ih h1.2 q
      refine ⟨y :: A, B, by rw [e]; rfl, fun a ha => ?_, h3⟩
      rcases List.mem_cons.mp ha with rfl | ha
      · exact h1.1 x q
      · exact h2 a ha
    · rcases List.mem_cons.mp hx with rfl | hx
      · refine ⟨[], s, rfl, fun a ha => absurd ha List.not_mem_nil, fun b hb => ?_⟩
        have := h1.1 b hb
        have ne : b ≠ x := fun z => q (z ▸ hb)
        omega
      · exact absurd hx q
theorem set_split (d : Row) (i : Nat) (hi : i < d.length) (v : Int) : d = d.take i ++ d[i] :: d.drop (i + 1) ∧ d.set i v = d.take i ++ v :: d.drop (i + 1) := by
  refine ⟨?_, ?_⟩
  · rw [List.getElem_cons_drop, List.take_append_drop]
  · rw [List.set_eq_take_append_cons_drop, if_pos hi]
theorem unit_sorted {d : Row} {i : Nat} (hi : i < d.length) : ∃ A B, sortDn d = A ++ d[i] :: B ∧ sortDn (d.set i (d[i] - 1)) = A ++ (d[i] - 1) :: B ∧ (∀ a ∈ A, d[i] ≤ a) ∧ ∀ b ∈ B, b ≤ d[i] - 1 := by
  obtain ⟨A, B, e, h1, h2⟩ := last_at (sortDn_dn d) ((sortDn_perm d).mem_iff.mpr (List.getElem_mem hi))
  refine ⟨A, B, e, ?_, h1, h2⟩
  have hd := sortDn_dn d
  rw [e] at hd
  obtain ⟨s1, s2⟩ := set_split d i hi (d[i] - 1)
  symm
  refine sortDn_uniq ?_ ?_
  · rw [s2]
    have p : (A ++ d[i] :: B).Perm (d.take i ++ d[i] :: d.drop (i + 1)) := by
      rw [← e, ← s1]
      exact sortDn_perm d
    have p2 : (d[i] :: (A ++ B)).Perm (d[i] :: (d.take i ++ d.drop (i + 1))) := List.perm_middle.symm.trans (p.trans List.perm_middle)
    have p3 := (List.perm_cons _).mp p2
    exact List.perm_middle.trans ((p3.cons _).trans List.perm_middle.symm)
  · have q := List.pairwise_append.mp hd
    have q2 := List.pairwise_cons.mp q.2.1
    refine List.pairwise_append.mpr ⟨q.1, List.pairwise_cons.mpr ⟨fun b hb => ?_, q2.2⟩, fun a ha b hb => ?_⟩
    · have := h2 b hb
      omega
    · have h3 := h1 a ha
      rcases List.mem_cons.mp hb with rfl | hb
      · omega
      · have := h2 b hb
        omega
theorem set_sum {d : Row} {i : Nat} (hi : i < d.length) (v : Int) : (d.set i v).sum = d.sum - d[i] + v := by
  obtain ⟨s1, s2⟩ := set_split d i hi v
  have e : d.sum = (d.take i ++ d[i] :: d.drop (i + 1)).sum := congrArg List.sum s1
  rw [s2, e, List.sum_append, List.sum_append, List.sum_cons, List.sum_cons]
  omega
theorem few_pos (d : Row) : 0 ≤ few d := fewS_pos _
theorem Pos_sort {d : Row} (h : Pos d) : Pos (sortDn d) := fun x hx => h x ((sortDn_perm d).mem_iff.mp hx)
/-- a unit less at a greatest entry -/
theorem few_step {d : Row} {i : Nat} (hi : i < d.length) (hp : Pos d) (hm : ∀ x ∈ d, x ≤ d[i]) (h1 : 1 ≤ d[i]) (h : 1 ≤ few d) : few (d.set i (d[i] - 1)) ≤ few d - 1 := by
  obtain ⟨A, B, e1, e2, hA, hB⟩ := unit_sorted hi
  have pS := Pos_sort hp
  have mS : ∀ x ∈ sortDn d, x ≤ d[i] := fun x hx => hm x ((sortDn_perm d).mem_iff.mp hx)
  rw [e1] at pS mS
  have eA : A = List.replicate A.length d[i] := List.eq_replicate_iff.mpr ⟨rfl, fun a ha => by
    have := hA a ha
    have := mS a (List.mem_append_left _ ha)
    omega⟩
  unfold few at h ⊢
  rw [e1] at h ⊢
  rw [e2]
  rw [eA] at h ⊢
  exact few_down h1 (fun x hx => pS x (List.mem_append_right _ (List.mem_cons_of_mem _ hx))) (fun z hz => by have := hB z hz; omega) h
/-- all entries 0: nothing lacks -/
theorem few_zero {d : Row} (h : ∀ x ∈ d, x = 0) : few d = 0 := by
  have hz : ∀ x ∈ sortDn d, x = 0 := fun x hx => h x ((sortDn_perm d).mem_iff.mp hx)
  have s0 : ∀ {s : Row}, (∀ x ∈ s, x = 0) → s.sum = 0 := fun {s} hs => by
    induction s with
    | nil => rfl
    | cons a s ih =>
      rw [List.sum_cons, hs a List.mem_cons_self, ih fun x hx => hs x (List.mem_cons_of_mem _ hx)]
      rfl
  have hM : Mx (sortDn d) = 0 := by
    have h1 := Mx_pos (sortDn d)
    have h2 : Mx (sortDn d) ≤ 0 := Mx_le (Int.le_refl 0) fun k hk1 hk2 => by
      unfold fk
      rw [s0 fun x hx => hz x (List.mem_of_mem_take hx)]
      have h3 : (((sortDn d).drop k).map (min (k : Int))).sum = 0 := s0 fun x hx => by
        obtain ⟨y, hy, rfl⟩ := List.mem_map.mp hx
        rw [hz y (List.mem_of_mem_drop hy)]
        omega
      rw [h3]
      have : 0 ≤ (k : Int) * ((k : Int) - 1) := Int.mul_nonneg (by omega) (by omega)
      omega
    omega
  unfold few fewS
  rw [hM, s0 hz]
  rfl
theorem few_one {d : Row} (hp : Pos d) (h : 1 ≤ few d) {m : Int} (hm : ∀ x ∈ d, x ≤ m) : 1 ≤ m := by
  apply Classical.byContradiction
  intro q
  rw [few_zero fun x hx => by
    have := hp x hx
    have := hm x hx
    omega] at h
  omega
/-- the parity of few is the sum's -/
theorem few_par (d : Row) : (few d - d.sum) % 2 = 0 := by
  unfold few fewS
  rw [sortDn_sum]
  omega

/-! ### nothing nearer is possible -/
def Le (v d : Row) : Prop := v.length = d.length ∧ ∀ i : Nat, ∀ x y : Int, v[i]? = some x → d[i]? = some y → x ≤ y
theorem sum_le : ∀ {v d : Row}, Le v d → v.sum ≤ d.sum ∧ (v.sum = d.sum → v = d)
  | [], [], _ => ⟨Int.le_refl _, fun _ => rfl⟩
  | [], _ :: _, h => by have := h.1; simp at this
  | _ :: _, [], h => by have := h.1; simp at this
  | x :: v, y :: d, h => by
    have h0 := h.2 0 x y rfl rfl
    obtain ⟨a, b⟩ := sum_le (v := v) (d := d) ⟨by have := h.1; simpa using this, fun i p q e1 e2 => h.2 (i + 1) p q (by simpa using e1) (by simpa using e2)⟩
    rw [List.sum_cons, List.sum_cons]
    refine ⟨by omega, fun e => ?_⟩
    have e1 : x = y := by omega
    rw [e1, b (by omega)]
theorem lt_at : ∀ {v d : Row}, Le v d → v ≠ d → ∃ i : Nat, ∃ x y : Int, v[i]? = some x ∧ d[i]? = some y ∧ x < y
  | [], [], _, n => absurd rfl n
  | [], _ :: _, h, _ => by have := h.1; simp at this
  | _ :: _, [], h, _ => by have := h.1; simp at this
  | x :: v, y :: d, h, n => by
    have h0 := h.2 0 x y rfl rfl
    by_cases e : x = y
    · have n2 : v ≠ d := fun z => n (by rw [e, z])
      obtain ⟨i, p, q, a, b, c⟩ := lt_at (v := v) (d := d) ⟨by have := h.1; simpa using this, fun i p q e1 e2 => h.2 (i + 1) p q (by simpa using e1) (by simpa using e2)⟩ n2
      exact ⟨i + 1, p, q, by simpa using a, by simpa using b, c⟩
    · exact ⟨0, x, y, rfl, rfl, by omega⟩
theorem Mx_low : ∀ (n : Nat) {v d : Row}, Le v d → (d.sum - v.sum).toNat = n → Mx (sortDn d) - (d.sum - v.sum) ≤ Mx (sortDn v)
  | 0, v, d, h, e => by
    obtain ⟨a, b⟩ := sum_le h
    rw [b (by omega)]
    omega
  | n + 1, v, d, h, e => by
    have hne : v ≠ d := fun z => by
      rw [z] at e
      simp at e
    obtain ⟨i, x, y, e1, e2, lt⟩ := lt_at h hne
    obtain ⟨hi, ey⟩ := List.getElem?_eq_some_iff.mp e2
    obtain ⟨A, B, s1, s2, _, _⟩ := unit_sorted hi
    have hs := set_sum hi (d[i] - 1)
    have ih := Mx_low n (v := v) (d := d.set i (d[i] - 1)) ⟨by rw [List.length_set]; exact h.1, fun j p q h1 h2 => by
      by_cases hj : i = j
      · subst hj
        rw [List.getElem?_set_self hi] at h2
        rw [e1] at h1
        cases h1
        cases h2
        omega
      · rw [List.getElem?_set_ne hj] at h2
        exact h.2 j p q h1 h2⟩ (by rw [hs]; omega)
    rw [hs, s2] at ih
    rw [s1]
    have := Mx_down (A := A) (B := B) (x := d[i])
    omega
theorem few_low {v d : Row} (h : Le v d) (h0 : Mx (sortDn v) = 0) (he : v.sum % 2 = 0) : few d ≤ d.sum - v.sum := by
  have a := Mx_low _ h rfl
  have b := (sum_le h).1
  unfold few fewS
  rw [sortDn_sum]
  omega

/-! ### lowered to a level -/
def Cap (d e : Row) (low : Int) : Prop := e.length = d.length ∧ ∀ i : Nat, ∀ x y : Int, d[i]? = some x → e[i]? = some y → (x ≤ low → y = x) ∧ (low < x → y = low ∨ y = low + 1)
theorem Cap.le {d e : Row} {low : Int} (h : Cap d e low) : Le e d := ⟨h.1, fun i x y e1 e2 => by
  have := h.2 i y x e2 e1
  by_cases q : y ≤ low
  · have := this.1 q
    omega
  · have := this.2 (by omega)
    omega⟩
theorem few_nil {v : Row} (h : few v = 0) : Mx (sortDn v) = 0 ∧ v.sum % 2 = 0 := by
  have a := Mx_pos (sortDn v)
  unfold few fewS at h
  rw [sortDn_sum] at h
  omega
theorem few_possible {v : Row} (h : Mx (sortDn v) = 0) (h2 : v.sum % 2 = 0) : few v = 0 := by
  unfold few fewS
  rw [sortDn_sum, h]
  omega
theorem mem_at {d : Row} {x : Int} (h : x ∈ d) : ∃ i : Nat, d[i]? = some x := by
  obtain ⟨i, hi, e⟩ := List.getElem_of_mem h
  exact ⟨i, by rw [List.getElem?_eq_getElem hi, e]⟩
theorem cap_few : ∀ (t : Nat) {d e : Row} {low : Int}, 0 ≤ low → Pos d → Cap d e low → d.sum - e.sum = t → (t : Int) ≤ few d → few e ≤ few d - t
  | 0, d, e, low, _, _, h, es, _ => by
    obtain ⟨a, b⟩ := sum_le h.le
    rw [b (by omega)]
    omega
  | t + 1, d, e, low, hl, hp, h, es, hf => by
    -- where an entry stands at the level itself
    have main : ∀ low : Int, 0 ≤ low → Cap d e low → (∃ i : Nat, ∃ x : Int, d[i]? = some x ∧ low < x ∧ e[i]? = some low) → few e ≤ few d - ((t + 1 : Nat) : Int) := by
      intro low hl h ⟨i, x, e1, lt, e2⟩
      obtain ⟨hi, ey⟩ := List.getElem?_eq_some_iff.mp e2
      have hs := set_sum hi (low + 1)
      have hC : Cap d (e.set i (low + 1)) low := ⟨by rw [List.length_set]; exact h.1, fun j p q h1 h2 => by
        by_cases hj : i = j
        · subst hj
          rw [List.getElem?_set_self hi] at h2
          rw [e1] at h1
          cases h1
          cases h2
          exact ⟨fun z => by omega, fun _ => .inr rfl⟩
        · rw [List.getElem?_set_ne hj] at h2
          exact h.2 j p q h1 h2⟩
      have ih := cap_few t hl hp hC (by rw [hs, ey]; omega) (by omega)
      have hi' : i < (e.set i (low + 1)).length := by rw [List.length_set]; exact hi
      have g : (e.set i (low + 1))[i] = low + 1 := List.getElem_set_self hi'
      have back : (e.set i (low + 1)).set i ((e.set i (low + 1))[i] - 1) = e := by
        rw [g, List.set_set, show low + 1 - 1 = e[i] by rw [ey]; omega, List.set_getElem_self]
      have hpe : Pos (e.set i (low + 1)) := fun y hy => by
        obtain ⟨j, ej⟩ := mem_at hy
        have hjd : j < d.length := by
          rw [← hC.1]
          exact (List.getElem?_eq_some_iff.mp ej).1
        have c := hC.2 j d[j] y (List.getElem?_eq_getElem hjd) ej
        have := hp d[j] (List.getElem_mem hjd)
        by_cases q : d[j] ≤ low
        · rw [c.1 q]
          exact this
        · have := c.2 (by omega)
          omega
      have hmx : ∀ y ∈ e.set i (low + 1), y ≤ (e.set i (low + 1))[i] := fun y hy => by
        rw [g]
        obtain ⟨j, ej⟩ := mem_at hy
        have hjd : j < d.length := by
          rw [← hC.1]
          exact (List.getElem?_eq_some_iff.mp ej).1
        have c := hC.2 j d[j] y (List.getElem?_eq_getElem hjd) ej
        by_cases q : d[j] ≤ low
        · rw [c.1 q]
          omega
        · have := c.2 (by omega)
          omega
      by_cases z : 1 ≤ few (e.set i (low + 1))
      · have k := few_step hi' hpe hmx (by omega) z
        rw [back] at k
        omega
      · have z0 : few (e.set i (low + 1)) = 0 := by
          have := few_pos (e.set i (low + 1))
          omega
        obtain ⟨m0, p0⟩ := few_nil z0
        have := few_low hC.le m0 p0
        rw [hs, ey] at this
        omega
    have hne : e ≠ d := fun z => by
      rw [z] at es
      omega
    obtain ⟨i, y, x, e1, e2, lt⟩ := lt_at h.le hne
    have c := h.2 i x y e2 e1
    have hx : low < x := by
      apply Classical.byContradiction
      intro q
      have := c.1 (by omega)
      omega
    rcases c.2 hx with rfl | rfl
    · exact main y hl h ⟨i, x, e2, hx, e1⟩
    · by_cases q : ∃ i : Nat, ∃ x : Int, d[i]? = some x ∧ low < x ∧ e[i]? = some low
      · exact main low hl h q
      · refine main (low + 1) (by omega) ⟨h.1, fun j p r h1 h2 => ?_⟩ ⟨i, x, e2, lt, e1⟩
        have cj := h.2 j p r h1 h2
        refine ⟨fun hp => ?_, fun hp => ?_⟩
        · by_cases s : p ≤ low
          · exact cj.1 s
          · rcases cj.2 (by omega) with rfl | rfl
            · exact absurd ⟨j, p, h1, by omega, h2⟩ q
            · omega
        · rcases cj.2 (by omega) with rfl | rfl
          · exact absurd ⟨j, p, h1, by omega, h2⟩ q
          · exact .inl rfl
/-- what lowering by few gives -/
theorem cap_possible {d e : Row} {low : Int} (hl : 0 ≤ low) (hp : Pos d) (h : Cap d e low) (es : d.sum - e.sum = few d) : few e = 0 := by
  have a := few_pos d
  have b := few_pos e
  have c := cap_few (few d).toNat hl hp h (by omega) (by omega)
  omega
end K33
set_option maxHeartbeats 4000000
namespace DL
open PySem PySem.Spec PyProof.Rows L2
open K33 (fk Mx few fewS Row)
section
variable {S : Store} {ns : List Int} {d : D}
theorem p_falling (hd : d.seq? S = some (dInts ns)) (hl : ns.length ≤ 1000) : m_falling [d] S = .ok (tI (sortDn ns)) S := by
  refine fn_pure0 (x := .tup ((sortDn ns).map P.int)) ?_
  unfold b_falling
  simp only [r_ok, r_c, r_op2, r_op1, r_nil, r_cons, r_callB, r_call, r_and, r_or, r_not, r_asB, r_if, r_andT, r_orT, r_notT, r_test, r_chain, r_seq, r_nx, r_rt, r_bk, r_ct, r_next, r_break, r_cont, r_drop, r_ret, r_retN, r_asg, r_aug, r_ifS, r_par, r_sl, r_noPart, r_part, r_asInt, r_put, r_for, r_src, r_srcA, r_comp, r_meth, r_oNx, r_oCt, r_oBk, r_oRt, r_yes, r_var', r_lift', List.getElem?_cons_zero, List.getElem?_cons_succ, List.set_cons_zero, List.set_cons_succ, o_add, o_addI, o_sub, o_neg, o_lt, o_le, o_gt, o_ge, o_eq, o_ne, o_int, o_intB, o_abs, o_max, o_min, r_env, List.map_cons, List.map_nil, List.length_cons, List.length_nil, Nat.zero_add, Nat.reduceAdd, Nat.reduceSub, List.replicate_succ, List.replicate_zero, List.cons_append, List.nil_append, Bool.false_eq_true, if_true, if_false, gPar, List.zip_cons_cons, List.zip_nil_right, List.zip_nil_left, List.foldl_cons, List.foldl_nil, unsetE, f_srt (b := true) hd (by omega : ns.length ≤ 100000), f_toT_l]
  rfl
def pm (s : List Int) (j : Nat) : Int := ((List.range j).map fun i => fk s (i + 1)).foldl max 0
theorem pm_succ (s : List Int) (j : Nat) : pm s (j + 1) = max (pm s j) (fk s (j + 1)) := by
  unfold pm
  rw [List.range_succ, List.map_append, List.foldl_append]
  rfl
theorem bits_small {i : Int} (h : i.natAbs ≤ 1000000000000) : bitsB 400000 i = true := by
  refine bits_of (Nat.lt_of_le_of_lt h ?_) (by decide)
  exact Nat.lt_of_lt_of_le (show 1000000000000 < 2 ^ 40 by decide) (Nat.pow_le_pow_right (by decide) (by decide))
theorem tI_lst : (tI ns).lst? S = none := rfl
theorem step_heaviest {s : List Int} {j : Nat} (hj : j < s.length) (hl : s.length ≤ 1000) {b sz tt : Int} {z4 z5 z6 z7 : Option D} (ht : tt = (s.take j).sum) :
    ∃ sz' z7', lb_heaviest [some d, some (tI s), some (.p (.tup [.int b, .int sz])), some (.p (.int tt)), some (.p (.int j)), some (.p (.int s[j])), z6, z7, none] S =
      .ok (.nx [some d, some (tI s), some (.p (.tup [.int (max b (fk s (j + 1))), .int sz'])), some (.p (.int (s.take (j + 1)).sum)), some (.p (.int j)), some (.p (.int s[j])), some (.p (.int (j + 1))), some z7', none]) S := by
  have c1 : compI [] (gNm 8) mYes ce_heaviest [some d, some (tI s), some (.p (.tup [.int b, .int sz])), some (.p (.int (tt + s[j]))), some (.p (.int j)), some (.p (.int s[j])), some (.p (.int (j + 1))), z7, none] [] (dInts (s.drop (j + 1))) S = .ok (dInts ((s.drop (j + 1)).map (min ((j + 1 : Nat) : Int)))) S := by
    refine compI_ints rfl _ (by simp; omega) fun i hi => ⟨_, rfl, ?_⟩
    unfold ce_heaviest
    simp only [r_ok, r_c, r_op2, r_op1, r_nil, r_cons, r_callB, r_call, r_and, r_or, r_not, r_asB, r_if, r_andT, r_orT, r_notT, r_test, r_chain, r_seq, r_nx, r_rt, r_bk, r_ct, r_next, r_break, r_cont, r_drop, r_ret, r_retN, r_asg, r_aug, r_ifS, r_par, r_sl, r_noPart, r_part, r_asInt, r_put, r_for, r_src, r_srcA, r_comp, r_meth, r_oNx, r_oCt, r_oBk, r_oRt, r_yes, r_var', r_lift', List.getElem?_cons_zero, List.getElem?_cons_succ, List.set_cons_zero, List.set_cons_succ, o_add, o_addI, o_sub, o_neg, o_lt, o_le, o_gt, o_ge, o_eq, o_ne, o_int, o_intB, o_abs, o_max, o_min, r_env, List.map_cons, List.map_nil, List.length_cons, List.length_nil, Nat.zero_add, Nat.reduceAdd, Nat.reduceSub, List.replicate_succ, List.replicate_zero, List.cons_append, List.nil_append, Bool.false_eq_true, if_true, if_false, gPar, List.zip_cons_cons, List.zip_nil_right, List.zip_nil_left, List.foldl_cons, List.foldl_nil, unsetE]
    rfl
  have c2 : fCut fLstF (tI s) (some ((j : Int) + 1)) none S = some (tI (s.drop (j + 1)), S) := by
    have e : ((j : Int) + 1) = ((j + 1 : Nat) : Int) := by omega
    rw [e, o_cutT tI_tup (by rw [sIx_from, dInts_len]; omega), cut_from, dInts_drop, mkTup_dInts]
  have hm : fMulA fLstF (.p (.int ((j : Int) + 1))) (.p (.int j)) S = some (.p (.int (((j : Int) + 1) * j)), S) := o_mul (bits_small (by omega)) (bits_small (by omega))
  have c3 : fLstF (dInts ((s.drop (j + 1)).map (min ((j + 1 : Nat) : Int)))) S = some (lI ((s.drop (j + 1)).map (min ((j + 1 : Nat) : Int))), S) := f_lstF (by simp; omega)
  have c4 : ∀ x : Int, fIx (.p (.tup [.int b, .int x])) (.p (.int 0)) S = some (.p (.int b), S) := fun x => rfl
  have c5 : ∀ x y : Int, fTup [.p (.int x), .p (.int y)] S = some (.p (.tup [.int x, .int y]), S) := fun x y => rfl
  have e1 : tt + s[j] = (s.take (j + 1)).sum := by
    rw [ht, List.take_succ_eq_append_getElem hj, List.sum_append]
    simp
  have e2 : tt + s[j] - ((j : Int) + 1) * j - ((s.drop (j + 1)).map (min ((j + 1 : Nat) : Int))).sum = fk s (j + 1) := by
    unfold fk
    rw [e1]
    have : (((j + 1 : Nat) : Int)) * (((j + 1 : Nat) : Int) - 1) = ((j : Int) + 1) * j := by
      have a : ((j + 1 : Nat) : Int) = (j : Int) + 1 := by omega
      rw [a]
      grind
    omega
  have e3 : ((j + 1 : Nat) : Int) = (j : Int) + 1 := by omega
  rw [e3] at c1 c3 e2
  rw [e1] at c1 e2
  unfold lb_heaviest
  simp only [r_ok, r_c, r_op2, r_op1, r_nil, r_cons, r_callB, r_call, r_and, r_or, r_not, r_asB, r_if, r_andT, r_orT, r_notT, r_test, r_chain, r_seq, r_nx, r_rt, r_bk, r_ct, r_next, r_break, r_cont, r_drop, r_ret, r_retN, r_asg, r_aug, r_ifS, r_par, r_sl, r_noPart, r_part, r_asInt, r_put, r_for, r_src, r_srcA, r_comp, r_meth, r_oNx, r_oCt, r_oBk, r_oRt, r_yes, r_var', r_lift', List.getElem?_cons_zero, List.getElem?_cons_succ, List.set_cons_zero, List.set_cons_succ, o_add, o_addI, o_sub, o_neg, o_lt, o_le, o_gt, o_ge, o_eq, o_ne, o_int, o_intB, o_abs, o_max, o_min, r_env, List.map_cons, List.map_nil, List.length_cons, List.length_nil, Nat.zero_add, Nat.reduceAdd, Nat.reduceSub, List.replicate_succ, List.replicate_zero, List.cons_append, List.nil_append, Bool.false_eq_true, if_true, if_false, gPar, List.zip_cons_cons, List.zip_nil_right, List.zip_nil_left, List.foldl_cons, List.foldl_nil, unsetE, c2, o_srcT tI_tup, c1, hm, c3, f_sum lI_seq, c4, c5, e2, e1]
  by_cases q : b < fk s (j + 1)
  · simp only [q, decide_true, r_ok, r_c, r_op2, r_op1, r_nil, r_cons, r_callB, r_call, r_and, r_or, r_not, r_asB, r_if, r_andT, r_orT, r_notT, r_test, r_chain, r_seq, r_nx, r_rt, r_bk, r_ct, r_next, r_break, r_cont, r_drop, r_ret, r_retN, r_asg, r_aug, r_ifS, r_par, r_sl, r_noPart, r_part, r_asInt, r_put, r_for, r_src, r_srcA, r_comp, r_meth, r_oNx, r_oCt, r_oBk, r_oRt, r_yes, r_var', r_lift', List.getElem?_cons_zero, List.getElem?_cons_succ, List.set_cons_zero, List.set_cons_succ, o_add, o_addI, o_sub, o_neg, o_lt, o_le, o_gt, o_ge, o_eq, o_ne, o_int, o_intB, o_abs, o_max, o_min, r_env, List.map_cons, List.map_nil, List.length_cons, List.length_nil, Nat.zero_add, Nat.reduceAdd, Nat.reduceSub, List.replicate_succ, List.replicate_zero, List.cons_append, List.nil_append, Bool.false_eq_true, if_true, if_false, gPar, List.zip_cons_cons, List.zip_nil_right, List.zip_nil_left, List.foldl_cons, List.foldl_nil, unsetE, c5]
    exact ⟨_, _, by rw [show max b (fk s (j + 1)) = fk s (j + 1) by omega]⟩
  · simp only [q, decide_false, r_ok, r_c, r_op2, r_op1, r_nil, r_cons, r_callB, r_call, r_and, r_or, r_not, r_asB, r_if, r_andT, r_orT, r_notT, r_test, r_chain, r_seq, r_nx, r_rt, r_bk, r_ct, r_next, r_break, r_cont, r_drop, r_ret, r_retN, r_asg, r_aug, r_ifS, r_par, r_sl, r_noPart, r_part, r_asInt, r_put, r_for, r_src, r_srcA, r_comp, r_meth, r_oNx, r_oCt, r_oBk, r_oRt, r_yes, r_var', r_lift', List.getElem?_cons_zero, List.getElem?_cons_succ, List.set_cons_zero, List.set_cons_succ, o_add, o_addI, o_sub, o_neg, o_lt, o_le, o_gt, o_ge, o_eq, o_ne, o_int, o_intB, o_abs, o_max, o_min, r_env, List.map_cons, List.map_nil, List.length_cons, List.length_nil, Nat.zero_add, Nat.reduceAdd, Nat.reduceSub, List.replicate_succ, List.replicate_zero, List.cons_append, List.nil_append, Bool.false_eq_true, if_true, if_false, gPar, List.zip_cons_cons, List.zip_nil_right, List.zip_nil_left, List.foldl_cons, List.foldl_nil, unsetE]
    exact ⟨_, _, by rw [show max b (fk s (j + 1)) = b by omega]⟩
theorem enumD_drop {s : List Int} {j : Nat} (hj : j < s.length) : (enumD (dInts s)).drop j = .p (.tup [.int j, .int s[j]]) :: (enumD (dInts s)).drop (j + 1) := by
  have hl : j < (enumD (dInts s)).length := by
    rw [@enumD_len ⟨[]⟩, dInts_len]
    exact hj
  rw [List.drop_eq_getElem_cons hl]
  congr 1
  obtain ⟨x, h1, h2⟩ := @enumD_get ⟨[]⟩ _ _ _ (List.getElem?_eq_getElem hl)
  rw [h2]
  have e : (dInts s)[j]? = some (.p (.int s[j])) := by
    unfold dInts
    rw [List.getElem?_map, List.getElem?_eq_getElem hj]
    rfl
  rw [e] at h1
  cases h1
  rfl
theorem p_heaviest (hd : d.seq? S = some (dInts ns)) (hl : ns.length ≤ 1000) : ∃ sz, m_heaviest [d] S = .ok (.p (.tup [.int (Mx (sortDn ns)), .int sz])) S := by
  have hn : (sortDn ns).length = ns.length := (K33.sortDn_perm ns).length_eq
  have f := p_falling hd hl
  generalize hs : sortDn ns = s at f hn
  have loop := loopI_inv (w := []) (g := gTp 2 (gsCons (gNm 4) (gsCons (gNm 5) gsNil))) (b := lb_heaviest)
    (I := fun rem ρ S' => S' = S ∧ ∃ j, j ≤ s.length ∧ rem = (enumD (dInts s)).drop j ∧ ∃ sz z4 z5 z6 z7, ρ = [some d, some (tI s), some (.p (.tup [.int (pm s j), .int sz])), some (.p (.int (s.take j).sum)), z4, z5, z6, z7, none]) (fun _ _ _ _ => rfl)
    (fun x xs ρ S' ⟨eS, j, hj, er, sz, z4, z5, z6, z7, eρ⟩ => by
      subst eS
      have hj' : j < s.length := by
        apply Classical.byContradiction
        intro q
        rw [List.drop_of_length_le (by rw [@enumD_len ⟨[]⟩, dInts_len]; omega)] at er
        cases er
      rw [enumD_drop hj'] at er
      injection er with er1 er2
      subst er1 er2 eρ
      obtain ⟨sz', z7', st⟩ := step_heaviest (S := S') (d := d) (b := pm s j) (sz := sz) (z4 := z4) (z5 := z5) (z6 := z6) (z7 := z7) hj' (by omega) rfl
      refine ⟨_, _, S', rfl, st, rfl, j + 1, by omega, rfl, sz', some (.p (.int j)), some (.p (.int s[j])), some (.p (.int (j + 1))), some z7', ?_⟩
      rw [pm_succ])
    (enumD (dInts s)) [some d, some (tI s), some (.p (.tup [.int 0, .int 0])), some (.p (.int 0)), none, none, none, none, none] S ⟨rfl, 0, by omega, rfl, 0, none, none, none, none, rfl⟩
  obtain ⟨ρ', S', e, eS, j, hj, er, sz, z4, z5, z6, z7, eρ⟩ := loop
  subst eS eρ
  have ej : j = s.length := by
    apply Classical.byContradiction
    intro q
    rw [enumD_drop (by omega)] at er
    cases er
  subst ej
  refine ⟨sz, ?_⟩
  refine fn_pure0 (x := .tup [.int (Mx s), .int sz]) ?_
  unfold b_heaviest
  have c5 : fTup [.p (.int 0), .p (.int 0)] S' = some (.p (.tup [.int 0, .int 0]), S') := rfl
  simp only [r_ok, r_c, r_op2, r_op1, r_nil, r_cons, r_callB, r_call, r_and, r_or, r_not, r_asB, r_if, r_andT, r_orT, r_notT, r_test, r_chain, r_seq, r_nx, r_rt, r_bk, r_ct, r_next, r_break, r_cont, r_drop, r_ret, r_retN, r_asg, r_aug, r_ifS, r_par, r_sl, r_noPart, r_part, r_asInt, r_put, r_for, r_src, r_srcA, r_comp, r_meth, r_oNx, r_oCt, r_oBk, r_oRt, r_yes, r_var', r_lift', List.getElem?_cons_zero, List.getElem?_cons_succ, List.set_cons_zero, List.set_cons_succ, o_add, o_addI, o_sub, o_neg, o_lt, o_le, o_gt, o_ge, o_eq, o_ne, o_int, o_intB, o_abs, o_max, o_min, r_env, List.map_cons, List.map_nil, List.length_cons, List.length_nil, Nat.zero_add, Nat.reduceAdd, Nat.reduceSub, List.replicate_succ, List.replicate_zero, List.cons_append, List.nil_append, Bool.false_eq_true, if_true, if_false, gPar, List.zip_cons_cons, List.zip_nil_right, List.zip_nil_left, List.foldl_cons, List.foldl_nil, unsetE, f, c5, o_enumT tI_tup, e]
  rfl
theorem o_ix0 {xs : List P} {x : P} : fIx (.p (.tup (x :: xs))) (.p (.int 0)) S = some (.p x, S) := by
  refine o_ixT (xs := (x :: xs).map D.p) rfl ?_
  exact atI_get (k := 0) rfl
theorem p_fewest_in (hd : d.seq? S = some (dInts ns)) (hl : ns.length ≤ 1000) : m_fewest_in [d] S = .ok (.p (.int (few ns))) S := by
  obtain ⟨sz, h⟩ := p_heaviest hd hl
  refine fn_pure0 ?_
  unfold b_fewest_in
  simp only [r_ok, r_c, r_op2, r_op1, r_nil, r_cons, r_callB, r_call, r_and, r_or, r_not, r_asB, r_if, r_andT, r_orT, r_notT, r_test, r_chain, r_seq, r_nx, r_rt, r_bk, r_ct, r_next, r_break, r_cont, r_drop, r_ret, r_retN, r_asg, r_aug, r_ifS, r_par, r_sl, r_noPart, r_part, r_asInt, r_put, r_for, r_src, r_srcA, r_comp, r_meth, r_oNx, r_oCt, r_oBk, r_oRt, r_yes, r_var', r_lift', List.getElem?_cons_zero, List.getElem?_cons_succ, List.set_cons_zero, List.set_cons_succ, o_add, o_addI, o_sub, o_neg, o_lt, o_le, o_gt, o_ge, o_eq, o_ne, o_int, o_intB, o_abs, o_max, o_min, r_env, List.map_cons, List.map_nil, List.length_cons, List.length_nil, Nat.zero_add, Nat.reduceAdd, Nat.reduceSub, List.replicate_succ, List.replicate_zero, List.cons_append, List.nil_append, Bool.false_eq_true, if_true, if_false, gPar, List.zip_cons_cons, List.zip_nil_right, List.zip_nil_left, List.foldl_cons, List.foldl_nil, unsetE, h, o_ix0, f_sum hd, o_mod (show (0 : Int) < 2 by decide)]
  unfold few fewS
  rw [K33.sortDn_sum]
theorem p_is_web_row (hd : d.seq? S = some (dInts ns)) (hl : ns.length ≤ 1000) : m_is_web_row [d] S = .ok (.p (.bl (decide (few ns = 0)))) S := by
  obtain ⟨sz, h⟩ := p_heaviest hd hl
  refine fn_pure0 ?_
  unfold b_is_web_row
  simp only [r_ok, r_c, r_op2, r_op1, r_nil, r_cons, r_callB, r_call, r_and, r_or, r_not, r_asB, r_if, r_andT, r_orT, r_notT, r_test, r_chain, r_seq, r_nx, r_rt, r_bk, r_ct, r_next, r_break, r_cont, r_drop, r_ret, r_retN, r_asg, r_aug, r_ifS, r_par, r_sl, r_noPart, r_part, r_asInt, r_put, r_for, r_src, r_srcA, r_comp, r_meth, r_oNx, r_oCt, r_oBk, r_oRt, r_yes, r_var', r_lift', List.getElem?_cons_zero, List.getElem?_cons_succ, List.set_cons_zero, List.set_cons_succ, o_add, o_addI, o_sub, o_neg, o_lt, o_le, o_gt, o_ge, o_eq, o_ne, o_int, o_intB, o_abs, o_max, o_min, r_env, List.map_cons, List.map_nil, List.length_cons, List.length_nil, Nat.zero_add, Nat.reduceAdd, Nat.reduceSub, List.replicate_succ, List.replicate_zero, List.cons_append, List.nil_append, Bool.false_eq_true, if_true, if_false, gPar, List.zip_cons_cons, List.zip_nil_right, List.zip_nil_left, List.foldl_cons, List.foldl_nil, unsetE, h, o_ix0, f_sum hd, o_mod (show (0 : Int) < 2 by decide)]
  by_cases q : ns.sum % 2 = 0
  · simp only [q, decide_true, r_ok, r_c, r_op2, r_op1, r_nil, r_cons, r_callB, r_call, r_and, r_or, r_not, r_asB, r_if, r_andT, r_orT, r_notT, r_test, r_chain, r_seq, r_nx, r_rt, r_bk, r_ct, r_next, r_break, r_cont, r_drop, r_ret, r_retN, r_asg, r_aug, r_ifS, r_par, r_sl, r_noPart, r_part, r_asInt, r_put, r_for, r_src, r_srcA, r_comp, r_meth, r_oNx, r_oCt, r_oBk, r_oRt, r_yes, r_var', r_lift', List.getElem?_cons_zero, List.getElem?_cons_succ, List.set_cons_zero, List.set_cons_succ, o_add, o_addI, o_sub, o_neg, o_lt, o_le, o_gt, o_ge, o_eq, o_ne, o_int, o_intB, o_abs, o_max, o_min, r_env, List.map_cons, List.map_nil, List.length_cons, List.length_nil, Nat.zero_add, Nat.reduceAdd, Nat.reduceSub, List.replicate_succ, List.replicate_zero, List.cons_append, List.nil_append, Bool.false_eq_true, if_true, if_false, gPar, List.zip_cons_cons, List.zip_nil_right, List.zip_nil_left, List.foldl_cons, List.foldl_nil, unsetE, h, o_ix0]
    have e : (Mx (sortDn ns) = 0) = (few ns = 0) := propext ⟨fun z => K33.few_possible z q, fun z => (K33.few_nil z).1⟩
    simp only [e]
  · have e : ¬ few ns = 0 := fun z => q (K33.few_nil z).2
    simp only [q, e, decide_false, r_ok, r_c, r_op2, r_op1, r_nil, r_cons, r_callB, r_call, r_and, r_or, r_not, r_asB, r_if, r_andT, r_orT, r_notT, r_test, r_chain, r_seq, r_nx, r_rt, r_bk, r_ct, r_next, r_break, r_cont, r_drop, r_ret, r_retN, r_asg, r_aug, r_ifS, r_par, r_sl, r_noPart, r_part, r_asInt, r_put, r_for, r_src, r_srcA, r_comp, r_meth, r_oNx, r_oCt, r_oBk, r_oRt, r_yes, r_var', r_lift', List.getElem?_cons_zero, List.getElem?_cons_succ, List.set_cons_zero, List.set_cons_succ, o_add, o_addI, o_sub, o_neg, o_lt, o_le, o_gt, o_ge, o_eq, o_ne, o_int, o_intB, o_abs, o_max, o_min, r_env, List.map_cons, List.map_nil, List.length_cons, List.length_nil, Nat.zero_add, Nat.reduceAdd, Nat.reduceSub, List.replicate_succ, List.replicate_zero, List.cons_append, List.nil_append, Bool.false_eq_true, if_true, if_false, gPar, List.zip_cons_cons, List.zip_nil_right, List.zip_nil_left, List.foldl_cons, List.foldl_nil, unsetE]
end
end DL
set_option maxHeartbeats 4000000
namespace DL
open PySem PySem.Spec PyProof.Rows L2
open K33 (fk Mx few fewS Row Pos Cap Le)
section
variable {S : Store} {ns vs : List Int} {d : D}
def P.sim : P → Bool
  | .non | .bl _ | .int _ | .str _ | .tup _ | .lst _ | .scr _ | .dic _ => true
  | _ => false
def isInt : P → Bool
  | .int _ => true
  | _ => false
abbrev MAXN : Int := 999999999999999999999999999999
def amt : P → Bool
  | .int i => decide (0 ≤ i) && decide (i ≤ MAXN)
  | _ => false
theorem p_is_integer {x : P} (h : x.sim = true) : m_is_integer [.p x] S = .ok (.p (.bl (isInt x))) S := by
  refine fn_pure0 ?_
  unfold b_is_integer
  have go : ∀ a : String, (D.p x).tyOf? S = some a → tyNames.contains a = true → (isiB a "int" && !isiB a "bool") = isInt x → (mRet (mAnd (mCallB fIsi (mCons (mVar 0) (mCons (mC (.ty "int")) mNil))) (mNot (mCallB fIsi (mCons (mVar 0) (mCons (mC (.ty "bool")) mNil)))))) (env0 1 [.p x]) S = .ok (.rt (.p (.bl (isInt x)))) S := fun a h1 h2 h3 => by
    have i1 := o_isi (b := "int") h1 (by rw [h2]; decide)
    have i2 := o_isi (b := "bool") h1 (by rw [h2]; decide)
    simp only [r_ok, r_c, r_op2, r_op1, r_nil, r_cons, r_callB, r_call, r_and, r_or, r_not, r_asB, r_if, r_andT, r_orT, r_notT, r_test, r_chain, r_seq, r_nx, r_rt, r_bk, r_ct, r_next, r_break, r_cont, r_drop, r_ret, r_retN, r_asg, r_aug, r_ifS, r_par, r_sl, r_noPart, r_part, r_asInt, r_put, r_for, r_src, r_srcA, r_comp, r_meth, r_oNx, r_oCt, r_oBk, r_oRt, r_yes, r_var', r_lift', List.getElem?_cons_zero, List.getElem?_cons_succ, List.set_cons_zero, List.set_cons_succ, o_add, o_addI, o_sub, o_neg, o_lt, o_le, o_gt, o_ge, o_eq, o_ne, o_int, o_intB, o_abs, o_max, o_min, r_env, List.map_cons, List.map_nil, List.length_cons, List.length_nil, Nat.zero_add, Nat.reduceAdd, Nat.reduceSub, List.replicate_succ, List.replicate_zero, List.cons_append, List.nil_append, Bool.false_eq_true, if_true, if_false, gPar, List.zip_cons_cons, List.zip_nil_right, List.zip_nil_left, List.foldl_cons, List.foldl_nil, unsetE, i1, i2]
    cases q : isiB a "int" with
    | true =>
      simp only [r_ok, r_c, r_op2, r_op1, r_nil, r_cons, r_callB, r_call, r_and, r_or, r_not, r_asB, r_if, r_andT, r_orT, r_notT, r_test, r_chain, r_seq, r_nx, r_rt, r_bk, r_ct, r_next, r_break, r_cont, r_drop, r_ret, r_retN, r_asg, r_aug, r_ifS, r_par, r_sl, r_noPart, r_part, r_asInt, r_put, r_for, r_src, r_srcA, r_comp, r_meth, r_oNx, r_oCt, r_oBk, r_oRt, r_yes, r_var', r_lift', List.getElem?_cons_zero, List.getElem?_cons_succ, List.set_cons_zero, List.set_cons_succ, o_add, o_addI, o_sub, o_neg, o_lt, o_le, o_gt, o_ge, o_eq, o_ne, o_int, o_intB, o_abs, o_max, o_min, r_env, List.map_cons, List.map_nil, List.length_cons, List.length_nil, Nat.zero_add, Nat.reduceAdd, Nat.reduceSub, List.replicate_succ, List.replicate_zero, List.cons_append, List.nil_append, Bool.false_eq_true, if_true, if_false, gPar, List.zip_cons_cons, List.zip_nil_right, List.zip_nil_left, List.foldl_cons, List.foldl_nil, unsetE, i2]
      rw [q, Bool.true_and] at h3
      rw [h3]
    | false =>
      simp only [r_ok, r_c, r_op2, r_op1, r_nil, r_cons, r_callB, r_call, r_and, r_or, r_not, r_asB, r_if, r_andT, r_orT, r_notT, r_test, r_chain, r_seq, r_nx, r_rt, r_bk, r_ct, r_next, r_break, r_cont, r_drop, r_ret, r_retN, r_asg, r_aug, r_ifS, r_par, r_sl, r_noPart, r_part, r_asInt, r_put, r_for, r_src, r_srcA, r_comp, r_meth, r_oNx, r_oCt, r_oBk, r_oRt, r_yes, r_var', r_lift', List.getElem?_cons_zero, List.getElem?_cons_succ, List.set_cons_zero, List.set_cons_succ, o_add, o_addI, o_sub, o_neg, o_lt, o_le, o_gt, o_ge, o_eq, o_ne, o_int, o_intB, o_abs, o_max, o_min, r_env, List.map_cons, List.map_nil, List.length_cons, List.length_nil, Nat.zero_add, Nat.reduceAdd, Nat.reduceSub, List.replicate_succ, List.replicate_zero, List.cons_append, List.nil_append, Bool.false_eq_true, if_true, if_false, gPar, List.zip_cons_cons, List.zip_nil_right, List.zip_nil_left, List.foldl_cons, List.foldl_nil, unsetE]
      rw [q, Bool.false_and] at h3
      rw [h3]
  cases x with
  | non => exact go "NoneType" rfl (by decide) (by decide)
  | bl b => exact go "bool" rfl (by decide) (by show (isiB "bool" "int" && !isiB "bool" "bool") = false; decide)
  | int i => exact go "int" rfl (by decide) (by show (isiB "int" "int" && !isiB "int" "bool") = true; decide)
  | str s => exact go "str" rfl (by decide) (by show (isiB "str" "int" && !isiB "str" "bool") = false; decide)
  | tup xs => exact go "tuple" rfl (by decide) (by show (isiB "tuple" "int" && !isiB "tuple" "bool") = false; decide)
  | lst xs => exact go "list" rfl (by decide) (by show (isiB "list" "int" && !isiB "list" "bool") = false; decide)
  | scr xs => exact go "list" rfl (by decide) (by show (isiB "list" "int" && !isiB "list" "bool") = false; decide)
  | dic xs => exact go "dict" rfl (by decide) (by show (isiB "dict" "int" && !isiB "dict" "bool") = false; decide)
  | ins c xs => cases h
  | glo c => cases h
  | ty c => cases h
theorem p_is_fromI {i a b : Int} : m_is_from [.p (.int i), .p (.int a), .p (.int b)] S = .ok (.p (.bl (decide (a ≤ i) && decide (i ≤ b)))) S := by
  refine fn_pure0 ?_
  unfold b_is_from
  simp only [r_ok, r_c, r_op2, r_op1, r_nil, r_cons, r_callB, r_call, r_and, r_or, r_not, r_asB, r_if, r_andT, r_orT, r_notT, r_test, r_chain, r_seq, r_nx, r_rt, r_bk, r_ct, r_next, r_break, r_cont, r_drop, r_ret, r_retN, r_asg, r_aug, r_ifS, r_par, r_sl, r_noPart, r_part, r_asInt, r_put, r_for, r_src, r_srcA, r_comp, r_meth, r_oNx, r_oCt, r_oBk, r_oRt, r_yes, r_var', r_lift', List.getElem?_cons_zero, List.getElem?_cons_succ, List.set_cons_zero, List.set_cons_succ, o_add, o_addI, o_sub, o_neg, o_lt, o_le, o_gt, o_ge, o_eq, o_ne, o_int, o_intB, o_abs, o_max, o_min, r_env, List.map_cons, List.map_nil, List.length_cons, List.length_nil, Nat.zero_add, Nat.reduceAdd, Nat.reduceSub, List.replicate_succ, List.replicate_zero, List.cons_append, List.nil_append, Bool.false_eq_true, if_true, if_false, gPar, List.zip_cons_cons, List.zip_nil_right, List.zip_nil_left, List.foldl_cons, List.foldl_nil, unsetE, p_is_integer (x := .int i) rfl, isInt]
  cases q : decide (a ≤ i) <;> simp only [r_ok, r_c, r_op2, r_op1, r_nil, r_cons, r_callB, r_call, r_and, r_or, r_not, r_asB, r_if, r_andT, r_orT, r_notT, r_test, r_chain, r_seq, r_nx, r_rt, r_bk, r_ct, r_next, r_break, r_cont, r_drop, r_ret, r_retN, r_asg, r_aug, r_ifS, r_par, r_sl, r_noPart, r_part, r_asInt, r_put, r_for, r_src, r_srcA, r_comp, r_meth, r_oNx, r_oCt, r_oBk, r_oRt, r_yes, r_var', r_lift', List.getElem?_cons_zero, List.getElem?_cons_succ, List.set_cons_zero, List.set_cons_succ, o_add, o_addI, o_sub, o_neg, o_lt, o_le, o_gt, o_ge, o_eq, o_ne, o_int, o_intB, o_abs, o_max, o_min, r_env, List.map_cons, List.map_nil, List.length_cons, List.length_nil, Nat.zero_add, Nat.reduceAdd, Nat.reduceSub, List.replicate_succ, List.replicate_zero, List.cons_append, List.nil_append, Bool.false_eq_true, if_true, if_false, gPar, List.zip_cons_cons, List.zip_nil_right, List.zip_nil_left, List.foldl_cons, List.foldl_nil, unsetE, Bool.true_and, Bool.false_and]
theorem p_is_fromN {x : P} {a b : D} (h : x.sim = true) (hn : isInt x = false) : m_is_from [.p x, a, b] S = .ok (.p (.bl false)) S := by
  refine fn_pure0 ?_
  unfold b_is_from
  simp only [r_ok, r_c, r_op2, r_op1, r_nil, r_cons, r_callB, r_call, r_and, r_or, r_not, r_asB, r_if, r_andT, r_orT, r_notT, r_test, r_chain, r_seq, r_nx, r_rt, r_bk, r_ct, r_next, r_break, r_cont, r_drop, r_ret, r_retN, r_asg, r_aug, r_ifS, r_par, r_sl, r_noPart, r_part, r_asInt, r_put, r_for, r_src, r_srcA, r_comp, r_meth, r_oNx, r_oCt, r_oBk, r_oRt, r_yes, r_var', r_lift', List.getElem?_cons_zero, List.getElem?_cons_succ, List.set_cons_zero, List.set_cons_succ, o_add, o_addI, o_sub, o_neg, o_lt, o_le, o_gt, o_ge, o_eq, o_ne, o_int, o_intB, o_abs, o_max, o_min, r_env, List.map_cons, List.map_nil, List.length_cons, List.length_nil, Nat.zero_add, Nat.reduceAdd, Nat.reduceSub, List.replicate_succ, List.replicate_zero, List.cons_append, List.nil_append, Bool.false_eq_true, if_true, if_false, gPar, List.zip_cons_cons, List.zip_nil_right, List.zip_nil_left, List.foldl_cons, List.foldl_nil, unsetE, p_is_integer h, hn]
theorem p_is_amount {x : P} (h : x.sim = true) : m_is_amount [.p x] S = .ok (.p (.bl (amt x))) S := by
  refine fn_pure0 ?_
  unfold b_is_amount
  cases x with
  | int i => simp only [r_ok, r_c, r_op2, r_op1, r_nil, r_cons, r_callB, r_call, r_and, r_or, r_not, r_asB, r_if, r_andT, r_orT, r_notT, r_test, r_chain, r_seq, r_nx, r_rt, r_bk, r_ct, r_next, r_break, r_cont, r_drop, r_ret, r_retN, r_asg, r_aug, r_ifS, r_par, r_sl, r_noPart, r_part, r_asInt, r_put, r_for, r_src, r_srcA, r_comp, r_meth, r_oNx, r_oCt, r_oBk, r_oRt, r_yes, r_var', r_lift', List.getElem?_cons_zero, List.getElem?_cons_succ, List.set_cons_zero, List.set_cons_succ, o_add, o_addI, o_sub, o_neg, o_lt, o_le, o_gt, o_ge, o_eq, o_ne, o_int, o_intB, o_abs, o_max, o_min, r_env, List.map_cons, List.map_nil, List.length_cons, List.length_nil, Nat.zero_add, Nat.reduceAdd, Nat.reduceSub, List.replicate_succ, List.replicate_zero, List.cons_append, List.nil_append, Bool.false_eq_true, if_true, if_false, gPar, List.zip_cons_cons, List.zip_nil_right, List.zip_nil_left, List.foldl_cons, List.foldl_nil, unsetE, p_is_fromI, amt]
  | ins c xs => cases h
  | glo c => cases h
  | ty c => cases h
  | _ => simp only [r_ok, r_c, r_op2, r_op1, r_nil, r_cons, r_callB, r_call, r_and, r_or, r_not, r_asB, r_if, r_andT, r_orT, r_notT, r_test, r_chain, r_seq, r_nx, r_rt, r_bk, r_ct, r_next, r_break, r_cont, r_drop, r_ret, r_retN, r_asg, r_aug, r_ifS, r_par, r_sl, r_noPart, r_part, r_asInt, r_put, r_for, r_src, r_srcA, r_comp, r_meth, r_oNx, r_oCt, r_oBk, r_oRt, r_yes, r_var', r_lift', List.getElem?_cons_zero, List.getElem?_cons_succ, List.set_cons_zero, List.set_cons_succ, o_add, o_addI, o_sub, o_neg, o_lt, o_le, o_gt, o_ge, o_eq, o_ne, o_int, o_intB, o_abs, o_max, o_min, r_env, List.map_cons, List.map_nil, List.length_cons, List.length_nil, Nat.zero_add, Nat.reduceAdd, Nat.reduceSub, List.replicate_succ, List.replicate_zero, List.cons_append, List.nil_append, Bool.false_eq_true, if_true, if_false, gPar, List.zip_cons_cons, List.zip_nil_right, List.zip_nil_left, List.foldl_cons, List.foldl_nil, unsetE, p_is_fromN h rfl, amt]
theorem p_is_row_tup {xs : List P} (hs : ∀ x ∈ xs, x.sim = true) (hl : xs.length ≤ 100000) : m_is_row [.p (.tup xs)] S = .ok (.p (.bl (decide (1 ≤ xs.length) && decide (xs.length ≤ 64) && xs.all amt))) S := by
  refine fn_pure0 ?_
  have ht : (D.p (.tup xs)).tyOf? S = some "tuple" := rfl
  have i1 := o_isi (S := S) (b := "tuple") ht (by decide)
  have e1 : isiB "tuple" "tuple" = true := by decide
  rw [e1] at i1
  have hq : (D.p (.tup xs)).seq? S = some (pD xs) := rfl
  have i2 : fLen [.p (.tup xs)] S = some (.p (.int xs.length), S) := by
    have := f_len hq
    simpa [pD] using this
  have e2 : decide ((1 : Int) ≤ (xs.length : Int)) = decide (1 ≤ xs.length) := by
    by_cases h : 1 ≤ xs.length
    · rw [decide_eq_true h, decide_eq_true (by omega)]
    · rw [decide_eq_false h, decide_eq_false (by omega)]
  have e3 : decide ((xs.length : Int) ≤ 64) = decide (xs.length ≤ 64) := by
    by_cases h : xs.length ≤ 64
    · rw [decide_eq_true h, decide_eq_true (by omega)]
    · rw [decide_eq_false h, decide_eq_false (by omega)]
  unfold b_is_row
  simp only [r_ok, r_c, r_op2, r_op1, r_nil, r_cons, r_callB, r_call, r_and, r_or, r_not, r_asB, r_if, r_andT, r_orT, r_notT, r_test, r_chain, r_seq, r_nx, r_rt, r_bk, r_ct, r_next, r_break, r_cont, r_drop, r_ret, r_retN, r_asg, r_aug, r_ifS, r_par, r_sl, r_noPart, r_part, r_asInt, r_put, r_for, r_src, r_srcA, r_comp, r_meth, r_oNx, r_oCt, r_oBk, r_oRt, r_yes, r_var', r_lift', List.getElem?_cons_zero, List.getElem?_cons_succ, List.set_cons_zero, List.set_cons_succ, o_add, o_addI, o_sub, o_neg, o_lt, o_le, o_gt, o_ge, o_eq, o_ne, o_int, o_intB, o_abs, o_max, o_min, r_env, List.map_cons, List.map_nil, List.length_cons, List.length_nil, Nat.zero_add, Nat.reduceAdd, Nat.reduceSub, List.replicate_succ, List.replicate_zero, List.cons_append, List.nil_append, Bool.false_eq_true, if_true, if_false, gPar, List.zip_cons_cons, List.zip_nil_right, List.zip_nil_left, List.foldl_cons, List.foldl_nil, unsetE, i1, i2, p_is_fromI, e2, e3, Bool.not_true]
  cases q : (decide (1 ≤ xs.length) && decide (xs.length ≤ 64)) with
  | false => simp only [r_ok, r_c, r_op2, r_op1, r_nil, r_cons, r_callB, r_call, r_and, r_or, r_not, r_asB, r_if, r_andT, r_orT, r_notT, r_test, r_chain, r_seq, r_nx, r_rt, r_bk, r_ct, r_next, r_break, r_cont, r_drop, r_ret, r_retN, r_asg, r_aug, r_ifS, r_par, r_sl, r_noPart, r_part, r_asInt, r_put, r_for, r_src, r_srcA, r_comp, r_meth, r_oNx, r_oCt, r_oBk, r_oRt, r_yes, r_var', r_lift', List.getElem?_cons_zero, List.getElem?_cons_succ, List.set_cons_zero, List.set_cons_succ, o_add, o_addI, o_sub, o_neg, o_lt, o_le, o_gt, o_ge, o_eq, o_ne, o_int, o_intB, o_abs, o_max, o_min, r_env, List.map_cons, List.map_nil, List.length_cons, List.length_nil, Nat.zero_add, Nat.reduceAdd, Nat.reduceSub, List.replicate_succ, List.replicate_zero, List.cons_append, List.nil_append, Bool.false_eq_true, if_true, if_false, gPar, List.zip_cons_cons, List.zip_nil_right, List.zip_nil_left, List.foldl_cons, List.foldl_nil, unsetE, Bool.not_false, Bool.false_and]
  | true =>
    have c := compI_map (w := []) (g := gNm 1) (e := ce_is_row) (ρ := [some (D.p (.tup xs)), none]) (S := S) (f := fun x => match x with
      | .p x => .p (.bl (amt x))
      | x => x) rfl (pD xs) (by simpa [pD] using hl) fun x hx => by
        obtain ⟨y, hy, rfl⟩ := List.mem_map.mp hx
        refine ⟨_, rfl, ?_⟩
        unfold ce_is_row
        simp only [r_ok, r_c, r_op2, r_op1, r_nil, r_cons, r_callB, r_call, r_and, r_or, r_not, r_asB, r_if, r_andT, r_orT, r_notT, r_test, r_chain, r_seq, r_nx, r_rt, r_bk, r_ct, r_next, r_break, r_cont, r_drop, r_ret, r_retN, r_asg, r_aug, r_ifS, r_par, r_sl, r_noPart, r_part, r_asInt, r_put, r_for, r_src, r_srcA, r_comp, r_meth, r_oNx, r_oCt, r_oBk, r_oRt, r_yes, r_var', r_lift', List.getElem?_cons_zero, List.getElem?_cons_succ, List.set_cons_zero, List.set_cons_succ, o_add, o_addI, o_sub, o_neg, o_lt, o_le, o_gt, o_ge, o_eq, o_ne, o_int, o_intB, o_abs, o_max, o_min, r_env, List.map_cons, List.map_nil, List.length_cons, List.length_nil, Nat.zero_add, Nat.reduceAdd, Nat.reduceSub, List.replicate_succ, List.replicate_zero, List.cons_append, List.nil_append, Bool.false_eq_true, if_true, if_false, gPar, List.zip_cons_cons, List.zip_nil_right, List.zip_nil_left, List.foldl_cons, List.foldl_nil, unsetE, p_is_amount (hs y hy)]
    have e4 : ((pD xs).map fun x => match x with
      | .p x => D.p (.bl (amt x))
      | x => x) = pD ((xs.map amt).map P.bl) := by simp [pD]
    rw [e4] at c
    have e5 : fLstF (pD ((xs.map amt).map P.bl)) S = some (.p (.lst ((xs.map amt).map P.bl)), S) := by
      unfold fLstF
      rw [if_pos (by simpa [pD] using hl), pures_pD]
    have e6 : fAll [.p (.lst ((xs.map amt).map P.bl))] S = some (.p (.bl ((xs.map amt).all id)), S) := o_allL rfl (bools_pD _)
    have e7 : srcSeq (.p (.tup xs)) S = some (⟨pD xs, []⟩, S) := o_srcT rfl
    simp only [r_ok, r_c, r_op2, r_op1, r_nil, r_cons, r_callB, r_call, r_and, r_or, r_not, r_asB, r_if, r_andT, r_orT, r_notT, r_test, r_chain, r_seq, r_nx, r_rt, r_bk, r_ct, r_next, r_break, r_cont, r_drop, r_ret, r_retN, r_asg, r_aug, r_ifS, r_par, r_sl, r_noPart, r_part, r_asInt, r_put, r_for, r_src, r_srcA, r_comp, r_meth, r_oNx, r_oCt, r_oBk, r_oRt, r_yes, r_var', r_lift', List.getElem?_cons_zero, List.getElem?_cons_succ, List.set_cons_zero, List.set_cons_succ, o_add, o_addI, o_sub, o_neg, o_lt, o_le, o_gt, o_ge, o_eq, o_ne, o_int, o_intB, o_abs, o_max, o_min, r_env, List.map_cons, List.map_nil, List.length_cons, List.length_nil, Nat.zero_add, Nat.reduceAdd, Nat.reduceSub, List.replicate_succ, List.replicate_zero, List.cons_append, List.nil_append, Bool.false_eq_true, if_true, if_false, gPar, List.zip_cons_cons, List.zip_nil_right, List.zip_nil_left, List.foldl_cons, List.foldl_nil, unsetE, Bool.not_true, e7, c, e5, e6, Bool.true_and]
    congr 4
    simp [List.all_map]
theorem p_is_row_not {a : String} (h : d.tyOf? S = some a) (h1 : tyNames.contains a = true) (h2 : isiB a "tuple" = false) : m_is_row [d] S = .ok (.p (.bl false)) S := by
  refine fn_pure0 ?_
  have i1 := o_isi (S := S) (b := "tuple") h (by rw [h1]; decide)
  rw [h2] at i1
  unfold b_is_row
  simp only [r_ok, r_c, r_op2, r_op1, r_nil, r_cons, r_callB, r_call, r_and, r_or, r_not, r_asB, r_if, r_andT, r_orT, r_notT, r_test, r_chain, r_seq, r_nx, r_rt, r_bk, r_ct, r_next, r_break, r_cont, r_drop, r_ret, r_retN, r_asg, r_aug, r_ifS, r_par, r_sl, r_noPart, r_part, r_asInt, r_put, r_for, r_src, r_srcA, r_comp, r_meth, r_oNx, r_oCt, r_oBk, r_oRt, r_yes, r_var', r_lift', List.getElem?_cons_zero, List.getElem?_cons_succ, List.set_cons_zero, List.set_cons_succ, o_add, o_addI, o_sub, o_neg, o_lt, o_le, o_gt, o_ge, o_eq, o_ne, o_int, o_intB, o_abs, o_max, o_min, r_env, List.map_cons, List.map_nil, List.length_cons, List.length_nil, Nat.zero_add, Nat.reduceAdd, Nat.reduceSub, List.replicate_succ, List.replicate_zero, List.cons_append, List.nil_append, Bool.false_eq_true, if_true, if_false, gPar, List.zip_cons_cons, List.zip_nil_right, List.zip_nil_left, List.foldl_cons, List.foldl_nil, unsetE, i1, Bool.not_false]
def rowB (ns : List Int) : Bool := decide (1 ≤ ns.length) && decide (ns.length ≤ 64) && ns.all fun i => decide (0 ≤ i) && decide (i ≤ MAXN)
structure RowOk (ns : List Int) : Prop where
  one : 1 ≤ ns.length
  len : ns.length ≤ 64
  pos : Pos ns
  top : ∀ x ∈ ns, x ≤ MAXN
theorem rowB_ok {ns : List Int} : rowB ns = true ↔ RowOk ns := by
  unfold rowB
  simp only [Bool.and_eq_true, decide_eq_true_eq, List.all_eq_true]
  exact ⟨fun ⟨⟨a, b⟩, c⟩ => ⟨a, b, fun x hx => (c x hx).1, fun x hx => (c x hx).2⟩, fun h => ⟨⟨h.one, h.len⟩, fun x hx => ⟨h.pos x hx, h.top x hx⟩⟩⟩
theorem p_is_row (hl : ns.length ≤ 1000) : m_is_row [tI ns] S = .ok (.p (.bl (rowB ns))) S := by
  have h := p_is_row_tup (S := S) (xs := ns.map P.int) (fun x hx => by obtain ⟨i, _, rfl⟩ := List.mem_map.mp hx; rfl) (by simp; omega)
  have e : (decide (1 ≤ (ns.map P.int).length) && decide ((ns.map P.int).length ≤ 64) && (ns.map P.int).all amt) = rowB ns := by
    rw [List.length_map, List.all_map]
    rfl
  rw [e] at h
  exact h
theorem p_require (h : RowOk ns) : m_require_row [tI ns] S = .ok (.p .non) S := by
  refine fn_none (S' := S) (ρ := [some (tI ns)]) ?_ List.take_length
  have hl := h.len
  unfold b_require_row
  simp only [r_ok, r_c, r_op2, r_op1, r_nil, r_cons, r_callB, r_call, r_and, r_or, r_not, r_asB, r_if, r_andT, r_orT, r_notT, r_test, r_chain, r_seq, r_nx, r_rt, r_bk, r_ct, r_next, r_break, r_cont, r_drop, r_ret, r_retN, r_asg, r_aug, r_ifS, r_par, r_sl, r_noPart, r_part, r_asInt, r_put, r_for, r_src, r_srcA, r_comp, r_meth, r_oNx, r_oCt, r_oBk, r_oRt, r_yes, r_var', r_lift', List.getElem?_cons_zero, List.getElem?_cons_succ, List.set_cons_zero, List.set_cons_succ, o_add, o_addI, o_sub, o_neg, o_lt, o_le, o_gt, o_ge, o_eq, o_ne, o_int, o_intB, o_abs, o_max, o_min, r_env, List.map_cons, List.map_nil, List.length_cons, List.length_nil, Nat.zero_add, Nat.reduceAdd, Nat.reduceSub, List.replicate_succ, List.replicate_zero, List.cons_append, List.nil_append, Bool.false_eq_true, if_true, if_false, gPar, List.zip_cons_cons, List.zip_nil_right, List.zip_nil_left, List.foldl_cons, List.foldl_nil, unsetE, p_is_row (S := S) (ns := ns) (by omega), rowB_ok.mpr h, Bool.not_true]
theorem p_fewest_away (h : RowOk ns) : m_fewest_away [tI ns] S = .ok (.p (.int (few ns))) S := by
  have hl := h.len
  refine fn_pure0 ?_
  unfold b_fewest_away
  simp only [r_ok, r_c, r_op2, r_op1, r_nil, r_cons, r_callB, r_call, r_and, r_or, r_not, r_asB, r_if, r_andT, r_orT, r_notT, r_test, r_chain, r_seq, r_nx, r_rt, r_bk, r_ct, r_next, r_break, r_cont, r_drop, r_ret, r_retN, r_asg, r_aug, r_ifS, r_par, r_sl, r_noPart, r_part, r_asInt, r_put, r_for, r_src, r_srcA, r_comp, r_meth, r_oNx, r_oCt, r_oBk, r_oRt, r_yes, r_var', r_lift', List.getElem?_cons_zero, List.getElem?_cons_succ, List.set_cons_zero, List.set_cons_succ, o_add, o_addI, o_sub, o_neg, o_lt, o_le, o_gt, o_ge, o_eq, o_ne, o_int, o_intB, o_abs, o_max, o_min, r_env, List.map_cons, List.map_nil, List.length_cons, List.length_nil, Nat.zero_add, Nat.reduceAdd, Nat.reduceSub, List.replicate_succ, List.replicate_zero, List.cons_append, List.nil_append, Bool.false_eq_true, if_true, if_false, gPar, List.zip_cons_cons, List.zip_nil_right, List.zip_nil_left, List.foldl_cons, List.foldl_nil, unsetE, p_require h, p_fewest_in (d := tI ns) (ns := ns) tI_seq (by omega)]

/-! ### is_nearest -/
def gtAny : List Int → List Int → Bool
  | v :: vs, d :: ds => decide (d < v) || gtAny vs ds
  | _, _ => false
def nearB (ns vs : List Int) : Bool := rowB vs && decide (vs.length = ns.length) && !gtAny vs ns && decide (ns.sum - vs.sum = few ns) && decide (few vs = 0)
theorem zip_cmp : ∀ vs ns : List Int, ((zipD (dInts vs) (dInts ns)).map fun x => match x with
    | .p (.tup [.int a, .int b]) => D.p (.bl (decide (b < a)))
    | x => x) = pD (((vs.zip ns).map fun q => decide (q.2 < q.1)).map P.bl)
  | [], _ => by simp [zipD, dInts]
  | _ :: _, [] => by simp [zipD, dInts]
  | a :: vs, b :: ns => by
    have ih := zip_cmp vs ns
    show (_ :: ((zipD (dInts vs) (dInts ns)).map _)) = _
    rw [ih]
    rfl
theorem gtAny_eq : ∀ vs ns : List Int, ((vs.zip ns).map fun q => decide (q.2 < q.1)).any id = gtAny vs ns
  | [], _ => by simp [gtAny]
  | _ :: _, [] => by simp [gtAny]
  | a :: vs, b :: ns => by
    have ih := gtAny_eq vs ns
    simp only [List.zip_cons_cons, List.map_cons, List.any_cons, gtAny, ih, id]
theorem p_is_nearest_not {d : D} {a : String} (h : RowOk ns) (hd : d.tyOf? S = some a) (h1 : tyNames.contains a = true) (h2 : isiB a "tuple" = false) : m_is_nearest [tI ns, d] S = .ok (.p (.bl false)) S := by
  refine fn_pure0 ?_
  unfold b_is_nearest
  simp only [r_ok, r_c, r_op2, r_op1, r_nil, r_cons, r_callB, r_call, r_and, r_or, r_not, r_asB, r_if, r_andT, r_orT, r_notT, r_test, r_chain, r_seq, r_nx, r_rt, r_bk, r_ct, r_next, r_break, r_cont, r_drop, r_ret, r_retN, r_asg, r_aug, r_ifS, r_par, r_sl, r_noPart, r_part, r_asInt, r_put, r_for, r_src, r_srcA, r_comp, r_meth, r_oNx, r_oCt, r_oBk, r_oRt, r_yes, r_var', r_lift', List.getElem?_cons_zero, List.getElem?_cons_succ, List.set_cons_zero, List.set_cons_succ, o_add, o_addI, o_sub, o_neg, o_lt, o_le, o_gt, o_ge, o_eq, o_ne, o_int, o_intB, o_abs, o_max, o_min, r_env, List.map_cons, List.map_nil, List.length_cons, List.length_nil, Nat.zero_add, Nat.reduceAdd, Nat.reduceSub, List.replicate_succ, List.replicate_zero, List.cons_append, List.nil_append, Bool.false_eq_true, if_true, if_false, gPar, List.zip_cons_cons, List.zip_nil_right, List.zip_nil_left, List.foldl_cons, List.foldl_nil, unsetE, p_require h, p_is_row_not hd h1 h2, Bool.not_false]
theorem p_is_nearest_norow {xs : List P} (h : RowOk ns) (hs : ∀ x ∈ xs, x.sim = true) (hl : xs.length ≤ 100000) (hn : xs.all amt = false) : m_is_nearest [tI ns, .p (.tup xs)] S = .ok (.p (.bl false)) S := by
  refine fn_pure0 ?_
  unfold b_is_nearest
  simp only [r_ok, r_c, r_op2, r_op1, r_nil, r_cons, r_callB, r_call, r_and, r_or, r_not, r_asB, r_if, r_andT, r_orT, r_notT, r_test, r_chain, r_seq, r_nx, r_rt, r_bk, r_ct, r_next, r_break, r_cont, r_drop, r_ret, r_retN, r_asg, r_aug, r_ifS, r_par, r_sl, r_noPart, r_part, r_asInt, r_put, r_for, r_src, r_srcA, r_comp, r_meth, r_oNx, r_oCt, r_oBk, r_oRt, r_yes, r_var', r_lift', List.getElem?_cons_zero, List.getElem?_cons_succ, List.set_cons_zero, List.set_cons_succ, o_add, o_addI, o_sub, o_neg, o_lt, o_le, o_gt, o_ge, o_eq, o_ne, o_int, o_intB, o_abs, o_max, o_min, r_env, List.map_cons, List.map_nil, List.length_cons, List.length_nil, Nat.zero_add, Nat.reduceAdd, Nat.reduceSub, List.replicate_succ, List.replicate_zero, List.cons_append, List.nil_append, Bool.false_eq_true, if_true, if_false, gPar, List.zip_cons_cons, List.zip_nil_right, List.zip_nil_left, List.foldl_cons, List.foldl_nil, unsetE, p_require h, p_is_row_tup hs hl, hn, Bool.and_false, Bool.not_false]
theorem p_is_nearest (h : RowOk ns) (hv : vs.length ≤ 1000) : m_is_nearest [tI ns, tI vs] S = .ok (.p (.bl (nearB ns vs))) S := by
  have hl := h.len
  refine fn_pure0 ?_
  have l1 : fLen [tI ns] S = some (.p (.int ns.length), S) := by
    have := f_len (S := S) (d := tI ns) tI_seq
    rwa [dInts_len] at this
  have l2 : fLen [tI vs] S = some (.p (.int vs.length), S) := by
    have := f_len (S := S) (d := tI vs) tI_seq
    rwa [dInts_len] at this
  have c : compI [] (gTp 2 (gsCons (gNm 2) (gsCons (gNm 3) gsNil))) mYes ce_is_nearest [some (tI ns), some (tI vs), none, none] [] (zipD (dInts vs) (dInts ns)) S = .ok (pD (((vs.zip ns).map fun q => decide (q.2 < q.1)).map P.bl)) S := by
    rw [← zip_cmp]
    refine compI_map rfl _ (by rw [@zipD_len ⟨[]⟩, dInts_len, dInts_len]; omega) fun x hx => ?_
    obtain ⟨⟨p, q⟩, hp, rfl⟩ := List.mem_map.mp hx
    obtain ⟨h1, h2⟩ := List.of_mem_zip hp
    obtain ⟨i, _, rfl⟩ := List.mem_map.mp h1
    obtain ⟨j, _, rfl⟩ := List.mem_map.mp h2
    refine ⟨[some (tI ns), some (tI vs), some (.p (.int i)), some (.p (.int j))], rfl, ?_⟩
    unfold ce_is_nearest
    simp only [r_ok, r_c, r_op2, r_op1, r_nil, r_cons, r_callB, r_call, r_and, r_or, r_not, r_asB, r_if, r_andT, r_orT, r_notT, r_test, r_chain, r_seq, r_nx, r_rt, r_bk, r_ct, r_next, r_break, r_cont, r_drop, r_ret, r_retN, r_asg, r_aug, r_ifS, r_par, r_sl, r_noPart, r_part, r_asInt, r_put, r_for, r_src, r_srcA, r_comp, r_meth, r_oNx, r_oCt, r_oBk, r_oRt, r_yes, r_var', r_lift', List.getElem?_cons_zero, List.getElem?_cons_succ, List.set_cons_zero, List.set_cons_succ, o_add, o_addI, o_sub, o_neg, o_lt, o_le, o_gt, o_ge, o_eq, o_ne, o_int, o_intB, o_abs, o_max, o_min, r_env, List.map_cons, List.map_nil, List.length_cons, List.length_nil, Nat.zero_add, Nat.reduceAdd, Nat.reduceSub, List.replicate_succ, List.replicate_zero, List.cons_append, List.nil_append, Bool.false_eq_true, if_true, if_false, gPar, List.zip_cons_cons, List.zip_nil_right, List.zip_nil_left, List.foldl_cons, List.foldl_nil, unsetE]
    rfl
  have e5 : fLstF (pD (((vs.zip ns).map fun q => decide (q.2 < q.1)).map P.bl)) S = some (.p (.lst (((vs.zip ns).map fun q => decide (q.2 < q.1)).map P.bl)), S) := by
    unfold fLstF
    rw [if_pos (by simp [pD]; omega), pures_pD]
  have e6 : fAny [.p (.lst (((vs.zip ns).map fun q => decide (q.2 < q.1)).map P.bl))] S = some (.p (.bl (gtAny vs ns)), S) := by
    rw [← gtAny_eq]
    exact o_anyL rfl (bools_pD _)
  have e8 : decide ((vs.length : Int) = (ns.length : Int)) = decide (vs.length = ns.length) := by
    by_cases q : vs.length = ns.length
    · rw [decide_eq_true q, decide_eq_true (by omega)]
    · rw [decide_eq_false q, decide_eq_false (by omega)]
  unfold b_is_nearest nearB
  simp only [r_ok, r_c, r_op2, r_op1, r_nil, r_cons, r_callB, r_call, r_and, r_or, r_not, r_asB, r_if, r_andT, r_orT, r_notT, r_test, r_chain, r_seq, r_nx, r_rt, r_bk, r_ct, r_next, r_break, r_cont, r_drop, r_ret, r_retN, r_asg, r_aug, r_ifS, r_par, r_sl, r_noPart, r_part, r_asInt, r_put, r_for, r_src, r_srcA, r_comp, r_meth, r_oNx, r_oCt, r_oBk, r_oRt, r_yes, r_var', r_lift', List.getElem?_cons_zero, List.getElem?_cons_succ, List.set_cons_zero, List.set_cons_succ, o_add, o_addI, o_sub, o_neg, o_lt, o_le, o_gt, o_ge, o_eq, o_ne, o_int, o_intB, o_abs, o_max, o_min, r_env, List.map_cons, List.map_nil, List.length_cons, List.length_nil, Nat.zero_add, Nat.reduceAdd, Nat.reduceSub, List.replicate_succ, List.replicate_zero, List.cons_append, List.nil_append, Bool.false_eq_true, if_true, if_false, gPar, List.zip_cons_cons, List.zip_nil_right, List.zip_nil_left, List.foldl_cons, List.foldl_nil, unsetE, p_require h, p_is_row (S := S) (ns := vs) hv, l1, l2, e8]
  cases q1 : rowB vs with
  | false => simp only [r_ok, r_c, r_op2, r_op1, r_nil, r_cons, r_callB, r_call, r_and, r_or, r_not, r_asB, r_if, r_andT, r_orT, r_notT, r_test, r_chain, r_seq, r_nx, r_rt, r_bk, r_ct, r_next, r_break, r_cont, r_drop, r_ret, r_retN, r_asg, r_aug, r_ifS, r_par, r_sl, r_noPart, r_part, r_asInt, r_put, r_for, r_src, r_srcA, r_comp, r_meth, r_oNx, r_oCt, r_oBk, r_oRt, r_yes, r_var', r_lift', List.getElem?_cons_zero, List.getElem?_cons_succ, List.set_cons_zero, List.set_cons_succ, o_add, o_addI, o_sub, o_neg, o_lt, o_le, o_gt, o_ge, o_eq, o_ne, o_int, o_intB, o_abs, o_max, o_min, r_env, List.map_cons, List.map_nil, List.length_cons, List.length_nil, Nat.zero_add, Nat.reduceAdd, Nat.reduceSub, List.replicate_succ, List.replicate_zero, List.cons_append, List.nil_append, Bool.false_eq_true, if_true, if_false, gPar, List.zip_cons_cons, List.zip_nil_right, List.zip_nil_left, List.foldl_cons, List.foldl_nil, unsetE, Bool.not_false, Bool.false_and]
  | true =>
    simp only [r_ok, r_c, r_op2, r_op1, r_nil, r_cons, r_callB, r_call, r_and, r_or, r_not, r_asB, r_if, r_andT, r_orT, r_notT, r_test, r_chain, r_seq, r_nx, r_rt, r_bk, r_ct, r_next, r_break, r_cont, r_drop, r_ret, r_retN, r_asg, r_aug, r_ifS, r_par, r_sl, r_noPart, r_part, r_asInt, r_put, r_for, r_src, r_srcA, r_comp, r_meth, r_oNx, r_oCt, r_oBk, r_oRt, r_yes, r_var', r_lift', List.getElem?_cons_zero, List.getElem?_cons_succ, List.set_cons_zero, List.set_cons_succ, o_add, o_addI, o_sub, o_neg, o_lt, o_le, o_gt, o_ge, o_eq, o_ne, o_int, o_intB, o_abs, o_max, o_min, r_env, List.map_cons, List.map_nil, List.length_cons, List.length_nil, Nat.zero_add, Nat.reduceAdd, Nat.reduceSub, List.replicate_succ, List.replicate_zero, List.cons_append, List.nil_append, Bool.false_eq_true, if_true, if_false, gPar, List.zip_cons_cons, List.zip_nil_right, List.zip_nil_left, List.foldl_cons, List.foldl_nil, unsetE, Bool.not_true, Bool.true_and, l1, l2, e8]
    cases q2 : decide (vs.length = ns.length) with
    | false => simp only [r_ok, r_c, r_op2, r_op1, r_nil, r_cons, r_callB, r_call, r_and, r_or, r_not, r_asB, r_if, r_andT, r_orT, r_notT, r_test, r_chain, r_seq, r_nx, r_rt, r_bk, r_ct, r_next, r_break, r_cont, r_drop, r_ret, r_retN, r_asg, r_aug, r_ifS, r_par, r_sl, r_noPart, r_part, r_asInt, r_put, r_for, r_src, r_srcA, r_comp, r_meth, r_oNx, r_oCt, r_oBk, r_oRt, r_yes, r_var', r_lift', List.getElem?_cons_zero, List.getElem?_cons_succ, List.set_cons_zero, List.set_cons_succ, o_add, o_addI, o_sub, o_neg, o_lt, o_le, o_gt, o_ge, o_eq, o_ne, o_int, o_intB, o_abs, o_max, o_min, r_env, List.map_cons, List.map_nil, List.length_cons, List.length_nil, Nat.zero_add, Nat.reduceAdd, Nat.reduceSub, List.replicate_succ, List.replicate_zero, List.cons_append, List.nil_append, Bool.false_eq_true, if_true, if_false, gPar, List.zip_cons_cons, List.zip_nil_right, List.zip_nil_left, List.foldl_cons, List.foldl_nil, unsetE, Bool.not_false, Bool.false_and]
    | true =>
      simp only [r_ok, r_c, r_op2, r_op1, r_nil, r_cons, r_callB, r_call, r_and, r_or, r_not, r_asB, r_if, r_andT, r_orT, r_notT, r_test, r_chain, r_seq, r_nx, r_rt, r_bk, r_ct, r_next, r_break, r_cont, r_drop, r_ret, r_retN, r_asg, r_aug, r_ifS, r_par, r_sl, r_noPart, r_part, r_asInt, r_put, r_for, r_src, r_srcA, r_comp, r_meth, r_oNx, r_oCt, r_oBk, r_oRt, r_yes, r_var', r_lift', List.getElem?_cons_zero, List.getElem?_cons_succ, List.set_cons_zero, List.set_cons_succ, o_add, o_addI, o_sub, o_neg, o_lt, o_le, o_gt, o_ge, o_eq, o_ne, o_int, o_intB, o_abs, o_max, o_min, r_env, List.map_cons, List.map_nil, List.length_cons, List.length_nil, Nat.zero_add, Nat.reduceAdd, Nat.reduceSub, List.replicate_succ, List.replicate_zero, List.cons_append, List.nil_append, Bool.false_eq_true, if_true, if_false, gPar, List.zip_cons_cons, List.zip_nil_right, List.zip_nil_left, List.foldl_cons, List.foldl_nil, unsetE, Bool.not_true, Bool.true_and, o_zipT tI_tup tI_tup, c, e5, e6]
      cases q3 : gtAny vs ns with
      | true => simp only [r_ok, r_c, r_op2, r_op1, r_nil, r_cons, r_callB, r_call, r_and, r_or, r_not, r_asB, r_if, r_andT, r_orT, r_notT, r_test, r_chain, r_seq, r_nx, r_rt, r_bk, r_ct, r_next, r_break, r_cont, r_drop, r_ret, r_retN, r_asg, r_aug, r_ifS, r_par, r_sl, r_noPart, r_part, r_asInt, r_put, r_for, r_src, r_srcA, r_comp, r_meth, r_oNx, r_oCt, r_oBk, r_oRt, r_yes, r_var', r_lift', List.getElem?_cons_zero, List.getElem?_cons_succ, List.set_cons_zero, List.set_cons_succ, o_add, o_addI, o_sub, o_neg, o_lt, o_le, o_gt, o_ge, o_eq, o_ne, o_int, o_intB, o_abs, o_max, o_min, r_env, List.map_cons, List.map_nil, List.length_cons, List.length_nil, Nat.zero_add, Nat.reduceAdd, Nat.reduceSub, List.replicate_succ, List.replicate_zero, List.cons_append, List.nil_append, Bool.false_eq_true, if_true, if_false, gPar, List.zip_cons_cons, List.zip_nil_right, List.zip_nil_left, List.foldl_cons, List.foldl_nil, unsetE, Bool.not_true, Bool.false_and]
      | false =>
        simp only [r_ok, r_c, r_op2, r_op1, r_nil, r_cons, r_callB, r_call, r_and, r_or, r_not, r_asB, r_if, r_andT, r_orT, r_notT, r_test, r_chain, r_seq, r_nx, r_rt, r_bk, r_ct, r_next, r_break, r_cont, r_drop, r_ret, r_retN, r_asg, r_aug, r_ifS, r_par, r_sl, r_noPart, r_part, r_asInt, r_put, r_for, r_src, r_srcA, r_comp, r_meth, r_oNx, r_oCt, r_oBk, r_oRt, r_yes, r_var', r_lift', List.getElem?_cons_zero, List.getElem?_cons_succ, List.set_cons_zero, List.set_cons_succ, o_add, o_addI, o_sub, o_neg, o_lt, o_le, o_gt, o_ge, o_eq, o_ne, o_int, o_intB, o_abs, o_max, o_min, r_env, List.map_cons, List.map_nil, List.length_cons, List.length_nil, Nat.zero_add, Nat.reduceAdd, Nat.reduceSub, List.replicate_succ, List.replicate_zero, List.cons_append, List.nil_append, Bool.false_eq_true, if_true, if_false, gPar, List.zip_cons_cons, List.zip_nil_right, List.zip_nil_left, List.foldl_cons, List.foldl_nil, unsetE, Bool.not_false, Bool.true_and, f_sum (S := S) (d := tI ns) tI_seq, f_sum (S := S) (d := tI vs) tI_seq, p_fewest_in (S := S) (d := tI ns) (ns := ns) tI_seq (by omega)]
        cases q4 : decide (ns.sum - vs.sum = few ns) with
        | false => simp only [r_ok, r_c, r_op2, r_op1, r_nil, r_cons, r_callB, r_call, r_and, r_or, r_not, r_asB, r_if, r_andT, r_orT, r_notT, r_test, r_chain, r_seq, r_nx, r_rt, r_bk, r_ct, r_next, r_break, r_cont, r_drop, r_ret, r_retN, r_asg, r_aug, r_ifS, r_par, r_sl, r_noPart, r_part, r_asInt, r_put, r_for, r_src, r_srcA, r_comp, r_meth, r_oNx, r_oCt, r_oBk, r_oRt, r_yes, r_var', r_lift', List.getElem?_cons_zero, List.getElem?_cons_succ, List.set_cons_zero, List.set_cons_succ, o_add, o_addI, o_sub, o_neg, o_lt, o_le, o_gt, o_ge, o_eq, o_ne, o_int, o_intB, o_abs, o_max, o_min, r_env, List.map_cons, List.map_nil, List.length_cons, List.length_nil, Nat.zero_add, Nat.reduceAdd, Nat.reduceSub, List.replicate_succ, List.replicate_zero, List.cons_append, List.nil_append, Bool.false_eq_true, if_true, if_false, gPar, List.zip_cons_cons, List.zip_nil_right, List.zip_nil_left, List.foldl_cons, List.foldl_nil, unsetE, Bool.not_false, Bool.false_and]
        | true => simp only [r_ok, r_c, r_op2, r_op1, r_nil, r_cons, r_callB, r_call, r_and, r_or, r_not, r_asB, r_if, r_andT, r_orT, r_notT, r_test, r_chain, r_seq, r_nx, r_rt, r_bk, r_ct, r_next, r_break, r_cont, r_drop, r_ret, r_retN, r_asg, r_aug, r_ifS, r_par, r_sl, r_noPart, r_part, r_asInt, r_put, r_for, r_src, r_srcA, r_comp, r_meth, r_oNx, r_oCt, r_oBk, r_oRt, r_yes, r_var', r_lift', List.getElem?_cons_zero, List.getElem?_cons_succ, List.set_cons_zero, List.set_cons_succ, o_add, o_addI, o_sub, o_neg, o_lt, o_le, o_gt, o_ge, o_eq, o_ne, o_int, o_intB, o_abs, o_max, o_min, r_env, List.map_cons, List.map_nil, List.length_cons, List.length_nil, Nat.zero_add, Nat.reduceAdd, Nat.reduceSub, List.replicate_succ, List.replicate_zero, List.cons_append, List.nil_append, Bool.false_eq_true, if_true, if_false, gPar, List.zip_cons_cons, List.zip_nil_right, List.zip_nil_left, List.foldl_cons, List.foldl_nil, unsetE, Bool.not_true, Bool.true_and, p_is_web_row (S := S) (d := tI vs) (ns := vs) tI_seq (by omega)]
end
end DL
set_option maxHeartbeats 4000000
namespace DL
open PySem PySem.Spec PyProof.Rows L2
open K33 (fk Mx few fewS Row Pos Cap Le)
section
variable {S : Store} {ns vs : List Int} {d : D}
def exc (ns : List Int) (l : Int) : Int := (ns.map fun x => max 0 (x - l)).sum
theorem p_excess {l : Int} (hl : ns.length ≤ 1000) : m_excess_in [tI ns, .p (.int l)] S = .ok (.p (.int (exc ns l))) S := by
  refine fn_pure0 ?_
  have c : compI [] (gNm 2) mYes ce_excess_in [some (tI ns), some (.p (.int l)), none] [] (dInts ns) S = .ok (dInts (ns.map fun x => max 0 (x - l))) S :=
    compI_ints rfl _ (by omega) fun i hi => ⟨_, rfl, by
      unfold ce_excess_in
      simp only [r_ok, r_c, r_op2, r_op1, r_nil, r_cons, r_callB, r_call, r_and, r_or, r_not, r_asB, r_if, r_andT, r_orT, r_notT, r_test, r_chain, r_seq, r_nx, r_rt, r_bk, r_ct, r_next, r_break, r_cont, r_drop, r_ret, r_retN, r_asg, r_aug, r_ifS, r_par, r_sl, r_noPart, r_part, r_asInt, r_put, r_for, r_src, r_srcA, r_comp, r_meth, r_oNx, r_oCt, r_oBk, r_oRt, r_yes, r_var', r_lift', List.getElem?_cons_zero, List.getElem?_cons_succ, List.set_cons_zero, List.set_cons_succ, o_add, o_addI, o_sub, o_neg, o_lt, o_le, o_gt, o_ge, o_eq, o_ne, o_int, o_intB, o_abs, o_max, o_min, r_env, List.map_cons, List.map_nil, List.length_cons, List.length_nil, Nat.zero_add, Nat.reduceAdd, Nat.reduceSub, List.replicate_succ, List.replicate_zero, List.cons_append, List.nil_append, Bool.false_eq_true, if_true, if_false, gPar, List.zip_cons_cons, List.zip_nil_right, List.zip_nil_left, List.foldl_cons, List.foldl_nil, unsetE]⟩
  have e : fLstF (dInts (ns.map fun x => max 0 (x - l))) S = some (lI (ns.map fun x => max 0 (x - l)), S) := f_lstF (by simp; omega)
  unfold b_excess_in
  simp only [r_ok, r_c, r_op2, r_op1, r_nil, r_cons, r_callB, r_call, r_and, r_or, r_not, r_asB, r_if, r_andT, r_orT, r_notT, r_test, r_chain, r_seq, r_nx, r_rt, r_bk, r_ct, r_next, r_break, r_cont, r_drop, r_ret, r_retN, r_asg, r_aug, r_ifS, r_par, r_sl, r_noPart, r_part, r_asInt, r_put, r_for, r_src, r_srcA, r_comp, r_meth, r_oNx, r_oCt, r_oBk, r_oRt, r_yes, r_var', r_lift', List.getElem?_cons_zero, List.getElem?_cons_succ, List.set_cons_zero, List.set_cons_succ, o_add, o_addI, o_sub, o_neg, o_lt, o_le, o_gt, o_ge, o_eq, o_ne, o_int, o_intB, o_abs, o_max, o_min, r_env, List.map_cons, List.map_nil, List.length_cons, List.length_nil, Nat.zero_add, Nat.reduceAdd, Nat.reduceSub, List.replicate_succ, List.replicate_zero, List.cons_append, List.nil_append, Bool.false_eq_true, if_true, if_false, gPar, List.zip_cons_cons, List.zip_nil_right, List.zip_nil_left, List.foldl_cons, List.foldl_nil, unsetE, o_srcT tI_tup, c, e, f_sum lI_seq]
  rfl
theorem exc_max {H : Int} (h : ∀ x ∈ ns, x ≤ H) : exc ns H = 0 := by
  unfold exc
  induction ns with
  | nil => rfl
  | cons a ns ih =>
    rw [List.map_cons, List.sum_cons, ih fun x hx => h x (List.mem_cons_of_mem _ hx)]
    have := h a List.mem_cons_self
    omega
def cnt (l : Int) (xs : List Int) : Int := (xs.map fun x => if l < x then (1 : Int) else 0).sum
theorem exc_succ (l : Int) : ∀ xs : List Int, exc xs l - exc xs (l + 1) = cnt l xs
  | [] => rfl
  | a :: xs => by
    have ih := exc_succ l xs
    unfold exc cnt at ih ⊢
    simp only [List.map_cons, List.sum_cons]
    by_cases h : l < a
    · rw [if_pos h]
      omega
    · rw [if_neg h]
      omega
theorem exc_sum (l : Int) : ∀ xs : List Int, xs.sum = (xs.map fun x => min x l).sum + exc xs l
  | [] => rfl
  | a :: xs => by
    have ih := exc_sum l xs
    unfold exc at ih ⊢
    simp only [List.map_cons, List.sum_cons]
    omega
theorem exc_zero {xs : List Int} (h : Pos xs) : exc xs 0 = xs.sum := by
  have e := exc_sum 0 xs
  have z : (xs.map fun x => min x 0).sum = 0 := by
    clear e
    induction xs with
    | nil => rfl
    | cons a xs ih =>
      rw [List.map_cons, List.sum_cons, ih fun x hx => h x (List.mem_cons_of_mem _ hx)]
      have := h a List.mem_cons_self
      omega
  omega
theorem p_while {many H : Int} {z5 z6 z7 z8 : Option D} (hl : ns.length ≤ 1000) : ∀ (n : Nat) (low high : Int) (z4 : Option D), 0 ≤ low → low ≤ high → high - low < 2 ^ n → many ≤ exc ns low → (high = H ∨ exc ns (high + 1) < many) →
    ∃ l z4', mWhile wt_lowered wb_lowered (n + 1) [some (tI ns), some (.p (.int many)), some (.p (.int low)), some (.p (.int high)), z4, z5, z6, z7, z8] S = .ok (.nx [some (tI ns), some (.p (.int many)), some (.p (.int l)), some (.p (.int l)), z4', z5, z6, z7, z8]) S ∧ low ≤ l ∧ l ≤ high ∧ many ≤ exc ns l ∧ (l = H ∨ exc ns (l + 1) < many)
  | n, low, high, z4, h0, h1, h2, h3, h4 => by
    by_cases q : low < high
    · cases n with
      | zero =>
        have : (2 : Int) ^ 0 = 1 := rfl
        omega
      | succ n =>
        have p2 : (2 : Int) ^ (n + 1) = 2 * 2 ^ n := by rw [Int.pow_succ]; omega
        have t1 : wt_lowered [some (tI ns), some (.p (.int many)), some (.p (.int low)), some (.p (.int high)), z4, z5, z6, z7, z8] S = .ok true S := by
          unfold wt_lowered
          simp only [r_ok, r_c, r_op2, r_op1, r_nil, r_cons, r_callB, r_call, r_and, r_or, r_not, r_asB, r_if, r_andT, r_orT, r_notT, r_test, r_chain, r_seq, r_nx, r_rt, r_bk, r_ct, r_next, r_break, r_cont, r_drop, r_ret, r_retN, r_asg, r_aug, r_ifS, r_par, r_sl, r_noPart, r_part, r_asInt, r_put, r_for, r_src, r_srcA, r_comp, r_meth, r_oNx, r_oCt, r_oBk, r_oRt, r_yes, r_var', r_lift', List.getElem?_cons_zero, List.getElem?_cons_succ, List.set_cons_zero, List.set_cons_succ, o_add, o_addI, o_sub, o_neg, o_lt, o_le, o_gt, o_ge, o_eq, o_ne, o_int, o_intB, o_abs, o_max, o_min, r_env, List.map_cons, List.map_nil, List.length_cons, List.length_nil, Nat.zero_add, Nat.reduceAdd, Nat.reduceSub, List.replicate_succ, List.replicate_zero, List.cons_append, List.nil_append, Bool.false_eq_true, if_true, if_false, gPar, List.zip_cons_cons, List.zip_nil_right, List.zip_nil_left, List.foldl_cons, List.foldl_nil, unsetE, decide_eq_true q]
        rw [r_while, t1, r_ok]
        have dv : fDiv (.p (.int (low + high + 1))) (.p (.int 2)) S = some (.p (.int ((low + high + 1) / 2)), S) := o_div (by decide) (by decide)
        by_cases g : many ≤ exc ns ((low + high + 1) / 2)
        · have b1 : wb_lowered [some (tI ns), some (.p (.int many)), some (.p (.int low)), some (.p (.int high)), z4, z5, z6, z7, z8] S = .ok (.nx [some (tI ns), some (.p (.int many)), some (.p (.int ((low + high + 1) / 2))), some (.p (.int high)), some (.p (.int ((low + high + 1) / 2))), z5, z6, z7, z8]) S := by
            unfold wb_lowered
            simp only [r_ok, r_c, r_op2, r_op1, r_nil, r_cons, r_callB, r_call, r_and, r_or, r_not, r_asB, r_if, r_andT, r_orT, r_notT, r_test, r_chain, r_seq, r_nx, r_rt, r_bk, r_ct, r_next, r_break, r_cont, r_drop, r_ret, r_retN, r_asg, r_aug, r_ifS, r_par, r_sl, r_noPart, r_part, r_asInt, r_put, r_for, r_src, r_srcA, r_comp, r_meth, r_oNx, r_oCt, r_oBk, r_oRt, r_yes, r_var', r_lift', List.getElem?_cons_zero, List.getElem?_cons_succ, List.set_cons_zero, List.set_cons_succ, o_add, o_addI, o_sub, o_neg, o_lt, o_le, o_gt, o_ge, o_eq, o_ne, o_int, o_intB, o_abs, o_max, o_min, r_env, List.map_cons, List.map_nil, List.length_cons, List.length_nil, Nat.zero_add, Nat.reduceAdd, Nat.reduceSub, List.replicate_succ, List.replicate_zero, List.cons_append, List.nil_append, Bool.false_eq_true, if_true, if_false, gPar, List.zip_cons_cons, List.zip_nil_right, List.zip_nil_left, List.foldl_cons, List.foldl_nil, unsetE, dv, p_excess hl, decide_eq_true g]
          simp only [if_true, b1, r_ok, r_oNx]
          obtain ⟨l, z, e, a1, a2, a3, a4⟩ := p_while hl n ((low + high + 1) / 2) high (some (.p (.int ((low + high + 1) / 2)))) (by omega) (by omega) (by omega) g h4
          exact ⟨l, z, e, by omega, a2, a3, a4⟩
        · have b1 : wb_lowered [some (tI ns), some (.p (.int many)), some (.p (.int low)), some (.p (.int high)), z4, z5, z6, z7, z8] S = .ok (.nx [some (tI ns), some (.p (.int many)), some (.p (.int low)), some (.p (.int ((low + high + 1) / 2 - 1))), some (.p (.int ((low + high + 1) / 2))), z5, z6, z7, z8]) S := by
            unfold wb_lowered
            simp only [r_ok, r_c, r_op2, r_op1, r_nil, r_cons, r_callB, r_call, r_and, r_or, r_not, r_asB, r_if, r_andT, r_orT, r_notT, r_test, r_chain, r_seq, r_nx, r_rt, r_bk, r_ct, r_next, r_break, r_cont, r_drop, r_ret, r_retN, r_asg, r_aug, r_ifS, r_par, r_sl, r_noPart, r_part, r_asInt, r_put, r_for, r_src, r_srcA, r_comp, r_meth, r_oNx, r_oCt, r_oBk, r_oRt, r_yes, r_var', r_lift', List.getElem?_cons_zero, List.getElem?_cons_succ, List.set_cons_zero, List.set_cons_succ, o_add, o_addI, o_sub, o_neg, o_lt, o_le, o_gt, o_ge, o_eq, o_ne, o_int, o_intB, o_abs, o_max, o_min, r_env, List.map_cons, List.map_nil, List.length_cons, List.length_nil, Nat.zero_add, Nat.reduceAdd, Nat.reduceSub, List.replicate_succ, List.replicate_zero, List.cons_append, List.nil_append, Bool.false_eq_true, if_true, if_false, gPar, List.zip_cons_cons, List.zip_nil_right, List.zip_nil_left, List.foldl_cons, List.foldl_nil, unsetE, dv, p_excess hl, decide_eq_false g]
          simp only [if_true, b1, r_ok, r_oNx]
          obtain ⟨l, z, e, a1, a2, a3, a4⟩ := p_while hl n low ((low + high + 1) / 2 - 1) (some (.p (.int ((low + high + 1) / 2)))) h0 (by omega) (by omega) h3 (.inr (by rw [show (low + high + 1) / 2 - 1 + 1 = (low + high + 1) / 2 by omega]; omega))
          exact ⟨l, z, e, a1, by omega, a3, a4⟩
    · have e : low = high := by omega
      subst e
      have t1 : wt_lowered [some (tI ns), some (.p (.int many)), some (.p (.int low)), some (.p (.int low)), z4, z5, z6, z7, z8] S = .ok false S := by
        unfold wt_lowered
        simp only [r_ok, r_c, r_op2, r_op1, r_nil, r_cons, r_callB, r_call, r_and, r_or, r_not, r_asB, r_if, r_andT, r_orT, r_notT, r_test, r_chain, r_seq, r_nx, r_rt, r_bk, r_ct, r_next, r_break, r_cont, r_drop, r_ret, r_retN, r_asg, r_aug, r_ifS, r_par, r_sl, r_noPart, r_part, r_asInt, r_put, r_for, r_src, r_srcA, r_comp, r_meth, r_oNx, r_oCt, r_oBk, r_oRt, r_yes, r_var', r_lift', List.getElem?_cons_zero, List.getElem?_cons_succ, List.set_cons_zero, List.set_cons_succ, o_add, o_addI, o_sub, o_neg, o_lt, o_le, o_gt, o_ge, o_eq, o_ne, o_int, o_intB, o_abs, o_max, o_min, r_env, List.map_cons, List.map_nil, List.length_cons, List.length_nil, Nat.zero_add, Nat.reduceAdd, Nat.reduceSub, List.replicate_succ, List.replicate_zero, List.cons_append, List.nil_append, Bool.false_eq_true, if_true, if_false, gPar, List.zip_cons_cons, List.zip_nil_right, List.zip_nil_left, List.foldl_cons, List.foldl_nil, unsetE, decide_eq_false q]
      rw [r_while, t1, r_ok]
      exact ⟨low, z4, rfl, by omega, by omega, h3, h4⟩
def lowGo (low : Int) : List Int → Int → List Int
  | [], _ => []
  | x :: xs, b => (min x low + (if (decide (low < x) && decide (0 < b)) = true then 1 else 0)) :: lowGo low xs (b - (if (decide (low < x) && decide (0 < b)) = true then 1 else 0))
theorem lowGo_len (low : Int) : ∀ (xs : List Int) (b : Int), (lowGo low xs b).length = xs.length
  | [], _ => rfl
  | x :: xs, b => by
    show (lowGo low xs _).length + 1 = _
    rw [lowGo_len low xs]
    rfl
theorem lowGo_sum (low : Int) : ∀ (xs : List Int) (b : Int), 0 ≤ b → (lowGo low xs b).sum = (xs.map fun x => min x low).sum + min b (cnt low xs)
  | [], b, h => by
    show (0 : Int) = 0 + min b 0
    omega
  | x :: xs, b, h => by
    have c0 : 0 ≤ cnt low xs := by
      unfold cnt
      refine K33.sum_pos fun y hy => ?_
      obtain ⟨z, _, rfl⟩ := List.mem_map.mp hy
      by_cases q : low < z
      · rw [if_pos q]; omega
      · rw [if_neg q]; omega
    have ec : cnt low (x :: xs) = (if low < x then 1 else 0) + cnt low xs := by
      unfold cnt
      rw [List.map_cons, List.sum_cons]
    rw [ec]
    simp only [lowGo, List.sum_cons, List.map_cons]
    by_cases q : low < x
    · by_cases r : 0 < b
      · rw [decide_eq_true q, decide_eq_true r, if_pos q]
        simp only [Bool.and_self, if_true]
        rw [lowGo_sum low xs (b - 1) (by omega)]
        omega
      · rw [decide_eq_true q, decide_eq_false r, if_pos q]
        simp only [Bool.and_false, Bool.false_eq_true, if_false]
        rw [lowGo_sum low xs (b - 0) (by omega)]
        omega
    · rw [decide_eq_false q, if_neg q]
      simp only [Bool.false_and, Bool.false_eq_true, if_false]
      rw [lowGo_sum low xs (b - 0) (by omega)]
      omega
theorem lowGo_at (low : Int) : ∀ (xs : List Int) (b : Int) (i : Nat) (x y : Int), xs[i]? = some x → (lowGo low xs b)[i]? = some y → (x ≤ low → y = x) ∧ (low < x → y = low ∨ y = low + 1)
  | [], b, i, x, y, h, _ => by simp at h
  | z :: xs, b, 0, x, y, h1, h2 => by
    have e1 : z = x := by simpa using h1
    have e2 : min z low + (if (decide (low < z) && decide (0 < b)) = true then 1 else 0) = y := by simpa [lowGo] using h2
    subst e1
    by_cases q : low < z
    · by_cases r : 0 < b
      · rw [decide_eq_true q, decide_eq_true r] at e2
        simp only [Bool.and_self, if_true] at e2
        omega
      · rw [decide_eq_true q, decide_eq_false r] at e2
        simp only [Bool.and_false, Bool.false_eq_true, if_false] at e2
        omega
    · rw [decide_eq_false q] at e2
      simp only [Bool.false_and, Bool.false_eq_true, if_false] at e2
      omega
  | z :: xs, b, i + 1, x, y, h1, h2 => lowGo_at low xs _ i x y (by simpa using h1) (by simpa [lowGo] using h2)
theorem p_lowLoop {many low high : Int} {z4 : Option D} : ∀ (xs : List Int) (b : Int) (done : List P) (z7 z8 : Option D), done.length + xs.length ≤ 1000 → ∃ ρ' : Option D × Option D × Option D,
    loopI [] (gNm 7) lb_lowered (dInts xs) [some d, some (.p (.int many)), some (.p (.int low)), some (.p (.int high)), z4, some (.p (.int b)), some (.r S.objs.length), z7, z8] (SP S done) =
      .ok (.nx ([some d, some (.p (.int many)), some (.p (.int low)), some (.p (.int high)), z4, ρ'.1, some (.r S.objs.length), ρ'.2.1, ρ'.2.2])) (SP S (done ++ (lowGo low xs b).map P.int))
  | [], b, done, z7, z8, _ => by
    refine ⟨(some (.p (.int b)), z7, z8), ?_⟩
    rw [show lowGo low [] b = [] from rfl, List.map_nil, List.append_nil]
    exact loopI_nil rfl
  | x :: xs, b, done, z7, z8, hl => by
    rw [List.length_cons] at hl
    obtain ⟨ρ', e⟩ := p_lowLoop (many := many) (low := low) (high := high) (z4 := z4) xs (b - (if (decide (low < x) && decide (0 < b)) = true then 1 else 0)) (done ++ [P.int (min x low + (if (decide (low < x) && decide (0 < b)) = true then 1 else 0))]) (some (.p (.int x))) (some (.p (.int (if (decide (low < x) && decide (0 < b)) = true then 1 else 0)))) (by simp; omega)
    refine ⟨ρ', ?_⟩
    have ap : fAppend (.r S.objs.length) [.p (.int (min x low + (if (decide (low < x) && decide (0 < b)) = true then 1 else 0)))] (SP S done) = some (.p .non, SP S (done ++ [P.int (min x low + (if (decide (low < x) && decide (0 < b)) = true then 1 else 0))])) := f_append (by omega)
    have st : lb_lowered [some d, some (.p (.int many)), some (.p (.int low)), some (.p (.int high)), z4, some (.p (.int b)), some (.r S.objs.length), some (.p (.int x)), z8] (SP S done) =
        .ok (.nx [some d, some (.p (.int many)), some (.p (.int low)), some (.p (.int high)), z4, some (.p (.int (b - (if (decide (low < x) && decide (0 < b)) = true then 1 else 0)))), some (.r S.objs.length), some (.p (.int x)), some (.p (.int (if (decide (low < x) && decide (0 < b)) = true then 1 else 0)))]) (SP S (done ++ [P.int (min x low + (if (decide (low < x) && decide (0 < b)) = true then 1 else 0))])) := by
      have i1 : (mCallB fInt (mCons (mAnd (mOp2 fGt (mVar 7) (mVar 2)) (mOp2 fGt (mVar 5) (mC (.int 0)))) mNil)) [some d, some (.p (.int many)), some (.p (.int low)), some (.p (.int high)), z4, some (.p (.int b)), some (.r S.objs.length), some (.p (.int x)), z8] (SP S done) = .ok (.p (.int (if (decide (low < x) && decide (0 < b)) = true then 1 else 0))) (SP S done) := by
        cases q : decide (low < x) with
        | true => simp only [r_ok, r_c, r_op2, r_op1, r_nil, r_cons, r_callB, r_call, r_and, r_or, r_not, r_asB, r_if, r_andT, r_orT, r_notT, r_test, r_chain, r_seq, r_nx, r_rt, r_bk, r_ct, r_next, r_break, r_cont, r_drop, r_ret, r_retN, r_asg, r_aug, r_ifS, r_par, r_sl, r_noPart, r_part, r_asInt, r_put, r_for, r_src, r_srcA, r_comp, r_meth, r_oNx, r_oCt, r_oBk, r_oRt, r_yes, r_var', r_lift', List.getElem?_cons_zero, List.getElem?_cons_succ, List.set_cons_zero, List.set_cons_succ, o_add, o_addI, o_sub, o_neg, o_lt, o_le, o_gt, o_ge, o_eq, o_ne, o_int, o_intB, o_abs, o_max, o_min, r_env, List.map_cons, List.map_nil, List.length_cons, List.length_nil, Nat.zero_add, Nat.reduceAdd, Nat.reduceSub, List.replicate_succ, List.replicate_zero, List.cons_append, List.nil_append, Bool.false_eq_true, if_true, if_false, gPar, List.zip_cons_cons, List.zip_nil_right, List.zip_nil_left, List.foldl_cons, List.foldl_nil, unsetE, q, Bool.true_and]
        | false => simp only [r_ok, r_c, r_op2, r_op1, r_nil, r_cons, r_callB, r_call, r_and, r_or, r_not, r_asB, r_if, r_andT, r_orT, r_notT, r_test, r_chain, r_seq, r_nx, r_rt, r_bk, r_ct, r_next, r_break, r_cont, r_drop, r_ret, r_retN, r_asg, r_aug, r_ifS, r_par, r_sl, r_noPart, r_part, r_asInt, r_put, r_for, r_src, r_srcA, r_comp, r_meth, r_oNx, r_oCt, r_oBk, r_oRt, r_yes, r_var', r_lift', List.getElem?_cons_zero, List.getElem?_cons_succ, List.set_cons_zero, List.set_cons_succ, o_add, o_addI, o_sub, o_neg, o_lt, o_le, o_gt, o_ge, o_eq, o_ne, o_int, o_intB, o_abs, o_max, o_min, r_env, List.map_cons, List.map_nil, List.length_cons, List.length_nil, Nat.zero_add, Nat.reduceAdd, Nat.reduceSub, List.replicate_succ, List.replicate_zero, List.cons_append, List.nil_append, Bool.false_eq_true, if_true, if_false, gPar, List.zip_cons_cons, List.zip_nil_right, List.zip_nil_left, List.foldl_cons, List.foldl_nil, unsetE, q, Bool.false_and]
      unfold lb_lowered
      rw [r_seq, r_asg, i1]
      simp only [r_ok, r_c, r_op2, r_op1, r_nil, r_cons, r_callB, r_call, r_and, r_or, r_not, r_asB, r_if, r_andT, r_orT, r_notT, r_test, r_chain, r_seq, r_nx, r_rt, r_bk, r_ct, r_next, r_break, r_cont, r_drop, r_ret, r_retN, r_asg, r_aug, r_ifS, r_par, r_sl, r_noPart, r_part, r_asInt, r_put, r_for, r_src, r_srcA, r_comp, r_meth, r_oNx, r_oCt, r_oBk, r_oRt, r_yes, r_var', r_lift', List.getElem?_cons_zero, List.getElem?_cons_succ, List.set_cons_zero, List.set_cons_succ, o_add, o_addI, o_sub, o_neg, o_lt, o_le, o_gt, o_ge, o_eq, o_ne, o_int, o_intB, o_abs, o_max, o_min, r_env, List.map_cons, List.map_nil, List.length_cons, List.length_nil, Nat.zero_add, Nat.reduceAdd, Nat.reduceSub, List.replicate_succ, List.replicate_zero, List.cons_append, List.nil_append, Bool.false_eq_true, if_true, if_false, gPar, List.zip_cons_cons, List.zip_nil_right, List.zip_nil_left, List.foldl_cons, List.foldl_nil, unsetE, SP_lst, ap]
    rw [show dInts (x :: xs) = D.p (.int x) :: dInts xs from rfl, loopI_cons rfl rfl]
    show (lb_lowered [some d, some (.p (.int many)), some (.p (.int low)), some (.p (.int high)), z4, some (.p (.int b)), some (.r S.objs.length), some (.p (.int x)), z8] (SP S done)).bind _ = _
    rw [st, r_ok, r_oNx, e]
    simp [lowGo]
theorem p_lowered {many : Int} (h : RowOk ns) (h0 : 0 ≤ many) (hm : many ≤ ns.sum) : ∃ vs l, m_lowered [tI ns, .p (.int many)] S = .ok (tI vs) S ∧ 0 ≤ l ∧ Cap ns vs l ∧ ns.sum - vs.sum = many := by
  have hlen := h.len
  have hone := h.one
  match ns, h, hm, hlen, hone with
  | n :: ms, h, hm, hlen, _ =>
  have hH := K33.foldl_max ms n
  have top : ∀ x ∈ n :: ms, x ≤ ms.foldl max n := fun x hx => by
    rcases List.mem_cons.mp hx with rfl | hx
    · exact hH.1
    · exact hH.2.1 x hx
  have mem : ms.foldl max n ∈ n :: ms := hH.2.2.elim (fun e => by rw [e]; exact List.mem_cons_self) (List.mem_cons_of_mem _)
  have m1 := o_maxL (S := S) (d := tI (n :: ms)) (n := n) (ns := ms) tI_seq
  generalize ms.foldl max n = H at m1 top mem
  have H0 := h.pos H mem
  have H1 := h.top H mem
  obtain ⟨l, z4, w, a1, a2, a3, a4⟩ := p_while (S := S) (ns := n :: ms) (many := many) (H := H) (z5 := none) (z6 := none) (z7 := none) (z8 := none) (by omega) 199 0 H none (by omega) H0 (by
    have : (MAXN : Int) < 2 ^ 199 := by decide
    omega) (by rw [exc_zero h.pos]; exact hm) (.inl rfl)
  obtain ⟨ρ', lp⟩ := p_lowLoop (S := S) (d := tI (n :: ms)) (many := many) (low := l) (high := l) (z4 := z4) (n :: ms) (exc (n :: ms) l - many) [] none none (by simp only [List.length_nil]; omega)
  refine ⟨lowGo l (n :: ms) (exc (n :: ms) l - many), l, ?_, by omega, ⟨lowGo_len _ _ _, fun i x y e1 e2 => lowGo_at l _ _ i x y e1 e2⟩, ?_⟩
  · refine fn_pure (x := .tup ((lowGo l (n :: ms) (exc (n :: ms) l - many)).map P.int)) (S' := SP S ((lowGo l (n :: ms) (exc (n :: ms) l - many)).map P.int)) ?_ SP_take
    have w' : mWhile wt_lowered wb_lowered 200 _ S = _ := w
    have nw : fLst [] S = some (.r S.objs.length, SP S []) := f_new (ps := []) (by decide)
    rw [List.nil_append] at lp
    unfold b_lowered
    simp only [r_ok, r_c, r_op2, r_op1, r_nil, r_cons, r_callB, r_call, r_and, r_or, r_not, r_asB, r_if, r_andT, r_orT, r_notT, r_test, r_chain, r_seq, r_nx, r_rt, r_bk, r_ct, r_next, r_break, r_cont, r_drop, r_ret, r_retN, r_asg, r_aug, r_ifS, r_par, r_sl, r_noPart, r_part, r_asInt, r_put, r_for, r_src, r_srcA, r_comp, r_meth, r_oNx, r_oCt, r_oBk, r_oRt, r_yes, r_var', r_lift', List.getElem?_cons_zero, List.getElem?_cons_succ, List.set_cons_zero, List.set_cons_succ, o_add, o_addI, o_sub, o_neg, o_lt, o_le, o_gt, o_ge, o_eq, o_ne, o_int, o_intB, o_abs, o_max, o_min, r_env, List.map_cons, List.map_nil, List.length_cons, List.length_nil, Nat.zero_add, Nat.reduceAdd, Nat.reduceSub, List.replicate_succ, List.replicate_zero, List.cons_append, List.nil_append, Bool.false_eq_true, if_true, if_false, gPar, List.zip_cons_cons, List.zip_nil_right, List.zip_nil_left, List.foldl_cons, List.foldl_nil, unsetE, m1, w', p_excess (S := S) (ns := n :: ms) (l := l) (by omega), nw, o_srcT tI_tup, lp, f_toT_r]
  · have s1 := lowGo_sum l (n :: ms) (exc (n :: ms) l - many) (by omega)
    have s2 := exc_sum l (n :: ms)
    have s3 := exc_succ l (n :: ms)
    rcases a4 with rfl | a4
    · have := exc_max top
      have c0 : 0 ≤ cnt l (n :: ms) := by
        unfold cnt
        refine K33.sum_pos fun y hy => ?_
        obtain ⟨z, _, rfl⟩ := List.mem_map.mp hy
        by_cases q : l < z
        · rw [if_pos q]; omega
        · rw [if_neg q]; omega
      omega
    · omega
theorem few_le_sum (h : Pos ns) : few ns ≤ ns.sum := by
  have z : few (List.replicate ns.length 0) = 0 := K33.few_zero fun x hx => List.eq_of_mem_replicate hx
  obtain ⟨m0, p0⟩ := K33.few_nil z
  have k := K33.few_low (v := List.replicate ns.length 0) (d := ns) ⟨by simp, fun i x y e1 e2 => by
    have := List.eq_of_mem_replicate (List.mem_of_getElem? e1)
    have := h y (List.mem_of_getElem? e2)
    omega⟩ m0 p0
  have s0 : (List.replicate ns.length (0 : Int)).sum = 0 := by
    rw [K33.sum_rep]
    omega
  omega
/-- a row at the least distance -/
structure NearOk (ns vs : List Int) : Prop where
  le : Le vs ns
  pos : Pos vs
  sum : ns.sum - vs.sum = few ns
  few : few vs = 0
theorem p_nearest (h : RowOk ns) : ∃ vs, m_nearest [tI ns] S = .ok (tI vs) S ∧ NearOk ns vs := by
  have hl := h.len
  obtain ⟨vs, l, e, hl0, hc, hs⟩ := p_lowered (S := S) h (K33.few_pos ns) (few_le_sum h.pos)
  refine ⟨vs, ?_, hc.le, fun y hy => ?_, hs, K33.cap_possible hl0 h.pos hc hs⟩
  · refine fn_pure0 (x := .tup (vs.map P.int)) ?_
    unfold b_nearest
    simp only [r_ok, r_c, r_op2, r_op1, r_nil, r_cons, r_callB, r_call, r_and, r_or, r_not, r_asB, r_if, r_andT, r_orT, r_notT, r_test, r_chain, r_seq, r_nx, r_rt, r_bk, r_ct, r_next, r_break, r_cont, r_drop, r_ret, r_retN, r_asg, r_aug, r_ifS, r_par, r_sl, r_noPart, r_part, r_asInt, r_put, r_for, r_src, r_srcA, r_comp, r_meth, r_oNx, r_oCt, r_oBk, r_oRt, r_yes, r_var', r_lift', List.getElem?_cons_zero, List.getElem?_cons_succ, List.set_cons_zero, List.set_cons_succ, o_add, o_addI, o_sub, o_neg, o_lt, o_le, o_gt, o_ge, o_eq, o_ne, o_int, o_intB, o_abs, o_max, o_min, r_env, List.map_cons, List.map_nil, List.length_cons, List.length_nil, Nat.zero_add, Nat.reduceAdd, Nat.reduceSub, List.replicate_succ, List.replicate_zero, List.cons_append, List.nil_append, Bool.false_eq_true, if_true, if_false, gPar, List.zip_cons_cons, List.zip_nil_right, List.zip_nil_left, List.foldl_cons, List.foldl_nil, unsetE, p_require h, p_fewest_in (d := tI ns) (ns := ns) tI_seq (by omega), e]
    rfl
  · obtain ⟨j, ej⟩ := K33.mem_at hy
    have hj : j < ns.length := by
      rw [← hc.1]
      exact (List.getElem?_eq_some_iff.mp ej).1
    have c := hc.2 j ns[j] y (List.getElem?_eq_getElem hj) ej
    have := h.pos ns[j] (List.getElem_mem hj)
    by_cases q : ns[j] ≤ l
    · rw [c.1 q]
      exact this
    · have := c.2 (by omega)
      omega
end
end DL
set_option maxHeartbeats 4000000
namespace DL
open PySem PySem.Spec PyProof.Rows L2
open K33 (fk Mx few fewS Row Pos Cap Le)
section
variable {S : Store} {ns vs : List Int} {d : D}
theorem lI_tup : (lI ns).tup? = none := rfl
theorem dInts_map (ns : List Int) : dInts ns = pD (ns.map P.int) := dInts_pD ns
/-! ### the greatest lack, the law's way -/
theorem step_greatest {s : List Int} {j : Nat} (hj : j < s.length) (hl : s.length ≤ 1000) {done : List P} (hd : done.length ≤ 1000) {z4 : Option D} :
    ∃ z4', lb__law_greatest [some d, some (lI s), some (.r S.objs.length), some (.p (.int ((j : Int) + 1))), z4, none] (SP S done) =
      .ok (.nx [some d, some (lI s), some (.r S.objs.length), some (.p (.int ((j : Int) + 1))), some z4', none]) (SP S (done ++ [P.int (fk s (j + 1))])) := by
  have c1 : compI [] (gNm 5) mYes ce__law_greatest [some d, some (lI s), some (.r S.objs.length), some (.p (.int ((j : Int) + 1))), z4, none] [] (dInts (s.drop (j + 1))) (SP S done) = .ok (dInts ((s.drop (j + 1)).map (min ((j : Int) + 1)))) (SP S done) := by
    refine compI_ints rfl _ (by simp; omega) fun i hi => ⟨_, rfl, ?_⟩
    unfold ce__law_greatest
    simp only [r_ok, r_c, r_op2, r_op1, r_nil, r_cons, r_callB, r_call, r_and, r_or, r_not, r_asB, r_if, r_andT, r_orT, r_notT, r_test, r_chain, r_seq, r_nx, r_rt, r_bk, r_ct, r_next, r_break, r_cont, r_drop, r_ret, r_retN, r_asg, r_aug, r_ifS, r_par, r_sl, r_noPart, r_part, r_asInt, r_put, r_for, r_src, r_srcA, r_comp, r_meth, r_oNx, r_oCt, r_oBk, r_oRt, r_yes, r_var', r_lift', List.getElem?_cons_zero, List.getElem?_cons_succ, List.set_cons_zero, List.set_cons_succ, o_add, o_addI, o_sub, o_neg, o_lt, o_le, o_gt, o_ge, o_eq, o_ne, o_int, o_intB, o_abs, o_max, o_min, r_env, List.map_cons, List.map_nil, List.length_cons, List.length_nil, Nat.zero_add, Nat.reduceAdd, Nat.reduceSub, List.replicate_succ, List.replicate_zero, List.cons_append, List.nil_append, Bool.false_eq_true, if_true, if_false, gPar, List.zip_cons_cons, List.zip_nil_right, List.zip_nil_left, List.foldl_cons, List.foldl_nil, unsetE]
  have e : ((j : Int) + 1) = ((j + 1 : Nat) : Int) := by omega
  have c2 : fCut fLstF (lI s) (some ((j : Int) + 1)) none (SP S done) = some (lI (s.drop (j + 1)), SP S done) := by
    rw [e, o_cutL lI_tup lI_lst, cut_from, dInts_drop, f_lstF (by simp; omega)]
  have c3 : fCut fLstF (lI s) none (some ((j : Int) + 1)) (SP S done) = some (lI (s.take (j + 1)), SP S done) := by
    rw [e, o_cutL lI_tup lI_lst, cut_to, dInts_take, f_lstF (by simp; omega)]
  have hm : fMulA fLstF (.p (.int ((j : Int) + 1))) (.p (.int ((j : Int) + 1 - 1))) (SP S done) = some (.p (.int (((j : Int) + 1) * ((j : Int) + 1 - 1))), SP S done) := o_mul (bits_small (by omega)) (bits_small (by omega))
  have c4 : fLstF (dInts ((s.drop (j + 1)).map (min ((j : Int) + 1)))) (SP S done) = some (lI ((s.drop (j + 1)).map (min ((j : Int) + 1))), SP S done) := f_lstF (by simp; omega)
  have e2 : (s.take (j + 1)).sum - ((j : Int) + 1) * ((j : Int) + 1 - 1) - ((s.drop (j + 1)).map (min ((j : Int) + 1))).sum = fk s (j + 1) := by
    unfold fk
    rw [← e]
  have ap : fAppend (.r S.objs.length) [.p (.int (fk s (j + 1)))] (SP S done) = some (.p .non, SP S (done ++ [P.int (fk s (j + 1))])) := f_append (by omega)
  refine ⟨.p (.int ((s.drop (j + 1)).map (min ((j : Int) + 1))).sum), ?_⟩
  unfold lb__law_greatest
  simp only [r_ok, r_c, r_op2, r_op1, r_nil, r_cons, r_callB, r_call, r_and, r_or, r_not, r_asB, r_if, r_andT, r_orT, r_notT, r_test, r_chain, r_seq, r_nx, r_rt, r_bk, r_ct, r_next, r_break, r_cont, r_drop, r_ret, r_retN, r_asg, r_aug, r_ifS, r_par, r_sl, r_noPart, r_part, r_asInt, r_put, r_for, r_src, r_srcA, r_comp, r_meth, r_oNx, r_oCt, r_oBk, r_oRt, r_yes, r_var', r_lift', List.getElem?_cons_zero, List.getElem?_cons_succ, List.set_cons_zero, List.set_cons_succ, o_add, o_addI, o_sub, o_neg, o_lt, o_le, o_gt, o_ge, o_eq, o_ne, o_int, o_intB, o_abs, o_max, o_min, r_env, List.map_cons, List.map_nil, List.length_cons, List.length_nil, Nat.zero_add, Nat.reduceAdd, Nat.reduceSub, List.replicate_succ, List.replicate_zero, List.cons_append, List.nil_append, Bool.false_eq_true, if_true, if_false, gPar, List.zip_cons_cons, List.zip_nil_right, List.zip_nil_left, List.foldl_cons, List.foldl_nil, unsetE, c2, c3, o_srcL lI_tup lI_lst, show watchOf (lI s) (dInts s) = [] from rfl, show ∀ l : List Int, watchOf (lI l) (dInts l) = [] from fun _ => rfl, c1, c4, f_sum lI_seq, hm, e2, SP_lst, ap]
theorem loop_greatest {s : List Int} (hl : s.length ≤ 1000) : ∀ (m j : Nat) (z3 z4 : Option D), j + m = s.length → ∃ ρ' : Option D × Option D,
    loopI [] (gNm 3) lb__law_greatest (rangeD ((j : Int) + 1) m) [some d, some (lI s), some (.r S.objs.length), z3, z4, none] (SP S ((0 :: (List.range j).map fun i => fk s (i + 1)).map P.int)) =
      .ok (.nx [some d, some (lI s), some (.r S.objs.length), ρ'.1, ρ'.2, none]) (SP S ((0 :: (List.range s.length).map fun i => fk s (i + 1)).map P.int))
  | 0, j, z3, z4, h => by
    have e : j = s.length := by omega
    subst e
    exact ⟨(z3, z4), loopI_nil rfl⟩
  | m + 1, j, z3, z4, h => by
    obtain ⟨z4', st⟩ := step_greatest (S := S) (d := d) (s := s) (j := j) (by omega) hl (done := (0 :: (List.range j).map fun i => fk s (i + 1)).map P.int) (by simp; omega) (z4 := z4)
    obtain ⟨ρ', ih⟩ := loop_greatest hl m (j + 1) (some (.p (.int ((j : Int) + 1)))) (some z4') (by omega)
    refine ⟨ρ', ?_⟩
    rw [rangeD_succ, loopI_cons rfl rfl]
    show (lb__law_greatest [some d, some (lI s), some (.r S.objs.length), some (.p (.int ((j : Int) + 1))), z4, none] _).bind _ = _
    rw [st, r_ok, r_oNx]
    have e1 : ((j + 1 : Nat) : Int) + 1 = (j : Int) + 1 + 1 := by omega
    have e2 : (0 :: (List.range (j + 1)).map fun i => fk s (i + 1)).map P.int = (0 :: (List.range j).map fun i => fk s (i + 1)).map P.int ++ [P.int (fk s (j + 1))] := by
      rw [List.range_succ]
      simp
    rw [e1, e2] at ih
    exact ih
theorem p_greatest (hd : d.seq? S = some (dInts ns)) (hl : ns.length ≤ 1000) : m__law_greatest [d] S = .ok (.p (.int (Mx (sortDn ns)))) S := by
  have hn : (sortDn ns).length = ns.length := (K33.sortDn_perm ns).length_eq
  have f := f_srt (b := true) hd (by omega : ns.length ≤ 100000)
  have f' : fSrt true fLstF [d] S = some (lI (sortDn ns), S) := f
  generalize hs : sortDn ns = s at f' hn
  have nw : fLst [.p (.int 0)] S = some (.r S.objs.length, SP S [.int 0]) := f_new (ps := [.int 0]) (by simp)
  obtain ⟨ρ', lp⟩ := loop_greatest (S := S) (d := d) (s := s) (by omega) s.length 0 none none (by omega)
  have lp' : loopI [] (gNm 3) lb__law_greatest (rangeD 1 s.length) [some d, some (lI s), some (.r S.objs.length), none, none, none] (SP S [.int 0]) = _ := lp
  have l1 : fLen [lI s] (SP S [.int 0]) = some (.p (.int s.length), SP S [.int 0]) := by
    have := f_len (S := SP S [.int 0]) (d := lI s) lI_seq
    rwa [dInts_len] at this
  have rg : srcR2 [.p (.int 1), .p (.int ((s.length : Int) + 1))] (SP S [.int 0]) = some (⟨rangeD 1 s.length, []⟩, SP S [.int 0]) := by
    rw [o_range2 (by decide) (fit_small (by omega) (by omega))]
    congr 4
    omega
  have mx := o_maxL (S := SP S ((0 :: (List.range s.length).map fun i => fk s (i + 1)).map P.int)) (d := .r S.objs.length) (n := 0) (ns := (List.range s.length).map fun i => fk s (i + 1)) (by rw [SP_seq, dInts_pD])
  have eM : Mx s = ((List.range s.length).map fun i => fk s (i + 1)).foldl max 0 := rfl
  rw [eM]
  generalize ((List.range s.length).map fun i => fk s (i + 1)) = L at mx lp'
  rw [List.map_cons] at mx lp'
  refine fn_pure (S' := SP S (P.int 0 :: L.map P.int)) ?_ SP_take
  have A : mPar [1, 2] (mCons (mCallB (fSrt true fLstF) (mCons (mVar 0) mNil)) (mCons (mCallB fLst (mCons (mC (.int 0)) mNil)) mNil)) (env0 6 [d]) S = .ok (.nx [some d, some (lI s), some (.r S.objs.length), none, none, none]) (SP S [.int 0]) := by
    simp only [r_ok, r_c, r_op2, r_op1, r_nil, r_cons, r_callB, r_call, r_and, r_or, r_not, r_asB, r_if, r_andT, r_orT, r_notT, r_test, r_chain, r_seq, r_nx, r_rt, r_bk, r_ct, r_next, r_break, r_cont, r_drop, r_ret, r_retN, r_asg, r_aug, r_ifS, r_par, r_sl, r_noPart, r_part, r_asInt, r_put, r_for, r_src, r_srcA, r_comp, r_meth, r_oNx, r_oCt, r_oBk, r_oRt, r_yes, r_var', r_lift', List.getElem?_cons_zero, List.getElem?_cons_succ, List.set_cons_zero, List.set_cons_succ, o_add, o_addI, o_sub, o_neg, o_lt, o_le, o_gt, o_ge, o_eq, o_ne, o_int, o_intB, o_abs, o_max, o_min, r_env, List.map_cons, List.map_nil, List.length_cons, List.length_nil, Nat.zero_add, Nat.reduceAdd, Nat.reduceSub, List.replicate_succ, List.replicate_zero, List.cons_append, List.nil_append, Bool.false_eq_true, if_true, if_false, gPar, List.zip_cons_cons, List.zip_nil_right, List.zip_nil_left, List.foldl_cons, List.foldl_nil, unsetE, f', nw]
  have B : mFor (mSrcA srcR2 (mCons (mC (.int 1)) (mCons (mOp2 (fAddG fLstF) (mCallB fLen (mCons (mVar 1) mNil)) (mC (.int 1))) mNil))) (gNm 3) lb__law_greatest [some d, some (lI s), some (.r S.objs.length), none, none, none] (SP S [.int 0]) = .ok (.nx [some d, some (lI s), some (.r S.objs.length), ρ'.1, ρ'.2, none]) (SP S (P.int 0 :: L.map P.int)) := by
    refine r_forE (S1 := SP S [.int 0]) (w := []) (xs := rangeD 1 s.length) ?_ lp'
    have as : (mCons (mC (.int 1)) (mCons (mOp2 (fAddG fLstF) (mCallB fLen (mCons (mVar 1) mNil)) (mC (.int 1))) mNil)) [some d, some (lI s), some (.r S.objs.length), none, none, none] (SP S [.int 0]) = .ok [.p (.int 1), .p (.int (s.length + 1))] (SP S [.int 0]) := by
      simp only [r_ok, r_c, r_op2, r_op1, r_nil, r_cons, r_callB, r_call, r_and, r_or, r_not, r_asB, r_if, r_andT, r_orT, r_notT, r_test, r_chain, r_seq, r_nx, r_rt, r_bk, r_ct, r_next, r_break, r_cont, r_drop, r_ret, r_retN, r_asg, r_aug, r_ifS, r_par, r_sl, r_noPart, r_part, r_asInt, r_put, r_for, r_src, r_srcA, r_comp, r_meth, r_oNx, r_oCt, r_oBk, r_oRt, r_yes, r_var', r_lift', List.getElem?_cons_zero, List.getElem?_cons_succ, List.set_cons_zero, List.set_cons_succ, o_add, o_addI, o_sub, o_neg, o_lt, o_le, o_gt, o_ge, o_eq, o_ne, o_int, o_intB, o_abs, o_max, o_min, r_env, List.map_cons, List.map_nil, List.length_cons, List.length_nil, Nat.zero_add, Nat.reduceAdd, Nat.reduceSub, List.replicate_succ, List.replicate_zero, List.cons_append, List.nil_append, Bool.false_eq_true, if_true, if_false, gPar, List.zip_cons_cons, List.zip_nil_right, List.zip_nil_left, List.foldl_cons, List.foldl_nil, unsetE, l1]
    rw [r_srcA, as, r_ok, r_lift rg]
  have C : mRet (mCallB fMax (mCons (mVar 2) mNil)) [some d, some (lI s), some (.r S.objs.length), ρ'.1, ρ'.2, none] (SP S (P.int 0 :: L.map P.int)) = .ok (.rt (.p (.int (L.foldl max 0)))) (SP S (P.int 0 :: L.map P.int)) := by
    simp only [r_ok, r_c, r_op2, r_op1, r_nil, r_cons, r_callB, r_call, r_and, r_or, r_not, r_asB, r_if, r_andT, r_orT, r_notT, r_test, r_chain, r_seq, r_nx, r_rt, r_bk, r_ct, r_next, r_break, r_cont, r_drop, r_ret, r_retN, r_asg, r_aug, r_ifS, r_par, r_sl, r_noPart, r_part, r_asInt, r_put, r_for, r_src, r_srcA, r_comp, r_meth, r_oNx, r_oCt, r_oBk, r_oRt, r_yes, r_var', r_lift', List.getElem?_cons_zero, List.getElem?_cons_succ, List.set_cons_zero, List.set_cons_succ, o_add, o_addI, o_sub, o_neg, o_lt, o_le, o_gt, o_ge, o_eq, o_ne, o_int, o_intB, o_abs, o_max, o_min, r_env, List.map_cons, List.map_nil, List.length_cons, List.length_nil, Nat.zero_add, Nat.reduceAdd, Nat.reduceSub, List.replicate_succ, List.replicate_zero, List.cons_append, List.nil_append, Bool.false_eq_true, if_true, if_false, gPar, List.zip_cons_cons, List.zip_nil_right, List.zip_nil_left, List.foldl_cons, List.foldl_nil, unsetE, mx]
  unfold b__law_greatest
  rw [r_seq, A, r_ok, r_nx, r_seq, B, r_ok, r_nx, C]
theorem p_fewest (hd : d.seq? S = some (dInts ns)) (hl : ns.length ≤ 1000) : m__law_fewest [d] S = .ok (.p (.int (few ns))) S := by
  refine fn_pure0 ?_
  unfold b__law_fewest
  simp only [r_ok, r_c, r_op2, r_op1, r_nil, r_cons, r_callB, r_call, r_and, r_or, r_not, r_asB, r_if, r_andT, r_orT, r_notT, r_test, r_chain, r_seq, r_nx, r_rt, r_bk, r_ct, r_next, r_break, r_cont, r_drop, r_ret, r_retN, r_asg, r_aug, r_ifS, r_par, r_sl, r_noPart, r_part, r_asInt, r_put, r_for, r_src, r_srcA, r_comp, r_meth, r_oNx, r_oCt, r_oBk, r_oRt, r_yes, r_var', r_lift', List.getElem?_cons_zero, List.getElem?_cons_succ, List.set_cons_zero, List.set_cons_succ, o_add, o_addI, o_sub, o_neg, o_lt, o_le, o_gt, o_ge, o_eq, o_ne, o_int, o_intB, o_abs, o_max, o_min, r_env, List.map_cons, List.map_nil, List.length_cons, List.length_nil, Nat.zero_add, Nat.reduceAdd, Nat.reduceSub, List.replicate_succ, List.replicate_zero, List.cons_append, List.nil_append, Bool.false_eq_true, if_true, if_false, gPar, List.zip_cons_cons, List.zip_nil_right, List.zip_nil_left, List.foldl_cons, List.foldl_nil, unsetE, p_greatest hd hl, f_sum hd, o_mod (show (0 : Int) < 2 by decide)]
  unfold few fewS
  rw [K33.sortDn_sum]
theorem p_possible (hd : d.seq? S = some (dInts ns)) (hl : ns.length ≤ 1000) : m__law_is_possible [d] S = .ok (.p (.bl (decide (few ns = 0)))) S := by
  refine fn_pure0 ?_
  unfold b__law_is_possible
  simp only [r_ok, r_c, r_op2, r_op1, r_nil, r_cons, r_callB, r_call, r_and, r_or, r_not, r_asB, r_if, r_andT, r_orT, r_notT, r_test, r_chain, r_seq, r_nx, r_rt, r_bk, r_ct, r_next, r_break, r_cont, r_drop, r_ret, r_retN, r_asg, r_aug, r_ifS, r_par, r_sl, r_noPart, r_part, r_asInt, r_put, r_for, r_src, r_srcA, r_comp, r_meth, r_oNx, r_oCt, r_oBk, r_oRt, r_yes, r_var', r_lift', List.getElem?_cons_zero, List.getElem?_cons_succ, List.set_cons_zero, List.set_cons_succ, o_add, o_addI, o_sub, o_neg, o_lt, o_le, o_gt, o_ge, o_eq, o_ne, o_int, o_intB, o_abs, o_max, o_min, r_env, List.map_cons, List.map_nil, List.length_cons, List.length_nil, Nat.zero_add, Nat.reduceAdd, Nat.reduceSub, List.replicate_succ, List.replicate_zero, List.cons_append, List.nil_append, Bool.false_eq_true, if_true, if_false, gPar, List.zip_cons_cons, List.zip_nil_right, List.zip_nil_left, List.foldl_cons, List.foldl_nil, unsetE, p_greatest hd hl, f_sum hd, o_mod (show (0 : Int) < 2 by decide)]
  by_cases q : ns.sum % 2 = 0
  · simp only [q, decide_true, r_ok, r_c, r_op2, r_op1, r_nil, r_cons, r_callB, r_call, r_and, r_or, r_not, r_asB, r_if, r_andT, r_orT, r_notT, r_test, r_chain, r_seq, r_nx, r_rt, r_bk, r_ct, r_next, r_break, r_cont, r_drop, r_ret, r_retN, r_asg, r_aug, r_ifS, r_par, r_sl, r_noPart, r_part, r_asInt, r_put, r_for, r_src, r_srcA, r_comp, r_meth, r_oNx, r_oCt, r_oBk, r_oRt, r_yes, r_var', r_lift', List.getElem?_cons_zero, List.getElem?_cons_succ, List.set_cons_zero, List.set_cons_succ, o_add, o_addI, o_sub, o_neg, o_lt, o_le, o_gt, o_ge, o_eq, o_ne, o_int, o_intB, o_abs, o_max, o_min, r_env, List.map_cons, List.map_nil, List.length_cons, List.length_nil, Nat.zero_add, Nat.reduceAdd, Nat.reduceSub, List.replicate_succ, List.replicate_zero, List.cons_append, List.nil_append, Bool.false_eq_true, if_true, if_false, gPar, List.zip_cons_cons, List.zip_nil_right, List.zip_nil_left, List.foldl_cons, List.foldl_nil, unsetE, p_greatest hd hl]
    have e : (Mx (sortDn ns) = 0) = (few ns = 0) := propext ⟨fun z => K33.few_possible z q, fun z => (K33.few_nil z).1⟩
    simp only [e]
  · have e : ¬ few ns = 0 := fun z => q (K33.few_nil z).2
    simp only [q, e, decide_false, r_ok, r_c, r_op2, r_op1, r_nil, r_cons, r_callB, r_call, r_and, r_or, r_not, r_asB, r_if, r_andT, r_orT, r_notT, r_test, r_chain, r_seq, r_nx, r_rt, r_bk, r_ct, r_next, r_break, r_cont, r_drop, r_ret, r_retN, r_asg, r_aug, r_ifS, r_par, r_sl, r_noPart, r_part, r_asInt, r_put, r_for, r_src, r_srcA, r_comp, r_meth, r_oNx, r_oCt, r_oBk, r_oRt, r_yes, r_var', r_lift', List.getElem?_cons_zero, List.getElem?_cons_succ, List.set_cons_zero, List.set_cons_succ, o_add, o_addI, o_sub, o_neg, o_lt, o_le, o_gt, o_ge, o_eq, o_ne, o_int, o_intB, o_abs, o_max, o_min, r_env, List.map_cons, List.map_nil, List.length_cons, List.length_nil, Nat.zero_add, Nat.reduceAdd, Nat.reduceSub, List.replicate_succ, List.replicate_zero, List.cons_append, List.nil_append, Bool.false_eq_true, if_true, if_false, gPar, List.zip_cons_cons, List.zip_nil_right, List.zip_nil_left, List.foldl_cons, List.foldl_nil, unsetE]

/-! ### units taken one by one -/
theorem f_index {T : Store} {i : Int} {j : Nat} (h : ns.idxOf? i = some j) : fIndex (.r T.objs.length) [.p (.int i)] (SP T (ns.map P.int)) = some (.p (.int j), SP T (ns.map P.int)) := by
  unfold fIndex
  simp only [SP_lst]
  have e : intsD (pD (ns.map P.int)) = some ns := by
    rw [← dInts_pD, intsD_d]
  simp only [e, h]
theorem taken_loop (row : List Int) (hr : RowOk row) {z1 : Option D} : ∀ (m t : Nat) (cur : List Int) (z3 z4 : Option D), Le cur row → Pos cur → cur.length = row.length → row.sum - cur.sum = t → few cur ≤ few row - t → ((t + m : Nat) : Int) ≤ few row →
    ∃ (ρ' : Option D × Option D) (fin : List Int), loopI [] (gNm 3) lb__law_taken (rangeD (t : Int) m) [some d, z1, some (.r S.objs.length), z3, z4] (SP S (cur.map P.int)) = .ok (.nx [some d, z1, some (.r S.objs.length), ρ'.1, ρ'.2]) (SP S (fin.map P.int)) ∧
      Le fin row ∧ Pos fin ∧ row.sum - fin.sum = ((t + m : Nat) : Int) ∧ few fin ≤ few row - ((t + m : Nat) : Int)
  | 0, t, cur, z3, z4, h1, h2, h3, h4, h5, h6 => ⟨(z3, z4), cur, loopI_nil rfl, h1, h2, h4, h5⟩
  | m + 1, t, cur, z3, z4, h1, h2, h3, h4, h5, h6 => by
    have hlen := hr.len
    -- something is left
    have hf : 1 ≤ few cur := by
      apply Classical.byContradiction
      intro q
      have z : few cur = 0 := by
        have := K33.few_pos cur
        omega
      obtain ⟨m0, p0⟩ := K33.few_nil z
      have := K33.few_low h1 m0 p0
      omega
    have hne : cur ≠ [] := fun z => by
      have := hr.one
      rw [z] at h3
      simp at h3
      omega
    obtain ⟨c, cs, ec⟩ : ∃ c cs, cur = c :: cs := by
      cases cur with
      | nil => exact absurd rfl hne
      | cons c cs => exact ⟨c, cs, rfl⟩
    have hH := K33.foldl_max cs c
    have top : ∀ x ∈ cur, x ≤ cs.foldl max c := fun x hx => by
      rw [ec] at hx
      rcases List.mem_cons.mp hx with rfl | hx
      · exact hH.1
      · exact hH.2.1 x hx
    have mem : cs.foldl max c ∈ cur := by
      rw [ec]
      exact hH.2.2.elim (fun e => by rw [e]; exact List.mem_cons_self) (List.mem_cons_of_mem _)
    have mx := o_maxL (S := SP S (cur.map P.int)) (d := .r S.objs.length) (n := c) (ns := cs) (by rw [SP_seq, ← ec, dInts_pD])
    generalize cs.foldl max c = H at mx top mem
    obtain ⟨j, ej⟩ : ∃ j, cur.idxOf? H = some j := by
      cases e : cur.idxOf? H with
      | some j => exact ⟨j, rfl⟩
      | none => 
        rw [List.idxOf?_eq_none_iff] at e
        exact absurd mem e
    have ej2 := ej
    rw [List.idxOf?, List.findIdx?_eq_some_iff_getElem] at ej2
    obtain ⟨hj, e1, _⟩ := ej2
    have e1' : cur[j] = H := by simpa using e1
    have ix : fIx (.r S.objs.length) (.p (.int j)) (SP S (cur.map P.int)) = some (.p (.int H), SP S (cur.map P.int)) := by
      refine o_ixL rfl SP_lst (atI_get ?_)
      rw [List.getElem?_map, List.getElem?_map, List.getElem?_eq_getElem hj, e1']
      rfl
    have pt : fPut (.r S.objs.length) (.p (.int j)) (.p (.int (H - 1))) (SP S (cur.map P.int)) = some (SP S ((cur.set j (H - 1)).map P.int)) := by
      have ixn : ixN (cur.map P.int).length (j : Int) = some j := by
        unfold ixN
        rw [if_pos (by omega), if_pos (by simp; omega)]
        simp
      rw [f_put ixn, List.map_set]
    have H1 : 1 ≤ H := K33.few_one h2 hf top
    have stp := K33.few_step (d := cur) hj h2 (fun x hx => by rw [e1']; exact top x hx) (by rw [e1']; exact H1) hf
    rw [e1'] at stp
    have sm := K33.set_sum hj (H - 1)
    rw [e1'] at sm
    obtain ⟨ρ', fin, lp, a1, a2, a3, a4⟩ := taken_loop row hr m (t + 1) (cur.set j (H - 1)) (some (.p (.int t))) (some (.p (.int j))) ⟨by rw [List.length_set]; exact h1.1, fun i p q b1 b2 => by
      by_cases hi : j = i
      · subst hi
        rw [List.getElem?_set_self hj] at b1
        cases b1
        have := h1.2 j H q (by rw [List.getElem?_eq_getElem hj, e1']) b2
        omega
      · rw [List.getElem?_set_ne hi] at b1
        exact h1.2 i p q b1 b2⟩ (fun x hx => by
          rcases List.mem_or_eq_of_mem_set hx with hx | rfl
          · exact h2 x hx
          · omega) (by rw [List.length_set]; exact h3) (by rw [sm]; omega) (by omega) (by omega)
    refine ⟨ρ', fin, ?_, a1, a2, by omega, by omega⟩
    rw [rangeD_succ, loopI_cons rfl rfl]
    have st : lb__law_taken [some d, z1, some (.r S.objs.length), some (.p (.int t)), z4] (SP S (cur.map P.int)) = .ok (.nx [some d, z1, some (.r S.objs.length), some (.p (.int t)), some (.p (.int j))]) (SP S ((cur.set j (H - 1)).map P.int)) := by
      unfold lb__law_taken
      simp only [r_ok, r_c, r_op2, r_op1, r_nil, r_cons, r_callB, r_call, r_and, r_or, r_not, r_asB, r_if, r_andT, r_orT, r_notT, r_test, r_chain, r_seq, r_nx, r_rt, r_bk, r_ct, r_next, r_break, r_cont, r_drop, r_ret, r_retN, r_asg, r_aug, r_ifS, r_par, r_sl, r_noPart, r_part, r_asInt, r_put, r_for, r_src, r_srcA, r_comp, r_meth, r_oNx, r_oCt, r_oBk, r_oRt, r_yes, r_var', r_lift', List.getElem?_cons_zero, List.getElem?_cons_succ, List.set_cons_zero, List.set_cons_succ, o_add, o_addI, o_sub, o_neg, o_lt, o_le, o_gt, o_ge, o_eq, o_ne, o_int, o_intB, o_abs, o_max, o_min, r_env, List.map_cons, List.map_nil, List.length_cons, List.length_nil, Nat.zero_add, Nat.reduceAdd, Nat.reduceSub, List.replicate_succ, List.replicate_zero, List.cons_append, List.nil_append, Bool.false_eq_true, if_true, if_false, gPar, List.zip_cons_cons, List.zip_nil_right, List.zip_nil_left, List.foldl_cons, List.foldl_nil, unsetE, SP_lst, mx, f_index ej, ix, r_liftS pt]
    show (lb__law_taken [some d, z1, some (.r S.objs.length), some (.p (.int t)), z4] (SP S (cur.map P.int))).bind _ = _
    rw [st, r_ok, r_oNx]
    have e2 : ((t + 1 : Nat) : Int) = (t : Int) + 1 := by omega
    rw [e2] at lp
    exact lp
theorem p_taken (h : RowOk ns) (hs : few ns ≤ 1000000) : ∃ vs, m__law_taken [tI ns, .p (.int (few ns))] S = .ok (tI vs) S ∧ NearOk ns vs := by
  have hlen := h.len
  have f0 := K33.few_pos ns
  have ef : ((few ns).toNat : Int) = few ns := by omega
  obtain ⟨ρ', vs, lp, a1, a2, a3, a4⟩ := taken_loop (S := S) (d := tI ns) (z1 := some (.p (.int (few ns)))) ns h (few ns).toNat 0 ns none none ⟨rfl, fun i x y e1 e2 => by rw [e1] at e2; cases e2; exact Int.le_refl _⟩ h.pos rfl (by omega) (by omega) (by omega)
  refine ⟨vs, ?_, a1, a2, by omega, by have := K33.few_pos vs; omega⟩
  refine fn_pure (x := .tup (vs.map P.int)) (S' := SP S (vs.map P.int)) ?_ SP_take
  have nw : fToL fLst [tI ns] S = some (.r S.objs.length, SP S (ns.map P.int)) := by
    show (match (tI ns).seq? S with | some xs => fLst xs S | none => none) = _
    rw [tI_seq, dInts_pD]
    exact f_new (by simp; omega)
  have rg : srcR1 [.p (.int (few ns))] (SP S (ns.map P.int)) = some (⟨rangeD 0 (few ns).toNat, []⟩, SP S (ns.map P.int)) := o_range1 (fit_small f0 hs)
  have lp' : loopI [] (gNm 3) lb__law_taken (rangeD 0 (few ns).toNat) [some (tI ns), some (.p (.int (few ns))), some (.r S.objs.length), none, none] (SP S (ns.map P.int)) = _ := lp
  unfold b__law_taken
  simp only [r_ok, r_c, r_op2, r_op1, r_nil, r_cons, r_callB, r_call, r_and, r_or, r_not, r_asB, r_if, r_andT, r_orT, r_notT, r_test, r_chain, r_seq, r_nx, r_rt, r_bk, r_ct, r_next, r_break, r_cont, r_drop, r_ret, r_retN, r_asg, r_aug, r_ifS, r_par, r_sl, r_noPart, r_part, r_asInt, r_put, r_for, r_src, r_srcA, r_comp, r_meth, r_oNx, r_oCt, r_oBk, r_oRt, r_yes, r_var', r_lift', List.getElem?_cons_zero, List.getElem?_cons_succ, List.set_cons_zero, List.set_cons_succ, o_add, o_addI, o_sub, o_neg, o_lt, o_le, o_gt, o_ge, o_eq, o_ne, o_int, o_intB, o_abs, o_max, o_min, r_env, List.map_cons, List.map_nil, List.length_cons, List.length_nil, Nat.zero_add, Nat.reduceAdd, Nat.reduceSub, List.replicate_succ, List.replicate_zero, List.cons_append, List.nil_append, Bool.false_eq_true, if_true, if_false, gPar, List.zip_cons_cons, List.zip_nil_right, List.zip_nil_left, List.foldl_cons, List.foldl_nil, unsetE, nw, rg, lp', f_toT_r]
end
end DL
set_option maxHeartbeats 4000000
namespace DL
open PySem PySem.Spec PyProof.Rows L2
open K33 (fk Mx few fewS Row Pos Cap Le)
section
variable {S T : Store} {r : Nat} {d : D}
/-! ### draws -/
def VOk (n : Nat) (v : List P) : Prop := ∃ a b c : Int, v = [.int a, .int b, .int c] ∧ 0 ≤ a ∧ 0 ≤ b ∧ b < 2 ^ 62 ∧ 0 ≤ c ∧ c ≤ n
theorem VOk.mono {m n : Nat} {v : List P} (h : VOk m v) (hmn : m ≤ n) : VOk n v := by
  obtain ⟨a, b, c, e, h1, h2, h3, h4, h5⟩ := h
  exact ⟨a, b, c, e, h1, h2, h3, h4, by omega⟩
theorem bits_60 {i : Int} (h : 0 ≤ i) (h2 : i < 2 ^ 62) : bitsB 400000 i = true := by
  refine bits_of (Nat.lt_of_lt_of_le (show i.natAbs < 2 ^ 62 by omega) (Nat.pow_le_pow_right (by decide) (by decide))) (by decide)
theorem p_dip {v : List P} {n : Nat} {size : Int} (hv : T.objs[r]? = some (.lst (pD v))) (ho : VOk n v) (hn : n ≤ 1000000) (h0 : 0 < size) (h1 : size ≤ 1000000) :
    ∃ (i : Int) (v' : List P), m__law_dip [.r r, .p (.int size)] T = .ok (.p (.int i)) (setP T r v') ∧ VOk (n + 1) v' ∧ 0 ≤ i ∧ i < size := by
  obtain ⟨a, b, c, rfl, ha, hb, hb2, hc, hc2⟩ := ho
  have x0 : fIx (.r r) (.p (.int 0)) T = some (.p (.int a), T) := o_ixL rfl (R_lst hv) (atI_get (k := 0) rfl)
  have x1 : fIx (.r r) (.p (.int 1)) T = some (.p (.int b), T) := o_ixL rfl (R_lst hv) (atI_get (k := 1) rfl)
  have x2 : fIx (.r r) (.p (.int 2)) T = some (.p (.int c), T) := o_ixL rfl (R_lst hv) (atI_get (k := 2) rfl)
  have dv : fDiv (.p (.int a)) (.p (.int size)) T = some (.p (.int (a / size)), T) := o_div h0 (bits_of (Nat.lt_of_lt_of_le (show size.natAbs < 2 ^ 20 by omega) (Nat.pow_le_pow_right (by decide) (by decide))) (by decide))
  by_cases q : 0 < a
  · have pt : fPut (.r r) (.p (.int 0)) (.p (.int (a / size))) T = some (setP T r [.int (a / size), .int b, .int c]) := f_putR hv (j := 0) (by rfl)
    refine ⟨a % size, [.int (a / size), .int b, .int c], ?_, ⟨a / size, b, c, rfl, Int.ediv_nonneg ha (by omega), hb, hb2, hc, by omega⟩, Int.emod_nonneg _ (by omega), Int.emod_lt_of_pos _ h0⟩
    refine fn_same ?_ setP_len
    unfold b__law_dip
    simp only [r_ok, r_c, r_op2, r_op1, r_nil, r_cons, r_callB, r_call, r_and, r_or, r_not, r_asB, r_if, r_andT, r_orT, r_notT, r_test, r_chain, r_seq, r_nx, r_rt, r_bk, r_ct, r_next, r_break, r_cont, r_drop, r_ret, r_retN, r_asg, r_aug, r_ifS, r_par, r_sl, r_noPart, r_part, r_asInt, r_put, r_for, r_src, r_srcA, r_comp, r_meth, r_oNx, r_oCt, r_oBk, r_oRt, r_yes, r_var', r_lift', List.getElem?_cons_zero, List.getElem?_cons_succ, List.set_cons_zero, List.set_cons_succ, o_add, o_addI, o_sub, o_neg, o_lt, o_le, o_gt, o_ge, o_eq, o_ne, o_int, o_intB, o_abs, o_max, o_min, r_env, List.map_cons, List.map_nil, List.length_cons, List.length_nil, Nat.zero_add, Nat.reduceAdd, Nat.reduceSub, List.replicate_succ, List.replicate_zero, List.cons_append, List.nil_append, Bool.false_eq_true, if_true, if_false, gPar, List.zip_cons_cons, List.zip_nil_right, List.zip_nil_left, List.foldl_cons, List.foldl_nil, unsetE, x0, decide_eq_true q, o_mod h0, dv, r_liftS pt]
  · have hr := at_lt hv
    have pt : fPut (.r r) (.p (.int 2)) (.p (.int (c + 1))) T = some (setP T r [.int a, .int b, .int (c + 1)]) := f_putR hv (j := 2) (by rfl)
    have hv2 : (setP T r [.int a, .int b, .int (c + 1)]).objs[r]? = some (.lst (pD [.int a, .int b, .int (c + 1)])) := setP_at hr
    have y1 : fIx (.r r) (.p (.int 1)) (setP T r [.int a, .int b, .int (c + 1)]) = some (.p (.int b), setP T r [.int a, .int b, .int (c + 1)]) := o_ixL rfl (R_lst hv2) (atI_get (k := 1) rfl)
    have y2 : fIx (.r r) (.p (.int 2)) (setP T r [.int a, .int b, .int (c + 1)]) = some (.p (.int (c + 1)), setP T r [.int a, .int b, .int (c + 1)]) := o_ixL rfl (R_lst hv2) (atI_get (k := 2) rfl)
    generalize eU : setP T r [.int a, .int b, .int (c + 1)] = U at pt y1 y2
    have m1 : fMulA fLstF (.p (.int 961748927)) (.p (.int (c + 1))) U = some (.p (.int (961748927 * (c + 1))), U) := o_mul (bits_small (by decide)) (bits_small (by omega))
    have o1 := o_mod (S := U) (i := b + 961748927 * (c + 1)) (show (0 : Int) < 2305843009213693967 by decide)
    have r1 : 0 ≤ (b + 961748927 * (c + 1)) % 2305843009213693967 := Int.emod_nonneg _ (by decide)
    have r2 : (b + 961748927 * (c + 1)) % 2305843009213693967 < 2305843009213693967 := Int.emod_lt_of_pos _ (by decide)
    generalize (b + 961748927 * (c + 1)) % 2305843009213693967 = one at o1 r1 r2
    have m2 : fMulA fLstF (.p (.int one)) (.p (.int one)) U = some (.p (.int (one * one)), U) := o_mul (bits_60 r1 (by omega)) (bits_60 r1 (by omega))
    have o2 := o_mod (S := U) (i := one * one) (show (0 : Int) < 1000000000000063 by decide)
    have r3 : 0 ≤ (one * one) % 1000000000000063 := Int.emod_nonneg _ (by decide)
    have r4 : (one * one) % 1000000000000063 < 1000000000000063 := Int.emod_lt_of_pos _ (by decide)
    generalize (one * one) % 1000000000000063 = two at o2 r3 r4
    have m3 : fMulA fLstF (.p (.int two)) (.p (.int one)) U = some (.p (.int (two * one)), U) := o_mul (bits_60 r3 (by omega)) (bits_60 r1 (by omega))
    have m4 : fMulA fLstF (.p (.int 5867)) (.p (.int (c + 1))) U = some (.p (.int (5867 * (c + 1))), U) := o_mul (bits_small (by decide)) (bits_small (by omega))
    have o3 := fun x : Int => o_mod (S := U) (i := x) (show (0 : Int) < 4398046511119 by decide)
    have d3 := fun x : Int => o_div (S := U) (i := x) (j := 64) (by decide) (by decide)
    have o4 := fun x : Int => o_mod (S := U) (i := x) h0
    refine ⟨(two * one + 5867 * (c + 1) + b) % 4398046511119 / 64 % size, [.int a, .int b, .int (c + 1)], ?_, ⟨a, b, c + 1, rfl, ha, hb, hb2, by omega, by omega⟩, Int.emod_nonneg _ (by omega), Int.emod_lt_of_pos _ h0⟩
    rw [eU]
    refine fn_same ?_ (by rw [← eU, setP_len])
    unfold b__law_dip
    simp only [r_ok, r_c, r_op2, r_op1, r_nil, r_cons, r_callB, r_call, r_and, r_or, r_not, r_asB, r_if, r_andT, r_orT, r_notT, r_test, r_chain, r_seq, r_nx, r_rt, r_bk, r_ct, r_next, r_break, r_cont, r_drop, r_ret, r_retN, r_asg, r_aug, r_ifS, r_par, r_sl, r_noPart, r_part, r_asInt, r_put, r_for, r_src, r_srcA, r_comp, r_meth, r_oNx, r_oCt, r_oBk, r_oRt, r_yes, r_var', r_lift', List.getElem?_cons_zero, List.getElem?_cons_succ, List.set_cons_zero, List.set_cons_succ, o_add, o_addI, o_sub, o_neg, o_lt, o_le, o_gt, o_ge, o_eq, o_ne, o_int, o_intB, o_abs, o_max, o_min, r_env, List.map_cons, List.map_nil, List.length_cons, List.length_nil, Nat.zero_add, Nat.reduceAdd, Nat.reduceSub, List.replicate_succ, List.replicate_zero, List.cons_append, List.nil_append, Bool.false_eq_true, if_true, if_false, gPar, List.zip_cons_cons, List.zip_nil_right, List.zip_nil_left, List.foldl_cons, List.foldl_nil, unsetE, x0, decide_eq_false q, x2, r_liftS pt, y1, y2, m1, o1, m2, o2, m3, m4, o3, d3, o4]
theorem p_pick {v : List P} {n : Nat} {ps : List P} (hv : T.objs[r]? = some (.lst (pD v))) (ho : VOk n v) (hn : n ≤ 1000000) (h0 : 0 < ps.length) (h1 : ps.length ≤ 1000) :
    ∃ (p : P) (v' : List P), m__law_pick [.r r, .p (.lst ps)] T = .ok (.p p) (setP T r v') ∧ VOk (n + 1) v' ∧ p ∈ ps := by
  obtain ⟨i, v', e, h2, h3, h4⟩ := p_dip (size := ps.length) hv ho hn (by omega) (by omega)
  obtain ⟨k, rfl⟩ : ∃ k : Nat, i = k := ⟨i.toNat, by omega⟩
  have hk : k < ps.length := by omega
  have ix : fIx (.p (.lst ps)) (.p (.int k)) (setP T r v') = some (.p ps[k], setP T r v') := o_ixL rfl rfl (atI_get (by
    rw [List.getElem?_map, List.getElem?_eq_getElem hk]
    rfl))
  have ln : fLen [.p (.lst ps)] T = some (.p (.int ps.length), T) := by
    have := f_len (S := T) (d := .p (.lst ps)) (xs := pD ps) rfl
    simpa [pD] using this
  refine ⟨ps[k], v', ?_, h2, List.getElem_mem hk⟩
  refine fn_same ?_ setP_len
  unfold b__law_pick
  simp only [r_ok, r_c, r_op2, r_op1, r_nil, r_cons, r_callB, r_call, r_and, r_or, r_not, r_asB, r_if, r_andT, r_orT, r_notT, r_test, r_chain, r_seq, r_nx, r_rt, r_bk, r_ct, r_next, r_break, r_cont, r_drop, r_ret, r_retN, r_asg, r_aug, r_ifS, r_par, r_sl, r_noPart, r_part, r_asInt, r_put, r_for, r_src, r_srcA, r_comp, r_meth, r_oNx, r_oCt, r_oBk, r_oRt, r_yes, r_var', r_lift', List.getElem?_cons_zero, List.getElem?_cons_succ, List.set_cons_zero, List.set_cons_succ, o_add, o_addI, o_sub, o_neg, o_lt, o_le, o_gt, o_ge, o_eq, o_ne, o_int, o_intB, o_abs, o_max, o_min, r_env, List.map_cons, List.map_nil, List.length_cons, List.length_nil, Nat.zero_add, Nat.reduceAdd, Nat.reduceSub, List.replicate_succ, List.replicate_zero, List.cons_append, List.nil_append, Bool.false_eq_true, if_true, if_false, gPar, List.zip_cons_cons, List.zip_nil_right, List.zip_nil_left, List.foldl_cons, List.foldl_nil, unsetE, ln, e, ix]
/-- a row drawn -/
theorem row_loop {most high : Int} (hh : 0 ≤ high) (hh2 : high ≤ 1000) (hr : r < T.objs.length) : ∀ (xs acc : List D) (v : List P) (n : Nat), acc.length + xs.length ≤ 1000 → VOk n v → n + xs.length ≤ 1000000 →
    ∃ (ms : List Int) (v' : List P), compI [] (gNm 3) mYes ce__law_row [some (.r r), some (.p (.int most)), some (.p (.int high)), none] acc xs (setP T r v) = .ok (acc ++ dInts ms) (setP T r v') ∧ VOk (n + xs.length) v' ∧ ms.length = xs.length ∧ ∀ x ∈ ms, 0 ≤ x ∧ x ≤ high
  | [], acc, v, n, _, hv, _ => ⟨[], v, by rw [compI_nil rfl]; simp [dInts], hv, rfl, fun x hx => absurd hx List.not_mem_nil⟩
  | x :: xs, acc, v, n, hl, hv, hn => by
    rw [List.length_cons] at hl hn
    obtain ⟨i, v1, e, h2, h3, h4⟩ := p_dip (T := setP T r v) (r := r) (size := high + 1) (setP_at hr) hv (by omega) (by omega) (by omega)
    rw [setP_setP] at e
    obtain ⟨ms, v', e2, a1, a2, a3⟩ := row_loop (most := most) hh hh2 hr xs (acc ++ [.p (.int i)]) v1 (n + 1) (by simp; omega) h2 (by omega)
    refine ⟨i :: ms, v', ?_, a1.mono (by rw [List.length_cons]; omega), by rw [List.length_cons, List.length_cons, a2], fun y hy => ?_⟩
    · have el : ce__law_row [some (.r r), some (.p (.int most)), some (.p (.int high)), some x] (setP T r v) = .ok (.p (.int i)) (setP T r v1) := by
        unfold ce__law_row
        simp only [r_ok, r_c, r_op2, r_op1, r_nil, r_cons, r_callB, r_call, r_and, r_or, r_not, r_asB, r_if, r_andT, r_orT, r_notT, r_test, r_chain, r_seq, r_nx, r_rt, r_bk, r_ct, r_next, r_break, r_cont, r_drop, r_ret, r_retN, r_asg, r_aug, r_ifS, r_par, r_sl, r_noPart, r_part, r_asInt, r_put, r_for, r_src, r_srcA, r_comp, r_meth, r_oNx, r_oCt, r_oBk, r_oRt, r_yes, r_var', r_lift', List.getElem?_cons_zero, List.getElem?_cons_succ, List.set_cons_zero, List.set_cons_succ, o_add, o_addI, o_sub, o_neg, o_lt, o_le, o_gt, o_ge, o_eq, o_ne, o_int, o_intB, o_abs, o_max, o_min, r_env, List.map_cons, List.map_nil, List.length_cons, List.length_nil, Nat.zero_add, Nat.reduceAdd, Nat.reduceSub, List.replicate_succ, List.replicate_zero, List.cons_append, List.nil_append, Bool.false_eq_true, if_true, if_false, gPar, List.zip_cons_cons, List.zip_nil_right, List.zip_nil_left, List.foldl_cons, List.foldl_nil, unsetE, e]
      have g : gNm 3 x [some (.r r), some (.p (.int most)), some (.p (.int high)), none] (setP T r v) = some [some (.r r), some (.p (.int most)), some (.p (.int high)), some x] := rfl
      rw [compI_step rfl g el (by omega), e2]
      congr 1
      simp [dInts]
    · rcases List.mem_cons.mp hy with rfl | hy
      · omega
      · exact a3 y hy
theorem p_row {v : List P} {n : Nat} {most high : Int} (hv : T.objs[r]? = some (.lst (pD v))) (ho : VOk n v) (hn : n ≤ 900000) (h0 : 0 < most) (h1 : most ≤ 60) (hh : 0 ≤ high) (hh2 : high ≤ 1000) :
    ∃ (ms : List Int) (v' : List P), m__law_row [.r r, .p (.int most), .p (.int high)] T = .ok (tI ms) (setP T r v') ∧ VOk (n + 100) v' ∧ 1 ≤ ms.length ∧ (ms.length : Int) ≤ most ∧ ∀ x ∈ ms, 0 ≤ x ∧ x ≤ high := by
  have hr := at_lt hv
  obtain ⟨i, v1, e, h2, h3, h4⟩ := p_dip (size := most) hv ho (by omega) h0 (by omega)
  obtain ⟨ms, v', e2, a1, a2, a3⟩ := row_loop (T := T) (r := r) (most := most) hh hh2 hr (rangeD 0 (1 + i).toNat) [] v1 (n + 1) (by simp [rangeD_length]; omega) h2 (by simp [rangeD_length]; omega)
  rw [rangeD_length] at a1 a2
  rw [List.nil_append] at e2
  have rg : srcR1 [.p (.int (1 + i))] (setP T r v1) = some (⟨rangeD 0 (1 + i).toNat, []⟩, setP T r v1) := o_range1 (fit_small (by omega) (by omega))
  have fl : fLstF (dInts ms) (setP T r v') = some (lI ms, setP T r v') := f_lstF (by omega)
  refine ⟨ms, v', ?_, a1.mono (by omega), by omega, by omega, a3⟩
  refine fn_same (x := .tup (ms.map P.int)) ?_ setP_len
  unfold b__law_row
  simp only [r_ok, r_c, r_op2, r_op1, r_nil, r_cons, r_callB, r_call, r_and, r_or, r_not, r_asB, r_if, r_andT, r_orT, r_notT, r_test, r_chain, r_seq, r_nx, r_rt, r_bk, r_ct, r_next, r_break, r_cont, r_drop, r_ret, r_retN, r_asg, r_aug, r_ifS, r_par, r_sl, r_noPart, r_part, r_asInt, r_put, r_for, r_src, r_srcA, r_comp, r_meth, r_oNx, r_oCt, r_oBk, r_oRt, r_yes, r_var', r_lift', List.getElem?_cons_zero, List.getElem?_cons_succ, List.set_cons_zero, List.set_cons_succ, o_add, o_addI, o_sub, o_neg, o_lt, o_le, o_gt, o_ge, o_eq, o_ne, o_int, o_intB, o_abs, o_max, o_min, r_env, List.map_cons, List.map_nil, List.length_cons, List.length_nil, Nat.zero_add, Nat.reduceAdd, Nat.reduceSub, List.replicate_succ, List.replicate_zero, List.cons_append, List.nil_append, Bool.false_eq_true, if_true, if_false, gPar, List.zip_cons_cons, List.zip_nil_right, List.zip_nil_left, List.foldl_cons, List.foldl_nil, unsetE, e, rg, e2, fl, f_toT_l]
  rfl
/-- a list in another order -/
theorem mixed_loop {z1 : Option D} (hr : r < T.objs.length) : ∀ (xs acc : List D) (left : List P) (v : List P) (n : Nat), xs.length = left.length → acc.length + xs.length ≤ 1000 → VOk n v → n + xs.length ≤ 1000000 →
    ∃ (qs : List P) (v' : List P), compI [] (gNm 3) mYes ce__law_mixed [some (.r r), z1, some (.r T.objs.length), none] acc xs (SP (setP T r v) left) = .ok (acc ++ pD qs) (SP (setP T r v') []) ∧ VOk (n + xs.length) v' ∧ qs.Perm left
  | [], acc, left, v, n, he, _, hv, _ => by
    have : left = [] := List.eq_nil_of_length_eq_zero he.symm
    subst this
    exact ⟨[], v, by rw [compI_nil rfl]; simp [pD], hv, List.Perm.refl _⟩
  | x :: xs, acc, left, v, n, he, hl, hv, hn => by
    rw [List.length_cons] at he hl hn
    have hlen : (setP T r v).objs.length = T.objs.length := setP_len
    have at1 : (SP (setP T r v) left).objs[r]? = some (.lst (pD v)) := by
      rw [SP_old (by rw [hlen]; exact hr)]
      exact setP_at hr
    have at2 : (SP (setP T r v) left).objs[T.objs.length]? = some (.lst (pD left)) := by
      rw [← hlen]
      exact SP_at
    obtain ⟨i, v1, e, h2, h3, h4⟩ := p_dip (T := SP (setP T r v) left) (r := r) (size := left.length) at1 hv (by omega) (by omega) (by omega)
    rw [setP_SP (by rw [hlen]; exact hr), setP_setP] at e
    obtain ⟨k, rfl⟩ : ∃ k : Nat, i = k := ⟨i.toNat, by omega⟩
    have hk : k < left.length := by omega
    have hlen1 : (setP T r v1).objs.length = T.objs.length := setP_len
    have at3 : (SP (setP T r v1) left).objs[T.objs.length]? = some (.lst (pD left)) := by
      rw [← hlen1]
      exact SP_at
    have pp := f_popAtR (i := (k : Int)) (k := k) at3 rfl (by omega) (List.getElem?_eq_getElem hk)
    have es : setP (SP (setP T r v1) left) T.objs.length (left.eraseIdx k) = SP (setP T r v1) (left.eraseIdx k) := Store.ext' (by
      rw [setP_objs, SP_objs, SP_objs, ← hlen1]
      simp)
    rw [es] at pp
    obtain ⟨qs, v', e2, a1, a2⟩ := mixed_loop (z1 := z1) hr xs (acc ++ [.p left[k]]) (left.eraseIdx k) v1 (n + 1) (by rw [List.length_eraseIdx, if_pos hk]; omega) (by simp; omega) h2 (by omega)
    refine ⟨left[k] :: qs, v', ?_, a1.mono (by rw [List.length_cons]; omega), (a2.cons _).trans (erase_perm hk)⟩
    have ln : fLen [.r T.objs.length] (SP (setP T r v) left) = some (.p (.int left.length), SP (setP T r v) left) := by
      have := f_len (R_seq at2)
      simpa [pD] using this
    have el : ce__law_mixed [some (.r r), z1, some (.r T.objs.length), some x] (SP (setP T r v) left) = .ok (.p left[k]) (SP (setP T r v1) (left.eraseIdx k)) := by
      unfold ce__law_mixed
      rw [r_methR (d := .r T.objs.length) rfl (R_lst at2)]
      simp only [r_ok, r_c, r_op2, r_op1, r_nil, r_cons, r_callB, r_call, r_and, r_or, r_not, r_asB, r_if, r_andT, r_orT, r_notT, r_test, r_chain, r_seq, r_nx, r_rt, r_bk, r_ct, r_next, r_break, r_cont, r_drop, r_ret, r_retN, r_asg, r_aug, r_ifS, r_par, r_sl, r_noPart, r_part, r_asInt, r_put, r_for, r_src, r_srcA, r_comp, r_meth, r_oNx, r_oCt, r_oBk, r_oRt, r_yes, r_var', r_lift', List.getElem?_cons_zero, List.getElem?_cons_succ, List.set_cons_zero, List.set_cons_succ, o_add, o_addI, o_sub, o_neg, o_lt, o_le, o_gt, o_ge, o_eq, o_ne, o_int, o_intB, o_abs, o_max, o_min, r_env, List.map_cons, List.map_nil, List.length_cons, List.length_nil, Nat.zero_add, Nat.reduceAdd, Nat.reduceSub, List.replicate_succ, List.replicate_zero, List.cons_append, List.nil_append, Bool.false_eq_true, if_true, if_false, gPar, List.zip_cons_cons, List.zip_nil_right, List.zip_nil_left, List.foldl_cons, List.foldl_nil, unsetE, ln, e, pp]
    have g : gNm 3 x [some (.r r), z1, some (.r T.objs.length), none] (SP (setP T r v) left) = some [some (.r r), z1, some (.r T.objs.length), some x] := rfl
    rw [compI_step rfl g el (by omega), e2]
    congr 1
    simp [pD]
theorem p_mixed {v : List P} {n : Nat} {ps : List P} {d : D} (hv : T.objs[r]? = some (.lst (pD v))) (ho : VOk n v) (hn : n + ps.length ≤ 1000000) (hd : d.seq? T = some (pD ps)) (hd2 : d.seq? (SP T ps) = some (pD ps)) (h1 : ps.length ≤ 1000) :
    ∃ (qs : List P) (v' : List P), m__law_mixed [.r r, d] T = .ok (.p (.lst qs)) (setP T r v') ∧ VOk (n + ps.length) v' ∧ qs.Perm ps := by
  have hr := at_lt hv
  obtain ⟨qs, v', e, a1, a2⟩ := mixed_loop (T := T) (r := r) (z1 := some d) hr (rangeD 0 ((ps.length : Int)).toNat) [] ps v n (by rw [rangeD_length]; omega) (by simp [rangeD_length]; omega) ho (by rw [rangeD_length]; omega)
  rw [setP_same hv, List.nil_append] at e
  rw [rangeD_length] at a1
  have nw : fToL fLst [d] T = some (.r T.objs.length, SP T ps) := by
    show (match d.seq? T with | some xs => fLst xs T | none => none) = _
    rw [hd]
    exact f_new (by omega)
  have ln : fLen [d] (SP T ps) = some (.p (.int ps.length), SP T ps) := by
    have := f_len hd2
    simpa [pD] using this
  have rg : srcR1 [.p (.int ps.length)] (SP T ps) = some (⟨rangeD 0 ((ps.length : Int)).toNat, []⟩, SP T ps) := o_range1 (fit_small (by omega) (by omega))
  have fl : fLstF (pD qs) (SP (setP T r v') []) = some (.p (.lst qs), SP (setP T r v') []) := f_lstP (by rw [a2.length_eq]; omega)
  refine ⟨qs, v', ?_, a1.mono (by omega), a2⟩
  refine fn_to (S2 := setP T r v') (S' := SP (setP T r v') []) ?_ (by rw [← setP_len (r := r) (ps := v'), SP_take]) setP_len
  unfold b__law_mixed
  simp only [r_ok, r_c, r_op2, r_op1, r_nil, r_cons, r_callB, r_call, r_and, r_or, r_not, r_asB, r_if, r_andT, r_orT, r_notT, r_test, r_chain, r_seq, r_nx, r_rt, r_bk, r_ct, r_next, r_break, r_cont, r_drop, r_ret, r_retN, r_asg, r_aug, r_ifS, r_par, r_sl, r_noPart, r_part, r_asInt, r_put, r_for, r_src, r_srcA, r_comp, r_meth, r_oNx, r_oCt, r_oBk, r_oRt, r_yes, r_var', r_lift', List.getElem?_cons_zero, List.getElem?_cons_succ, List.set_cons_zero, List.set_cons_succ, o_add, o_addI, o_sub, o_neg, o_lt, o_le, o_gt, o_ge, o_eq, o_ne, o_int, o_intB, o_abs, o_max, o_min, r_env, List.map_cons, List.map_nil, List.length_cons, List.length_nil, Nat.zero_add, Nat.reduceAdd, Nat.reduceSub, List.replicate_succ, List.replicate_zero, List.cons_append, List.nil_append, Bool.false_eq_true, if_true, if_false, gPar, List.zip_cons_cons, List.zip_nil_right, List.zip_nil_left, List.foldl_cons, List.foldl_nil, unsetE, nw, ln, rg, e, fl]
end
end DL
set_option maxHeartbeats 4000000
namespace DL
open PySem PySem.Spec PyProof.Rows L2
open K33 (fk Mx few fewS Row Pos Cap Le)
section
variable {S T : Store} {r : Nat} {d : D}
/-! ### all rows below one -/
abbrev tP (x : List Int) : P := .tup (x.map P.int)
def extB (e : Int) (one : List Int) : List (List Int) := (List.range (e + 1).toNat).map fun i : Nat => one ++ [(i : Int)]
def belowStep (acc : List (List Int)) (e : Int) : List (List Int) := acc.flatMap (extB e)
def below (row : List Int) : List (List Int) := row.foldl belowStep [[]]
theorem extB_len (e : Int) (one : List Int) : (extB e one).length = (e + 1).toNat := by simp [extB]
theorem below_inner {e : Int} (he : 0 ≤ e) (he2 : e ≤ 1000) {w : List (Nat × List D)} (hw : ∀ qs, watchOk w (SP T qs) = true) {z1 : Option D} : ∀ (ones : List (List Int)) (qs : List P) (z4 : Option D), qs.length + ones.length * (e + 1).toNat ≤ 50000 → (∀ one ∈ ones, one.length ≤ 1000) →
    ∃ z4', loopI w (gNm 4) lb__law_below (pD (ones.map tP)) [some d, z1, some (.p (.int e)), some (.r T.objs.length), z4, none] (SP T qs) = .ok (.nx [some d, z1, some (.p (.int e)), some (.r T.objs.length), z4', none]) (SP T (qs ++ (ones.flatMap (extB e)).map tP))
  | [], qs, z4, _, _ => ⟨z4, by
    rw [List.flatMap_nil, List.map_nil, List.append_nil]
    exact loopI_nil (hw qs)⟩
  | one :: ones, qs, z4, hl, ho => by
    have hx : (one :: ones).length * (e + 1).toNat = (e + 1).toNat + ones.length * (e + 1).toNat := by
      rw [List.length_cons, Nat.succ_mul]
      omega
    rw [hx] at hl
    obtain ⟨z4', ih⟩ := below_inner he he2 hw (z1 := z1) ones (qs ++ (extB e one).map tP) (some (.p (tP one))) (by simp [extB_len]; omega) fun o h => ho o (List.mem_cons_of_mem _ h)
    refine ⟨z4', ?_⟩
    have hone := ho one List.mem_cons_self
    have c : compI [] (gNm 5) mYes ce__law_below [some d, z1, some (.p (.int e)), some (.r T.objs.length), some (.p (tP one)), none] [] (rangeD 0 (e + 1).toNat) (SP T qs) = .ok (pD ((extB e one).map tP)) (SP T qs) := by
      have k := compI_map (w := []) (g := gNm 5) (e := ce__law_below) (ρ := [some d, z1, some (.p (.int e)), some (.r T.objs.length), some (.p (tP one)), none]) (S := SP T qs) (f := fun x => match x with
        | .p (.int i) => .p (tP (one ++ [i]))
        | x => x) rfl (rangeD 0 (e + 1).toNat) (by rw [rangeD_length]; omega) fun x hx => by
          obtain ⟨i, _, rfl⟩ := List.mem_map.mp hx
          refine ⟨_, rfl, ?_⟩
          unfold ce__law_below
          have t1 : fTup [.p (.int (0 + (i : Int)))] (SP T qs) = some (.p (.tup [.int (0 + (i : Int))]), SP T qs) := rfl
          have t2 : fAddG fLstF (.p (.tup (one.map P.int))) (.p (.tup [.int (0 + (i : Int))])) (SP T qs) = some (.p (.tup (one.map P.int ++ [.int (0 + (i : Int))])), SP T qs) := o_addT (by simp; omega)
          simp only [r_ok, r_c, r_op2, r_op1, r_nil, r_cons, r_callB, r_call, r_and, r_or, r_not, r_asB, r_if, r_andT, r_orT, r_notT, r_test, r_chain, r_seq, r_nx, r_rt, r_bk, r_ct, r_next, r_break, r_cont, r_drop, r_ret, r_retN, r_asg, r_aug, r_ifS, r_par, r_sl, r_noPart, r_part, r_asInt, r_put, r_for, r_src, r_srcA, r_comp, r_meth, r_oNx, r_oCt, r_oBk, r_oRt, r_yes, r_var', r_lift', List.getElem?_cons_zero, List.getElem?_cons_succ, List.set_cons_zero, List.set_cons_succ, o_add, o_addI, o_sub, o_neg, o_lt, o_le, o_gt, o_ge, o_eq, o_ne, o_int, o_intB, o_abs, o_max, o_min, r_env, List.map_cons, List.map_nil, List.length_cons, List.length_nil, Nat.zero_add, Nat.reduceAdd, Nat.reduceSub, List.replicate_succ, List.replicate_zero, List.cons_append, List.nil_append, Bool.false_eq_true, if_true, if_false, gPar, List.zip_cons_cons, List.zip_nil_right, List.zip_nil_left, List.foldl_cons, List.foldl_nil, unsetE, t1, t2]
          simp [tP]
      rw [k]
      congr 1
      unfold rangeD extB pD
      rw [List.map_map, List.map_map, List.map_map]
      refine List.map_congr_left fun i _ => ?_
      show D.p (tP (one ++ [0 + (i : Int)])) = D.p (tP (one ++ [(i : Int)]))
      rw [Int.zero_add]
    have ex : fExtend (.r T.objs.length) [.p (.lst ((extB e one).map tP))] (SP T qs) = some (.p .non, SP T (qs ++ (extB e one).map tP)) := f_extend (by simp [extB_len]; omega)
    have rg : srcR1 [.p (.int (e + 1))] (SP T qs) = some (⟨rangeD 0 (e + 1).toNat, []⟩, SP T qs) := o_range1 (fit_small (by omega) (by omega))
    have fl : fLstF (pD ((extB e one).map tP)) (SP T qs) = some (.p (.lst ((extB e one).map tP)), SP T qs) := f_lstP (by simp [extB_len]; omega)
    have st : lb__law_below [some d, z1, some (.p (.int e)), some (.r T.objs.length), some (.p (tP one)), none] (SP T qs) = .ok (.nx [some d, z1, some (.p (.int e)), some (.r T.objs.length), some (.p (tP one)), none]) (SP T (qs ++ (extB e one).map tP)) := by
      have as : (mCons (mCallB fLstF (mCompL (mSrcA srcR1 (mCons (mOp2 (fAddG fLstF) (mVar 2) (mC (.int 1))) mNil)) [5] (gNm 5) mYes ce__law_below)) mNil) [some d, z1, some (.p (.int e)), some (.r T.objs.length), some (.p (tP one)), none] (SP T qs) = .ok [.p (.lst ((extB e one).map tP))] (SP T qs) := by
        simp only [r_ok, r_c, r_op2, r_op1, r_nil, r_cons, r_callB, r_call, r_and, r_or, r_not, r_asB, r_if, r_andT, r_orT, r_notT, r_test, r_chain, r_seq, r_nx, r_rt, r_bk, r_ct, r_next, r_break, r_cont, r_drop, r_ret, r_retN, r_asg, r_aug, r_ifS, r_par, r_sl, r_noPart, r_part, r_asInt, r_put, r_for, r_src, r_srcA, r_comp, r_meth, r_oNx, r_oCt, r_oBk, r_oRt, r_yes, r_var', r_lift', List.getElem?_cons_zero, List.getElem?_cons_succ, List.set_cons_zero, List.set_cons_succ, o_add, o_addI, o_sub, o_neg, o_lt, o_le, o_gt, o_ge, o_eq, o_ne, o_int, o_intB, o_abs, o_max, o_min, r_env, List.map_cons, List.map_nil, List.length_cons, List.length_nil, Nat.zero_add, Nat.reduceAdd, Nat.reduceSub, List.replicate_succ, List.replicate_zero, List.cons_append, List.nil_append, Bool.false_eq_true, if_true, if_false, gPar, List.zip_cons_cons, List.zip_nil_right, List.zip_nil_left, List.foldl_cons, List.foldl_nil, unsetE, rg, c, fl]
      unfold lb__law_below
      rw [r_drop, r_methR (d := .r T.objs.length) rfl SP_lst, as, r_ok, r_lift ex, r_ok]
    rw [show pD ((one :: ones).map tP) = D.p (tP one) :: pD (ones.map tP) from rfl, loopI_cons (hw qs) rfl]
    show (lb__law_below [some d, z1, some (.p (.int e)), some (.r T.objs.length), some (.p (tP one)), none] (SP T qs)).bind _ = _
    rw [st, r_ok, r_oNx, ih]
    simp [List.flatMap_cons, List.append_assoc]
/-- what found is -/
def Found (k : Nat) (f1 : D) (T : Store) (ps : List P) : Prop := f1 = .p (.lst ps) ∨ ∃ f, f1 = .r f ∧ k ≤ f ∧ T.objs[f]? = some (.lst (pD ps))
theorem belowStep_len (acc : List (List Int)) {e : Int} (h : 0 ≤ e) (h2 : e ≤ 4) : (belowStep acc e).length ≤ acc.length * 5 := by
  unfold belowStep
  induction acc with
  | nil => simp
  | cons a acc ih =>
    rw [List.flatMap_cons, List.length_append, extB_len, List.length_cons, Nat.succ_mul]
    omega
theorem belowStep_lens {acc : List (List Int)} {e : Int} {m : Nat} (h : ∀ a ∈ acc, a.length ≤ m) : ∀ a ∈ belowStep acc e, a.length ≤ m + 1 := fun a ha => by
  obtain ⟨b, hb, hab⟩ := List.mem_flatMap.mp ha
  obtain ⟨i, _, rfl⟩ := List.mem_map.mp hab
  have := h b hb
  simp
  omega
theorem below_outer : ∀ (rows : List Int) (acc : List (List Int)) (T : Store) (f1 : D) (z2 z3 z4 : Option D) (m : Nat), (∀ x ∈ rows, 0 ≤ x ∧ x ≤ 4) → acc.length * 5 ^ rows.length ≤ 10000 → (∀ a ∈ acc, a.length ≤ m) → m + rows.length ≤ 900 → S.objs.length ≤ T.objs.length → T.objs.take S.objs.length = S.objs → Found S.objs.length f1 T (acc.map tP) →
    ∃ (f1' : D) (T' : Store) (z : Option D × Option D × Option D), loopI [] (gNm 2) lb__law_below_1 (dInts rows) [some d, some f1, z2, z3, z4, none] T = .ok (.nx [some d, some f1', z.1, z.2.1, z.2.2, none]) T' ∧ Found S.objs.length f1' T' ((rows.foldl belowStep acc).map tP) ∧ T'.objs.take S.objs.length = S.objs
  | [], acc, T, f1, z2, z3, z4, m, _, _, _, _, _, ht, hf => ⟨f1, T, (z2, z3, z4), loopI_nil rfl, hf, ht⟩
  | e :: rows, acc, T, f1, z2, z3, z4, m, hr, hl, hm, hm2, hk, ht, hf => by
    obtain ⟨e0, e4⟩ := hr e List.mem_cons_self
    have sz : acc.length * 5 ≤ 10000 := by
      have : acc.length * 5 ≤ acc.length * 5 ^ (e :: rows).length := Nat.mul_le_mul_left _ (by
        rw [List.length_cons, Nat.pow_succ]
        have : 0 < 5 ^ rows.length := Nat.pow_pos (by decide)
        omega)
      omega
    have ac : acc.length ≤ 2000 := by omega
    -- the walked list stands
    have hw : ∀ qs, watchOk (watchOf f1 (pD (acc.map tP))) (SP T qs) = true := fun qs => by
      rcases hf with rfl | ⟨f, rfl, hkf, ho⟩
      · rfl
      · show ((match (SP T qs).objs[f]? with | some (.lst es) => D.beqs (pD (acc.map tP)) es | _ => false) && true) = true
        rw [SP_old (at_lt ho), ho]
        show (D.beqs (pD (acc.map tP)) (pD (acc.map tP)) && true) = true
        rw [@D.beqs_refl ⟨[]⟩]
        rfl
    have hf0 : f1.tup? = none := by
      rcases hf with rfl | ⟨f, rfl, _, _⟩ <;> rfl
    have hfl : f1.lst? (SP T []) = some (pD (acc.map tP)) := by
      rcases hf with rfl | ⟨f, rfl, hkf, ho⟩
      · rfl
      · exact R_lst (by rw [SP_old (at_lt ho)]; exact ho)
    obtain ⟨z4', lp⟩ := below_inner (T := T) (d := d) e0 (by omega) hw (z1 := some f1) acc [] z4 (by
      have : acc.length * (e + 1).toNat ≤ acc.length * 5 := Nat.mul_le_mul_left _ (by omega)
      simp
      omega) (fun a ha => by have := hm a ha; omega)
    rw [List.nil_append] at lp
    have st : lb__law_below_1 [some d, some f1, some (.p (.int e)), z3, z4, none] T = .ok (.nx [some d, some (.r T.objs.length), some (.p (.int e)), some (.r T.objs.length), z4', none]) (SP T ((belowStep acc e).map tP)) := by
      have nw : fLst [] T = some (.r T.objs.length, SP T []) := f_new (ps := []) (by decide)
      unfold lb__law_below_1
      simp only [r_ok, r_c, r_op2, r_op1, r_nil, r_cons, r_callB, r_call, r_and, r_or, r_not, r_asB, r_if, r_andT, r_orT, r_notT, r_test, r_chain, r_seq, r_nx, r_rt, r_bk, r_ct, r_next, r_break, r_cont, r_drop, r_ret, r_retN, r_asg, r_aug, r_ifS, r_par, r_sl, r_noPart, r_part, r_asInt, r_put, r_for, r_src, r_srcA, r_comp, r_meth, r_oNx, r_oCt, r_oBk, r_oRt, r_yes, r_var', r_lift', List.getElem?_cons_zero, List.getElem?_cons_succ, List.set_cons_zero, List.set_cons_succ, o_add, o_addI, o_sub, o_neg, o_lt, o_le, o_gt, o_ge, o_eq, o_ne, o_int, o_intB, o_abs, o_max, o_min, r_env, List.map_cons, List.map_nil, List.length_cons, List.length_nil, Nat.zero_add, Nat.reduceAdd, Nat.reduceSub, List.replicate_succ, List.replicate_zero, List.cons_append, List.nil_append, Bool.false_eq_true, if_true, if_false, gPar, List.zip_cons_cons, List.zip_nil_right, List.zip_nil_left, List.foldl_cons, List.foldl_nil, unsetE, nw, o_srcL hf0 hfl, lp]
      rfl
    obtain ⟨f1', T', z, ih, a1, a2⟩ := below_outer rows (belowStep acc e) (SP T ((belowStep acc e).map tP)) (.r T.objs.length) (some (.p (.int e))) (some (.r T.objs.length)) z4' (m + 1) (fun x hx => hr x (List.mem_cons_of_mem _ hx)) (by
      have h1 := belowStep_len acc e0 e4
      have h2 : (belowStep acc e).length * 5 ^ rows.length ≤ acc.length * 5 * 5 ^ rows.length := Nat.mul_le_mul_right _ h1
      have h3 : acc.length * 5 * 5 ^ rows.length = acc.length * 5 ^ (e :: rows).length := by
        rw [List.length_cons, Nat.pow_succ, Nat.mul_assoc, Nat.mul_comm 5]
      omega) (belowStep_lens hm) (by rw [List.length_cons] at hm2; omega) (by rw [SP_len]; omega) (by
        rw [SP_objs, List.take_append_of_le_length hk]
        exact ht) (.inr ⟨T.objs.length, rfl, hk, SP_at⟩)
    refine ⟨f1', T', z, ?_, a1, a2⟩
    rw [show dInts (e :: rows) = D.p (.int e) :: dInts rows from rfl, loopI_cons rfl rfl]
    show (lb__law_below_1 [some d, some f1, some (.p (.int e)), z3, z4, none] T).bind _ = _
    rw [st, r_ok, r_oNx, ih]
theorem p_below {ns : List Int} (hn : ns.length ≤ 4) (h : ∀ x ∈ ns, 0 ≤ x ∧ x ≤ 4) : m__law_below [tI ns] S = .ok (.p (.lst ((below ns).map tP))) S := by
  obtain ⟨f1, T, z, lp, hf, ht⟩ := below_outer (S := S) (d := tI ns) ns [[]] S (.p (.lst [.tup []])) none none none 0 h (by
    have h5 : 5 ^ ns.length ≤ 5 ^ 4 := Nat.pow_le_pow_right (by decide) hn
    have : ([[]] : List (List Int)).length * 5 ^ ns.length = 5 ^ ns.length := by simp
    omega) (fun a ha => by
      have : a = [] := by simpa using ha
      rw [this]
      exact Nat.le_refl _) (by omega) (Nat.le_refl _) List.take_length (.inl rfl)
  have t0 : fTup [] S = some (.p (.tup []), S) := rfl
  have l0 : fLstF [.p (.tup [])] S = some (.p (.lst [.tup []]), S) := rfl
  have run : b__law_below (env0 6 [tI ns]) S = .ok (.rt f1) T := by
    unfold b__law_below
    simp only [r_ok, r_c, r_op2, r_op1, r_nil, r_cons, r_callB, r_call, r_and, r_or, r_not, r_asB, r_if, r_andT, r_orT, r_notT, r_test, r_chain, r_seq, r_nx, r_rt, r_bk, r_ct, r_next, r_break, r_cont, r_drop, r_ret, r_retN, r_asg, r_aug, r_ifS, r_par, r_sl, r_noPart, r_part, r_asInt, r_put, r_for, r_src, r_srcA, r_comp, r_meth, r_oNx, r_oCt, r_oBk, r_oRt, r_yes, r_var', r_lift', List.getElem?_cons_zero, List.getElem?_cons_succ, List.set_cons_zero, List.set_cons_succ, o_add, o_addI, o_sub, o_neg, o_lt, o_le, o_gt, o_ge, o_eq, o_ne, o_int, o_intB, o_abs, o_max, o_min, r_env, List.map_cons, List.map_nil, List.length_cons, List.length_nil, Nat.zero_add, Nat.reduceAdd, Nat.reduceSub, List.replicate_succ, List.replicate_zero, List.cons_append, List.nil_append, Bool.false_eq_true, if_true, if_false, gPar, List.zip_cons_cons, List.zip_nil_right, List.zip_nil_left, List.foldl_cons, List.foldl_nil, unsetE, t0, l0, o_srcT tI_tup, lp]
  rcases hf with rfl | ⟨f, rfl, hk, ho⟩
  · exact fn_pure run ht
  · exact fn_pureR run ht hk ho
/-! who stands there -/
def BelR : List Int → List Int → Prop
  | [], [] => True
  | a :: q, b :: row => (0 ≤ a ∧ a ≤ b) ∧ BelR q row
  | _, _ => False
theorem below_mem : ∀ (rows : List Int) (acc : List (List Int)) (x : List Int), x ∈ rows.foldl belowStep acc ↔ ∃ p ∈ acc, ∃ q, x = p ++ q ∧ BelR q rows
  | [], acc, x => by
    constructor
    · intro h
      exact ⟨x, h, [], by simp, trivial⟩
    · rintro ⟨p, hp, q, rfl, hq⟩
      cases q with
      | nil => simpa using hp
      | cons a q => exact hq.elim
  | e :: rows, acc, x => by
    rw [List.foldl_cons, below_mem rows (belowStep acc e) x]
    constructor
    · rintro ⟨p, hp, q, rfl, hq⟩
      obtain ⟨p0, h0, h1⟩ := List.mem_flatMap.mp hp
      obtain ⟨i, hi, rfl⟩ := List.mem_map.mp h1
      have := List.mem_range.mp hi
      exact ⟨p0, h0, (i : Int) :: q, by simp, ⟨by omega, by omega⟩, hq⟩
    · rintro ⟨p, hp, q, rfl, hq⟩
      cases q with
      | nil => exact hq.elim
      | cons a q =>
        obtain ⟨⟨h0, h1⟩, h2⟩ := hq
        refine ⟨p ++ [a], List.mem_flatMap.mpr ⟨p, hp, List.mem_map.mpr ⟨a.toNat, List.mem_range.mpr (show a.toNat < (e + 1).toNat by omega), ?_⟩⟩, q, by simp, h2⟩
        rw [show ((a.toNat : Nat) : Int) = a by omega]
theorem mem_below {row x : List Int} : x ∈ below row ↔ BelR x row := by
  unfold below
  rw [below_mem]
  constructor
  · rintro ⟨p, hp, q, rfl, hq⟩
    have : p = [] := by simpa using hp
    subst this
    simpa using hq
  · intro h
    exact ⟨[], by simp, x, by simp, h⟩
theorem belR_len : ∀ {x row : List Int}, BelR x row → x.length = row.length
  | [], [], _ => rfl
  | [], _ :: _, h => h.elim
  | _ :: _, [], h => h.elim
  | _ :: x, _ :: row, h => by rw [List.length_cons, List.length_cons, belR_len h.2]
theorem belR_le : ∀ {x row : List Int}, BelR x row → Le x row ∧ Pos x ∧ gtAny x row = false
  | [], [], _ => ⟨⟨rfl, fun i a b h => by simp at h⟩, fun a h => absurd h List.not_mem_nil, rfl⟩
  | [], _ :: _, h => h.elim
  | _ :: _, [], h => h.elim
  | a :: x, b :: row, h => by
    obtain ⟨h1, h2, h3⟩ := belR_le h.2
    refine ⟨⟨by rw [List.length_cons, List.length_cons, h1.1], fun i p q e1 e2 => ?_⟩, fun y hy => ?_, ?_⟩
    · cases i with
      | zero =>
        simp only [List.getElem?_cons_zero, Option.some.injEq] at e1 e2
        subst e1 e2
        exact h.1.2
      | succ i => exact h1.2 i p q (by simpa using e1) (by simpa using e2)
    · rcases List.mem_cons.mp hy with rfl | hy
      · exact h.1.1
      · exact h2 y hy
    · show (decide (b < a) || gtAny x row) = false
      rw [h3, decide_eq_false (by have := h.1.2; omega)]
      rfl
theorem belR_of : ∀ {x row : List Int}, x.length = row.length → Pos x → gtAny x row = false → BelR x row
  | [], [], _, _, _ => trivial
  | [], _ :: _, h, _, _ => by simp at h
  | _ :: _, [], h, _, _ => by simp at h
  | a :: x, b :: row, h, hp, hg => by
    have hg' : (decide (b < a) || gtAny x row) = false := hg
    rw [Bool.or_eq_false_iff, decide_eq_false_iff_not] at hg'
    exact ⟨⟨hp a List.mem_cons_self, by omega⟩, belR_of (by simpa using h) (fun y hy => hp y (List.mem_cons_of_mem _ hy)) hg'.2⟩
theorem gtAny_le : ∀ {x row : List Int}, Le x row → gtAny x row = false
  | [], [], _ => rfl
  | [], _ :: _, _ => rfl
  | _ :: _, [], _ => rfl
  | a :: x, b :: row, h => by
    show (decide (b < a) || gtAny x row) = false
    rw [gtAny_le (x := x) (row := row) ⟨by have := h.1; simpa using this, fun i p q e1 e2 => h.2 (i + 1) p q (by simpa using e1) (by simpa using e2)⟩, decide_eq_false (by have := h.2 0 a b rfl rfl; omega)]
    rfl
end
end DL
set_option maxHeartbeats 4000000
namespace DL
open PySem PySem.Spec PyProof.Rows L2
open K33 (fk Mx few fewS Row Pos Cap Le)
section
variable {S T : Store} {r : Nat} {d : D} {fin : FL}
theorem o_pow {i j : Int} (h : (decide (0 ≤ j) && decide ((i.natAbs.log2 + 1 : Int) * j ≤ 1000000)) = true) : fPow (.p (.int i)) (.p (.int j)) S = some (.p (.int (i ^ j.toNat)), S) := by
  unfold fPow fII
  simp only [h, if_true]
theorem o_repN {x : P} {n : Nat} (h1 : 1 ≤ n) (h2 : n ≤ 1000) : fMulA fin (.p (.tup [x])) (.p (.int n)) S = some (.p (.tup (List.replicate n x)), S) := by
  by_cases q : n = 1
  · subst q
    have e : fRep1 (.p (.tup [x])) (.p (.int ((1 : Nat) : Int))) S = some (.p (.tup [x]), S) := rfl
    simp only [fMulA, e]
    rfl
  · have e : fRep1 (.p (.tup [x])) (.p (.int n)) S = none := by
      show (if (decide (-1000 ≤ (n : Int)) && decide ((n : Int) ≤ 1)) = true then _ else none) = _
      rw [if_neg (by
        rw [Bool.and_eq_true, decide_eq_true_eq, decide_eq_true_eq]
        omega)]
    have e2 : fMulI (.p (.tup [x])) (.p (.int n)) S = none := rfl
    have e3 : fRepT (.p (.tup [x])) (.p (.int n)) S = some (.p (.tup (List.replicate n x)), S) := by
      show (if (decide ([D.p x] ≠ []) && decide (2 ≤ (n : Int)) && decide ((n : Int) ≤ 1000) && decide ([D.p x].length ≤ 1000)) = true then some (mkTup (List.replicate (n : Int).toNat [D.p x]).flatten, S) else none) = _
      rw [if_pos (by
        simp only [Bool.and_eq_true, decide_eq_true_eq]
        exact ⟨⟨⟨by simp, by omega⟩, by omega⟩, by simp⟩)]
      have e4 : (List.replicate (n : Int).toNat [D.p x]).flatten = pD (List.replicate n x) := by
        rw [Int.toNat_natCast]
        simp [pD, List.flatten_replicate_singleton]
      rw [e4, mkTup_pD]
    simp only [fMulA, fMulG, e, e2, e3]
theorem zipD_ints (vs ns : List Int) : zipD (dInts vs) (dInts ns) = (vs.zip ns).map fun q => D.p (.tup [.int q.1, .int q.2]) := by
  unfold zipD dInts
  rw [List.zip_map, List.map_map]
  rfl
theorem zip_le : ∀ {vs ns : List Int}, Le vs ns → ∀ q ∈ vs.zip ns, q.1 ≤ q.2
  | [], _, _, q, hq => by simp at hq
  | _ :: _, [], _, q, hq => by simp at hq
  | a :: vs, b :: ns, h, q, hq => by
    rw [List.zip_cons_cons] at hq
    rcases List.mem_cons.mp hq with rfl | hq
    · exact h.2 0 a b rfl rfl
    · exact zip_le (vs := vs) (ns := ns) ⟨by have := h.1; simpa using this, fun i p q e1 e2 => h.2 (i + 1) p q (by simpa using e1) (by simpa using e2)⟩ q hq
theorem nearB_len {ns vs : List Int} (h : vs.length ≠ ns.length) : nearB ns vs = false := by
  unfold nearB
  rw [decide_eq_false h]
  simp
theorem nearB_ok {ns vs : List Int} (h : RowOk ns) (hv : NearOk ns vs) : nearB ns vs = true := by
  have hl := hv.le.1
  have rv : rowB vs = true := rowB_ok.mpr ⟨by rw [hl]; exact h.one, by rw [hl]; exact h.len, hv.pos, fun x hx => by
    obtain ⟨i, e⟩ := K33.mem_at hx
    have hi : i < ns.length := by
      rw [← hl]
      exact (List.getElem?_eq_some_iff.mp e).1
    have := hv.le.2 i x ns[i] e (List.getElem?_eq_getElem hi)
    have := h.top ns[i] (List.getElem_mem hi)
    omega⟩
  unfold nearB
  rw [rv, gtAny_le hv.le, decide_eq_true hl, decide_eq_true hv.sum, decide_eq_true hv.few]
  rfl
/-- nothing odd is nearest -/
theorem odd_not {rs vs : List Int} (h : RowOk rs) (hv : NearOk rs vs) {p : P}
    (hp : p ∈ [.non, .int 0, .tup [], .lst (vs.map P.int), .tup (vs.map P.int ++ [.int 0]), .tup ((vs.drop 1).map P.int), .tup (List.replicate rs.length .non), (if 0 < few rs then .tup (rs.map P.int) else .tup (rs.map P.int ++ rs.map P.int)), .dic []]) : m_is_nearest [tI rs, .p p] T = .ok (.p (.bl false)) T := by
  have hl := hv.le.1
  have h1 := h.one
  have h2 := h.len
  have intq : ∀ l : List Int, l.length ≤ 1000 → nearB rs l = false → m_is_nearest [tI rs, .p (.tup (l.map P.int))] T = .ok (.p (.bl false)) T := fun l a b => by
    have := p_is_nearest (S := T) h (vs := l) a
    rw [b] at this
    exact this
  simp only [List.mem_cons, List.not_mem_nil, or_false] at hp
  rcases hp with rfl | rfl | rfl | rfl | rfl | rfl | rfl | rfl | rfl
  · exact p_is_nearest_not (a := "NoneType") h rfl (by decide) (by decide)
  · exact p_is_nearest_not (a := "int") h rfl (by decide) (by decide)
  · exact intq [] (by simp) (nearB_len (by simp; omega))
  · exact p_is_nearest_not (a := "list") h rfl (by decide) (by decide)
  · have e : vs.map P.int ++ [P.int 0] = (vs ++ [0]).map P.int := by simp
    rw [e]
    exact intq _ (by simp; omega) (nearB_len (by simp; omega))
  · exact intq _ (by simp; omega) (nearB_len (by simp; omega))
  · refine p_is_nearest_norow h (fun x hx => ?_) (by simp; omega) ?_
    · rw [List.eq_of_mem_replicate hx]
      rfl
    · obtain ⟨m, em⟩ : ∃ m, rs.length = m + 1 := ⟨rs.length - 1, by omega⟩
      rw [em]
      rfl
  · by_cases q : 0 < few rs
    · rw [if_pos q]
      refine intq rs (by omega) ?_
      unfold nearB
      rw [decide_eq_false (show ¬ rs.sum - rs.sum = few rs by omega)]
      simp
    · rw [if_neg q]
      have e : rs.map P.int ++ rs.map P.int = (rs ++ rs).map P.int := by simp
      rw [e]
      exact intq _ (by simp; omega) (nearB_len (by rw [List.length_append]; omega))
  · exact p_is_nearest_not (a := "dict") h rfl (by decide) (by decide)
/-- the second half of it, from the row on -/
theorem long_tail {rs : List Int} {v : List P} {n : Nat} (h : RowOk rs) (hT : T.objs[r]? = some (.lst (pD v))) (ho : VOk n v) (hn : n ≤ 900000) : ∃ v',
    (mSeq (mPar [1, 2] (mCons (mCallB fToT (mCons (mVar 1) mNil)) (mCons (mCall m__law_fewest (mCons (mVar 1) mNil)) mNil))) (mSeq (mAsg (gNm 3) (mCall m_nearest (mCons (mVar 1) mNil))) (mSeq (mIfS (mOrT (mTest (mOp2 fNe (mCall m_fewest_away (mCons (mVar 1) mNil)) (mVar 2))) (mOrT (mTest (mOp2 fNe (mOp2 fSub (mCallB fSum (mCons (mVar 1) mNil)) (mCallB fSum (mCons (mVar 3) mNil))) (mVar 2))) (mNotT (mTest (mCall m__law_is_possible (mCons (mVar 3) mNil)))))) (mRet (mC (.bl false))) mNext) (mSeq (mIfS (mOrT (mTest (mOp2 fNe (mCallB fLstF (mCompL (mSrcA srcZip (mCons (mVar 3) (mCons (mVar 1) mNil))) [5, 6] (gTp 2 (gsCons (gNm 5) (gsCons (gNm 6) gsNil))) ct__law_long_right ce__law_long_right)) (mCallB fLstF mNil))) (mNotT (mTest (mCall m_is_nearest (mCons (mVar 1) (mCons (mVar 3) mNil)))))) (mRet (mC (.bl false))) mNext) (mSeq (mAsg (gNm 4) (mCallB fLstF (mCons (mC .non) (mCons (mC (.int 0)) (mCons (mCallB fTup mNil) (mCons (mCallB (fToL fLstF) (mCons (mVar 3) mNil)) (mCons (mOp2 (fAddG fLstF) (mVar 3) (mCallB fTup (mCons (mC (.int 0)) mNil))) (mCons (mSl (fCut fLstF) (mVar 3) (mPart (mC (.int 1))) mNoPart) (mCons (mOp2 (fMulA fLstF) (mCallB fTup (mCons (mC .non) mNil)) (mCallB fLen (mCons (mVar 1) mNil))) (mCons (mIf (mTest (mOp2 fGt (mVar 2) (mC (.int 0)))) (mVar 1) (mOp2 (fAddG fLstF) (mVar 1) (mVar 1))) (mCons mDic0 mNil))))))))))) (mRet (mNot (mCall m_is_nearest (mCons (mVar 1) (mCons (mCall m__law_pick (mCons (mVar 0) (mCons (mVar 4) mNil))) mNil)))))))))) [some (.r r), some (.r T.objs.length), none, none, none, none, none] (SP T (rs.map P.int)) =
      .ok (.rt (.p (.bl true))) (SP (setP T r v') (rs.map P.int)) ∧ VOk (n + 1) v' := by
  have hr := at_lt hT
  have h1 := h.one
  have h2 := h.len
  have hr2 : r < (SP T (rs.map P.int)).objs.length := by rw [SP_len]; omega
  have hT2 : (SP T (rs.map P.int)).objs[r]? = some (.lst (pD v)) := by
    rw [SP_old hr]
    exact hT
  have t1 : fToT [.r T.objs.length] (SP T (rs.map P.int)) = some (tI rs, SP T (rs.map P.int)) := f_toT_r
  have t2 : m__law_fewest [.r T.objs.length] (SP T (rs.map P.int)) = .ok (.p (.int (few rs))) (SP T (rs.map P.int)) := p_fewest (by rw [SP_seq, dInts_pD]) (by omega)
  have sp : ∀ v' : List P, setP (SP T (rs.map P.int)) r v' = SP (setP T r v') (rs.map P.int) := fun v' => setP_SP hr
  generalize eU : SP T (rs.map P.int) = U at t1 t2 hT2
  obtain ⟨vs, t3, hv⟩ := p_nearest (S := U) h
  have hl := hv.le.1
  have t4 := p_fewest_away (S := U) h
  have t5 : fSum [tI rs] U = some (.p (.int rs.sum), U) := f_sum tI_seq
  have t6 : fSum [tI vs] U = some (.p (.int vs.sum), U) := f_sum tI_seq
  have t7 : m__law_is_possible [tI vs] U = .ok (.p (.bl true)) U := by
    have := p_possible (S := U) (d := tI vs) (ns := vs) tI_seq (by omega)
    rw [decide_eq_true hv.few] at this
    exact this
  have c : compI [] (gTp 2 (gsCons (gNm 5) (gsCons (gNm 6) gsNil))) ct__law_long_right ce__law_long_right [some (.r r), some (tI rs), some (.p (.int (few rs))), some (tI vs), none, none, none] [] (zipD (dInts vs) (dInts rs)) U = .ok [] U := by
    have k := compI_pure (w := []) (g := gTp 2 (gsCons (gNm 5) (gsCons (gNm 6) gsNil))) (t := ct__law_long_right) (e := ce__law_long_right) (ρ := [some (.r r), some (tI rs), some (.p (.int (few rs))), some (tI vs), none, none, none]) (S := U) (p := fun _ => false) (f := fun x => x) rfl (zipD (dInts vs) (dInts rs)) [] (by rw [@zipD_len ⟨[]⟩, dInts_len, dInts_len]; simp; omega) fun x hx => by
      rw [zipD_ints] at hx
      obtain ⟨⟨a, b⟩, hq, rfl⟩ := List.mem_map.mp hx
      have l1 : a ≤ b := zip_le hv.le (a, b) hq
      have l2 : 0 ≤ a := hv.pos a (List.of_mem_zip hq).1
      refine ⟨[some (.r r), some (tI rs), some (.p (.int (few rs))), some (tI vs), none, some (.p (.int a)), some (.p (.int b))], rfl, ?_, fun z => by cases z⟩
      unfold ct__law_long_right
      simp only [r_ok, r_c, r_op2, r_op1, r_nil, r_cons, r_callB, r_call, r_and, r_or, r_not, r_asB, r_if, r_andT, r_orT, r_notT, r_test, r_chain, r_seq, r_nx, r_rt, r_bk, r_ct, r_next, r_break, r_cont, r_drop, r_ret, r_retN, r_asg, r_aug, r_ifS, r_par, r_sl, r_noPart, r_part, r_asInt, r_put, r_for, r_src, r_srcA, r_comp, r_meth, r_oNx, r_oCt, r_oBk, r_oRt, r_yes, r_var', r_lift', List.getElem?_cons_zero, List.getElem?_cons_succ, List.set_cons_zero, List.set_cons_succ, o_add, o_addI, o_sub, o_neg, o_lt, o_le, o_gt, o_ge, o_eq, o_ne, o_int, o_intB, o_abs, o_max, o_min, r_env, List.map_cons, List.map_nil, List.length_cons, List.length_nil, Nat.zero_add, Nat.reduceAdd, Nat.reduceSub, List.replicate_succ, List.replicate_zero, List.cons_append, List.nil_append, Bool.false_eq_true, if_true, if_false, gPar, List.zip_cons_cons, List.zip_nil_right, List.zip_nil_left, List.foldl_cons, List.foldl_nil, unsetE, decide_eq_true l2, decide_eq_true l1, Bool.not_true]
    rw [k]
    have : (zipD (dInts vs) (dInts rs)).filter (fun _ => false) = [] := List.filter_eq_nil_iff.mpr fun _ _ => by decide
    rw [this]
    rfl
  have t8 : m_is_nearest [tI rs, tI vs] U = .ok (.p (.bl true)) U := by
    have := p_is_nearest (S := U) h (vs := vs) (by omega)
    rw [nearB_ok h hv] at this
    exact this
  have t9 : fLstF [] U = some (.p (.lst []), U) := rfl
  have t10 : fNe (.p (.lst [])) (.p (.lst [])) U = some (.p (.bl false), U) := by rfl
  have u1 : fTup [] U = some (.p (.tup []), U) := rfl
  have u2 : fToL fLstF [tI vs] U = some (lI vs, U) := by
    show (match (tI vs).seq? U with | some xs => fLstF xs U | none => none) = _
    rw [tI_seq]
    exact f_lstF (by omega)
  have u3 : fTup [.p (.int 0)] U = some (.p (.tup [.int 0]), U) := rfl
  have u4 : fAddG fLstF (tI vs) (.p (.tup [.int 0])) U = some (.p (.tup (vs.map P.int ++ [.int 0])), U) := o_addT (by simp; omega)
  have u5 : fCut fLstF (tI vs) (some 1) none U = some (tI (vs.drop 1), U) := by
    have e : (1 : Int) = ((1 : Nat) : Int) := rfl
    rw [e, o_cutT tI_tup (by rw [sIx_from, dInts_len]; omega), cut_from, dInts_drop, mkTup_dInts]
  have u6 : fTup [.p .non] U = some (.p (.tup [.non]), U) := rfl
  have u7 : fLen [tI rs] U = some (.p (.int rs.length), U) := by
    have := f_len (S := U) (d := tI rs) tI_seq
    rwa [dInts_len] at this
  have u8 : fMulA fLstF (.p (.tup [.non])) (.p (.int rs.length)) U = some (.p (.tup (List.replicate rs.length .non)), U) := o_repN h1 (by omega)
  have u9 : fAddG fLstF (tI rs) (tI rs) U = some (.p (.tup (rs.map P.int ++ rs.map P.int)), U) := o_addT (by simp; omega)
  have u10 : mDic0 [some (.r r), some (tI rs), some (.p (.int (few rs))), some (tI vs), none, none, none] U = .ok (.p (.dic [])) U := rfl
  have u11 : (mIf (mTest (mOp2 fGt (mVar 2) (mC (.int 0)))) (mVar 1) (mOp2 (fAddG fLstF) (mVar 1) (mVar 1))) [some (.r r), some (tI rs), some (.p (.int (few rs))), some (tI vs), none, none, none] U = .ok (.p (if 0 < few rs then .tup (rs.map P.int) else .tup (rs.map P.int ++ rs.map P.int))) U := by
    by_cases q : 0 < few rs
    · simp only [r_ok, r_c, r_op2, r_op1, r_nil, r_cons, r_callB, r_call, r_and, r_or, r_not, r_asB, r_if, r_andT, r_orT, r_notT, r_test, r_chain, r_seq, r_nx, r_rt, r_bk, r_ct, r_next, r_break, r_cont, r_drop, r_ret, r_retN, r_asg, r_aug, r_ifS, r_par, r_sl, r_noPart, r_part, r_asInt, r_put, r_for, r_src, r_srcA, r_comp, r_meth, r_oNx, r_oCt, r_oBk, r_oRt, r_yes, r_var', r_lift', List.getElem?_cons_zero, List.getElem?_cons_succ, List.set_cons_zero, List.set_cons_succ, o_add, o_addI, o_sub, o_neg, o_lt, o_le, o_gt, o_ge, o_eq, o_ne, o_int, o_intB, o_abs, o_max, o_min, r_env, List.map_cons, List.map_nil, List.length_cons, List.length_nil, Nat.zero_add, Nat.reduceAdd, Nat.reduceSub, List.replicate_succ, List.replicate_zero, List.cons_append, List.nil_append, Bool.false_eq_true, if_true, if_false, gPar, List.zip_cons_cons, List.zip_nil_right, List.zip_nil_left, List.foldl_cons, List.foldl_nil, unsetE, q, decide_true]
      rfl
    · simp only [r_ok, r_c, r_op2, r_op1, r_nil, r_cons, r_callB, r_call, r_and, r_or, r_not, r_asB, r_if, r_andT, r_orT, r_notT, r_test, r_chain, r_seq, r_nx, r_rt, r_bk, r_ct, r_next, r_break, r_cont, r_drop, r_ret, r_retN, r_asg, r_aug, r_ifS, r_par, r_sl, r_noPart, r_part, r_asInt, r_put, r_for, r_src, r_srcA, r_comp, r_meth, r_oNx, r_oCt, r_oBk, r_oRt, r_yes, r_var', r_lift', List.getElem?_cons_zero, List.getElem?_cons_succ, List.set_cons_zero, List.set_cons_succ, o_add, o_addI, o_sub, o_neg, o_lt, o_le, o_gt, o_ge, o_eq, o_ne, o_int, o_intB, o_abs, o_max, o_min, r_env, List.map_cons, List.map_nil, List.length_cons, List.length_nil, Nat.zero_add, Nat.reduceAdd, Nat.reduceSub, List.replicate_succ, List.replicate_zero, List.cons_append, List.nil_append, Bool.false_eq_true, if_true, if_false, gPar, List.zip_cons_cons, List.zip_nil_right, List.zip_nil_left, List.foldl_cons, List.foldl_nil, unsetE, q, decide_false, u9]
  have u12 : fLstF [.p .non, .p (.int 0), .p (.tup []), lI vs, .p (.tup (vs.map P.int ++ [.int 0])), tI (vs.drop 1), .p (.tup (List.replicate rs.length .non)), .p (if 0 < few rs then .tup (rs.map P.int) else .tup (rs.map P.int ++ rs.map P.int)), .p (.dic [])] U =
      some (.p (.lst [.non, .int 0, .tup [], .lst (vs.map P.int), .tup (vs.map P.int ++ [.int 0]), .tup ((vs.drop 1).map P.int), .tup (List.replicate rs.length .non), (if 0 < few rs then .tup (rs.map P.int) else .tup (rs.map P.int ++ rs.map P.int)), .dic []]), U) := rfl
  obtain ⟨p, v', u13, h3, hp⟩ := p_pick (T := U) (r := r) (ps := [.non, .int 0, .tup [], .lst (vs.map P.int), .tup (vs.map P.int ++ [.int 0]), .tup ((vs.drop 1).map P.int), .tup (List.replicate rs.length .non), (if 0 < few rs then .tup (rs.map P.int) else .tup (rs.map P.int ++ rs.map P.int)), .dic []]) hT2 ho (by omega) (by simp) (by simp)
  have u14 := odd_not (T := setP U r v') h hv hp
  have t11 : decide (few rs = few rs) = true := decide_eq_true rfl
  have t12 : decide (rs.sum - vs.sum = few rs) = true := decide_eq_true hv.sum
  refine ⟨v', ?_, h3⟩
  rw [← sp v', eU]
  simp only [r_ok, r_c, r_op2, r_op1, r_nil, r_cons, r_callB, r_call, r_and, r_or, r_not, r_asB, r_andT, r_orT, r_notT, r_test, r_chain, r_seq, r_nx, r_rt, r_bk, r_ct, r_next, r_break, r_cont, r_drop, r_ret, r_retN, r_asg, r_aug, r_ifS, r_par, r_sl, r_noPart, r_part, r_asInt, r_put, r_for, r_src, r_srcA, r_comp, r_meth, r_oNx, r_oCt, r_oBk, r_oRt, r_yes, r_var', r_lift', List.getElem?_cons_zero, List.getElem?_cons_succ, List.set_cons_zero, List.set_cons_succ, o_add, o_addI, o_sub, o_neg, o_lt, o_le, o_gt, o_ge, o_eq, o_ne, o_int, o_intB, o_abs, o_max, o_min, r_env, List.map_cons, List.map_nil, List.length_cons, List.length_nil, Nat.zero_add, Nat.reduceAdd, Nat.reduceSub, List.replicate_succ, List.replicate_zero, List.cons_append, List.nil_append, Bool.false_eq_true, if_true, if_false, gPar, List.zip_cons_cons, List.zip_nil_right, List.zip_nil_left, List.foldl_cons, List.foldl_nil, unsetE, t1, t2, t3, t4, t5, t6, t7, o_zipT tI_tup tI_tup, c, t8, t9, t10, hv.sum, decide_true, Bool.not_true, u1, u2, u3, u4, u5, u6, u7, u8, u10, u11, u12, u13, u14, Bool.not_false]
end
end DL
set_option maxHeartbeats 4000000
namespace DL
open PySem PySem.Spec PyProof.Rows L2
open K33 (fk Mx few fewS Row Pos Cap Le)
section
variable {S T : Store} {r : Nat} {d : D} {fin : FL}
theorem p_long {v : List P} {n : Nat} (hT : T.objs[r]? = some (.lst (pD v))) (ho : VOk n v) (hn : n ≤ 800000) : ∃ v', m__law_long_right [.r r] T = .ok (.p (.bl true)) (setP T r v') ∧ VOk (n + 200) v' := by
  have hM : (25 : Int) ≤ MAXN := by decide
  have hr := at_lt hT
  obtain ⟨ms, v1, e1, a1, a2, a3, a4⟩ := p_row (T := T) (r := r) (most := 20) (high := 25) hT ho (by omega) (by decide) (by decide) (by decide) (by decide)
  have hlen1 : (setP T r v1).objs.length = T.objs.length := setP_len
  have at1 : (setP T r v1).objs[r]? = some (.lst (pD v1)) := setP_at hr
  have t1 : fToL fLst [tI ms] (setP T r v1) = some (.r T.objs.length, SP (setP T r v1) (ms.map P.int)) := by
    show (match (tI ms).seq? (setP T r v1) with | some xs => fLst xs (setP T r v1) | none => none) = _
    rw [tI_seq, dInts_pD, ← hlen1]
    exact f_new (by simp; omega)
  have at2 : (SP (setP T r v1) (ms.map P.int)).objs[r]? = some (.lst (pD v1)) := by
    rw [SP_old (by rw [hlen1]; exact hr)]
    exact at1
  obtain ⟨i, v2, e2, b1, b2, b3⟩ := p_dip (T := SP (setP T r v1) (ms.map P.int)) (r := r) (size := 3) at2 a1 (by omega) (by decide) (by decide)
  rw [setP_SP (by rw [hlen1]; exact hr), setP_setP] at e2
  have hlen2 : (setP T r v2).objs.length = T.objs.length := setP_len
  -- the row as it is then
  have mid : ∃ (rs : List Int) (v3 : List P), (mIfS (mTest (mOp2 fEq (mCall m__law_dip (mCons (mVar 0) (mCons (mC (.int 3)) mNil))) (mC (.int 0)))) (mPut (mCall m__law_pick (mCons (mVar 0) (mCons (mCallB fLstF (mCons (mOp2 fSub (mOp2 fPow (mC (.int 10)) (mC (.int 30))) (mC (.int 1))) (mCons (mOp2 fPow (mC (.int 10)) (mC (.int 12))) (mCons (mC (.int 19)) (mCons (mC (.int 20)) mNil))))) mNil))) (mVar 1) (mC (.int 0))) mNext)
      [some (.r r), some (.r T.objs.length), none, none, none, none, none] (SP (setP T r v1) (ms.map P.int)) = .ok (.nx [some (.r r), some (.r T.objs.length), none, none, none, none, none]) (SP (setP T r v3) (rs.map P.int)) ∧ VOk (n + 110) v3 ∧ RowOk rs := by
    by_cases q : i = 0
    · have at3 : (SP (setP T r v2) (ms.map P.int)).objs[r]? = some (.lst (pD v2)) := by
        rw [SP_old (by rw [hlen2]; exact hr)]
        exact setP_at hr
      obtain ⟨p, v3, e3, c1, c2⟩ := p_pick (T := SP (setP T r v2) (ms.map P.int)) (r := r) (ps := [.int (10 ^ (30 : Int).toNat - 1), .int (10 ^ (12 : Int).toNat), .int 19, .int 20]) at3 b1 (by omega) (by simp) (by simp)
      rw [setP_SP (by rw [hlen2]; exact hr), setP_setP] at e3
      have hlen3 : (setP T r v3).objs.length = T.objs.length := setP_len
      obtain ⟨x, rfl, hx0, hx1⟩ : ∃ x : Int, p = .int x ∧ 0 ≤ x ∧ x ≤ MAXN := by
        simp only [List.mem_cons, List.not_mem_nil, or_false] at c2
        rcases c2 with rfl | rfl | rfl | rfl
        · exact ⟨_, rfl, by decide, by decide⟩
        · exact ⟨_, rfl, by decide, by decide⟩
        · exact ⟨_, rfl, by decide, by decide⟩
        · exact ⟨_, rfl, by decide, by decide⟩
      have p1 : fPow (.p (.int 10)) (.p (.int 30)) (SP (setP T r v2) (ms.map P.int)) = some (.p (.int (10 ^ (30 : Int).toNat)), SP (setP T r v2) (ms.map P.int)) := o_pow (by decide)
      have p2 : fPow (.p (.int 10)) (.p (.int 12)) (SP (setP T r v2) (ms.map P.int)) = some (.p (.int (10 ^ (12 : Int).toNat)), SP (setP T r v2) (ms.map P.int)) := o_pow (by decide)
      have p3 : fLstF [.p (.int (10 ^ (30 : Int).toNat - 1)), .p (.int (10 ^ (12 : Int).toNat)), .p (.int 19), .p (.int 20)] (SP (setP T r v2) (ms.map P.int)) = some (.p (.lst [.int (10 ^ (30 : Int).toNat - 1), .int (10 ^ (12 : Int).toNat), .int 19, .int 20]), SP (setP T r v2) (ms.map P.int)) := rfl
      have p4 : fPut (.r T.objs.length) (.p (.int 0)) (.p (.int x)) (SP (setP T r v3) (ms.map P.int)) = some (SP (setP T r v3) ((ms.set 0 x).map P.int)) := by
        rw [← hlen3, f_put (j := 0) (by
          unfold ixN
          rw [if_pos (by decide), if_pos (by simp; omega)]
          rfl), List.map_set]
      refine ⟨ms.set 0 x, v3, ?_, c1.mono (by omega), ⟨by simp; omega, by simp; omega, fun y hy => ?_, fun y hy => ?_⟩⟩
      · subst q
        simp only [r_ok, r_c, r_op2, r_op1, r_nil, r_cons, r_callB, r_call, r_and, r_or, r_not, r_asB, r_if, r_andT, r_orT, r_notT, r_test, r_chain, r_seq, r_nx, r_rt, r_bk, r_ct, r_next, r_break, r_cont, r_drop, r_ret, r_retN, r_asg, r_aug, r_ifS, r_par, r_sl, r_noPart, r_part, r_asInt, r_put, r_for, r_src, r_srcA, r_comp, r_meth, r_oNx, r_oCt, r_oBk, r_oRt, r_yes, r_var', r_lift', List.getElem?_cons_zero, List.getElem?_cons_succ, List.set_cons_zero, List.set_cons_succ, o_add, o_addI, o_sub, o_neg, o_lt, o_le, o_gt, o_ge, o_eq, o_ne, o_int, o_intB, o_abs, o_max, o_min, r_env, List.map_cons, List.map_nil, List.length_cons, List.length_nil, Nat.zero_add, Nat.reduceAdd, Nat.reduceSub, List.replicate_succ, List.replicate_zero, List.cons_append, List.nil_append, Bool.false_eq_true, if_true, if_false, gPar, List.zip_cons_cons, List.zip_nil_right, List.zip_nil_left, List.foldl_cons, List.foldl_nil, unsetE, e2, decide_true, p1, p2, p3, e3, r_liftS p4]
      · rcases List.mem_or_eq_of_mem_set hy with hy | rfl
        · exact (a4 y hy).1
        · exact hx0
      · rcases List.mem_or_eq_of_mem_set hy with hy | rfl
        · have := (a4 y hy).2
          omega
        · exact hx1
    · refine ⟨ms, v2, ?_, b1.mono (by omega), ⟨by omega, by omega, fun y hy => (a4 y hy).1, fun y hy => by have := (a4 y hy).2; omega⟩⟩
      simp only [r_ok, r_c, r_op2, r_op1, r_nil, r_cons, r_callB, r_call, r_and, r_or, r_not, r_asB, r_if, r_andT, r_orT, r_notT, r_test, r_chain, r_seq, r_nx, r_rt, r_bk, r_ct, r_next, r_break, r_cont, r_drop, r_ret, r_retN, r_asg, r_aug, r_ifS, r_par, r_sl, r_noPart, r_part, r_asInt, r_put, r_for, r_src, r_srcA, r_comp, r_meth, r_oNx, r_oCt, r_oBk, r_oRt, r_yes, r_var', r_lift', List.getElem?_cons_zero, List.getElem?_cons_succ, List.set_cons_zero, List.set_cons_succ, o_add, o_addI, o_sub, o_neg, o_lt, o_le, o_gt, o_ge, o_eq, o_ne, o_int, o_intB, o_abs, o_max, o_min, r_env, List.map_cons, List.map_nil, List.length_cons, List.length_nil, Nat.zero_add, Nat.reduceAdd, Nat.reduceSub, List.replicate_succ, List.replicate_zero, List.cons_append, List.nil_append, Bool.false_eq_true, if_true, if_false, gPar, List.zip_cons_cons, List.zip_nil_right, List.zip_nil_left, List.foldl_cons, List.foldl_nil, unsetE, e2, q, decide_false]
  obtain ⟨rs, v3, e3, c1, c2⟩ := mid
  have hlen3 : (setP T r v3).objs.length = T.objs.length := setP_len
  obtain ⟨v4, e4, d1⟩ := long_tail (T := setP T r v3) (r := r) c2 (setP_at hr) c1 (by omega)
  rw [setP_setP, hlen3] at e4
  have hlen4 : (setP T r v4).objs.length = T.objs.length := setP_len
  refine ⟨v4, ?_, d1.mono (by omega)⟩
  refine fn_to (S2 := setP T r v4) (S' := SP (setP T r v4) (rs.map P.int)) ?_ (by rw [← hlen4, SP_take]) hlen4
  unfold b__law_long_right
  have e0 : (mAsg (gNm 1) (mCallB (fToL fLst) (mCons (mCall m__law_row (mCons (mVar 0) (mCons (mC (.int 20)) (mCons (mC (.int 25)) mNil)))) mNil))) (env0 7 [.r r]) T = .ok (.nx [some (.r r), some (.r T.objs.length), none, none, none, none, none]) (SP (setP T r v1) (ms.map P.int)) := by
    simp only [r_ok, r_c, r_op2, r_op1, r_nil, r_cons, r_callB, r_call, r_and, r_or, r_not, r_asB, r_if, r_andT, r_orT, r_notT, r_test, r_chain, r_seq, r_nx, r_rt, r_bk, r_ct, r_next, r_break, r_cont, r_drop, r_ret, r_retN, r_asg, r_aug, r_ifS, r_par, r_sl, r_noPart, r_part, r_asInt, r_put, r_for, r_src, r_srcA, r_comp, r_meth, r_oNx, r_oCt, r_oBk, r_oRt, r_yes, r_var', r_lift', List.getElem?_cons_zero, List.getElem?_cons_succ, List.set_cons_zero, List.set_cons_succ, o_add, o_addI, o_sub, o_neg, o_lt, o_le, o_gt, o_ge, o_eq, o_ne, o_int, o_intB, o_abs, o_max, o_min, r_env, List.map_cons, List.map_nil, List.length_cons, List.length_nil, Nat.zero_add, Nat.reduceAdd, Nat.reduceSub, List.replicate_succ, List.replicate_zero, List.cons_append, List.nil_append, Bool.false_eq_true, if_true, if_false, gPar, List.zip_cons_cons, List.zip_nil_right, List.zip_nil_left, List.foldl_cons, List.foldl_nil, unsetE, e1, t1]
  rw [r_seq, e0, r_ok, r_nx, r_seq, e3, r_ok, r_nx]
  exact e4
/-! ### the vat -/
theorem fn_newR {N : Nat} {a : MS} {ds : List D} {v : List P} (h : a (env0 N ds) S = .ok (.rt (.r S.objs.length)) (SP S v)) : mFn N finN a ds S = .ok (.r S.objs.length) (SP S v) := by
  have e : finN S.objs.length (.r S.objs.length) (SP S v) = (.r S.objs.length, SP S v) := by
    unfold finN
    rw [cut_pre SP_take]
    have hw : (O.lst (pD v)).lo S.objs.length = true := los_pD _ _
    show (if S.objs.length ≤ S.objs.length then (match (SP S v).objs[S.objs.length]? with
      | some o => if h : o.lo S.objs.length = true then (D.r S.objs.length, S.new o h) else (.r S.objs.length, SP S v)
      | none => (.r S.objs.length, SP S v)) else (.r S.objs.length, S)) = _
    rw [if_pos (Nat.le_refl _), SP_at]
    show (if h : (O.lst (pD v)).lo S.objs.length = true then (D.r S.objs.length, S.new (.lst (pD v)) h) else (.r S.objs.length, SP S v)) = _
    rw [dif_pos hw]
    rfl
  rw [r_fn, h, r_ok, r_asRt, r_finOk, e]
abbrev GR : Int := ((10 : Int) ^ (58 : Int).toNat) ^ (9 : Int).toNat
theorem GR_pos : 0 < GR := by decide +kernel
theorem GR_top : GR < 2 ^ 2000 := by decide +kernel
theorem p_vat {ns : List Int} {spot : Nat} (hs : spot ≤ 100) : ∃ v, m__law_vat [.p (.scr (ns.map P.int)), .p (.int spot)] S = .ok (.r S.objs.length) (SP S v) ∧ VOk 0 v := by
  have ln : fLen [.p (.scr (ns.map P.int))] S = some (.p (.int ns.length), S) := by
    have := f_len (S := S) (d := .p (.scr (ns.map P.int))) (xs := pD (ns.map P.int)) rfl
    simpa [pD] using this
  have cell : ∃ c : Int, (mIf (mTest (mOp2 fLt (mVar 1) (mCallB fLen (mCons (mVar 0) mNil)))) (mOp2 fIx (mVar 0) (mVar 1)) (mOp2 (fAddG fLstF) (mOp2 (fMulA fLstF) (mC (.int 67)) (mVar 1)) (mC (.int 19)))) [some (.p (.scr (ns.map P.int))), some (.p (.int spot)), none, none, none] S = .ok (.p (.int c)) S := by
    by_cases q : (spot : Int) < (ns.length : Int)
    · have hk : spot < ns.length := by omega
      have ix : fIx (.p (.scr (ns.map P.int))) (.p (.int spot)) S = some (.p (.int ns[spot]), S) := o_ixL (xs := pD (ns.map P.int)) rfl rfl (atI_get (by
        rw [List.getElem?_map, List.getElem?_map, List.getElem?_eq_getElem hk]
        rfl))
      exact ⟨ns[spot], by simp only [r_ok, r_c, r_op2, r_op1, r_nil, r_cons, r_callB, r_call, r_and, r_or, r_not, r_asB, r_if, r_andT, r_orT, r_notT, r_test, r_chain, r_seq, r_nx, r_rt, r_bk, r_ct, r_next, r_break, r_cont, r_drop, r_ret, r_retN, r_asg, r_aug, r_ifS, r_par, r_sl, r_noPart, r_part, r_asInt, r_put, r_for, r_src, r_srcA, r_comp, r_meth, r_oNx, r_oCt, r_oBk, r_oRt, r_yes, r_var', r_lift', List.getElem?_cons_zero, List.getElem?_cons_succ, List.set_cons_zero, List.set_cons_succ, o_add, o_addI, o_sub, o_neg, o_lt, o_le, o_gt, o_ge, o_eq, o_ne, o_int, o_intB, o_abs, o_max, o_min, r_env, List.map_cons, List.map_nil, List.length_cons, List.length_nil, Nat.zero_add, Nat.reduceAdd, Nat.reduceSub, List.replicate_succ, List.replicate_zero, List.cons_append, List.nil_append, Bool.false_eq_true, if_true, if_false, gPar, List.zip_cons_cons, List.zip_nil_right, List.zip_nil_left, List.foldl_cons, List.foldl_nil, unsetE, ln, q, decide_true, ix]⟩
    · have m : fMulA fLstF (.p (.int 67)) (.p (.int spot)) S = some (.p (.int (67 * spot)), S) := o_mul (bits_small (by decide)) (bits_small (by omega))
      exact ⟨67 * spot + 19, by simp only [r_ok, r_c, r_op2, r_op1, r_nil, r_cons, r_callB, r_call, r_and, r_or, r_not, r_asB, r_if, r_andT, r_orT, r_notT, r_test, r_chain, r_seq, r_nx, r_rt, r_bk, r_ct, r_next, r_break, r_cont, r_drop, r_ret, r_retN, r_asg, r_aug, r_ifS, r_par, r_sl, r_noPart, r_part, r_asInt, r_put, r_for, r_src, r_srcA, r_comp, r_meth, r_oNx, r_oCt, r_oBk, r_oRt, r_yes, r_var', r_lift', List.getElem?_cons_zero, List.getElem?_cons_succ, List.set_cons_zero, List.set_cons_succ, o_add, o_addI, o_sub, o_neg, o_lt, o_le, o_gt, o_ge, o_eq, o_ne, o_int, o_intB, o_abs, o_max, o_min, r_env, List.map_cons, List.map_nil, List.length_cons, List.length_nil, Nat.zero_add, Nat.reduceAdd, Nat.reduceSub, List.replicate_succ, List.replicate_zero, List.cons_append, List.nil_append, Bool.false_eq_true, if_true, if_false, gPar, List.zip_cons_cons, List.zip_nil_right, List.zip_nil_left, List.foldl_cons, List.foldl_nil, unsetE, ln, q, decide_false, m]⟩
  obtain ⟨c, hc⟩ := cell
  have p1 : fPow (.p (.int 10)) (.p (.int 58)) S = some (.p (.int (10 ^ (58 : Int).toNat)), S) := o_pow (by decide)
  have p2 : fPow (.p (.int (10 ^ (58 : Int).toNat))) (.p (.int 9)) S = some (.p (.int GR), S) := o_pow (by decide +kernel)
  have p3 : fPow (.p (.int 10)) (.p (.int 17)) S = some (.p (.int (10 ^ (17 : Int).toNat)), S) := o_pow (by decide)
  have o1 := fun x : Int => o_mod (S := S) (i := x) GR_pos
  have g0 : 0 ≤ (if c < 0 then -c else c) % GR := Int.emod_nonneg _ (by have := GR_pos; omega)
  have g1 : (if c < 0 then -c else c) % GR < GR := Int.emod_lt_of_pos _ GR_pos
  generalize hg : (if c < 0 then -c else c) % GR = great at g0 g1
  have hb : bitsB 400000 great = true := bits_of (Nat.lt_of_lt_of_le (show great.natAbs < 2 ^ 2000 by have := GR_top; omega) (Nat.pow_le_pow_right (by decide) (by decide))) (by decide)
  have m1 : fMulA fLstF (.p (.int great)) (.p (.int 1000231)) S = some (.p (.int (great * 1000231)), S) := o_mul hb (bits_small (by decide))
  have m2 : fMulA fLstF (.p (.int 8111)) (.p (.int spot)) S = some (.p (.int (8111 * spot)), S) := o_mul (bits_small (by decide)) (bits_small (by omega))
  have m3 : ∀ b : Bool, fMulA fLstF (.p (.int 53)) (.p (.int (if b = true then 1 else 0))) S = some (.p (.int (53 * (if b = true then 1 else 0))), S) := fun b => o_mul (bits_small (by decide)) (bits_small (by cases b <;> decide))
  have o2 := fun x : Int => o_mod (S := S) (i := x) (show (0 : Int) < 1152921504606846883 by decide)
  have s0 : ∀ x : Int, 0 ≤ x % 1152921504606846883 := fun x => Int.emod_nonneg _ (by decide)
  have s1 : ∀ x : Int, x % 1152921504606846883 < 1152921504606846883 := fun x => Int.emod_lt_of_pos _ (by decide)
  have nw : ∀ a b : Int, fLst [.p (.int a), .p (.int b), .p (.int 0)] S = some (.r S.objs.length, SP S [.int a, .int b, .int 0]) := fun a b => f_new (ps := [.int a, .int b, .int 0]) (by simp)
  refine ⟨[.int (max 0 (great - 10 ^ (17 : Int).toNat)), .int ((great * 1000231 + 8111 * (spot : Int) + 53 * (if (decide (c < 0)) = true then 1 else 0) + 7) % 1152921504606846883), .int 0], ?_, ⟨_, _, 0, rfl, by omega, s0 _, by have := s1 (great * 1000231 + 8111 * (spot : Int) + 53 * (if (decide (c < 0)) = true then 1 else 0) + 7); omega, Int.le_refl _, Int.le_refl _⟩⟩
  refine fn_newR ?_
  have ab : ∀ (ρ : Env), fAbs [.p (.int c)] S = some (.p (.int (if c < 0 then -c else c)), S) := fun _ => rfl
  unfold b__law_vat
  have e0 : (mAsg (gNm 2) (mIf (mTest (mOp2 fLt (mVar 1) (mCallB fLen (mCons (mVar 0) mNil)))) (mOp2 fIx (mVar 0) (mVar 1)) (mOp2 (fAddG fLstF) (mOp2 (fMulA fLstF) (mC (.int 67)) (mVar 1)) (mC (.int 19))))) (env0 5 [.p (.scr (ns.map P.int)), .p (.int spot)]) S = .ok (.nx [some (.p (.scr (ns.map P.int))), some (.p (.int spot)), some (.p (.int c)), none, none]) S := by
    rw [r_asg]
    show (Res.bind (mIf _ _ _ [some (.p (.scr (ns.map P.int))), some (.p (.int spot)), none, none, none] S) _) = _
    rw [hc, r_ok]
    rfl
  have e1 : (mAsg (gNm 3) (mOp2 fMod (mCallB fInt (mCons (mCallB fAbs (mCons (mVar 2) mNil)) mNil)) (mOp2 fPow (mOp2 fPow (mC (.int 10)) (mC (.int 58))) (mC (.int 9))))) [some (.p (.scr (ns.map P.int))), some (.p (.int spot)), some (.p (.int c)), none, none] S = .ok (.nx [some (.p (.scr (ns.map P.int))), some (.p (.int spot)), some (.p (.int c)), some (.p (.int great)), none]) S := by
    simp only [r_ok, r_c, r_op2, r_op1, r_nil, r_cons, r_callB, r_call, r_and, r_or, r_not, r_asB, r_if, r_andT, r_orT, r_notT, r_test, r_chain, r_seq, r_nx, r_rt, r_bk, r_ct, r_next, r_break, r_cont, r_drop, r_ret, r_retN, r_asg, r_aug, r_ifS, r_par, r_sl, r_noPart, r_part, r_asInt, r_put, r_for, r_src, r_srcA, r_comp, r_meth, r_oNx, r_oCt, r_oBk, r_oRt, r_yes, r_var', r_lift', List.getElem?_cons_zero, List.getElem?_cons_succ, List.set_cons_zero, List.set_cons_succ, o_add, o_addI, o_sub, o_neg, o_lt, o_le, o_gt, o_ge, o_eq, o_ne, o_int, o_intB, o_abs, o_max, o_min, r_env, List.map_cons, List.map_nil, List.length_cons, List.length_nil, Nat.zero_add, Nat.reduceAdd, Nat.reduceSub, List.replicate_succ, List.replicate_zero, List.cons_append, List.nil_append, Bool.false_eq_true, if_true, if_false, gPar, List.zip_cons_cons, List.zip_nil_right, List.zip_nil_left, List.foldl_cons, List.foldl_nil, unsetE, p1, p2, o1, hg]
  rw [r_seq, e0, r_ok, r_nx, r_seq, e1, r_ok, r_nx]
  simp only [r_ok, r_c, r_op2, r_op1, r_nil, r_cons, r_callB, r_call, r_and, r_or, r_not, r_asB, r_if, r_andT, r_orT, r_notT, r_test, r_chain, r_seq, r_nx, r_rt, r_bk, r_ct, r_next, r_break, r_cont, r_drop, r_ret, r_retN, r_asg, r_aug, r_ifS, r_par, r_sl, r_noPart, r_part, r_asInt, r_put, r_for, r_src, r_srcA, r_comp, r_meth, r_oNx, r_oCt, r_oBk, r_oRt, r_yes, r_var', r_lift', List.getElem?_cons_zero, List.getElem?_cons_succ, List.set_cons_zero, List.set_cons_succ, o_add, o_addI, o_sub, o_neg, o_lt, o_le, o_gt, o_ge, o_eq, o_ne, o_int, o_intB, o_abs, o_max, o_min, r_env, List.map_cons, List.map_nil, List.length_cons, List.length_nil, Nat.zero_add, Nat.reduceAdd, Nat.reduceSub, List.replicate_succ, List.replicate_zero, List.cons_append, List.nil_append, Bool.false_eq_true, if_true, if_false, gPar, List.zip_cons_cons, List.zip_nil_right, List.zip_nil_left, List.foldl_cons, List.foldl_nil, unsetE, m1, m2, m3, o2, p3, nw]
end
end DL
set_option maxHeartbeats 4000000
namespace DL
open PySem PySem.Spec PyProof.Rows L2
open K33 (fk Mx few fewS Row Pos Cap Le)
section
variable {S T : Store} {r : Nat} {d : D} {fin : FL}
/-! ### rows as data -/
theorem pys_ints : ∀ v : List Int, P.pys (v.map P.int) = some (v.map PyData.int)
  | [] => by simp [P.pys]
  | a :: v => by simp [P.pys, P.py, pys_ints v]
theorem py_tP (v : List Int) : P.py (tP v) = some (.tuple (v.map PyData.int)) := by
  simp [P.py, pys_ints v]
theorem pys_tP : ∀ L : List (List Int), P.pys (L.map tP) = some (L.map fun x => .tuple (x.map PyData.int))
  | [] => by simp [P.pys]
  | a :: L => by
    rw [List.map_cons, P.pys, py_tP, pys_tP L]
    rfl
theorem eqvAll_ints : ∀ a b : List Int, PyData.eqvAll (a.map PyData.int) (b.map PyData.int) = decide (a = b)
  | [], [] => by simp [PyData.eqvAll]
  | [], _ :: _ => by simp [PyData.eqvAll]
  | _ :: _, [] => by simp [PyData.eqvAll]
  | x :: a, y :: b => by
    simp only [List.map_cons, PyData.eqvAll, PyData.eqv, eqvAll_ints a b]
    by_cases h : x = y
    · subst h
      simp
    · simp [h]
theorem eqv_rows (a b : List Int) : PyData.eqv (.tuple (a.map PyData.int)) (.tuple (b.map PyData.int)) = decide (a = b) := by
  simp only [PyData.eqv, eqvAll_ints]
theorem lay_ints : ∀ v : List Int, PyData.canLayAll0 (v.map PyData.int) = true
  | [] => by simp [PyData.canLayAll0]
  | a :: v => by simp [PyData.canLayAll0, PyData.canLay0, lay_ints v]
theorem dep_ints : ∀ v : List Int, PyData.depthAll (v.map PyData.int) = 0
  | [] => by simp [PyData.depthAll]
  | a :: v => by simp [PyData.depthAll, PyData.depth, dep_ints v]
theorem shaped_row (v : List Int) : SeqAt.shaped (.tuple (v.map PyData.int)) = true := by
  show ((PyData.canLay0 (.tuple (v.map PyData.int))) && decide (PyData.depth (.tuple (v.map PyData.int)) ≤ 64)) = true
  simp [PyData.canLay0, lay_ints, PyData.depth, dep_ints]
theorem shaped_rows (L : List (List Int)) : SeqAt.shaped (.list (L.map fun x => .tuple (x.map PyData.int))) = true := by
  have h1 : PyData.canLayAll0 (L.map fun x => PyData.tuple (x.map PyData.int)) = true := by
    induction L with
    | nil => simp [PyData.canLayAll0]
    | cons a L ih => simp [PyData.canLayAll0, PyData.canLay0, lay_ints, ih]
  have h2 : PyData.depthAll (L.map fun x => PyData.tuple (x.map PyData.int)) ≤ 1 := by
    induction L with
    | nil => simp [PyData.depthAll]
    | cons a L ih =>
      have ih' := ih (by simpa [PyData.canLayAll0, PyData.canLay0, lay_ints] using h1)
      simp only [List.map_cons, PyData.depthAll, PyData.depth, dep_ints]
      omega
  show ((PyData.canLay0 (.list (L.map fun x => .tuple (x.map PyData.int)))) && decide (PyData.depth (.list (L.map fun x => .tuple (x.map PyData.int))) ≤ 64)) = true
  have h3 : PyData.depth (.list (L.map fun x => PyData.tuple (x.map PyData.int))) ≤ 64 := by
    simp only [PyData.depth]
    omega
  rw [decide_eq_true h3]
  simp [PyData.canLay0, h1]
theorem f_inL {neg : Bool} {v : List Int} {L : List (List Int)} : fIn neg (tI v) (.p (.lst (L.map tP))) S = some (.p (.bl (xor neg (decide (v ∈ L)))), S) := by
  have e1 : (tI v).py? S = some (.tuple (v.map PyData.int)) := py_tP v
  have e2 : (D.p (.lst (L.map tP))).pyL? S = some (L.map fun x => .tuple (x.map PyData.int)) := by
    unfold D.pyL?
    have : (D.p (.lst (L.map tP))).py? S = some (.list (L.map fun x => .tuple (x.map PyData.int))) := by
      show P.py (.lst (L.map tP)) = _
      rw [P.py, pys_tP]
    rw [this]
  unfold fIn
  simp only [e1, e2, shaped_row, shaped_rows, Bool.and_self, if_true]
  congr 5
  rw [List.any_map]
  induction L with
  | nil => simp
  | cons a L ih =>
    have ih' := ih (by
      unfold D.pyL?
      have : (D.p (.lst (L.map tP))).py? S = some (.list (L.map fun x => .tuple (x.map PyData.int))) := by
        show P.py (.lst (L.map tP)) = _
        rw [P.py, pys_tP]
      rw [this])
    rw [List.any_cons, ih']
    show (PyData.eqv (.tuple (a.map PyData.int)) (.tuple (v.map PyData.int)) || decide (v ∈ L)) = _
    rw [eqv_rows]
    by_cases h : a = v
    · subst h
      simp
    · have h' : v ≠ a := fun z => h z.symm
      simp [h, h']
theorem o_neB {a b : Bool} : fNe (.p (.bl a)) (.p (.bl b)) S = some (.p (.bl (!(a == b))), S) := by
  cases a <;> cases b <;> rfl
/-- a filter over rows -/
theorem compI_filt {w : List (Nat × List D)} {g : MG} {t : ME Bool} {e : ME D} {ρ : Env} {q : List Int → Bool} (hw : watchOk w S = true) (L : List (List Int)) (hl : L.length ≤ 100000)
    (h : ∀ x ∈ L, ∃ ρ', g (tI x) ρ S = some ρ' ∧ t ρ' S = .ok (q x) S ∧ (q x = true → e ρ' S = .ok (tI x) S)) : compI w g t e ρ [] (pD (L.map tP)) S = .ok (pD ((L.filter q).map tP)) S := by
  have go : ∀ (L : List (List Int)) (acc : List D), acc.length + L.length ≤ 100000 → (∀ x ∈ L, ∃ ρ', g (tI x) ρ S = some ρ' ∧ t ρ' S = .ok (q x) S ∧ (q x = true → e ρ' S = .ok (tI x) S)) → compI w g t e ρ acc (pD (L.map tP)) S = .ok (acc ++ pD ((L.filter q).map tP)) S := by
    intro L
    induction L with
    | nil =>
      intro acc _ _
      show compI w g t e ρ acc [] S = _
      rw [compI_nil hw]
      simp [pD]
    | cons x L ih =>
      intro acc hl h
      obtain ⟨ρ', e1, e2, e3⟩ := h x List.mem_cons_self
      rw [List.length_cons] at hl
      show compI w g t e ρ acc (tI x :: pD (L.map tP)) S = _
      unfold compI
      rw [if_pos hw, e1]
      simp only [e2, noErr, r_ok]
      cases hq : q x with
      | false =>
        simp only [Bool.false_eq_true, if_false]
        rw [ih acc (by omega) fun y hy => h y (List.mem_cons_of_mem _ hy), List.filter_cons_of_neg (by rw [hq]; decide)]
      | true =>
        simp only [if_true, e3 hq, noErr, r_ok]
        rw [if_pos (by omega), ih (acc ++ [tI x]) (by simp; omega) fun y hy => h y (List.mem_cons_of_mem _ hy), List.filter_cons_of_pos hq]
        simp [pD, tI]
  have := go L [] (by simpa using hl) h
  simpa using this
/-- what is a shuffled list of rows, of ints -/
theorem perm_unmap {α : Type} {f : α → P} {g : P → α} (hg : ∀ a, g (f a) = a) {qs : List P} {xs : List α} (h : qs.Perm (xs.map f)) : ∃ ys : List α, qs = ys.map f ∧ ys.Perm xs := by
  refine ⟨qs.map g, ?_, ?_⟩
  · rw [List.map_map]
    have : ∀ q ∈ qs, (f ∘ g) q = q := fun q hq => by
      obtain ⟨a, _, rfl⟩ := List.mem_map.mp (h.mem_iff.mp hq)
      show f (g (f a)) = f a
      rw [hg]
    exact ((List.map_congr_left this).trans (List.map_id qs)).symm
  · have h2 := h.map g
    rw [List.map_map] at h2
    have e : xs.map (g ∘ f) = xs := by
      have : ∀ x ∈ xs, (g ∘ f) x = x := fun x _ => hg x
      exact (List.map_congr_left this).trans (List.map_id xs)
    rwa [e] at h2
theorem foldl_min_eq {n : Int} {l : List Int} {m : Int} (h1 : m ∈ n :: l) (h2 : ∀ y, y ∈ n :: l → m ≤ y) : l.foldl min n = m := (@min_uniq ⟨[]⟩ n l m h1 h2).symm
def unInt : P → Int
  | .int i => i
  | _ => 0
def unRow : P → List Int
  | .tup xs => xs.map unInt
  | _ => []
theorem unRow_tP (x : List Int) : unRow (tP x) = x := by
  show (x.map P.int).map unInt = x
  rw [List.map_map]
  exact (List.map_congr_left (fun a _ => rfl)).trans (List.map_id x)
/-- good: of the row's length, of small entries -/
def Good (ms y : List Int) : Prop := y.length = ms.length ∧ ∀ a ∈ y, 0 ≤ a ∧ a ≤ 4
theorem good_perm {ms x y : List Int} (h : Good ms x) (p : y.Perm x) : Good ms y := ⟨p.length_eq.trans h.1, fun a ha => h.2 a (p.mem_iff.mp ha)⟩
theorem good_below {ms x : List Int} (hm : ∀ a ∈ ms, 0 ≤ a ∧ a ≤ 4) (h : x ∈ below ms) : Good ms x := by
  have hb := mem_below.mp h
  obtain ⟨h1, h2, _⟩ := belR_le hb
  refine ⟨belR_len hb, fun a ha => ⟨h2 a ha, ?_⟩⟩
  obtain ⟨i, e⟩ := K33.mem_at ha
  have hi : i < ms.length := by
    rw [← belR_len hb]
    exact (List.getElem?_eq_some_iff.mp e).1
  have := h1.2 i a ms[i] e (List.getElem?_eq_getElem hi)
  have := (hm ms[i] (List.getElem_mem hi)).2
  omega
/-- the nearest of those below -/
def nearL (ms : List Int) : List (List Int) := ((below ms).filter fun x => decide (few x = 0)).filter fun x => decide (ms.sum - x.sum = few ms)
theorem nearL_mem {ms y : List Int} (h : RowOk ms) (hg : Good ms y) : decide (y ∈ nearL ms) = nearB ms y := by
  have hy : rowB y = true := rowB_ok.mpr ⟨by rw [hg.1]; exact h.one, by rw [hg.1]; exact h.len, fun a ha => (hg.2 a ha).1, fun a ha => by
    have := (hg.2 a ha).2
    have : (4 : Int) ≤ MAXN := by decide
    omega⟩
  unfold nearB
  rw [hy, decide_eq_true hg.1]
  have hm : y ∈ nearL ms ↔ gtAny y ms = false ∧ few y = 0 ∧ ms.sum - y.sum = few ms := by
    unfold nearL
    simp only [List.mem_filter, decide_eq_true_eq]
    constructor
    · rintro ⟨⟨a, b⟩, c⟩
      exact ⟨(belR_le (mem_below.mp a)).2.2, b, c⟩
    · rintro ⟨a, b, c⟩
      exact ⟨⟨mem_below.mpr (belR_of hg.1 (fun z hz => (hg.2 z hz).1) a), b⟩, c⟩
  by_cases q1 : gtAny y ms = false
  · by_cases q2 : ms.sum - y.sum = few ms
    · by_cases q3 : few y = 0
      · rw [decide_eq_true (hm.mpr ⟨q1, q3, q2⟩), q1, decide_eq_true q2, decide_eq_true q3]
        rfl
      · rw [decide_eq_false (fun z => q3 (hm.mp z).2.1), decide_eq_false q3]
        simp
    · rw [decide_eq_false (fun z => q2 (hm.mp z).2.2), decide_eq_false q2]
      simp
  · rw [decide_eq_false (fun z => q1 (hm.mp z).1)]
    cases h : gtAny y ms with
    | true => rfl
    | false => exact absurd h q1
theorem near_mem {ms v : List Int} (hv : NearOk ms v) : v ∈ nearL ms := by
  unfold nearL
  simp only [List.mem_filter, decide_eq_true_eq]
  exact ⟨⟨mem_below.mpr (belR_of hv.le.1 hv.pos (gtAny_le hv.le)), hv.few⟩, hv.sum⟩
theorem below_len {ms : List Int} (hn : ms.length ≤ 4) (h : ∀ x ∈ ms, 0 ≤ x ∧ x ≤ 4) : (below ms).length ≤ 625 := by
  have go : ∀ (rows : List Int) (acc : List (List Int)), (∀ x ∈ rows, 0 ≤ x ∧ x ≤ 4) → (rows.foldl belowStep acc).length ≤ acc.length * 5 ^ rows.length := by
    intro rows
    induction rows with
    | nil => intro acc _; simp
    | cons e rows ih =>
      intro acc hr
      obtain ⟨e0, e4⟩ := hr e List.mem_cons_self
      have h1 := ih (belowStep acc e) fun x hx => hr x (List.mem_cons_of_mem _ hx)
      have h2 := belowStep_len acc e0 e4
      have h3 : (belowStep acc e).length * 5 ^ rows.length ≤ acc.length * 5 * 5 ^ rows.length := Nat.mul_le_mul_right _ h2
      have h4 : acc.length * 5 * 5 ^ rows.length = acc.length * 5 ^ (e :: rows).length := by
        rw [List.length_cons, Nat.pow_succ, Nat.mul_assoc, Nat.mul_comm 5]
      rw [List.foldl_cons]
      omega
  have h1 := go ms [[]] h
  have h2 : 5 ^ ms.length ≤ 5 ^ 4 := Nat.pow_le_pow_right (by decide) hn
  have h3 : ([[]] : List (List Int)).length * 5 ^ ms.length = 5 ^ ms.length := by simp
  unfold below
  omega
theorem mix_loop {z1 z2 z3 z4 : Option D} (hr : r < T.objs.length) : ∀ (xs : List (List Int)) (acc : List D) (v : List P) (n : Nat), (∀ x ∈ xs, x.length ≤ 4) → acc.length + xs.length ≤ 1000 → VOk n v → n + 4 * xs.length ≤ 900000 →
    ∃ (ys : List (List Int)) (v' : List P), compI [] (gNm 5) mYes ce__law_small_right_3 [some (.r r), z1, z2, z3, z4, none] acc (pD (xs.map tP)) (setP T r v) = .ok (acc ++ pD (ys.map tP)) (setP T r v') ∧ VOk (n + 4 * xs.length) v' ∧ ys.length = xs.length ∧ ∀ y ∈ ys, ∃ x ∈ xs, y.Perm x
  | [], acc, v, n, _, _, hv, _ => ⟨[], v, by
    show compI [] (gNm 5) mYes ce__law_small_right_3 _ acc [] _ = _
    rw [compI_nil rfl]
    simp [pD], hv, rfl, fun y hy => absurd hy List.not_mem_nil⟩
  | x :: xs, acc, v, n, hx, hl, hv, hn => by
    rw [List.length_cons] at hl hn
    have hx4 := hx x List.mem_cons_self
    obtain ⟨qs, v1, e, h2, h3⟩ := p_mixed (T := setP T r v) (r := r) (ps := x.map P.int) (d := tI x) (setP_at (by exact hr)) hv (by simp; omega) rfl rfl (by simp; omega)
    rw [setP_setP] at e
    obtain ⟨y, rfl, hp⟩ := perm_unmap (g := unInt) (fun _ => rfl) h3
    obtain ⟨ys, v', e2, a1, a2, a3⟩ := mix_loop (z1 := z1) (z2 := z2) (z3 := z3) (z4 := z4) hr xs (acc ++ [tI y]) v1 (n + 4) (fun o h => hx o (List.mem_cons_of_mem _ h)) (by simp; omega) (h2.mono (by simp; omega)) (by omega)
    refine ⟨y :: ys, v', ?_, a1.mono (by rw [List.length_cons]; omega), by rw [List.length_cons, List.length_cons, a2], fun o ho => ?_⟩
    · have el : ce__law_small_right_3 [some (.r r), z1, z2, z3, z4, some (tI x)] (setP T r v) = .ok (tI y) (setP T r v1) := by
        have e' : m__law_mixed [.r r, tI x] (setP T r v) = .ok (lI y) (setP T r v1) := e
        unfold ce__law_small_right_3
        simp only [r_ok, r_c, r_op2, r_op1, r_nil, r_cons, r_callB, r_call, r_and, r_or, r_not, r_asB, r_if, r_andT, r_orT, r_notT, r_test, r_chain, r_seq, r_nx, r_rt, r_bk, r_ct, r_next, r_break, r_cont, r_drop, r_ret, r_retN, r_asg, r_aug, r_ifS, r_par, r_sl, r_noPart, r_part, r_asInt, r_put, r_for, r_src, r_srcA, r_comp, r_meth, r_oNx, r_oCt, r_oBk, r_oRt, r_yes, r_var', r_lift', List.getElem?_cons_zero, List.getElem?_cons_succ, List.set_cons_zero, List.set_cons_succ, o_add, o_addI, o_sub, o_neg, o_lt, o_le, o_gt, o_ge, o_eq, o_ne, o_int, o_intB, o_abs, o_max, o_min, r_env, List.map_cons, List.map_nil, List.length_cons, List.length_nil, Nat.zero_add, Nat.reduceAdd, Nat.reduceSub, List.replicate_succ, List.replicate_zero, List.cons_append, List.nil_append, Bool.false_eq_true, if_true, if_false, gPar, List.zip_cons_cons, List.zip_nil_right, List.zip_nil_left, List.foldl_cons, List.foldl_nil, unsetE, e', f_toT_l]
      show compI [] (gNm 5) mYes ce__law_small_right_3 _ acc (tI x :: pD (xs.map tP)) _ = _
      rw [compI_step rfl rfl el (by omega), e2]
      simp [pD, tI]
    · rcases List.mem_cons.mp ho with rfl | ho
      · exact ⟨x, List.mem_cons_self, hp⟩
      · obtain ⟨z, hz, hzp⟩ := a3 o ho
        exact ⟨z, List.mem_cons_of_mem _ hz, hzp⟩
end
end DL
set_option maxHeartbeats 4000000
namespace DL
open PySem PySem.Spec PyProof.Rows L2
open K33 (fk Mx few fewS Row Pos Cap Le)
section
variable {S T : Store} {r : Nat} {d : D} {fin : FL}
theorem p_small {v : List P} {n : Nat} (hT : T.objs[r]? = some (.lst (pD v))) (ho : VOk n v) (hn : n ≤ 700000) : ∃ v', m__law_small_right [.r r] T = .ok (.p (.bl true)) (setP T r v') ∧ VOk (n + 1000) v' := by
  have hr := at_lt hT
  obtain ⟨ms, v1, e1, a1, a2, a3, a4⟩ := p_row (T := T) (r := r) (most := 4) (high := 4) hT ho (by omega) (by decide) (by decide) (by decide) (by decide)
  have hlen : ms.length ≤ 4 := by omega
  have hM : (4 : Int) ≤ MAXN := by decide
  have hR : RowOk ms := ⟨a2, by omega, fun x hx => (a4 x hx).1, fun x hx => by have := (a4 x hx).2; omega⟩
  have bl := below_len hlen a4
  have hN : nearL ms = ((below ms).filter fun x => decide (few x = 0)).filter fun x => decide (ms.sum - x.sum = few ms) := rfl
  have gB : ∀ x ∈ below ms, Good ms x := fun x hx => good_below a4 hx
  have gN : ∀ x ∈ nearL ms, Good ms x := fun x hx => gB x ((List.mem_filter.mp (List.mem_filter.mp hx).1).1)
  have lN : (nearL ms).length ≤ 625 := Nat.le_trans (Nat.le_trans (List.length_filter_le _ _) (List.length_filter_le _ _)) bl
  have at1 : (setP T r v1).objs[r]? = some (.lst (pD v1)) := setP_at hr
  -- the row, those below it, the possible ones
  have s1 : (mAsg (gNm 1) (mCall m__law_row (mCons (mVar 0) (mCons (mC (.int 4)) (mCons (mC (.int 4)) mNil))))) (env0 6 [.r r]) T = .ok (.nx [some (.r r), some (tI ms), none, none, none, none]) (setP T r v1) := by
    simp only [r_ok, r_c, r_op2, r_op1, r_nil, r_cons, r_callB, r_call, r_and, r_or, r_not, r_asB, r_if, r_andT, r_orT, r_notT, r_test, r_chain, r_seq, r_nx, r_rt, r_bk, r_ct, r_next, r_break, r_cont, r_drop, r_ret, r_retN, r_asg, r_aug, r_ifS, r_par, r_sl, r_noPart, r_part, r_asInt, r_put, r_for, r_src, r_srcA, r_comp, r_meth, r_oNx, r_oCt, r_oBk, r_oRt, r_yes, r_var', r_lift', List.getElem?_cons_zero, List.getElem?_cons_succ, List.set_cons_zero, List.set_cons_succ, o_add, o_addI, o_sub, o_neg, o_lt, o_le, o_gt, o_ge, o_eq, o_ne, o_int, o_intB, o_abs, o_max, o_min, r_env, List.map_cons, List.map_nil, List.length_cons, List.length_nil, Nat.zero_add, Nat.reduceAdd, Nat.reduceSub, List.replicate_succ, List.replicate_zero, List.cons_append, List.nil_append, Bool.false_eq_true, if_true, if_false, gPar, List.zip_cons_cons, List.zip_nil_right, List.zip_nil_left, List.foldl_cons, List.foldl_nil, unsetE, e1]
  obtain ⟨A, eA⟩ : ∃ A, A = (below ms).filter fun x => decide (few x = 0) := ⟨_, rfl⟩
  have lA : A.length ≤ 625 := by rw [eA]; exact Nat.le_trans (List.length_filter_le _ _) bl
  have s2 : (mAsg (gNm 2) (mCallB fLstF (mCompL (mSrc srcSeq (mCall m__law_below (mCons (mVar 1) mNil))) [5] (gNm 5) ct__law_small_right ce__law_small_right))) [some (.r r), some (tI ms), none, none, none, none] (setP T r v1) = .ok (.nx [some (.r r), some (tI ms), some (.p (.lst (A.map tP))), none, none, none]) (setP T r v1) := by
    have b := p_below (S := setP T r v1) hlen a4
    have c : compI [] (gNm 5) ct__law_small_right ce__law_small_right [some (.r r), some (tI ms), none, none, none, none] [] (pD ((below ms).map tP)) (setP T r v1) = .ok (pD (A.map tP)) (setP T r v1) := by
      rw [eA]
      refine compI_filt rfl _ (by omega) fun x hx => ⟨_, rfl, ?_, fun _ => rfl⟩
      have := p_possible (S := setP T r v1) (d := tI x) (ns := x) tI_seq (by have := (gB x hx).1; omega)
      unfold ct__law_small_right
      simp only [r_ok, r_c, r_op2, r_op1, r_nil, r_cons, r_callB, r_call, r_and, r_or, r_not, r_asB, r_if, r_andT, r_orT, r_notT, r_test, r_chain, r_seq, r_nx, r_rt, r_bk, r_ct, r_next, r_break, r_cont, r_drop, r_ret, r_retN, r_asg, r_aug, r_ifS, r_par, r_sl, r_noPart, r_part, r_asInt, r_put, r_for, r_src, r_srcA, r_comp, r_meth, r_oNx, r_oCt, r_oBk, r_oRt, r_yes, r_var', r_lift', List.getElem?_cons_zero, List.getElem?_cons_succ, List.set_cons_zero, List.set_cons_succ, o_add, o_addI, o_sub, o_neg, o_lt, o_le, o_gt, o_ge, o_eq, o_ne, o_int, o_intB, o_abs, o_max, o_min, r_env, List.map_cons, List.map_nil, List.length_cons, List.length_nil, Nat.zero_add, Nat.reduceAdd, Nat.reduceSub, List.replicate_succ, List.replicate_zero, List.cons_append, List.nil_append, Bool.false_eq_true, if_true, if_false, gPar, List.zip_cons_cons, List.zip_nil_right, List.zip_nil_left, List.foldl_cons, List.foldl_nil, unsetE, this]
    have sr : srcSeq (.p (.lst ((below ms).map tP))) (setP T r v1) = some (⟨pD ((below ms).map tP), []⟩, setP T r v1) := o_srcL rfl rfl
    have fl : fLstF (pD (A.map tP)) (setP T r v1) = some (.p (.lst (A.map tP)), setP T r v1) := f_lstP (by simp; omega)
    simp only [r_ok, r_c, r_op2, r_op1, r_nil, r_cons, r_callB, r_call, r_and, r_or, r_not, r_asB, r_if, r_andT, r_orT, r_notT, r_test, r_chain, r_seq, r_nx, r_rt, r_bk, r_ct, r_next, r_break, r_cont, r_drop, r_ret, r_retN, r_asg, r_aug, r_ifS, r_par, r_sl, r_noPart, r_part, r_asInt, r_put, r_for, r_src, r_srcA, r_comp, r_meth, r_oNx, r_oCt, r_oBk, r_oRt, r_yes, r_var', r_lift', List.getElem?_cons_zero, List.getElem?_cons_succ, List.set_cons_zero, List.set_cons_succ, o_add, o_addI, o_sub, o_neg, o_lt, o_le, o_gt, o_ge, o_eq, o_ne, o_int, o_intB, o_abs, o_max, o_min, r_env, List.map_cons, List.map_nil, List.length_cons, List.length_nil, Nat.zero_add, Nat.reduceAdd, Nat.reduceSub, List.replicate_succ, List.replicate_zero, List.cons_append, List.nil_append, Bool.false_eq_true, if_true, if_false, gPar, List.zip_cons_cons, List.zip_nil_right, List.zip_nil_left, List.foldl_cons, List.foldl_nil, unsetE, b, sr, c, fl]
  -- the fewest units
  obtain ⟨vs, n1, hv⟩ := p_nearest (S := setP T r v1) hR
  have vA : vs ∈ A := by
    have := near_mem hv
    rw [hN] at this
    rw [eA]
    exact (List.mem_filter.mp this).1
  have s3 : (mAsg (gNm 3) (mCallB fMin (mCons (mCallB fLstF (mCompL (mSrc srcSeq (mVar 2)) [5] (gNm 5) mYes ce__law_small_right_1)) mNil))) [some (.r r), some (tI ms), some (.p (.lst (A.map tP))), none, none, none] (setP T r v1) = .ok (.nx [some (.r r), some (tI ms), some (.p (.lst (A.map tP))), some (.p (.int (few ms))), none, none]) (setP T r v1) := by
    have c : compI [] (gNm 5) mYes ce__law_small_right_1 [some (.r r), some (tI ms), some (.p (.lst (A.map tP))), none, none, none] [] (pD (A.map tP)) (setP T r v1) = .ok (dInts (A.map fun x => ms.sum - x.sum)) (setP T r v1) := by
      have k := compI_map (w := []) (g := gNm 5) (e := ce__law_small_right_1) (ρ := [some (.r r), some (tI ms), some (.p (.lst (A.map tP))), none, none, none]) (S := setP T r v1) (f := fun y => match y with
        | .p p => .p (.int (ms.sum - (unRow p).sum))
        | y => y) rfl (pD (A.map tP)) (by simp [pD]; omega) fun y hy => by
          obtain ⟨p, hp, rfl⟩ := List.mem_map.mp hy
          obtain ⟨x, hx, rfl⟩ := List.mem_map.mp hp
          refine ⟨_, rfl, ?_⟩
          have f1 : fSum [tI ms] (setP T r v1) = some (.p (.int ms.sum), setP T r v1) := f_sum tI_seq
          have f2 : fSum [.p (tP x)] (setP T r v1) = some (.p (.int x.sum), setP T r v1) := f_sum (d := tI x) tI_seq
          unfold ce__law_small_right_1
          simp only [r_ok, r_c, r_op2, r_op1, r_nil, r_cons, r_callB, r_call, r_and, r_or, r_not, r_asB, r_if, r_andT, r_orT, r_notT, r_test, r_chain, r_seq, r_nx, r_rt, r_bk, r_ct, r_next, r_break, r_cont, r_drop, r_ret, r_retN, r_asg, r_aug, r_ifS, r_par, r_sl, r_noPart, r_part, r_asInt, r_put, r_for, r_src, r_srcA, r_comp, r_meth, r_oNx, r_oCt, r_oBk, r_oRt, r_yes, r_var', r_lift', List.getElem?_cons_zero, List.getElem?_cons_succ, List.set_cons_zero, List.set_cons_succ, o_add, o_addI, o_sub, o_neg, o_lt, o_le, o_gt, o_ge, o_eq, o_ne, o_int, o_intB, o_abs, o_max, o_min, r_env, List.map_cons, List.map_nil, List.length_cons, List.length_nil, Nat.zero_add, Nat.reduceAdd, Nat.reduceSub, List.replicate_succ, List.replicate_zero, List.cons_append, List.nil_append, Bool.false_eq_true, if_true, if_false, gPar, List.zip_cons_cons, List.zip_nil_right, List.zip_nil_left, List.foldl_cons, List.foldl_nil, unsetE, f1, f2, unRow_tP]
      rw [k]
      congr 1
      unfold pD dInts
      rw [List.map_map, List.map_map, List.map_map]
      refine List.map_congr_left fun x _ => ?_
      show D.p (.int (ms.sum - (unRow (tP x)).sum)) = D.p (.int (ms.sum - x.sum))
      rw [unRow_tP]
    have sr : srcSeq (.p (.lst (A.map tP))) (setP T r v1) = some (⟨pD (A.map tP), []⟩, setP T r v1) := o_srcL rfl rfl
    have fl : fLstF (dInts (A.map fun x => ms.sum - x.sum)) (setP T r v1) = some (lI (A.map fun x => ms.sum - x.sum), setP T r v1) := f_lstF (by simp; omega)
    have mn : fMin [lI (A.map fun x => ms.sum - x.sum)] (setP T r v1) = some (.p (.int (few ms)), setP T r v1) := by
      have m1 : few ms ∈ A.map fun x => ms.sum - x.sum := List.mem_map.mpr ⟨vs, vA, hv.sum⟩
      have m2 : ∀ y ∈ A.map fun x => ms.sum - x.sum, few ms ≤ y := fun y hy => by
        obtain ⟨x, hx, rfl⟩ := List.mem_map.mp hy
        rw [eA] at hx
        obtain ⟨h1, h2⟩ := List.mem_filter.mp hx
        obtain ⟨z1, z2⟩ := K33.few_nil (of_decide_eq_true h2)
        exact K33.few_low (belR_le (mem_below.mp h1)).1 z1 z2
      cases hl : A.map fun x => ms.sum - x.sum with
      | nil => rw [hl] at m1; exact absurd m1 List.not_mem_nil
      | cons c l =>
        rw [hl] at m1 m2
        rw [o_minL (n := c) (ns := l) lI_seq, foldl_min_eq m1 m2]
    simp only [r_ok, r_c, r_op2, r_op1, r_nil, r_cons, r_callB, r_call, r_and, r_or, r_not, r_asB, r_if, r_andT, r_orT, r_notT, r_test, r_chain, r_seq, r_nx, r_rt, r_bk, r_ct, r_next, r_break, r_cont, r_drop, r_ret, r_retN, r_asg, r_aug, r_ifS, r_par, r_sl, r_noPart, r_part, r_asInt, r_put, r_for, r_src, r_srcA, r_comp, r_meth, r_oNx, r_oCt, r_oBk, r_oRt, r_yes, r_var', r_lift', List.getElem?_cons_zero, List.getElem?_cons_succ, List.set_cons_zero, List.set_cons_succ, o_add, o_addI, o_sub, o_neg, o_lt, o_le, o_gt, o_ge, o_eq, o_ne, o_int, o_intB, o_abs, o_max, o_min, r_env, List.map_cons, List.map_nil, List.length_cons, List.length_nil, Nat.zero_add, Nat.reduceAdd, Nat.reduceSub, List.replicate_succ, List.replicate_zero, List.cons_append, List.nil_append, Bool.false_eq_true, if_true, if_false, gPar, List.zip_cons_cons, List.zip_nil_right, List.zip_nil_left, List.foldl_cons, List.foldl_nil, unsetE, sr, c, fl, mn]
  have s4 : (mIfS (mOrT (mTest (mOp2 fNe (mCall m_fewest_away (mCons (mVar 1) mNil)) (mVar 3))) (mTest (mOp2 fNe (mCall m__law_fewest (mCons (mVar 1) mNil)) (mVar 3)))) (mRet (mC (.bl false))) mNext) [some (.r r), some (tI ms), some (.p (.lst (A.map tP))), some (.p (.int (few ms))), none, none] (setP T r v1) = .ok (.nx [some (.r r), some (tI ms), some (.p (.lst (A.map tP))), some (.p (.int (few ms))), none, none]) (setP T r v1) := by
    have f1 := p_fewest_away (S := setP T r v1) hR
    have f2 := p_fewest (S := setP T r v1) (d := tI ms) (ns := ms) tI_seq (by omega)
    simp only [r_ok, r_c, r_op2, r_op1, r_nil, r_cons, r_callB, r_call, r_and, r_or, r_not, r_asB, r_if, r_andT, r_orT, r_notT, r_test, r_chain, r_seq, r_nx, r_rt, r_bk, r_ct, r_next, r_break, r_cont, r_drop, r_ret, r_retN, r_asg, r_aug, r_ifS, r_par, r_sl, r_noPart, r_part, r_asInt, r_put, r_for, r_src, r_srcA, r_comp, r_meth, r_oNx, r_oCt, r_oBk, r_oRt, r_yes, r_var', r_lift', List.getElem?_cons_zero, List.getElem?_cons_succ, List.set_cons_zero, List.set_cons_succ, o_add, o_addI, o_sub, o_neg, o_lt, o_le, o_gt, o_ge, o_eq, o_ne, o_int, o_intB, o_abs, o_max, o_min, r_env, List.map_cons, List.map_nil, List.length_cons, List.length_nil, Nat.zero_add, Nat.reduceAdd, Nat.reduceSub, List.replicate_succ, List.replicate_zero, List.cons_append, List.nil_append, Bool.false_eq_true, if_true, if_false, gPar, List.zip_cons_cons, List.zip_nil_right, List.zip_nil_left, List.foldl_cons, List.foldl_nil, unsetE, f1, f2, decide_true, Bool.not_true]
  have s5 : (mAsg (gNm 2) (mCallB fLstF (mCompL (mSrc srcSeq (mVar 2)) [5] (gNm 5) ct__law_small_right_1 ce__law_small_right_2))) [some (.r r), some (tI ms), some (.p (.lst (A.map tP))), some (.p (.int (few ms))), none, none] (setP T r v1) = .ok (.nx [some (.r r), some (tI ms), some (.p (.lst ((nearL ms).map tP))), some (.p (.int (few ms))), none, none]) (setP T r v1) := by
    have c : compI [] (gNm 5) ct__law_small_right_1 ce__law_small_right_2 [some (.r r), some (tI ms), some (.p (.lst (A.map tP))), some (.p (.int (few ms))), none, none] [] (pD (A.map tP)) (setP T r v1) = .ok (pD ((nearL ms).map tP)) (setP T r v1) := by
      rw [hN, ← eA]
      refine compI_filt rfl _ (by omega) fun x hx => ⟨_, rfl, ?_, fun _ => rfl⟩
      have f1 : fSum [tI ms] (setP T r v1) = some (.p (.int ms.sum), setP T r v1) := f_sum tI_seq
      have f2 : fSum [tI x] (setP T r v1) = some (.p (.int x.sum), setP T r v1) := f_sum tI_seq
      unfold ct__law_small_right_1
      simp only [r_ok, r_c, r_op2, r_op1, r_nil, r_cons, r_callB, r_call, r_and, r_or, r_not, r_asB, r_if, r_andT, r_orT, r_notT, r_test, r_chain, r_seq, r_nx, r_rt, r_bk, r_ct, r_next, r_break, r_cont, r_drop, r_ret, r_retN, r_asg, r_aug, r_ifS, r_par, r_sl, r_noPart, r_part, r_asInt, r_put, r_for, r_src, r_srcA, r_comp, r_meth, r_oNx, r_oCt, r_oBk, r_oRt, r_yes, r_var', r_lift', List.getElem?_cons_zero, List.getElem?_cons_succ, List.set_cons_zero, List.set_cons_succ, o_add, o_addI, o_sub, o_neg, o_lt, o_le, o_gt, o_ge, o_eq, o_ne, o_int, o_intB, o_abs, o_max, o_min, r_env, List.map_cons, List.map_nil, List.length_cons, List.length_nil, Nat.zero_add, Nat.reduceAdd, Nat.reduceSub, List.replicate_succ, List.replicate_zero, List.cons_append, List.nil_append, Bool.false_eq_true, if_true, if_false, gPar, List.zip_cons_cons, List.zip_nil_right, List.zip_nil_left, List.foldl_cons, List.foldl_nil, unsetE, f1, f2]
    have sr : srcSeq (.p (.lst (A.map tP))) (setP T r v1) = some (⟨pD (A.map tP), []⟩, setP T r v1) := o_srcL rfl rfl
    have fl : fLstF (pD ((nearL ms).map tP)) (setP T r v1) = some (.p (.lst ((nearL ms).map tP)), setP T r v1) := f_lstP (by simp; omega)
    simp only [r_ok, r_c, r_op2, r_op1, r_nil, r_cons, r_callB, r_call, r_and, r_or, r_not, r_asB, r_if, r_andT, r_orT, r_notT, r_test, r_chain, r_seq, r_nx, r_rt, r_bk, r_ct, r_next, r_break, r_cont, r_drop, r_ret, r_retN, r_asg, r_aug, r_ifS, r_par, r_sl, r_noPart, r_part, r_asInt, r_put, r_for, r_src, r_srcA, r_comp, r_meth, r_oNx, r_oCt, r_oBk, r_oRt, r_yes, r_var', r_lift', List.getElem?_cons_zero, List.getElem?_cons_succ, List.set_cons_zero, List.set_cons_succ, o_add, o_addI, o_sub, o_neg, o_lt, o_le, o_gt, o_ge, o_eq, o_ne, o_int, o_intB, o_abs, o_max, o_min, r_env, List.map_cons, List.map_nil, List.length_cons, List.length_nil, Nat.zero_add, Nat.reduceAdd, Nat.reduceSub, List.replicate_succ, List.replicate_zero, List.cons_append, List.nil_append, Bool.false_eq_true, if_true, if_false, gPar, List.zip_cons_cons, List.zip_nil_right, List.zip_nil_left, List.foldl_cons, List.foldl_nil, unsetE, sr, c, fl]
  have s6 : (mIfS (mOrT (mTest (mOp2 (fIn true) (mCall m_nearest (mCons (mVar 1) mNil)) (mVar 2))) (mNotT (mTest (mCall m_is_nearest (mCons (mVar 1) (mCons (mCall m__law_taken (mCons (mVar 1) (mCons (mVar 3) mNil))) mNil)))))) (mRet (mC (.bl false))) mNext) [some (.r r), some (tI ms), some (.p (.lst ((nearL ms).map tP))), some (.p (.int (few ms))), none, none] (setP T r v1) = .ok (.nx [some (.r r), some (tI ms), some (.p (.lst ((nearL ms).map tP))), some (.p (.int (few ms))), none, none]) (setP T r v1) := by
    have i1 : fIn true (tI vs) (.p (.lst ((nearL ms).map tP))) (setP T r v1) = some (.p (.bl false), setP T r v1) := by
      rw [f_inL, decide_eq_true (near_mem hv)]
      rfl
    have fs : few ms ≤ 1000000 := by
      have h1 := few_le_sum hR.pos
      have h2 : ∀ l : List Int, (∀ x ∈ l, 0 ≤ x ∧ x ≤ 4) → l.sum ≤ 4 * l.length := fun l hl => by
        induction l with
        | nil => simp
        | cons a l ih =>
          have i1 := ih fun x hx => hl x (List.mem_cons_of_mem _ hx)
          have i2 := (hl a List.mem_cons_self).2
          rw [List.sum_cons, List.length_cons]
          omega
      have := h2 ms a4
      omega
    obtain ⟨us, t1, hu⟩ := p_taken (S := setP T r v1) hR fs
    have t2 := p_is_nearest (S := setP T r v1) hR (vs := us) (by have := hu.le.1; omega)
    rw [nearB_ok hR hu] at t2
    simp only [r_ok, r_c, r_op2, r_op1, r_nil, r_cons, r_callB, r_call, r_and, r_or, r_not, r_asB, r_if, r_andT, r_orT, r_notT, r_test, r_chain, r_seq, r_nx, r_rt, r_bk, r_ct, r_next, r_break, r_cont, r_drop, r_ret, r_retN, r_asg, r_aug, r_ifS, r_par, r_sl, r_noPart, r_part, r_asInt, r_put, r_for, r_src, r_srcA, r_comp, r_meth, r_oNx, r_oCt, r_oBk, r_oRt, r_yes, r_var', r_lift', List.getElem?_cons_zero, List.getElem?_cons_succ, List.set_cons_zero, List.set_cons_succ, o_add, o_addI, o_sub, o_neg, o_lt, o_le, o_gt, o_ge, o_eq, o_ne, o_int, o_intB, o_abs, o_max, o_min, r_env, List.map_cons, List.map_nil, List.length_cons, List.length_nil, Nat.zero_add, Nat.reduceAdd, Nat.reduceSub, List.replicate_succ, List.replicate_zero, List.cons_append, List.nil_append, Bool.false_eq_true, if_true, if_false, gPar, List.zip_cons_cons, List.zip_nil_right, List.zip_nil_left, List.foldl_cons, List.foldl_nil, unsetE, n1, i1, t1, t2, Bool.not_true]
  -- others
  have b := p_below (S := setP T r v1) hlen a4
  obtain ⟨qs, v2, m1, h2, hp⟩ := p_mixed (T := setP T r v1) (r := r) (ps := (below ms).map tP) (d := .p (.lst ((below ms).map tP))) at1 a1 (by simp; omega) rfl rfl (by simp; omega)
  rw [setP_setP] at m1
  obtain ⟨zs, rfl, hz⟩ := perm_unmap (g := unRow) unRow_tP hp
  obtain ⟨ys, v3, m2, h3, h4, h5⟩ := mix_loop (T := T) (r := r) (z1 := some (tI ms)) (z2 := some (.p (.lst ((nearL ms).map tP)))) (z3 := some (.p (.int (few ms)))) (z4 := none) hr ((nearL ms).take 6) [] v2 (n + 100 + ((below ms).map tP).length) (fun x hx => by have := (gN x (List.mem_of_mem_take hx)).1; omega) (by simp; omega) h2 (by simp; omega)
  rw [List.nil_append] at m2
  have lz : zs.length ≤ 625 := by rw [hz.length_eq]; exact bl
  obtain ⟨O, eO⟩ : ∃ O, O = zs.take 12 ++ (nearL ms).take 3 ++ ys := ⟨_, rfl⟩
  have gO : ∀ y ∈ O, Good ms y := fun y hy => by
    rw [eO] at hy
    rcases List.mem_append.mp hy with hy | hy
    · rcases List.mem_append.mp hy with hy | hy
      · exact gB y (hz.mem_iff.mp (List.mem_of_mem_take hy))
      · exact gN y (List.mem_of_mem_take hy)
    · obtain ⟨x, hx, p⟩ := h5 y hy
      exact good_perm (gN x (List.mem_of_mem_take hx)) p
  have ly : ys.length ≤ 6 := by rw [h4, List.length_take]; omega
  have lO : O.length ≤ 100 := by
    rw [eO]
    simp
    omega
  have s7 : (mAsg (gNm 4) (mOp2 (fAddG fLstF) (mOp2 (fAddG fLstF) (mSl (fCut fLstF) (mCall m__law_mixed (mCons (mVar 0) (mCons (mCall m__law_below (mCons (mVar 1) mNil)) mNil))) mNoPart (mPart (mC (.int 12)))) (mSl (fCut fLstF) (mVar 2) mNoPart (mPart (mC (.int 3))))) (mCallB fLstF (mCompL (mSrc srcSeq (mSl (fCut fLstF) (mVar 2) mNoPart (mPart (mC (.int 6))))) [5] (gNm 5) mYes ce__law_small_right_3)))) [some (.r r), some (tI ms), some (.p (.lst ((nearL ms).map tP))), some (.p (.int (few ms))), none, none] (setP T r v1) = .ok (.nx [some (.r r), some (tI ms), some (.p (.lst ((nearL ms).map tP))), some (.p (.int (few ms))), some (.p (.lst (O.map tP))), none]) (setP T r v3) := by
    have cut : ∀ (L : List (List Int)) (k : Nat) (U : Store), L.length ≤ 1000 → fCut fLstF (.p (.lst (L.map tP))) none (some (k : Int)) U = some (.p (.lst ((L.take k).map tP)), U) := fun L k U hL => by
      have e : (pD (L.map tP)).take k = pD ((L.take k).map tP) := by simp [pD, List.map_take]
      rw [o_cutL (xs := pD (L.map tP)) rfl rfl, cut_to, e]
      exact f_lstP (by simp; omega)
    have c1 := cut zs 12 (setP T r v2) (by omega)
    have c2 := cut (nearL ms) 3 (setP T r v2) (by omega)
    have c3 := cut (nearL ms) 6 (setP T r v2) (by omega)
    have c1' : fCut fLstF (.p (.lst (zs.map tP))) none (some 12) (setP T r v2) = _ := c1
    have c2' : fCut fLstF (.p (.lst ((nearL ms).map tP))) none (some 3) (setP T r v2) = _ := c2
    have c3' : fCut fLstF (.p (.lst ((nearL ms).map tP))) none (some 6) (setP T r v2) = _ := c3
    have ad1 : fAddG fLstF (.p (.lst ((zs.take 12).map tP))) (.p (.lst (((nearL ms).take 3).map tP))) (setP T r v2) = some (.p (.lst ((zs.take 12 ++ (nearL ms).take 3).map tP)), setP T r v2) := by
      rw [o_addL (by simp; omega), List.map_append]
    have sr : srcSeq (.p (.lst (((nearL ms).take 6).map tP))) (setP T r v2) = some (⟨pD (((nearL ms).take 6).map tP), []⟩, setP T r v2) := o_srcL rfl rfl
    have fl : fLstF (pD (ys.map tP)) (setP T r v3) = some (.p (.lst (ys.map tP)), setP T r v3) := f_lstP (by simp; omega)
    have ad2 : fAddG fLstF (.p (.lst ((zs.take 12 ++ (nearL ms).take 3).map tP))) (.p (.lst (ys.map tP))) (setP T r v3) = some (.p (.lst (O.map tP)), setP T r v3) := by
      rw [o_addL (by simp; omega), eO, List.map_append, List.map_append, List.map_append]
    simp only [r_ok, r_c, r_op2, r_op1, r_nil, r_cons, r_callB, r_call, r_and, r_or, r_not, r_asB, r_if, r_andT, r_orT, r_notT, r_test, r_chain, r_seq, r_nx, r_rt, r_bk, r_ct, r_next, r_break, r_cont, r_drop, r_ret, r_retN, r_asg, r_aug, r_ifS, r_par, r_sl, r_noPart, r_part, r_asInt, r_put, r_for, r_src, r_srcA, r_comp, r_meth, r_oNx, r_oCt, r_oBk, r_oRt, r_yes, r_var', r_lift', List.getElem?_cons_zero, List.getElem?_cons_succ, List.set_cons_zero, List.set_cons_succ, o_add, o_addI, o_sub, o_neg, o_lt, o_le, o_gt, o_ge, o_eq, o_ne, o_int, o_intB, o_abs, o_max, o_min, r_env, List.map_cons, List.map_nil, List.length_cons, List.length_nil, Nat.zero_add, Nat.reduceAdd, Nat.reduceSub, List.replicate_succ, List.replicate_zero, List.cons_append, List.nil_append, Bool.false_eq_true, if_true, if_false, gPar, List.zip_cons_cons, List.zip_nil_right, List.zip_nil_left, List.foldl_cons, List.foldl_nil, unsetE, b, m1, c1', c2', c3', ad1, sr, m2, fl, ad2]
  have s8 : (mRet (mOp2 fEq (mCallB fLstF (mCompL (mSrc srcSeq (mVar 4)) [5] (gNm 5) ct__law_small_right_2 ce__law_small_right_4)) (mCallB fLstF mNil))) [some (.r r), some (tI ms), some (.p (.lst ((nearL ms).map tP))), some (.p (.int (few ms))), some (.p (.lst (O.map tP))), none] (setP T r v3) = .ok (.rt (.p (.bl true))) (setP T r v3) := by
    have c : compI [] (gNm 5) ct__law_small_right_2 ce__law_small_right_4 [some (.r r), some (tI ms), some (.p (.lst ((nearL ms).map tP))), some (.p (.int (few ms))), some (.p (.lst (O.map tP))), none] [] (pD (O.map tP)) (setP T r v3) = .ok (pD ((O.filter fun _ => false).map tP)) (setP T r v3) := by
      refine compI_filt rfl _ (by omega) fun x hx => ⟨_, rfl, ?_, fun z => by cases z⟩
      have t2 := p_is_nearest (S := setP T r v3) hR (vs := x) (by have := (gO x hx).1; omega)
      have i1 : fIn false (tI x) (.p (.lst ((nearL ms).map tP))) (setP T r v3) = some (.p (.bl (nearB ms x)), setP T r v3) := by
        rw [f_inL, nearL_mem hR (gO x hx), Bool.false_xor]
      have t3 : fNe (.p (.bl (nearB ms x))) (.p (.bl (nearB ms x))) (setP T r v3) = some (.p (.bl false), setP T r v3) := by
        rw [o_neB]
        simp
      unfold ct__law_small_right_2
      simp only [r_ok, r_c, r_op2, r_op1, r_nil, r_cons, r_callB, r_call, r_and, r_or, r_not, r_asB, r_if, r_andT, r_orT, r_notT, r_test, r_chain, r_seq, r_nx, r_rt, r_bk, r_ct, r_next, r_break, r_cont, r_drop, r_ret, r_retN, r_asg, r_aug, r_ifS, r_par, r_sl, r_noPart, r_part, r_asInt, r_put, r_for, r_src, r_srcA, r_comp, r_meth, r_oNx, r_oCt, r_oBk, r_oRt, r_yes, r_var', r_lift', List.getElem?_cons_zero, List.getElem?_cons_succ, List.set_cons_zero, List.set_cons_succ, o_add, o_addI, o_sub, o_neg, o_lt, o_le, o_gt, o_ge, o_eq, o_ne, o_int, o_intB, o_abs, o_max, o_min, r_env, List.map_cons, List.map_nil, List.length_cons, List.length_nil, Nat.zero_add, Nat.reduceAdd, Nat.reduceSub, List.replicate_succ, List.replicate_zero, List.cons_append, List.nil_append, Bool.false_eq_true, if_true, if_false, gPar, List.zip_cons_cons, List.zip_nil_right, List.zip_nil_left, List.foldl_cons, List.foldl_nil, unsetE, t2, i1, t3]
    have e0 : O.filter (fun _ => false) = [] := List.filter_eq_nil_iff.mpr fun _ _ => by decide
    rw [e0] at c
    have sr : srcSeq (.p (.lst (O.map tP))) (setP T r v3) = some (⟨pD (O.map tP), []⟩, setP T r v3) := o_srcL rfl rfl
    have fl : fLstF (pD (([] : List (List Int)).map tP)) (setP T r v3) = some (.p (.lst []), setP T r v3) := rfl
    have fl2 : fLstF [] (setP T r v3) = some (.p (.lst []), setP T r v3) := rfl
    have fe : fEq (.p (.lst [])) (.p (.lst [])) (setP T r v3) = some (.p (.bl true), setP T r v3) := rfl
    simp only [r_ok, r_c, r_op2, r_op1, r_nil, r_cons, r_callB, r_call, r_and, r_or, r_not, r_asB, r_if, r_andT, r_orT, r_notT, r_test, r_chain, r_seq, r_nx, r_rt, r_bk, r_ct, r_next, r_break, r_cont, r_drop, r_ret, r_retN, r_asg, r_aug, r_ifS, r_par, r_sl, r_noPart, r_part, r_asInt, r_put, r_for, r_src, r_srcA, r_comp, r_meth, r_oNx, r_oCt, r_oBk, r_oRt, r_yes, r_var', r_lift', List.getElem?_cons_zero, List.getElem?_cons_succ, List.set_cons_zero, List.set_cons_succ, o_add, o_addI, o_sub, o_neg, o_lt, o_le, o_gt, o_ge, o_eq, o_ne, o_int, o_intB, o_abs, o_max, o_min, r_env, List.map_cons, List.map_nil, List.length_cons, List.length_nil, Nat.zero_add, Nat.reduceAdd, Nat.reduceSub, List.replicate_succ, List.replicate_zero, List.cons_append, List.nil_append, Bool.false_eq_true, if_true, if_false, gPar, List.zip_cons_cons, List.zip_nil_right, List.zip_nil_left, List.foldl_cons, List.foldl_nil, unsetE, sr, c, fl, fl2, fe]
  refine ⟨v3, ?_, h3.mono (by simp; omega)⟩
  refine fn_same ?_ setP_len
  unfold b__law_small_right
  rw [r_seq, s1, r_ok, r_nx, r_seq, s2, r_ok, r_nx, r_seq, s3, r_ok, r_nx, r_seq, s4, r_ok, r_nx, r_seq, s5, r_ok, r_nx, r_seq, s6, r_ok, r_nx, r_seq, s7, r_ok, r_nx, s8]
end
end DL
set_option maxHeartbeats 4000000
namespace DL
open PySem PySem.Spec PyProof.Rows L2
open K33 (fk Mx few fewS Row Pos Cap Le Dn)
section
variable {S T U : Store} {r : Nat} {d : D} {fin : FL}
theorem setP_last {v w : List P} : setP (SP U v) U.objs.length w = SP U w := Store.ext' (by
  rw [setP_objs, SP_objs, SP_objs]
  simp)
theorem law_loop {ns : List Int} : ∀ (m t : Nat) (U : Store) (z1 z2 : Option D), t + m ≤ 100 → ∃ (z : Option D × Option D) (U' : Store),
    loopI [] (gNm 1) lb_law (rangeD (t : Int) m) [some (.p (.scr (ns.map P.int))), z1, z2, none] U = .ok (.nx [some (.p (.scr (ns.map P.int))), z.1, z.2, none]) U' ∧ U'.objs.take U.objs.length = U.objs ∧ U.objs.length ≤ U'.objs.length
  | 0, t, U, z1, z2, _ => ⟨(z1, z2), U, loopI_nil rfl, List.take_length, Nat.le_refl _⟩
  | m + 1, t, U, z1, z2, h => by
    obtain ⟨v, e1, o1⟩ := p_vat (S := U) (ns := ns) (spot := t) (by omega)
    obtain ⟨v2, e2, o2⟩ := p_small (T := SP U v) (r := U.objs.length) SP_at o1 (by decide)
    rw [setP_last] at e2
    obtain ⟨v3, e3, o3⟩ := p_long (T := SP U v2) (r := U.objs.length) SP_at o2 (by decide)
    rw [setP_last] at e3
    obtain ⟨z, U', e4, h1, h2⟩ := law_loop (ns := ns) m (t + 1) (SP U v3) (some (.p (.int t))) (some (.r U.objs.length)) (by omega)
    refine ⟨z, U', ?_, ?_, ?_⟩
    · rw [rangeD_succ, loopI_cons rfl rfl]
      have st : lb_law [some (.p (.scr (ns.map P.int))), some (.p (.int t)), z2, none] U = .ok (.nx [some (.p (.scr (ns.map P.int))), some (.p (.int t)), some (.r U.objs.length), none]) (SP U v3) := by
        unfold lb_law
        simp only [r_ok, r_c, r_op2, r_op1, r_nil, r_cons, r_callB, r_call, r_and, r_or, r_not, r_asB, r_if, r_andT, r_orT, r_notT, r_test, r_chain, r_seq, r_nx, r_rt, r_bk, r_ct, r_next, r_break, r_cont, r_drop, r_ret, r_retN, r_asg, r_aug, r_ifS, r_par, r_sl, r_noPart, r_part, r_asInt, r_put, r_for, r_src, r_srcA, r_comp, r_meth, r_oNx, r_oCt, r_oBk, r_oRt, r_yes, r_var', r_lift', List.getElem?_cons_zero, List.getElem?_cons_succ, List.set_cons_zero, List.set_cons_succ, o_add, o_addI, o_sub, o_neg, o_lt, o_le, o_gt, o_ge, o_eq, o_ne, o_int, o_intB, o_abs, o_max, o_min, r_env, List.map_cons, List.map_nil, List.length_cons, List.length_nil, Nat.zero_add, Nat.reduceAdd, Nat.reduceSub, List.replicate_succ, List.replicate_zero, List.cons_append, List.nil_append, Bool.false_eq_true, if_true, if_false, gPar, List.zip_cons_cons, List.zip_nil_right, List.zip_nil_left, List.foldl_cons, List.foldl_nil, unsetE, e1, e2, e3, Bool.not_true]
      show (lb_law [some (.p (.scr (ns.map P.int))), some (.p (.int t)), z2, none] U).bind _ = _
      rw [st, r_ok, r_oNx]
      have e5 : ((t + 1 : Nat) : Int) = (t : Int) + 1 := by omega
      rw [e5] at e4
      exact e4
    · have := congrArg (List.take U.objs.length) h1
      rw [List.take_take, SP_len, Nat.min_eq_left (by omega), SP_take] at this
      exact this
    · rw [SP_len] at h2
      omega
theorem few_dn {d : List Int} (h : Dn d) : few d = fewS d := by
  unfold few
  rw [← K33.sortDn_uniq (List.Perm.refl d) h]
theorem fw1 : few [3, 3, 1, 1] = 2 := by rw [few_dn (by decide)]; decide +kernel
theorem fw2 : few [5, 2, 2, 2] = 3 := by rw [few_dn (by decide)]; decide +kernel
theorem fw3 : few [1, 1, 1] = 1 := by rw [few_dn (by decide)]; decide +kernel
theorem fw4 : few [6, 2, 2] = 4 := by rw [few_dn (by decide)]; decide +kernel
theorem fw5 : few [3, 2, 2, 1] = 0 := by rw [few_dn (by decide)]; decide +kernel
theorem fw6 : few [2, 2, 2, 2] = 0 := by rw [few_dn (by decide)]; decide +kernel
theorem fw7 : few [2, 2, 2] = 0 := by rw [few_dn (by decide)]; decide +kernel
theorem nb1 : nearB [5, 2, 2, 2] [3, 2, 2, 1] = true := by
  unfold nearB
  rw [fw2, fw5]
  decide
theorem nb2 : nearB [5, 2, 2, 2] [2, 2, 2, 2] = true := by
  unfold nearB
  rw [fw2, fw6]
  decide
theorem nb3 : nearB [6, 2, 2] [2, 2, 2] = true := by
  unfold nearB
  rw [fw4, fw7]
  decide
theorem nb4 : nearB [1, 1, 1] [0, 0, 0] = false := by
  unfold nearB
  rw [fw3, decide_eq_false (show ¬ (([1, 1, 1] : List Int).sum - ([0, 0, 0] : List Int).sum = 1) by decide)]
  simp
theorem nb5 : nearB [1, 1, 0] [1, 0, 1] = false := by
  unfold nearB
  rw [show gtAny [1, 0, 1] [1, 1, 0] = true by decide]
  simp
theorem near0 : m_nearest [tI [0, 0]] S = .ok (tI [0, 0]) S := by
  obtain ⟨vs, e, hv⟩ := p_nearest (S := S) (ns := [0, 0]) (rowB_ok.mp (by decide))
  have hl := hv.le.1
  match vs, hl, hv, e with
  | [a, b], _, hv, e =>
    have a1 := hv.le.2 0 a 0 rfl rfl
    have b1 := hv.le.2 1 b 0 rfl rfl
    have a0 := hv.pos a (by simp)
    have b0 := hv.pos b (by simp)
    have ea : a = 0 := by omega
    have eb : b = 0 := by omega
    rw [ea, eb] at e
    exact e
theorem law_told {sc z1 z2 : Option D} : (mSeq (mAsg (gNm 3) (mCallB fLstF (mCons (mCall m_fewest_away (mCons (mCallB fTup (mCons (mC (.int 3)) (mCons (mC (.int 3)) (mCons (mC (.int 1)) (mCons (mC (.int 1)) mNil))))) mNil)) (mCons (mCall m_fewest_away (mCons (mCallB fTup (mCons (mC (.int 5)) (mCons (mC (.int 2)) (mCons (mC (.int 2)) (mCons (mC (.int 2)) mNil))))) mNil)) (mCons (mCall m_fewest_away (mCons (mCallB fTup (mCons (mC (.int 1)) (mCons (mC (.int 1)) (mCons (mC (.int 1)) mNil)))) mNil)) (mCons (mCall m_fewest_away (mCons (mCallB fTup (mCons (mC (.int 6)) (mCons (mC (.int 2)) (mCons (mC (.int 2)) mNil)))) mNil)) mNil)))))) (mSeq (mAsg (gNm 3) (mOp2 (fAddG fLstF) (mVar 3) (mCallB fLstF (mCons (mCall m_is_nearest (mCons (mCallB fTup (mCons (mC (.int 5)) (mCons (mC (.int 2)) (mCons (mC (.int 2)) (mCons (mC (.int 2)) mNil))))) (mCons (mCallB fTup (mCons (mC (.int 3)) (mCons (mC (.int 2)) (mCons (mC (.int 2)) (mCons (mC (.int 1)) mNil))))) mNil))) (mCons (mCall m_is_nearest (mCons (mCallB fTup (mCons (mC (.int 5)) (mCons (mC (.int 2)) (mCons (mC (.int 2)) (mCons (mC (.int 2)) mNil))))) (mCons (mCallB fTup (mCons (mC (.int 2)) (mCons (mC (.int 2)) (mCons (mC (.int 2)) (mCons (mC (.int 2)) mNil))))) mNil))) (mCons (mCall m_nearest (mCons (mCallB fTup (mCons (mC (.int 0)) (mCons (mC (.int 0)) mNil))) mNil)) mNil)))))) (mSeq (mAsg (gNm 3) (mOp2 (fAddG fLstF) (mVar 3) (mCallB fLstF (mCons (mCall m_is_nearest (mCons (mCallB fTup (mCons (mC (.int 6)) (mCons (mC (.int 2)) (mCons (mC (.int 2)) mNil)))) (mCons (mCallB fTup (mCons (mC (.int 2)) (mCons (mC (.int 2)) (mCons (mC (.int 2)) mNil)))) mNil))) (mCons (mCall m_is_nearest (mCons (mCallB fTup (mCons (mC (.int 1)) (mCons (mC (.int 1)) (mCons (mC (.int 1)) mNil)))) (mCons (mCallB fTup (mCons (mC (.int 0)) (mCons (mC (.int 0)) (mCons (mC (.int 0)) mNil)))) mNil))) (mCons (mCall m_is_nearest (mCons (mCallB fTup (mCons (mC (.int 1)) (mCons (mC (.int 1)) (mCons (mC (.int 0)) mNil)))) (mCons (mCallB fTup (mCons (mC (.int 1)) (mCons (mC (.int 0)) (mCons (mC (.int 1)) mNil)))) mNil))) mNil)))))) (mRet (mOp2 fEq (mVar 3) (mCallB fLstF (mCons (mC (.int 2)) (mCons (mC (.int 3)) (mCons (mC (.int 1)) (mCons (mC (.int 4)) (mCons (mC (.bl true)) (mCons (mC (.bl true)) (mCons (mCallB fTup (mCons (mC (.int 0)) (mCons (mC (.int 0)) mNil))) (mCons (mC (.bl true)) (mCons (mC (.bl false)) (mCons (mC (.bl false)) mNil)))))))))))))))) [sc, z1, z2, none] U = .ok (.rt (.p (.bl true))) U := by
  have T2 : ∀ a b : Int, fTup [.p (.int a), .p (.int b)] U = some (tI [a, b], U) := fun _ _ => rfl
  have T3 : ∀ a b c : Int, fTup [.p (.int a), .p (.int b), .p (.int c)] U = some (tI [a, b, c], U) := fun _ _ _ => rfl
  have T4 : ∀ a b c e : Int, fTup [.p (.int a), .p (.int b), .p (.int c), .p (.int e)] U = some (tI [a, b, c, e], U) := fun _ _ _ _ => rfl
  have f1 : m_fewest_away [tI [3, 3, 1, 1]] U = .ok (.p (.int 2)) U := by
    have := p_fewest_away (S := U) (ns := [3, 3, 1, 1]) (rowB_ok.mp (by decide))
    rwa [fw1] at this
  have f2 : m_fewest_away [tI [5, 2, 2, 2]] U = .ok (.p (.int 3)) U := by
    have := p_fewest_away (S := U) (ns := [5, 2, 2, 2]) (rowB_ok.mp (by decide))
    rwa [fw2] at this
  have f3 : m_fewest_away [tI [1, 1, 1]] U = .ok (.p (.int 1)) U := by
    have := p_fewest_away (S := U) (ns := [1, 1, 1]) (rowB_ok.mp (by decide))
    rwa [fw3] at this
  have f4 : m_fewest_away [tI [6, 2, 2]] U = .ok (.p (.int 4)) U := by
    have := p_fewest_away (S := U) (ns := [6, 2, 2]) (rowB_ok.mp (by decide))
    rwa [fw4] at this
  have g1 : m_is_nearest [tI [5, 2, 2, 2], tI [3, 2, 2, 1]] U = .ok (.p (.bl true)) U := by
    have := p_is_nearest (S := U) (ns := [5, 2, 2, 2]) (vs := [3, 2, 2, 1]) (rowB_ok.mp (by decide)) (by decide)
    rwa [nb1] at this
  have g2 : m_is_nearest [tI [5, 2, 2, 2], tI [2, 2, 2, 2]] U = .ok (.p (.bl true)) U := by
    have := p_is_nearest (S := U) (ns := [5, 2, 2, 2]) (vs := [2, 2, 2, 2]) (rowB_ok.mp (by decide)) (by decide)
    rwa [nb2] at this
  have g3 : m_is_nearest [tI [6, 2, 2], tI [2, 2, 2]] U = .ok (.p (.bl true)) U := by
    have := p_is_nearest (S := U) (ns := [6, 2, 2]) (vs := [2, 2, 2]) (rowB_ok.mp (by decide)) (by decide)
    rwa [nb3] at this
  have g4 : m_is_nearest [tI [1, 1, 1], tI [0, 0, 0]] U = .ok (.p (.bl false)) U := by
    have := p_is_nearest (S := U) (ns := [1, 1, 1]) (vs := [0, 0, 0]) (rowB_ok.mp (by decide)) (by decide)
    rwa [nb4] at this
  have g5 : m_is_nearest [tI [1, 1, 0], tI [1, 0, 1]] U = .ok (.p (.bl false)) U := by
    have := p_is_nearest (S := U) (ns := [1, 1, 0]) (vs := [1, 0, 1]) (rowB_ok.mp (by decide)) (by decide)
    rwa [nb5] at this
  have l1 : fLstF [.p (.int 2), .p (.int 3), .p (.int 1), .p (.int 4)] U = some (.p (.lst [.int 2, .int 3, .int 1, .int 4]), U) := rfl
  have l2 : fLstF [.p (.bl true), .p (.bl true), tI [0, 0]] U = some (.p (.lst [.bl true, .bl true, tP [0, 0]]), U) := rfl
  have l3 : fLstF [.p (.bl true), .p (.bl false), .p (.bl false)] U = some (.p (.lst [.bl true, .bl false, .bl false]), U) := rfl
  have l4 : fLstF [.p (.int 2), .p (.int 3), .p (.int 1), .p (.int 4), .p (.bl true), .p (.bl true), tI [0, 0], .p (.bl true), .p (.bl false), .p (.bl false)] U = some (.p (.lst [.int 2, .int 3, .int 1, .int 4, .bl true, .bl true, tP [0, 0], .bl true, .bl false, .bl false]), U) := rfl
  have a1 : fAddG fLstF (.p (.lst [.int 2, .int 3, .int 1, .int 4])) (.p (.lst [.bl true, .bl true, tP [0, 0]])) U = some (.p (.lst [.int 2, .int 3, .int 1, .int 4, .bl true, .bl true, tP [0, 0]]), U) := o_addL (by simp)
  have a2 : fAddG fLstF (.p (.lst [.int 2, .int 3, .int 1, .int 4, .bl true, .bl true, tP [0, 0]])) (.p (.lst [.bl true, .bl false, .bl false])) U = some (.p (.lst [.int 2, .int 3, .int 1, .int 4, .bl true, .bl true, tP [0, 0], .bl true, .bl false, .bl false]), U) := o_addL (by simp)
  have q1 : fEq (.p (.lst [.int 2, .int 3, .int 1, .int 4, .bl true, .bl true, tP [0, 0], .bl true, .bl false, .bl false])) (.p (.lst [.int 2, .int 3, .int 1, .int 4, .bl true, .bl true, tP [0, 0], .bl true, .bl false, .bl false])) U = some (.p (.bl true), U) := by rfl
  generalize (.p (.lst [.int 2, .int 3, .int 1, .int 4, .bl true, .bl true, tP [0, 0], .bl true, .bl false, .bl false]) : D) = L4 at l4 a2 q1
  generalize (.p (.lst [.int 2, .int 3, .int 1, .int 4, .bl true, .bl true, tP [0, 0]]) : D) = L3 at a1 a2
  generalize (.p (.lst [.int 2, .int 3, .int 1, .int 4]) : D) = L1 at l1 a1
  simp only [r_ok, r_c, r_op2, r_op1, r_nil, r_cons, r_callB, r_call, r_and, r_or, r_not, r_asB, r_if, r_andT, r_orT, r_notT, r_test, r_chain, r_seq, r_nx, r_rt, r_bk, r_ct, r_next, r_break, r_cont, r_drop, r_ret, r_retN, r_asg, r_aug, r_ifS, r_par, r_sl, r_noPart, r_part, r_asInt, r_put, r_for, r_src, r_srcA, r_comp, r_meth, r_oNx, r_oCt, r_oBk, r_oRt, r_yes, r_var', r_lift', List.getElem?_cons_zero, List.getElem?_cons_succ, List.set_cons_zero, List.set_cons_succ, o_add, o_addI, o_sub, o_neg, o_lt, o_le, o_gt, o_ge, o_eq, o_ne, o_int, o_intB, o_abs, o_max, o_min, r_env, List.map_cons, List.map_nil, List.length_cons, List.length_nil, Nat.zero_add, Nat.reduceAdd, Nat.reduceSub, List.replicate_succ, List.replicate_zero, List.cons_append, List.nil_append, Bool.false_eq_true, if_true, if_false, gPar, List.zip_cons_cons, List.zip_nil_right, List.zip_nil_left, List.foldl_cons, List.foldl_nil, unsetE, T2, T3, T4, f1, f2, f3, f4, g1, g2, g3, g4, g5, near0, l1, l2, l3, l4, a1, a2, q1]
theorem law_plain (ns : List Int) (h1 : ns.length ≤ 63) (h2 : ∀ z ∈ ns, Builtin.Int.intBits z ≤ 1048576) : ∃ S', m_law [.p (.scr (ns.map P.int))] ⟨[], rfl⟩ = .ok (.p (.bl true)) S' := by
  generalize (⟨[], rfl⟩ : Store) = S
  have ln : fLen [.p (.scr (ns.map P.int))] S = some (.p (.int ns.length), S) := by
    have := f_len (S := S) (d := .p (.scr (ns.map P.int))) (xs := pD (ns.map P.int)) rfl
    simpa [pD] using this
  have rg : srcR1 [.p (.int (max 1 (min 4 (ns.length : Int))))] S = some (⟨rangeD 0 (max 1 (min 4 (ns.length : Int))).toNat, []⟩, S) := o_range1 (fit_small (by omega) (by omega))
  obtain ⟨z, U, e, ht, _⟩ := law_loop (ns := ns) (max 1 (min 4 (ns.length : Int))).toNat 0 S none none (by omega)
  have e' : loopI [] (gNm 1) lb_law (rangeD 0 (max 1 (min 4 (ns.length : Int))).toNat) [some (.p (.scr (ns.map P.int))), none, none, none] S = _ := e
  refine ⟨S, fn_pure (S' := U) ?_ ht⟩
  unfold b_law
  have s1 : (mFor (mSrcA srcR1 (mCons (mCallB fMax (mCons (mC (.int 1)) (mCons (mCallB fMin (mCons (mC (.int 4)) (mCons (mCallB fLen (mCons (mVar 0) mNil)) mNil))) mNil))) mNil)) (gNm 1) lb_law) (env0 4 [.p (.scr (ns.map P.int))]) S = .ok (.nx [some (.p (.scr (ns.map P.int))), z.1, z.2, none]) U := by
    refine r_forE (w := []) (xs := rangeD 0 (max 1 (min 4 (ns.length : Int))).toNat) (S1 := S) ?_ e'
    have as : (mCons (mCallB fMax (mCons (mC (.int 1)) (mCons (mCallB fMin (mCons (mC (.int 4)) (mCons (mCallB fLen (mCons (mVar 0) mNil)) mNil))) mNil))) mNil) (env0 4 [.p (.scr (ns.map P.int))]) S = .ok [.p (.int (max 1 (min 4 (ns.length : Int))))] S := by
      simp only [r_ok, r_c, r_op2, r_op1, r_nil, r_cons, r_callB, r_call, r_and, r_or, r_not, r_asB, r_if, r_andT, r_orT, r_notT, r_test, r_chain, r_seq, r_nx, r_rt, r_bk, r_ct, r_next, r_break, r_cont, r_drop, r_ret, r_retN, r_asg, r_aug, r_ifS, r_par, r_sl, r_noPart, r_part, r_asInt, r_put, r_for, r_src, r_srcA, r_comp, r_meth, r_oNx, r_oCt, r_oBk, r_oRt, r_yes, r_var', r_lift', List.getElem?_cons_zero, List.getElem?_cons_succ, List.set_cons_zero, List.set_cons_succ, o_add, o_addI, o_sub, o_neg, o_lt, o_le, o_gt, o_ge, o_eq, o_ne, o_int, o_intB, o_abs, o_max, o_min, r_env, List.map_cons, List.map_nil, List.length_cons, List.length_nil, Nat.zero_add, Nat.reduceAdd, Nat.reduceSub, List.replicate_succ, List.replicate_zero, List.cons_append, List.nil_append, Bool.false_eq_true, if_true, if_false, gPar, List.zip_cons_cons, List.zip_nil_right, List.zip_nil_left, List.foldl_cons, List.foldl_nil, unsetE, ln]
    rw [r_srcA, as, r_ok, r_lift rg]
  rw [r_seq, s1, r_ok, r_nx]
  exact law_told
end
end DL
set_option maxHeartbeats 0
namespace DL
open PySem PySem.Spec PyProof.Rows L2
/-! ### the head -/
def ddf (x : Str) (i : Nat) : He.DefD := ⟨(x, none), x, x, defArgs (top i), defBody (top i), defScope (top i), [], []⟩
def hfn : List He.DefD := [ddf "_law_dip" 25, ddf "_law_greatest" 29, ddf "_law_fewest" 32, ddf "_law_is_possible" 30, ddf "_law_pick" 26, ddf "_law_row" 28, ddf "falling" 12, ddf "heaviest" 14, ddf "fewest_in" 17, ddf "is_integer" 1, ddf "is_from" 2, ddf "is_amount" 9, ddf "is_row" 10, ddf "require_row" 11, ddf "fewest_away" 20, ddf "is_web_row" 15, ddf "is_nearest" 22, ddf "excess_in" 18, ddf "lowered" 19, ddf "nearest" 21, ddf "_law_long_right" 35, ddf "_law_below" 31, ddf "_law_mixed" 27, ddf "_law_taken" 33, ddf "_law_small_right" 34, ddf "_law_vat" 24, ddf "law" 36]
def hfa : List He.Fa := [.free "abs", .free "all", .free "any", .free "bool", .free "enumerate", .free "int", .free "isinstance", .free "len", .free "list", .free "max", .free "min", .free "range", .free "sorted", .free "sum", .free "tuple", .free "zip", .int "MAX_LENGTH" 64, .int "MAX_NUMBER" 999999999999999999999999999999, .glo "_law_dip", .glo "_law_greatest", .glo "_law_fewest", .glo "_law_is_possible", .glo "_law_pick", .glo "_law_row", .glo "falling", .glo "heaviest", .glo "fewest_in", .glo "is_integer", .glo "is_from", .glo "is_amount", .glo "is_row", .glo "require_row", .glo "fewest_away", .glo "is_web_row", .glo "is_nearest", .glo "excess_in", .glo "lowered", .glo "nearest", .glo "_law_long_right", .glo "_law_below", .glo "_law_mixed", .glo "_law_taken", .glo "_law_small_right", .glo "_law_vat", .glo "law"]
abbrev hrow : PySem.W.OpenRow := PySem.W.OpenLaw.row PySem.Challenge.rw_arrowsums_k33_whole_nearest_rows
abbrev hhk : PySem.W.Hook := He.hookD 4 hfa hfn
def hob (s : PySem.W.SharedT) : He.AlD := He.obsDG 4 hfa hfn (HandSHeadRun.getT s)
theorem hob_eq (s : PySem.W.SharedT) : hob s = hhk.obs s.abs := He.obsDG_eq (HandSHeadRun.getT_eq s)
def loose0 : List Str := ["is_integer", "is_from", "SumError", "InvalidSums", "MAX_LENGTH", "MAX_NUMBER", "is_amount", "is_row", "require_row", "falling", "heaviest", "is_web_row", "fewest_in", "excess_in", "lowered", "fewest_away", "nearest", "is_nearest", "_law_vat", "_law_dip", "_law_pick", "_law_mixed", "_law_row", "_law_greatest", "_law_is_possible", "_law_below", "_law_fewest", "_law_taken", "_law_small_right", "_law_long_right"]
def loose : List Str := loose0
theorem hrun (w : World) : HandSHeadRun.RunEq hrow (PySem.W.view hrow.prog [36]) hhk hob 4000 loose w := by
  intro os
  kernel_rfl
theorem htxt {K : PySem.W.Frag} {h : Heap} {mg : Str → Option Value} (X : K.In h) (G : h.Ns mainGlobals mg) (c : He.SaysD hfa hfn K) : Txt K mg where
  f_abs := He.free_ok X G (c.fact 0 (f := .free "abs") rfl)
  f_all := He.free_ok X G (c.fact 1 (f := .free "all") rfl)
  f_any := He.free_ok X G (c.fact 2 (f := .free "any") rfl)
  f_bool := He.free_ok X G (c.fact 3 (f := .free "bool") rfl)
  f_enumerate := He.free_ok X G (c.fact 4 (f := .free "enumerate") rfl)
  f_int := He.free_ok X G (c.fact 5 (f := .free "int") rfl)
  f_isinstance := He.free_ok X G (c.fact 6 (f := .free "isinstance") rfl)
  f_len := He.free_ok X G (c.fact 7 (f := .free "len") rfl)
  f_list := He.free_ok X G (c.fact 8 (f := .free "list") rfl)
  f_max := He.free_ok X G (c.fact 9 (f := .free "max") rfl)
  f_min := He.free_ok X G (c.fact 10 (f := .free "min") rfl)
  f_range := He.free_ok X G (c.fact 11 (f := .free "range") rfl)
  f_sorted := He.free_ok X G (c.fact 12 (f := .free "sorted") rfl)
  f_sum := He.free_ok X G (c.fact 13 (f := .free "sum") rfl)
  f_tuple := He.free_ok X G (c.fact 14 (f := .free "tuple") rfl)
  f_zip := He.free_ok X G (c.fact 15 (f := .free "zip") rfl)
  i_MAX_LENGTH := He.int_ok X G (c.fact 16 (f := .int "MAX_LENGTH" 64) rfl)
  i_MAX_NUMBER := He.int_ok X G (c.fact 17 (f := .int "MAX_NUMBER" 999999999999999999999999999999) rfl)
  d__law_dip := let ⟨fd, F⟩ := c.def_ 0 (d := ddf "_law_dip" 25) rfl; ⟨_, fd, He.glo_ok X G (c.fact 18 (f := .glo "_law_dip") rfl), F⟩
  d__law_greatest := let ⟨fd, F⟩ := c.def_ 1 (d := ddf "_law_greatest" 29) rfl; ⟨_, fd, He.glo_ok X G (c.fact 19 (f := .glo "_law_greatest") rfl), F⟩
  d__law_fewest := let ⟨fd, F⟩ := c.def_ 2 (d := ddf "_law_fewest" 32) rfl; ⟨_, fd, He.glo_ok X G (c.fact 20 (f := .glo "_law_fewest") rfl), F⟩
  d__law_is_possible := let ⟨fd, F⟩ := c.def_ 3 (d := ddf "_law_is_possible" 30) rfl; ⟨_, fd, He.glo_ok X G (c.fact 21 (f := .glo "_law_is_possible") rfl), F⟩
  d__law_pick := let ⟨fd, F⟩ := c.def_ 4 (d := ddf "_law_pick" 26) rfl; ⟨_, fd, He.glo_ok X G (c.fact 22 (f := .glo "_law_pick") rfl), F⟩
  d__law_row := let ⟨fd, F⟩ := c.def_ 5 (d := ddf "_law_row" 28) rfl; ⟨_, fd, He.glo_ok X G (c.fact 23 (f := .glo "_law_row") rfl), F⟩
  d_falling := let ⟨fd, F⟩ := c.def_ 6 (d := ddf "falling" 12) rfl; ⟨_, fd, He.glo_ok X G (c.fact 24 (f := .glo "falling") rfl), F⟩
  d_heaviest := let ⟨fd, F⟩ := c.def_ 7 (d := ddf "heaviest" 14) rfl; ⟨_, fd, He.glo_ok X G (c.fact 25 (f := .glo "heaviest") rfl), F⟩
  d_fewest_in := let ⟨fd, F⟩ := c.def_ 8 (d := ddf "fewest_in" 17) rfl; ⟨_, fd, He.glo_ok X G (c.fact 26 (f := .glo "fewest_in") rfl), F⟩
  d_is_integer := let ⟨fd, F⟩ := c.def_ 9 (d := ddf "is_integer" 1) rfl; ⟨_, fd, He.glo_ok X G (c.fact 27 (f := .glo "is_integer") rfl), F⟩
  d_is_from := let ⟨fd, F⟩ := c.def_ 10 (d := ddf "is_from" 2) rfl; ⟨_, fd, He.glo_ok X G (c.fact 28 (f := .glo "is_from") rfl), F⟩
  d_is_amount := let ⟨fd, F⟩ := c.def_ 11 (d := ddf "is_amount" 9) rfl; ⟨_, fd, He.glo_ok X G (c.fact 29 (f := .glo "is_amount") rfl), F⟩
  d_is_row := let ⟨fd, F⟩ := c.def_ 12 (d := ddf "is_row" 10) rfl; ⟨_, fd, He.glo_ok X G (c.fact 30 (f := .glo "is_row") rfl), F⟩
  d_require_row := let ⟨fd, F⟩ := c.def_ 13 (d := ddf "require_row" 11) rfl; ⟨_, fd, He.glo_ok X G (c.fact 31 (f := .glo "require_row") rfl), F⟩
  d_fewest_away := let ⟨fd, F⟩ := c.def_ 14 (d := ddf "fewest_away" 20) rfl; ⟨_, fd, He.glo_ok X G (c.fact 32 (f := .glo "fewest_away") rfl), F⟩
  d_is_web_row := let ⟨fd, F⟩ := c.def_ 15 (d := ddf "is_web_row" 15) rfl; ⟨_, fd, He.glo_ok X G (c.fact 33 (f := .glo "is_web_row") rfl), F⟩
  d_is_nearest := let ⟨fd, F⟩ := c.def_ 16 (d := ddf "is_nearest" 22) rfl; ⟨_, fd, He.glo_ok X G (c.fact 34 (f := .glo "is_nearest") rfl), F⟩
  d_excess_in := let ⟨fd, F⟩ := c.def_ 17 (d := ddf "excess_in" 18) rfl; ⟨_, fd, He.glo_ok X G (c.fact 35 (f := .glo "excess_in") rfl), F⟩
  d_lowered := let ⟨fd, F⟩ := c.def_ 18 (d := ddf "lowered" 19) rfl; ⟨_, fd, He.glo_ok X G (c.fact 36 (f := .glo "lowered") rfl), F⟩
  d_nearest := let ⟨fd, F⟩ := c.def_ 19 (d := ddf "nearest" 21) rfl; ⟨_, fd, He.glo_ok X G (c.fact 37 (f := .glo "nearest") rfl), F⟩
  d__law_long_right := let ⟨fd, F⟩ := c.def_ 20 (d := ddf "_law_long_right" 35) rfl; ⟨_, fd, He.glo_ok X G (c.fact 38 (f := .glo "_law_long_right") rfl), F⟩
  d__law_below := let ⟨fd, F⟩ := c.def_ 21 (d := ddf "_law_below" 31) rfl; ⟨_, fd, He.glo_ok X G (c.fact 39 (f := .glo "_law_below") rfl), F⟩
  d__law_mixed := let ⟨fd, F⟩ := c.def_ 22 (d := ddf "_law_mixed" 27) rfl; ⟨_, fd, He.glo_ok X G (c.fact 40 (f := .glo "_law_mixed") rfl), F⟩
  d__law_taken := let ⟨fd, F⟩ := c.def_ 23 (d := ddf "_law_taken" 33) rfl; ⟨_, fd, He.glo_ok X G (c.fact 41 (f := .glo "_law_taken") rfl), F⟩
  d__law_small_right := let ⟨fd, F⟩ := c.def_ 24 (d := ddf "_law_small_right" 34) rfl; ⟨_, fd, He.glo_ok X G (c.fact 42 (f := .glo "_law_small_right") rfl), F⟩
  d__law_vat := let ⟨fd, F⟩ := c.def_ 25 (d := ddf "_law_vat" 24) rfl; ⟨_, fd, He.glo_ok X G (c.fact 43 (f := .glo "_law_vat") rfl), F⟩
  d_law := let ⟨fd, F⟩ := c.def_ 26 (d := ddf "law" 36) rfl; ⟨_, fd, He.glo_ok X G (c.fact 44 (f := .glo "law") rfl), F⟩
end DL
open PySem PySem.W PySem.Calls PyProof.Rows
theorem PySem.Challenge.cw_arrowsums_k33_whole_nearest_rows_holds : PySem.Challenge.rw_arrowsums_k33_whole_nearest_rows.Holds := by
  w_on; o_law
  refine HandSHeadRun.head_any (r := DL.hrow) (q := view DL.hrow.prog [36]) (H := DL.hhk) (ob := DL.hob) (M := 4000) (loose := DL.loose) (d := HandSHeadRun.topDef DL.hrow.prog 36) (kwd := []) DL.hob_eq
    (by kernel_rfl) (fun s => by kernel_rfl) DL.hrun (by kernel_rfl) (by kernel_rfl) (by kernel_rfl) (by rfl) (by first | assumption | decide +kernel) (by decide +kernel) ⟨rfl, rfl, rfl, rfl, rfl, by decide +kernel⟩ ?hw ?hc
  case hw => w_witness2
  case hc =>
    refine DL.walk_G (l := PySem.Challenge.rw_arrowsums_k33_whole_nearest_rows) (n := 63) (k := 8) (x := "script") (mf := DL.m_law) rfl (by decide) (by kernel_rfl) ⟨rfl, by decide, by decide⟩ DL.law_plain ?_
    intro w mg fa h Y G hmg0
    obtain ⟨K, KX, c⟩ := Y
    have hmg : mg ("law" : PySem.Str) = some (.ref fa) := by
      have e : (HandSHeadRun.topDef DL.hrow.prog 36).name = ("law" : PySem.Str) := by kernel_rfl
      rw [← e]
      exact hmg0
    have T := DL.htxt KX G c
    obtain ⟨f, fd, hg, Fd⟩ := T.d_law
    have ef : fa = f := by
      rw [hg] at hmg
      cases hmg
      rfl
    subst ef
    refine ⟨K, fd, [], KX, fun p hp => absurd hp List.not_mem_nil, fun p hp => absurd hp List.not_mem_nil, fun p hp => absurd hp List.not_mem_nil, fun s v => L2.FunD.bindsA (ps := ["script"]) Fd (fun _ _ _ _ _ _ us hl => match us, hl with | [_], _ => rfl) s [v] rfl, fun base _ _ _ => ?_⟩
    letI : DL.HasT := ⟨[]⟩
    exact DL.G_law T Fd
