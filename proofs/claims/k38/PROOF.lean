import PyProof.Rows.All
import Wide.All
import OpenK.AllK
import Wide.FinOn
import HandS.ForMost
import HandS.Exc
import HandS.Evl
import HandS.ExcCtx
import HandS.Defaults
import HandS.WordsExc
import HandS.Wide
import HandS.More
import HandS.SortInts
import HandS.IsInst
import HandS.Style
import HandS.Strs
import HandS.SetFor
import HandS.Zip
import HandS.HeadEnd
import HandS.HeadHook2
import HandS.HeadHook3
import HandS.Head2
import HandS.SortOrd
import HandS.Conv
import HandS.ExcIs
import HandS.ExcOwn
import HandS.ExcValue
import HandS.HotCalls
import HandS.Flt
import HandS.ListItems
import HandS.SortRule
import HandS.SetKeys
import HandS.TupLe
import HandS.TupAny
import HandS.Text
import KE.DataEq
import HandS.Dict
import KE.DatumOrd
import HandS.Call
import HandS.WordsDict
import HandS.Iter
import KE.KDictList
import HandS.NoneIn
import KE.IntTextLaws
import PySem.Challenge.RW_huesbelow_k38_texts_of_no_tree
set_option Elab.async false
set_option linter.all false
set_option maxRecDepth 100000
set_option maxHeartbeats 4000000
set_option synthInstance.maxSize 100000
set_option synthInstance.maxHeartbeats 2000000
/-! GBase: mirrors (M), worlds (Gx), what stands for what (Py). -/
namespace G
open PySem L2 Evl

/-! ### the own classes of error -/
inductive XC where
  | hue | tree | hues | place | part | number | leaf | text | form | yet
  deriving DecidableEq

/-! ### mirrors: a value, an own error, or nothing said -/
inductive M (α : Type) where
  | stuck
  | err (c : XC)
  | ok (a : α)
namespace M
def bind {α β : Type} (m : M α) (f : α → M β) : M β := match m with
  | .stuck => .stuck
  | .err c => .err c
  | .ok a => f a
end M
instance : Monad M where
  pure := M.ok
  bind := M.bind
@[simp] theorem ok_bind {α β : Type} (a : α) (f : α → M β) : (M.ok a >>= f) = f a := rfl
@[simp] theorem err_bind {α β : Type} (c : XC) (f : α → M β) : ((M.err c : M α) >>= f) = M.err c := rfl
@[simp] theorem stuck_bind {α β : Type} (f : α → M β) : ((M.stuck : M α) >>= f) = M.stuck := rfl
@[simp] theorem pure_ok {α : Type} (a : α) : (pure a : M α) = M.ok a := rfl
@[simp] theorem bind_ok {α : Type} (m : M α) : (m >>= fun a => M.ok a) = m := by cases m <;> rfl
theorem bind_assoc' {α β γ : Type} (m : M α) (f : α → M β) (g : β → M γ) : ((m >>= f) >>= g) = (m >>= fun a => f a >>= g) := by cases m <;> rfl

/-- what holds of a mirror's end -/
def wpm {α : Type} (m : M α) (P : α → Prop) (E : XC → Prop) : Prop := match m with
  | .stuck => False
  | .err c => E c
  | .ok a => P a
section
variable {α β : Type} {m : M α} {f : α → M β} {P Q : α → Prop} {R : β → Prop} {E F : XC → Prop}
@[simp] theorem wpm_ok {a : α} : wpm (M.ok a) P E = P a := rfl
@[simp] theorem wpm_err {c : XC} : wpm (M.err c : M α) P E = E c := rfl
@[simp] theorem wpm_stuck : wpm (M.stuck : M α) P E = False := rfl
theorem wpm_bind : wpm (m >>= f) R E = wpm m (fun a => wpm (f a) R E) E := by cases m <;> rfl
theorem wb (h : wpm (m >>= f) R E) : wpm m (fun a => wpm (f a) R E) E := by rw [wpm_bind] at h; exact h
theorem bw (h : wpm m (fun a => wpm (f a) R E) E) : wpm (m >>= f) R E := by rw [wpm_bind]; exact h
theorem wpm_mono (h : wpm m P E) (hp : ∀ a, P a → Q a) (he : ∀ c, E c → F c) : wpm m Q F := by
  cases m with
  | stuck => exact h
  | err c => exact he c h
  | ok a => exact hp a h
theorem wpm_imp (h : wpm m P E) (hp : ∀ a, P a → Q a) : wpm m Q E := wpm_mono h hp fun _ h => h
theorem wpm_of {a : α} (e : m = M.ok a) (h : P a) : wpm m P E := by rw [e]; exact h
theorem wpm_eq {a : α} (h : wpm m P E) (e : m = M.ok a) : P a := by rw [e] at h; exact h
theorem wpm_and (h : wpm m P E) (h2 : wpm m Q E) : wpm m (fun a => P a ∧ Q a) E := by
  cases m with
  | stuck => exact h
  | err c => exact h
  | ok a => exact ⟨h, h2⟩
theorem ok_of (h : wpm m P fun _ => False) : ∃ a, m = M.ok a ∧ P a := by
  cases m with
  | stuck => exact h.elim
  | err c => exact h.elim
  | ok a => exact ⟨a, rfl, h⟩
end

/-- no error leaves -/
def noerr {α : Type} (m : M α) : M α := match m with
  | .err _ => .stuck
  | x => x

/-! ### worlds: S is what stays as it is, H the heap; L the lists that may be written -/
structure Gx (L : List Addr) (S H S' H' : Hp) : Prop where
  s : Ex S S'
  h : ∀ b o, b ∉ L → H b = some o → H' b = some o
  sh : Ex S' H'
  th : ∀ b, H b ≠ none → H' b ≠ none
  fr : ∀ b, H b ≠ none → S b = none → S' b = none
theorem Gx.refl {L : List Addr} {S H : Hp} (e : Ex S H) : Gx L S H S H := ⟨Ex.refl _, fun _ _ _ h => h, e, fun _ h => h, fun _ _ h => h⟩
theorem Gx.trans {L L' : List Addr} {S H S1 H1 S2 H2 : Hp} (a : Gx L S H S1 H1) (b : Gx L' S1 H1 S2 H2) (hl : ∀ x ∈ L', x ∈ L ∨ H x = none) : Gx L S H S2 H2 :=
  ⟨a.s.trans b.s, fun x o hx e => b.h x o (fun h => (hl x h).elim hx fun h => by rw [h] at e; cases e) (a.h x o hx e), b.sh, fun x h => b.th x (a.th x h), fun x h1 h2 => b.fr x (a.th x h1) (a.fr x h1 h2)⟩
theorem Gx.trans0 {L : List Addr} {S H S1 H1 S2 H2 : Hp} (a : Gx L S H S1 H1) (b : Gx [] S1 H1 S2 H2) : Gx L S H S2 H2 := a.trans b (fun x h => nomatch h)
theorem Gx.ex {S H S' H' : Hp} (g : Gx [] S H S' H') : Ex H H' := fun a o h => g.h a o (fun h => nomatch h) h
theorem Gx.weak {L L' : List Addr} {S H S' H' : Hp} (g : Gx L S H S' H') (h : ∀ x ∈ L, x ∈ L') : Gx L' S H S' H' := ⟨g.s, fun b o hb e => g.h b o (fun q => hb (h b q)) e, g.sh, g.th, g.fr⟩
section
variable {L : List Addr} {S0 H0 S H : Hp} {p a b : Addr} {o o' : HO}
theorem upd_ne_none {H : Hp} {p : Addr} {o : HO} (b : Addr) (h : H b ≠ none) : upd H p o b ≠ none := by
  unfold upd; split <;> simp_all
/-- a new object, of the standing ones -/
theorem Gx.newS (g : Gx L S0 H0 S H) (hp : H p = none) : Gx L S0 H0 (upd S p o) (upd H p o) := by
  have hs : S p = none := fresh_back g.sh hp
  refine ⟨g.s.trans (Ex.new hs), fun b u hb e => ?_, fun b u e => ?_, fun b h => upd_ne_none b (g.th b h), fun b h1 h2 => ?_⟩
  · rw [upd_ne (ne_of_none (g.h b u hb e) hp)]; exact g.h b u hb e
  · unfold upd at e ⊢
    split
    · rename_i q; rw [if_pos q] at e; exact e
    · rename_i q; rw [if_neg q] at e; exact g.sh b u e
  · have : b ≠ p := fun q => g.th b h1 (q ▸ hp)
    rw [upd_ne this]; exact g.fr b h1 h2
/-- a new object that will be written -/
theorem Gx.newO (g : Gx L S0 H0 S H) (hp : H p = none) : Gx L S0 H0 S (upd H p o) :=
  ⟨g.s, fun b u hb e => by rw [upd_ne (ne_of_none (g.h b u hb e) hp)]; exact g.h b u hb e, g.sh.mut (fresh_back g.sh hp), fun b h => upd_ne_none b (g.th b h), g.fr⟩
end

/-- an object of one's own: it may be written -/
structure Own (S H : Hp) (a : Addr) (o : HO) : Prop where
  at_ : H a = some o
  free : S a = none
section
variable {L L' : List Addr} {S0 H0 S H S' H' : Hp} {p a b : Addr} {o o' u : HO}
theorem Own.keep (x : Own S H a o) (g : Gx L' S H S' H') (h : a ∉ L') : Own S' H' a o := ⟨g.h a o h x.at_, g.fr a (by rw [x.at_]; simp) x.free⟩
theorem Own.keep0 (x : Own S H a o) (g : Gx [] S H S' H') : Own S' H' a o := x.keep g (fun h => nomatch h)
theorem Own.put (x : Own S H a o) (hne : a ≠ b) : Own S (upd H b u) a o := ⟨by rw [upd_ne hne]; exact x.at_, x.free⟩
theorem Own.set (x : Own S H a o) : Own S (upd H a u) a u := ⟨upd_same, x.free⟩
theorem Own.ne (x : Own S H a o) (h : H p = none) : a ≠ p := ne_of_none x.at_ h
theorem Own.frzOther (x : Own S H a o) (hne : a ≠ b) : Own (upd S b u) H a o := ⟨x.at_, by rw [upd_ne hne]; exact x.free⟩
theorem Gx.frz (g : Gx L S0 H0 S H) (x : Own S H a o) (h : H0 a = none) : Gx L S0 H0 (upd S a o) H :=
  ⟨g.s.trans (Ex.new x.free), g.h, fun b u e => by
    unfold upd at e
    split at e
    · rename_i q; subst q; cases e; exact x.at_
    · exact g.sh b u e, g.th, fun b h1 h2 => by
    have : b ≠ a := fun q => h1 (q ▸ h)
    rw [upd_ne this]; exact g.fr b h1 h2⟩
/-- a written object of one's own -/
theorem Gx.put (g : Gx L S0 H0 S H) (x : Own S H a o) (h : H0 a = none ∨ a ∈ L) : Gx L S0 H0 S (upd H a o') :=
  ⟨g.s, fun b u hb e => by
    have : b ≠ a := fun q => h.elim (fun z => by rw [q, z] at e; cases e) fun z => hb (q ▸ z)
    rw [upd_ne this]; exact g.h b u hb e, g.sh.mut x.free, fun b h => upd_ne_none b (g.th b h), g.fr⟩
end

/-! ### what stands for what -/
/-- two lists, item by item -/
inductive All2 {α β : Type} (R : α → β → Prop) : List α → List β → Prop
  | nil : All2 R [] []
  | cons {a : α} {b : β} {as : List α} {bs : List β} : R a b → All2 R as bs → All2 R (a :: as) (b :: bs)
namespace All2
variable {α β : Type} {R R' : α → β → Prop} {as as' : List α} {bs bs' : List β}
theorem imp (h : All2 R as bs) (f : ∀ a b, R a b → R' a b) : All2 R' as bs := by
  induction h with
  | nil => exact .nil
  | cons h _ ih => exact .cons (f _ _ h) ih
theorem len (h : All2 R as bs) : as.length = bs.length := by
  induction h with
  | nil => rfl
  | cons _ _ ih => simp [ih]
theorem append (h : All2 R as bs) (h' : All2 R as' bs') : All2 R (as ++ as') (bs ++ bs') := by
  induction h with
  | nil => exact h'
  | cons h _ ih => exact .cons h ih
theorem snoc {a : α} {b : β} (h : All2 R as bs) (r : R a b) : All2 R (as ++ [a]) (bs ++ [b]) := h.append (.cons r .nil)
theorem drop (n : Nat) (h : All2 R as bs) : All2 R (as.drop n) (bs.drop n) := by
  induction h generalizing n with
  | nil => simpa using All2.nil
  | cons h t ih => cases n with
    | zero => exact .cons h t
    | succ n => exact ih n
theorem take (n : Nat) (h : All2 R as bs) : All2 R (as.take n) (bs.take n) := by
  induction h generalizing n with
  | nil => simpa using All2.nil
  | cons h t ih => cases n with
    | zero => exact .nil
    | succ n => exact .cons h (ih n)
theorem reverse (h : All2 R as bs) : All2 R as.reverse bs.reverse := by
  induction h with
  | nil => exact .nil
  | cons h t ih => simp only [List.reverse_cons]; exact ih.snoc h
theorem get {i : Nat} {b : β} (h : All2 R as bs) (e : bs[i]? = some b) : ∃ a, as[i]? = some a ∧ R a b := by
  induction h generalizing i with
  | nil => simp at e
  | cons h t ih => cases i with
    | zero => simp at e; subst e; exact ⟨_, rfl, h⟩
    | succ i => simpa using ih (i := i) (by simpa using e)
theorem getL {i : Nat} {a : α} (h : All2 R as bs) (e : as[i]? = some a) : ∃ b, bs[i]? = some b ∧ R a b := by
  induction h generalizing i with
  | nil => simp at e
  | cons h t ih => cases i with
    | zero => simp at e; subst e; exact ⟨_, rfl, h⟩
    | succ i => simpa using ih (i := i) (by simpa using e)
theorem set {i : Nat} {a : α} {b : β} (h : All2 R as bs) (r : R a b) : All2 R (as.set i a) (bs.set i b) := by
  induction h generalizing i with
  | nil => exact .nil
  | cons h t ih => cases i with
    | zero => exact .cons r t
    | succ i => exact .cons h ih
theorem eraseIdx {i : Nat} (h : All2 R as bs) : All2 R (as.eraseIdx i) (bs.eraseIdx i) := by
  induction h generalizing i with
  | nil => exact .nil
  | cons h t ih => cases i with
    | zero => exact t
    | succ i => exact .cons h ih
theorem dropLast (h : All2 R as bs) : All2 R as.dropLast bs.dropLast := by
  rw [List.dropLast_eq_take, List.dropLast_eq_take, h.len]; exact h.take _
theorem replicate {a : α} {b : β} (n : Nat) (r : R a b) : All2 R (List.replicate n a) (List.replicate n b) := by
  induction n with
  | zero => exact .nil
  | succ n ih => exact .cons r ih
theorem isEmpty (h : All2 R as bs) : as.isEmpty = bs.isEmpty := by cases h <;> rfl
theorem mapR {γ : Type} {f : γ → α} {g : γ → β} {cs : List γ} (h : ∀ c, R (f c) (g c)) : All2 R (cs.map f) (cs.map g) := by
  induction cs with
  | nil => exact .nil
  | cons c r ih => exact .cons (h c) ih
end All2

abbrev Fr := PySem.W.Frag
/-- v stands for x, over what stands as it is -/
class Py (α : Type) where
  rep : Fr → Hp → V → α → Prop
  mono : ∀ {K : Fr} {S S' : Hp} {v : V} {x : α}, Ex S S' → rep K S v x → rep K S' v x
/-- values that are no objects -/
class Flat (α : Type) extends Py α where
  toV : α → V
  is : ∀ {K : Fr} {S : Hp} {v : V} {x : α}, rep K S v x ↔ v = toV x
/-- the items of a list -/
def Reps {α : Type} [Py α] (K : Fr) (S : Hp) (vs : List V) (xs : List α) : Prop := All2 (Py.rep K S) vs xs
theorem Reps.mono {α : Type} [Py α] {K : Fr} {S S' : Hp} {vs : List V} {xs : List α} (e : Ex S S') (h : Reps K S vs xs) : Reps K S' vs xs := h.imp fun _ _ => Py.mono e
/-- a list's object -/
def RepL {α : Type} [Py α] (K : Fr) (S : Hp) (a : Addr) (xs : List α) : Prop := ∃ vs, S a = some (.lst vs) ∧ Reps K S vs xs
theorem RepL.mono {α : Type} [Py α] {K : Fr} {S S' : Hp} {a : Addr} {xs : List α} (e : Ex S S') (h : RepL K S a xs) : RepL K S' a xs := by
  obtain ⟨vs, h1, h2⟩ := h
  exact ⟨vs, e _ _ h1, h2.mono e⟩
/-- the script: a list that may only be read -/
def RepQ {α : Type} [Py α] (K : Fr) (S : Hp) (a : Addr) (xs : List α) : Prop := ∃ vs, SqL K S a vs ∧ Reps K S vs xs
theorem RepQ.mono {α : Type} [Py α] {K : Fr} {S S' : Hp} {a : Addr} {xs : List α} (e : Ex S S') (h : RepQ K S a xs) : RepQ K S' a xs := by
  obtain ⟨vs, h1, h2⟩ := h
  exact ⟨vs, ex_l e h1, h2.mono e⟩
instance : Flat Int where
  rep := fun _ _ v i => v = .int i
  mono := fun _ h => h
  toV := .int
  is := Iff.rfl
instance : Flat Bool where
  rep := fun _ _ v b => v = .bl b
  mono := fun _ h => h
  toV := .bl
  is := Iff.rfl
instance : Flat Unit where
  rep := fun _ _ v _ => v = .non
  mono := fun _ h => h
  toV := fun _ => .non
  is := Iff.rfl
instance : Flat PySem.Str where
  rep := fun _ _ v x => v = .str x
  mono := fun _ h => h
  toV := .str
  is := Iff.rfl
instance instOptP {α : Type} [Py α] : Py (Option α) where
  rep := fun K S v o => match o with
    | none => v = .non
    | some x => Py.rep K S v x
  mono := fun {_ _ _ _ o} e h => by
    cases o with
    | none => exact h
    | some x => exact Py.mono e h
def optV {α : Type} [Flat α] (o : Option α) : V := match o with
  | none => .non
  | some x => Flat.toV x
instance {α : Type} [Flat α] : Flat (Option α) where
  toPy := instOptP
  toV := optV
  is := fun {_ _ _ o} => by
    cases o with
    | none => exact Iff.rfl
    | some x => exact Flat.is
instance {α : Type} [Py α] : Py (List α) where
  rep := fun K S v xs => ∃ a, v = .ref a ∧ RepL K S a xs
  mono := fun e ⟨a, h1, h2⟩ => ⟨a, h1, h2.mono e⟩
/-- a tuple's items -/
class PyT (α : Type) where
  rept : Fr → Hp → List V → α → Prop
  monot : ∀ {K : Fr} {S S' : Hp} {v : List V} {x : α}, Ex S S' → rept K S v x → rept K S' v x
instance : PyT Unit where
  rept := fun _ _ vs _ => vs = []
  monot := fun _ h => h
instance {α β : Type} [Py α] [PyT β] : PyT (α × β) where
  rept := fun K S vs x => ∃ v r, vs = v :: r ∧ Py.rep K S v x.1 ∧ PyT.rept K S r x.2
  monot := fun e ⟨v, r, h1, h2, h3⟩ => ⟨v, r, h1, Py.mono e h2, PyT.monot e h3⟩
/-- (a, b, ..) is (a, b, .., ()) -/
instance {α β : Type} [Py α] [PyT β] : Py (α × β) where
  rep := fun K S v x => ∃ a vs, v = .ref a ∧ SqT K S a vs ∧ PyT.rept K S vs x
  mono := fun e ⟨a, vs, h1, h2, h3⟩ => ⟨a, vs, h1, ex_t e h2, PyT.monot e h3⟩
theorem Dp.mono {K : Fr} {S S' : Hp} (e : Ex S S') {v : V} {d : PyData} (h : Dp K S v d) : Dp K S' v d := by
  refine Dp.rec (motive_1 := fun v d _ => Dp K S' v d) (motive_2 := fun vs ds _ => DpAll K S' vs ds) ?_ ?_ ?_ ?_ ?_ ?_ ?_ ?_ h
  · exact .non
  · exact .bl
  · exact .int
  · exact .str
  · intro a xs ds h1 _ ih; exact .lst (ex_l e h1) ih
  · intro a xs ds h1 _ ih; exact .tup (ex_t e h1) ih
  · exact .nil
  · intros; exact .cons (by assumption) (by assumption)
instance : Py PyData where
  rep := fun K S v d => Dp K S v d
  mono := fun e h => Dp.mono e h
/-- a list of one's own -/
def OwnL {α : Type} [Py α] (K : Fr) (S H : Hp) (a : Addr) (xs : List α) : Prop := ∃ vs, Own S H a (.lst vs) ∧ Reps K S vs xs
end G
/-! GStep: a reading, step by step, beside its mirror. -/
namespace G
open PySem L2 Evl
abbrev St := L2.St

/-! ### forms -/
def blK (QB : Bool → Hp → Prop) (x : V) (H : Hp) : Prop := ∃ k, x = .bl k ∧ QB k H
def andK (uu : TT) (σ : St) (QB : Bool → Hp → Prop) (c : Bool) (H : Hp) : Prop := if c = true then uu σ H QB else QB false H
def orK (uu : TT) (σ : St) (QB : Bool → Hp → Prop) (c : Bool) (H : Hp) : Prop := if c = true then QB true H else uu σ H QB
def andVK (tb : TE) (σ : St) (Q : VK) (x : V) (H : Hp) : Prop := ∃ c, x = .bl c ∧ if c = true then tb σ H Q else Q (.bl false) H
def orVK (tb : TE) (σ : St) (Q : VK) (x : V) (H : Hp) : Prop := ∃ c, x = .bl c ∧ if c = true then Q (.bl true) H else tb σ H Q
def notVK (Q : VK) (x : V) (H : Hp) : Prop := ∃ c, x = .bl c ∧ Q (.bl (!c)) H
def chainK (r' : R2) (tc : TE) (σ : St) (Q : VK) (y z : V) (H : Hp) : Prop := ∃ k, z = .bl k ∧ (if k = true then tc σ H fun w' H4 => r' y w' H4 Q else Q (.bl false) H)
section
variable {σ : St} {H : Hp} {Q : VK} {D : Ends} {K : Fr} {v x y : V} {ta tb tc te : TE} {t : TA} {tt uu : TT} {ts tu : TS} {QB : Bool → Hp → Prop} {QA : List V → Hp → Prop} {b : Bool}
theorem i_var {i : Nat} (h : σ[i]? = some (some v)) (q : Q v H) : tVar i σ H Q := ⟨v, h, q⟩
theorem i_c (q : Q v H) : tC v σ H Q := q
theorem i_op {r : R2} (q : ta σ H fun x H1 => tb σ H1 fun y H2 => r x y H2 Q) : tOp r ta tb σ H Q := q
theorem i_un {r : V → Hp → VK → Prop} (q : ta σ H fun x H1 => r x H1 Q) : tUn r ta σ H Q := q
theorem i_I0 {g : Int → Int → V} {i j : Int} (q : Q (g i j) H) : rI0 g (.int i) (.int j) H Q := ⟨i, j, rfl, rfl, q⟩
theorem i_I {C : Int → Int → Prop} {g : Int → Int → V} {i j : Int} (hc : C i j) (q : Q (g i j) H) : rI C g (.int i) (.int j) H Q := ⟨i, j, rfl, rfl, hc, q⟩
theorem i_U {g : Int → V} {i : Int} (q : Q (g i) H) : rU g (.int i) H Q := ⟨i, rfl, q⟩
theorem i_nil (q : QA [] H) : tNil σ H QA := q
theorem i_cons {tr : TA} (q : ta σ H fun x H1 => tr σ H1 fun xs H2 => QA (x :: xs) H2) : tCons ta tr σ H QA := q
theorem i_cb {r : List V → Hp → VK → Prop} (q : t σ H fun vs H1 => r vs H1 Q) : tCB r t σ H Q := q
theorem i_call {sp : Sp} {E : XK} (q : t σ H fun vs H1 => sp vs H1 Q E) : tCall sp [] E t σ H Q := by
  show t σ H fun vs H1 => sp (vs ++ []) H1 Q E
  simpa only [List.append_nil] using q
theorem i_callS {sp : Sp} {E : St → XK} (q : t σ H fun vs H1 => sp vs H1 Q (E σ)) : tCallS sp E t σ H Q := q
theorem i_test (q : te σ H fun x H1 => blK QB x H1) : tTest te σ H QB := q
theorem i_B (q : te σ H fun x H1 => blK QB x H1) : tB te σ H QB := q
theorem i_bl (q : QB b H) : blK QB (.bl b) H := ⟨b, rfl, q⟩
theorem i_blN (q : Q (.bl (!b)) H) : notVK Q (.bl b) H := ⟨b, rfl, q⟩
theorem i_and (q : tt σ H fun c H1 => andK uu σ QB c H1) : tAnd tt uu σ H QB := q
theorem i_or (q : tt σ H fun c H1 => orK uu σ QB c H1) : tOr tt uu σ H QB := q
theorem i_not (q : tt σ H fun c H1 => QB (!c) H1) : tNot tt σ H QB := q
theorem i_andV (q : ta σ H fun x H1 => andVK tb σ Q x H1) : tAndV ta tb σ H Q := q
theorem i_orV (q : ta σ H fun x H1 => orVK tb σ Q x H1) : tOrV ta tb σ H Q := q
theorem i_notV (q : ta σ H fun x H1 => notVK Q x H1) : tNotV ta σ H Q := q
theorem i_ife (q : tt σ H fun c H1 => if c = true then ta σ H1 Q else tb σ H1 Q) : tIf tt ta tb σ H Q := q
theorem i_chain {r r' : R2} (q : ta σ H fun x H1 => tb σ H1 fun y H2 => r x y H2 fun z H3 => chainK r' tc σ Q y z H3) : tChain r r' ta tb tc σ H Q := q
/-- a two-way -/
theorem ite2b {A B : Prop} (h1 : b = true → A) (h2 : b = false → B) : if b = true then A else B := by cases b <;> simp_all
theorem wpm_t {α : Type} {c : Bool} {m n : M α} {P : α → Prop} {E : XC → Prop} (hc : c = true) (h : wpm (if c = true then m else n) P E) : wpm m P E := by rw [if_pos hc] at h; exact h
theorem wpm_f {α : Type} {c : Bool} {m n : M α} {P : α → Prop} {E : XC → Prop} (hc : c = false) (h : wpm (if c = true then m else n) P E) : wpm n P E := by rw [if_neg (by rw [hc]; exact Bool.false_ne_true)] at h; exact h
/-! statements -/
def seqE (n : St → Hp → Prop) (D : Ends) : Ends := { D with nx := n }
theorem i_seq (q : ts (seqE (tu D) D) σ H) : tSeq ts tu D σ H := q
theorem nx_seq {n : St → Hp → Prop} (q : n σ H) : (seqE n D).nx σ H := q
theorem i_next (q : D.nx σ H) : tNext D σ H := q
theorem i_drop (q : te σ H fun _ H1 => D.nx σ H1) : tDrop te D σ H := q
theorem i_asg {g : TG} (q : te σ H fun x H1 => g x σ H1 D.nx) : tAsg te g D σ H := q
theorem i_name {i : Nat} {Qs : St → Hp → Prop} (q : Qs (σ.set i (some v)) H) : gName i v σ H Qs := q
theorem i_ret (q : te σ H D.rt) : tRet te D σ H := q
theorem i_retN (q : D.rt .non H) : tRetN D σ H := q
theorem i_if (q : tt σ H fun b H1 => if b = true then ts D σ H1 else tu D σ H1) : tIfS tt ts tu D σ H := q
theorem i_gsub {to ti : TE} {ws : TSet} {Qs : St → Hp → Prop} (q : to σ H fun o H1 => ti σ H1 fun i H2 => ws o i v H2 fun H3 => Qs σ H3) : gSub to ti ws v σ H Qs := q
theorem i_gtup {n : Nat} {gs : TGs} {a : Addr} {vs : List V} {Qs : St → Hp → Prop} (hs : SqT K H a vs) (hn : vs.length = n) (q : gs vs σ H Qs) : gTup K n gs (.ref a) σ H Qs := ⟨a, vs, rfl, hs, hn, q⟩
theorem i_gcons {g : TG} {gs : TGs} {r : List V} {Qs : St → Hp → Prop} (q : g v σ H fun σ' H' => gs r σ' H' Qs) : gCons g gs (v :: r) σ H Qs := ⟨v, r, rfl, q⟩
theorem i_gnil {Qs : St → Hp → Prop} (q : Qs σ H) : gNil [] σ H Qs := ⟨rfl, q⟩
/-! equality of flat values -/
theorem optV_inj {p q : Option Int} : (optV p = optV q) ↔ p = q := by
  cases p <;> cases q <;> simp [optV, Flat.toV]
theorem i_eqI {i j : Int} (q : Q (.bl (decide (i = j))) H) : rEq (.int i) (.int j) H Q := ⟨rfl, by rw [show decide (V.int i = V.int j) = decide (i = j) by simp]; exact q⟩
theorem i_neI {i j : Int} (q : Q (.bl (!decide (i = j))) H) : rNe (.int i) (.int j) H Q := ⟨rfl, by rw [show decide (V.int i = V.int j) = decide (i = j) by simp]; exact q⟩
theorem i_eqB {i j : Bool} (q : Q (.bl (decide (i = j))) H) : rEq (.bl i) (.bl j) H Q := ⟨rfl, by rw [show decide (V.bl i = V.bl j) = decide (i = j) by simp]; exact q⟩
theorem i_neB {i j : Bool} (q : Q (.bl (!decide (i = j))) H) : rNe (.bl i) (.bl j) H Q := ⟨rfl, by rw [show decide (V.bl i = V.bl j) = decide (i = j) by simp]; exact q⟩
theorem i_eqS {i j : Str} (q : Q (.bl (decide (i = j))) H) : rEq (.str i) (.str j) H Q := ⟨rfl, by rw [show decide (V.str i = V.str j) = decide (i = j) by simp]; exact q⟩
theorem i_neS {i j : Str} (q : Q (.bl (!decide (i = j))) H) : rNe (.str i) (.str j) H Q := ⟨rfl, by rw [show decide (V.str i = V.str j) = decide (i = j) by simp]; exact q⟩
theorem i_eqO {i j : Option Int} (q : Q (.bl (decide (i = j))) H) : rEq (optV i) (optV j) H Q := by
  refine ⟨?_, ?_⟩
  · cases i <;> cases j <;> rfl
  · rw [show decide (optV i = optV j) = decide (i = j) by simp only [optV_inj]]; exact q
theorem i_neO {i j : Option Int} (q : Q (.bl (!decide (i = j))) H) : rNe (optV i) (optV j) H Q := by
  refine ⟨?_, ?_⟩
  · cases i <;> cases j <;> rfl
  · rw [show decide (optV i = optV j) = decide (i = j) by simp only [optV_inj]]; exact q
end

/-! ### a value that is never None -/
class NN (α : Type) [Py α] : Prop where
  nn : ∀ {K : Fr} {S : Hp} {v : V} {x : α}, Py.rep K S v x → v ≠ .non
instance : NN Int := ⟨fun h => by cases h; simp⟩
instance : NN Bool := ⟨fun h => by cases h; simp⟩
instance : NN Str := ⟨fun h => by cases h; simp⟩
instance {α : Type} [Py α] : NN (List α) := ⟨fun ⟨a, h, _⟩ => by subst h; simp⟩
instance {α β : Type} [Py α] [PyT β] : NN (α × β) := ⟨fun ⟨a, _, h, _⟩ => by subst h; simp⟩
theorem isN_rep {α : Type} [Py α] [NN α] {K : Fr} {S : Hp} {v : V} {o : Option α} (h : Py.rep K S v o) : decide (v = .non) = o.isNone := by
  cases o with
  | none =>
    have : v = .non := h
    subst this; rfl
  | some x => exact decide_eq_false (NN.nn (x := x) h)
theorem isN_opt {α : Type} [Flat α] [NN α] {o : Option α} : decide (optV o = .non) = o.isNone := isN_rep (K := []) (S := fun _ => none) (Flat.is.2 rfl)

/-! ### lists, read -/
/-- a list as it may be read now -/
def RepH {α : Type} [Py α] (K : Fr) (S H : Hp) (a : Addr) (xs : List α) : Prop := ∃ vs, SqL K H a vs ∧ Reps K S vs xs
section
variable {α β : Type} [Py α] [Py β] {K : Fr} {S H S0 H0 S' H' : Hp} {L L' : List Addr} {a b p : Addr} {xs ys : List α} {vs : List V} {Q : VK}
theorem RepQ.hp (r : RepQ K S a xs) (e : Ex S H) : RepH K S H a xs := by
  obtain ⟨vs, h1, h2⟩ := r
  exact ⟨vs, ex_l e h1, h2⟩
theorem RepL.hp (r : RepL K S a xs) (e : Ex S H) : RepH K S H a xs := by
  obtain ⟨vs, h1, h2⟩ := r
  exact ⟨vs, sq_of (e _ _ h1), h2⟩
/-- a list that is tracked -/
def RepT {α : Type} [Py α] (K : Fr) (S H : Hp) (a : Addr) (xs : List α) : Prop := ∃ vs, H a = some (.lst vs) ∧ Reps K S vs xs
theorem RepT.hp (r : RepT K S H a xs) : RepH K S H a xs := by
  obtain ⟨vs, h1, h2⟩ := r
  exact ⟨vs, sq_of h1, h2⟩
theorem RepL.tp (r : RepL K S a xs) (e : Ex S H) : RepT K S H a xs := by
  obtain ⟨vs, h1, h2⟩ := r
  exact ⟨vs, e _ _ h1, h2⟩
theorem OwnL.tp (r : OwnL K S H a xs) : RepT K S H a xs := by
  obtain ⟨vs, h1, h2⟩ := r
  exact ⟨vs, h1.at_, h2⟩
theorem OwnL.hp (r : OwnL K S H a xs) : RepH K S H a xs := by
  obtain ⟨vs, h1, h2⟩ := r
  exact ⟨vs, sq_of h1.at_, h2⟩
theorem OwnL.keep (o : OwnL K S H a xs) (g : Gx L' S H S' H') (h : a ∉ L') : OwnL K S' H' a xs := by
  obtain ⟨vs, h1, h2⟩ := o
  exact ⟨vs, h1.keep g h, h2.mono g.s⟩
theorem OwnL.keep0 (o : OwnL K S H a xs) (g : Gx [] S H S' H') : OwnL K S' H' a xs := o.keep g (fun h => nomatch h)
theorem OwnL.put {u : HO} (o : OwnL K S H a xs) (hne : a ≠ b) : OwnL K S (upd H b u) a xs := by
  obtain ⟨vs, h1, h2⟩ := o
  exact ⟨vs, h1.put hne, h2⟩
theorem OwnL.ne (o : OwnL K S H a xs) (h : H p = none) : a ≠ p := by
  obtain ⟨vs, h1, h2⟩ := o
  exact h1.ne h
/-- from now on it stays as it is -/
theorem OwnL.frz {C : Prop} (o : OwnL K S H a xs) (g : Gx L S0 H0 S H) (h : H0 a = none) (k : ∀ S', Gx L S0 H0 S' H → Ex S S' → (∀ b, b ≠ a → S' b = S b) → RepL K S' a xs → C) : C := by
  obtain ⟨vs, h1, h2⟩ := o
  have e : Ex S (upd S a (.lst vs)) := Ex.new h1.free
  exact k _ (g.frz h1 h) e (fun b hb => upd_ne hb) ⟨vs, upd_same, h2.mono e⟩

theorem All2.atI {R : V → α → Prop} {vs : List V} {xs : List α} {i : Int} {x : α} (h : All2 R vs xs) (e : atI xs i = some x) : ∃ v, L2.atI vs i = some v ∧ R v x := by
  unfold L2.atI at e ⊢
  rw [h.len]
  cases q : ixN xs.length i with
  | none => rw [q] at e; cases e
  | some j =>
    rw [q] at e
    exact h.get e
end

/-! ### mirrors of operations -/
def idx {α : Type} (xs : List α) (i : Int) : M α := match atI xs i with
  | some x => .ok x
  | none => .stuck
def unwrap {α : Type} (o : Option α) : M α := match o with
  | some x => .ok x
  | none => .stuck
def guardM (b : Bool) : M Unit := if b = true then .ok () else .stuck
def pmod (x y : Int) : M Int := if 0 < y then .ok (x % y) else .stuck
@[irreducible] def pdiv (x y : Int) : M Int := if 0 < y ∧ y < 1073741824 then .ok (x / y) else .stuck
@[irreducible] def pmul (x y : Int) : M Int := if (-(2 ^ 64) < x ∧ x < 2 ^ 64) ∨ (-(2 ^ 64) < y ∧ y < 2 ^ 64) then .ok (x * y) else .stuck
def pshr (x y : Int) : M Int := if 0 ≤ y then .ok (x / 2 ^ y.toNat) else .stuck
def line : Nat := 16777216
theorem line_eq : sizeLine = line := by rw [sizeLine_eq]; rfl
def pcat {α : Type} (xs ys : List α) : M (List α) := if xs.length + ys.length ≤ line then .ok (xs ++ ys) else .stuck
def papp {α : Type} (xs : List α) (x : α) : M (List α) := if xs.length < line then .ok (xs ++ [x]) else .stuck
def pset {α : Type} (xs : List α) (i : Int) (x : α) : M (List α) := match ixN xs.length i with
  | some j => .ok (xs.set j x)
  | none => .stuck
/-- xs.pop() -/
def ppop {α : Type} (xs : List α) : M (α × List α) := match xs[xs.length - 1]? with
  | some x => .ok (x, xs.dropLast)
  | none => .stuck
/-- xs.insert(i, x), i not below 0 -/
@[irreducible] def pins {α : Type} (xs : List α) (i : Int) (x : α) : M (List α) := if xs.length < line ∧ 0 ≤ i ∧ i < 2 ^ 63 then .ok (xs.take i.toNat ++ [x] ++ xs.drop i.toNat) else .stuck
@[irreducible] def prep {α : Type} (xs : List α) (n : Int) : M (List α) := if -(2 ^ 63) ≤ n ∧ n < 2 ^ 63 ∧ xs.length * n.toNat ≤ line then .ok (List.replicate n.toNat xs).flatten else .stuck
/-- range(a, b) -/
def rng (a b : Int) : List Int := (List.range (b - a).toNat).map fun (k : Nat) => a + (k : Int)
@[irreducible] def prng (a b : Int) : M (List Int) := if -(2 ^ 62) ≤ a ∧ a < 2 ^ 62 ∧ -(2 ^ 62) ≤ b ∧ b < 2 ^ 62 then .ok (rng a b) else .stuck
def cut {α : Type} (xs : List α) (lo hi : Option Int) : List α := (xs.drop (HT.sIx xs.length 0 lo)).take (HT.sIx xs.length xs.length hi - HT.sIx xs.length 0 lo)
/-- a loop -/
def forM' {α σ : Type} : List α → σ → (α → σ → M σ) → M σ
  | [], s, _ => .ok s
  | x :: xs, s, f => f x s >>= fun s' => forM' xs s' f
/-- a loop that may be left by a return -/
def forR {α σ ρ : Type} : List α → σ → (α → σ → M (ρ ⊕ σ)) → M (ρ ⊕ σ)
  | [], s, _ => .ok (.inr s)
  | x :: xs, s, f => f x s >>= fun r => match r with
    | .inl r => .ok (.inl r)
    | .inr s' => forR xs s' f
/-- while, so many turns at most -/
def whileM {σ : Type} : Nat → σ → (σ → M Bool) → (σ → M σ) → M σ
  | 0, _, _, _ => .stuck
  | n + 1, s, c, f => c s >>= fun b => if b = true then f s >>= fun s' => whileM n s' c f else .ok s
/-- a comprehension: the items that are given -/
def compM {α β : Type} : List α → (α → M (Option β)) → M (List β)
  | [], _ => .ok []
  | x :: xs, f => f x >>= fun o => match o with
    | none => compM xs f
    | some y => compM xs f >>= fun ys => .ok (y :: ys)

section
variable {α β γ : Type} {P : γ → Prop} {E : XC → Prop} {x y : Int} {k : Int → M γ} {Q : VK} {H : Hp}
theorem wpm_idx {xs : List β} {i : Int} {k : β → M γ} (h : wpm (idx xs i >>= k) P E) : ∃ x, atI xs i = some x ∧ wpm (k x) P E := by
  unfold idx at h
  cases q : atI xs i with
  | none => rw [q] at h; exact h.elim
  | some x => rw [q] at h; exact ⟨x, rfl, h⟩
theorem wpm_unwrap {o : Option β} {k : β → M γ} (h : wpm (unwrap o >>= k) P E) : ∃ x, o = some x ∧ wpm (k x) P E := by
  cases o with
  | none => exact h.elim
  | some x => exact ⟨x, rfl, h⟩
theorem wpm_guard {b : Bool} {k : Unit → M γ} (h : wpm (guardM b >>= k) P E) : b = true ∧ wpm (k ()) P E := by
  cases b with
  | false => exact h.elim
  | true => exact ⟨rfl, h⟩
theorem wpm_ite {c : Prop} [Decidable c] {a : β} {k : β → M γ} (h : wpm ((if c then (M.ok a) else .stuck) >>= k) P E) : c ∧ wpm (k a) P E := by
  by_cases hc : c
  · rw [if_pos hc] at h; exact ⟨hc, h⟩
  · rw [if_neg hc] at h; exact h.elim
theorem s_mod (h : wpm (pmod x y >>= k) P E) (q : wpm (k (x % y)) P E → Q (.int (x % y)) H) : rI (fun _ j => 0 < j) (fun i j => .int (i % j)) (.int x) (.int y) H Q := by
  obtain ⟨hc, h⟩ := wpm_ite h
  exact i_I hc (q h)
theorem s_div (h : wpm (pdiv x y >>= k) P E) (q : wpm (k (x / y)) P E → Q (.int (x / y)) H) : rI CDiv (fun i j => .int (i / j)) (.int x) (.int y) H Q := by
  unfold pdiv at h
  obtain ⟨hc, h⟩ := wpm_ite h
  exact i_I hc (q h)
theorem s_mul (h : wpm (pmul x y >>= k) P E) (q : wpm (k (x * y)) P E → Q (.int (x * y)) H) : rI CMul (fun i j => .int (i * j)) (.int x) (.int y) H Q := by
  unfold pmul at h
  obtain ⟨hc, h⟩ := wpm_ite h
  exact i_I hc (q h)
theorem s_shr (h : wpm (pshr x y >>= k) P E) (q : wpm (k (x / 2 ^ y.toNat)) P E → Q (.int (x / 2 ^ y.toNat)) H) : rI (fun _ j => 0 ≤ j) (fun i j => .int (i / 2 ^ j.toNat)) (.int x) (.int y) H Q := by
  obtain ⟨hc, h⟩ := wpm_ite h
  exact i_I hc (q h)
end
section
variable {α β γ : Type} [Py α] [Py β] {K : Fr} {P : γ → Prop} {E : XC → Prop} {S H S0 H0 S' H' : Hp} {L L' : List Addr} {a b p : Addr} {xs ys : List α} {vs : List V} {Q : VK} {Qn : Hp → Prop}
theorem s_idx {i : Int} {k : α → M γ} (r : RepH K S H a xs) (h : wpm (idx xs i >>= k) P E) (q : ∀ x v, Py.rep K S v x → wpm (k x) P E → Q v H) : rIxL K (.ref a) (.int i) H Q := by
  obtain ⟨vs, h1, h2⟩ := r
  obtain ⟨x, hx, h⟩ := wpm_idx h
  obtain ⟨v, hv, rv⟩ := h2.atI hx
  exact ⟨a, vs, i, v, rfl, rfl, h1, hv, q x v rv h⟩
theorem s_idxF {α : Type} [Flat α] {xs : List α} {i : Int} {k : α → M γ} (r : RepH K S H a xs) (h : wpm (idx xs i >>= k) P E) (q : ∀ x, wpm (k x) P E → Q (Flat.toV x) H) : rIxL K (.ref a) (.int i) H Q :=
  s_idx r h fun x v rv h => by rw [Flat.is.1 rv]; exact q x h
def rLenG (K : Fr) : List V → Hp → VK → Prop := fun xs H Q => ∃ p ys, xs = [.ref p] ∧ (SqL K H p ys ∨ SqT K H p ys) ∧ Q (.int ys.length) H
theorem call_lenG {X : Cx} : CallR X (.builtin "len") (rLenG X.K) := call_len_seq
theorem s_len (r : RepH K S H a xs) (q : Q (.int (xs.length : Int)) H) : rLenG K [.ref a] H Q := by
  obtain ⟨vs, h1, h2⟩ := r
  refine ⟨a, vs, rfl, .inl h1, ?_⟩
  rw [h2.len]; exact q
theorem All2.cut {R : V → α → Prop} {lo hi : Option Int} (h : All2 R vs xs) : All2 R (cutV vs lo hi) (G.cut xs lo hi) := by
  unfold cutV G.cut
  rw [h.len]
  exact (h.drop _).take _
/-- a new list that stays as it is -/
theorem newL_S (g : Gx L S0 H0 S H) (hr : Reps K S vs xs) (q : ∀ p S1 H1, Gx L S0 H0 S1 H1 → Gx [] S H S1 H1 → RepL K S1 p xs → Q (.ref p) H1) : ∀ p, H p = none → Q (.ref p) (upd H p (.lst vs)) := fun p hp =>
  q p (upd S p (.lst vs)) _ (g.newS hp) ((Gx.refl g.sh).newS hp) ⟨vs, upd_same, hr.mono (Ex.new (fresh_back g.sh hp))⟩
/-- a new list of one's own -/
theorem newL_O (g : Gx L S0 H0 S H) (hr : Reps K S vs xs) (q : ∀ p H1, Gx L S0 H0 S H1 → Gx [] S H S H1 → H p = none → OwnL K S H1 p xs → Q (.ref p) H1) : ∀ p, H p = none → Q (.ref p) (upd H p (.lst vs)) := fun p hp =>
  q p _ (g.newO hp) ((Gx.refl g.sh).newO hp) hp ⟨vs, ⟨upd_same, fresh_back g.sh hp⟩, hr⟩
/-- a new tuple -/
theorem newT_S {τ : Type} [PyT τ] {t : τ} (g : Gx L S0 H0 S H) (hr : PyT.rept K S vs t) (q : ∀ p S1 H1, Gx L S0 H0 S1 H1 → Gx [] S H S1 H1 → (SqT K S1 p vs ∧ PyT.rept K S1 vs t) → Q (.ref p) H1) : ∀ p, H p = none → Q (.ref p) (upd H p (.tup vs)) := fun p hp =>
  q p (upd S p (.tup vs)) _ (g.newS hp) ((Gx.refl g.sh).newS hp) ⟨st_of upd_same, PyT.monot (Ex.new (fresh_back g.sh hp)) hr⟩
theorem s_slS {lo hi : Option Int} (g : Gx L S0 H0 S H) (r : RepH K S H a xs) (q : ∀ p S1 H1, Gx L S0 H0 S1 H1 → Gx [] S H S1 H1 → RepL K S1 p (cut xs lo hi) → Q (.ref p) H1) : rSlL K (.ref a) lo hi H Q := by
  obtain ⟨vs, h1, h2⟩ := r
  exact ⟨a, vs, rfl, h1, newL_S g (All2.cut h2) q⟩
theorem s_slO {lo hi : Option Int} (g : Gx L S0 H0 S H) (r : RepH K S H a xs) (q : ∀ p H1, Gx L S0 H0 S H1 → Gx [] S H S H1 → H p = none → OwnL K S H1 p (cut xs lo hi) → Q (.ref p) H1) : rSlL K (.ref a) lo hi H Q := by
  obtain ⟨vs, h1, h2⟩ := r
  exact ⟨a, vs, rfl, h1, newL_O g (All2.cut h2) q⟩
theorem s_catS {k : List α → M γ} (g : Gx L S0 H0 S H) (r : RepT K S H a xs) (r2 : RepT K S H b ys) (h : wpm (pcat xs ys >>= k) P E) (q : ∀ p S1 H1, Gx L S0 H0 S1 H1 → Gx [] S H S1 H1 → RepL K S1 p (xs ++ ys) → wpm (k (xs ++ ys)) P E → Q (.ref p) H1) : rCat (.ref a) (.ref b) H Q := by
  obtain ⟨vs, h1, h2⟩ := r
  obtain ⟨ws, h3, h4⟩ := r2
  obtain ⟨hc, h⟩ := wpm_ite h
  exact ⟨a, b, vs, ws, rfl, rfl, h1, h3, by rw [h2.len, h4.len, line_eq]; exact hc, newL_S g (h2.append h4) fun p S1 H1 g1 g2 r => q p S1 H1 g1 g2 r h⟩
theorem s_catO {k : List α → M γ} (g : Gx L S0 H0 S H) (r : RepT K S H a xs) (r2 : RepT K S H b ys) (h : wpm (pcat xs ys >>= k) P E) (q : ∀ p H1, Gx L S0 H0 S H1 → Gx [] S H S H1 → H p = none → OwnL K S H1 p (xs ++ ys) → wpm (k (xs ++ ys)) P E → Q (.ref p) H1) : rCat (.ref a) (.ref b) H Q := by
  obtain ⟨vs, h1, h2⟩ := r
  obtain ⟨ws, h3, h4⟩ := r2
  obtain ⟨hc, h⟩ := wpm_ite h
  exact ⟨a, b, vs, ws, rfl, rfl, h1, h3, by rw [h2.len, h4.len, line_eq]; exact hc, newL_O g (h2.append h4) fun p H1 g1 g2 hp r => q p H1 g1 g2 hp r h⟩
/-- list(xs) -/
def rListG (K : Fr) : List V → Hp → VK → Prop := fun xs H Q => ∃ p ys, xs = [.ref p] ∧ (SqL K H p ys ∨ SqT K H p ys) ∧ ∀ l, H l = none → Q (.ref l) (upd H l (.lst ys))
theorem call_listG {X : Cx} : CallR X (.type "list") (rListG X.K) := call_list_of
theorem s_listS (g : Gx L S0 H0 S H) (r : RepH K S H a xs) (q : ∀ p S1 H1, Gx L S0 H0 S1 H1 → Gx [] S H S1 H1 → RepL K S1 p xs → Q (.ref p) H1) :
    rListG K [.ref a] H Q := by
  obtain ⟨vs, h1, h2⟩ := r
  exact ⟨a, vs, rfl, .inl h1, newL_S g h2 q⟩
theorem s_listO (g : Gx L S0 H0 S H) (r : RepH K S H a xs) (q : ∀ p H1, Gx L S0 H0 S H1 → Gx [] S H S H1 → H p = none → OwnL K S H1 p xs → Q (.ref p) H1) :
    rListG K [.ref a] H Q := by
  obtain ⟨vs, h1, h2⟩ := r
  exact ⟨a, vs, rfl, .inl h1, newL_O g h2 q⟩
/-- xs.append(e): the method is looked up, then the argument, then the item is put -/
def bmK (K : Fr) (T : String) (r : V → List V → Hp → VK → Prop) (t : TA) (σ : St) (Q : VK) (x : V) (H : Hp) : Prop := tyV K T x H ∧ t σ H fun xs H2 => r x xs H2 Q
def bm0K (K : Fr) (T : String) (r : V → List V → Hp → VK → Prop) (Q : VK) (x : V) (H : Hp) : Prop := tyV K T x H ∧ r x [] H Q
theorem s_bmL {r : V → List V → Hp → VK → Prop} {t : TA} {σ : St} (o : RepH K S H a xs) (q : t σ H fun ws H2 => r (.ref a) ws H2 Q) : bmK K "list" r t σ Q (.ref a) H := by
  obtain ⟨vs, h1, _⟩ := o
  exact ⟨.inl ⟨rfl, vs, h1⟩, q⟩
theorem i_bm {T : String} {r : V → List V → Hp → VK → Prop} {to : TE} {t : TA} {σ : St} (q : to σ H fun x H1 => bmK K T r t σ Q x H1) : tBM K T r to t σ H Q := q
theorem i_bm0 {T : String} {r : V → List V → Hp → VK → Prop} {to : TE} {σ : St} (q : to σ H fun x H1 => bm0K K T r Q x H1) : tBM0 K T r to σ H Q := q
theorem s_bmL0 {r : V → List V → Hp → VK → Prop} (o : RepH K S H a xs) (q : r (.ref a) [] H Q) : bm0K K "list" r Q (.ref a) H := by
  obtain ⟨vs, h1, _⟩ := o
  exact ⟨.inl ⟨rfl, vs, h1⟩, q⟩
theorem OwnL.other {H' : Hp} (o : OwnL K S H b xs) (hne : b ≠ a) (e : ∀ c, c ≠ a → H' c = H c) : OwnL K S H' b xs := by
  obtain ⟨vs, h1, h2⟩ := o
  exact ⟨vs, ⟨by rw [e b hne]; exact h1.at_, h1.free⟩, h2⟩
theorem OwnL.to {ys : List α} {ws : List V} (o : OwnL K S H a xs) (r : Reps K S ws ys) : OwnL K S (upd H a (.lst ws)) a ys := by
  obtain ⟨vs, h1, h2⟩ := o
  exact ⟨ws, h1.set, r⟩
theorem Gx.putL (g : Gx L S0 H0 S H) (o : OwnL K S H a xs) (h : H0 a = none ∨ a ∈ L) {u : HO} : Gx L S0 H0 S (upd H a u) := by
  obtain ⟨vs, h1, h2⟩ := o
  exact g.put h1 h
theorem s_app {x : α} {v : V} {k : List α → M γ} (g : Gx L S0 H0 S H) (o : OwnL K S H a xs) (h0 : H0 a = none ∨ a ∈ L) (r : Py.rep K S v x) (h : wpm (papp xs x >>= k) P E)
    (q : ∀ H1, Gx L S0 H0 S H1 → OwnL K S H1 a (xs ++ [x]) → (∀ c, c ≠ a → H1 c = H c) → wpm (k (xs ++ [x])) P E → Q .non H1) : rAppend (.ref a) [v] H Q := by
  obtain ⟨vs, h1, h2⟩ := o
  obtain ⟨hc, h⟩ := wpm_ite h
  exact ⟨a, vs, v, rfl, rfl, h1.at_, by rw [h2.len, line_eq]; exact hc, q _ (g.put h1 h0) ⟨_, h1.set, h2.snoc r⟩ (fun c hc => upd_ne hc) h⟩
theorem s_set {x : α} {v : V} {i : Int} {k : List α → M γ} (g : Gx L S0 H0 S H) (o : OwnL K S H a xs) (h0 : H0 a = none ∨ a ∈ L) (r : Py.rep K S v x) (h : wpm (pset xs i x >>= k) P E)
    (q : ∀ H1 ys, Gx L S0 H0 S H1 → OwnL K S H1 a ys → (∀ c, c ≠ a → H1 c = H c) → wpm (k ys) P E → Qn H1) : rSetL (.ref a) (.int i) v H Qn := by
  obtain ⟨vs, h1, h2⟩ := o
  unfold pset at h
  cases e : ixN xs.length i with
  | none => rw [e] at h; exact h.elim
  | some j =>
    rw [e] at h
    exact ⟨a, vs, i, j, rfl, rfl, h1.at_, by rw [h2.len]; exact e, q _ _ (g.put h1 h0) ⟨_, h1.set, h2.set r⟩ (fun c hc => upd_ne hc) h⟩
theorem s_pop {k : α × List α → M γ} (g : Gx L S0 H0 S H) (o : OwnL K S H a xs) (h0 : H0 a = none ∨ a ∈ L) (h : wpm (ppop xs >>= k) P E)
    (q : ∀ H1 x v, Gx L S0 H0 S H1 → OwnL K S H1 a xs.dropLast → (∀ c, c ≠ a → H1 c = H c) → Py.rep K S v x → wpm (k (x, xs.dropLast)) P E → Q v H1) : rPop (.ref a) [] H Q := by
  obtain ⟨vs, h1, h2⟩ := o
  unfold ppop at h
  cases e : xs[xs.length - 1]? with
  | none => rw [e] at h; exact h.elim
  | some x =>
    rw [e] at h
    obtain ⟨v, hv, rv⟩ := h2.get e
    exact ⟨a, vs, v, rfl, rfl, h1.at_, by rw [h2.len]; exact hv, q _ x v (g.put h1 h0) ⟨_, h1.set, h2.dropLast⟩ (fun c hc => upd_ne hc) rv h⟩
theorem s_ext {k : List α → M γ} (g : Gx L S0 H0 S H) (o : OwnL K S H a xs) (h0 : H0 a = none ∨ a ∈ L) (r : RepT K S H b ys) (h : wpm (pcat xs ys >>= k) P E)
    (q : ∀ H1, Gx L S0 H0 S H1 → OwnL K S H1 a (xs ++ ys) → (∀ c, c ≠ a → H1 c = H c) → wpm (k (xs ++ ys)) P E → Q .non H1) : rExtend (.ref a) [.ref b] H Q := by
  obtain ⟨vs, h1, h2⟩ := o
  obtain ⟨ws, h3, h4⟩ := r
  obtain ⟨hc, h⟩ := wpm_ite h
  exact ⟨a, b, vs, ws, rfl, rfl, h1.at_, h3, by rw [h2.len, h4.len, line_eq]; exact hc, q _ (g.put h1 h0) ⟨_, h1.set, h2.append h4⟩ (fun c hc => upd_ne hc) h⟩
def rInsG : V → List V → Hp → VK → Prop := fun x vs H Q => ∃ (l : Addr) (xs : List V) (i : Int) (y : V), x = .ref l ∧ vs = [.int i, y] ∧ H l = some (.lst xs) ∧ xs.length < sizeLine ∧ 0 ≤ i ∧ i < 2 ^ 63 ∧
    Q .non (upd H l (.lst (xs.take i.toNat ++ [y] ++ xs.drop i.toNat)))
theorem mt_insG {X : Cx} : MtR X "list.insert" rInsG := mt_insert
theorem s_ins {x : α} {v : V} {i : Int} {k : List α → M γ} (g : Gx L S0 H0 S H) (o : OwnL K S H a xs) (h0 : H0 a = none ∨ a ∈ L) (r : Py.rep K S v x) (h : wpm (pins xs i x >>= k) P E)
    (q : ∀ H1, Gx L S0 H0 S H1 → OwnL K S H1 a (xs.take i.toNat ++ [x] ++ xs.drop i.toNat) → (∀ c, c ≠ a → H1 c = H c) → wpm (k (xs.take i.toNat ++ [x] ++ xs.drop i.toNat)) P E → Q .non H1) : rInsG (.ref a) [.int i, v] H Q := by
  obtain ⟨vs, h1, h2⟩ := o
  unfold pins at h
  obtain ⟨hc, h⟩ := wpm_ite h
  exact ⟨a, vs, i, v, rfl, rfl, h1.at_, by rw [h2.len, line_eq]; exact hc.1, hc.2.1, hc.2.2, q _ (g.put h1 h0) ⟨_, h1.set, ((h2.take _).append (.cons r .nil)).append (h2.drop _)⟩ (fun c hc => upd_ne hc) h⟩
theorem All2.flat {R : V → α → Prop} {vs : List V} {xs : List α} (n : Nat) (h : All2 R vs xs) : All2 R (List.replicate n vs).flatten (List.replicate n xs).flatten := by
  induction n with
  | zero => exact .nil
  | succ n ih => simp only [List.replicate_succ, List.flatten_cons]; exact h.append ih
theorem s_repO {n : Int} {k : List α → M γ} (g : Gx L S0 H0 S H) (r : RepT K S H a xs) (h : wpm (prep xs n >>= k) P E) (q : ∀ p H1, Gx L S0 H0 S H1 → Gx [] S H S H1 → H p = none → OwnL K S H1 p (List.replicate n.toNat xs).flatten → wpm (k (List.replicate n.toNat xs).flatten) P E → Q (.ref p) H1) : rRep (.ref a) (.int n) H Q := by
  obtain ⟨vs, h1, h2⟩ := r
  unfold prep at h
  obtain ⟨hc, h⟩ := wpm_ite h
  exact ⟨a, n, vs, rfl, rfl, h1, hc.1, hc.2.1, by rw [h2.len, line_eq]; exact hc.2.2, newL_O g (h2.flat _) fun p H1 g1 g2 hp r => q p H1 g1 g2 hp r h⟩
theorem s_repS {n : Int} {k : List α → M γ} (g : Gx L S0 H0 S H) (r : RepT K S H a xs) (h : wpm (prep xs n >>= k) P E) (q : ∀ p S1 H1, Gx L S0 H0 S1 H1 → Gx [] S H S1 H1 → RepL K S1 p (List.replicate n.toNat xs).flatten → wpm (k (List.replicate n.toNat xs).flatten) P E → Q (.ref p) H1) : rRep (.ref a) (.int n) H Q := by
  obtain ⟨vs, h1, h2⟩ := r
  unfold prep at h
  obtain ⟨hc, h⟩ := wpm_ite h
  exact ⟨a, n, vs, rfl, rfl, h1, hc.1, hc.2.1, by rw [h2.len, line_eq]; exact hc.2.2, newL_S g (h2.flat _) fun p S1 H1 g1 g2 r => q p S1 H1 g1 g2 r h⟩
end
end G
/-! GLoop: loops and comprehensions beside their mirrors. -/
namespace G
open PySem L2 Evl

abbrev ForG (J : It) (g : TG) (tb : TS) (D : Ends) (σ : St) (H : Hp) : Prop :=
  ∃ W : Nat → Nat → St → Hp → Prop, (∃ m, W 0 m σ H) ∧ ∀ i m σ H, W i m σ H →
    (J.stop i H ∧ D.nx σ H) ∨ (J.go i H ∧ ∃ N : St → Hp → Prop, (∀ σ' H', N σ' H' → ∃ m', m' < m ∧ W (i + 1) m' σ' H') ∧ ∀ x H', J.yld i H x H' → g x σ H' fun σ2 H2 => tb { D with nx := N, ct := N, bk := D.nx } σ2 H2)

theorem drop_cons {α : Type} {xs : List α} {i : Nat} {y : α} (h : xs[i]? = some y) : xs.drop i = y :: xs.drop (i + 1) := by
  obtain ⟨hi, e⟩ := List.getElem?_eq_some_iff.mp h
  rw [List.drop_eq_getElem_cons hi, e]

section
variable {α τ ρ : Type} [Py α] {K : Fr} {J : It} {g : TG} {tb : TS} {D : Ends} {σ : St} {S H : Hp} {xs : List α} {s0 : τ} {E : XC → Prop}
theorem forCoreR {f : α → τ → M (ρ ⊕ τ)} {P : ρ ⊕ τ → Prop} (R : τ → St → Hp → Hp → Prop)
    (hgo : ∀ i s σ S H, R s σ S H → i < xs.length → J.go i H) (hst : ∀ s σ S H, R s σ S H → J.stop xs.length H)
    (hyl : ∀ i y s σ S H v H', R s σ S H → xs[i]? = some y → J.yld i H v H' → ∃ S', Gx [] S H S' H' ∧ Py.rep K S' v y)
    (h0 : R s0 σ S H) (h : wpm (forR xs s0 f) P E)
    (hs : ∀ y v s σ S H S' H' (P' : ρ ⊕ τ → Prop), (∀ r, P' (.inl r) → P (.inl r)) → R s σ S H → Gx [] S H S' H' → Py.rep K S' v y → wpm (f y s) P' E →
      g v σ H' fun σ2 H2 => tb { D with nx := fun σ' H' => ∃ s' S', P' (.inr s') ∧ R s' σ' S' H', ct := fun σ' H' => ∃ s' S', P' (.inr s') ∧ R s' σ' S' H', bk := D.nx } σ2 H2)
    (hd : ∀ s σ S H, R s σ S H → P (.inr s) → D.nx σ H) : ForG J g tb D σ H := by
  refine ⟨fun i m σ H => i + m = xs.length ∧ ∃ s S, R s σ S H ∧ wpm (forR (xs.drop i) s f) P E, ⟨xs.length, by omega, s0, S, h0, h⟩, fun i m σ H hW => ?_⟩
  obtain ⟨e, s, S, hR, hw⟩ := hW
  by_cases hi : i < xs.length
  · obtain ⟨y, hy⟩ : ∃ y, xs[i]? = some y := ⟨xs[i], List.getElem?_eq_getElem hi⟩
    rw [drop_cons hy] at hw
    refine .inr ⟨hgo i s σ S H hR hi, fun σ' H' => ∃ s' S', wpm (forR (xs.drop (i + 1)) s' f) P E ∧ R s' σ' S' H', fun σ' H' hN => ?_, fun v H' hy' => ?_⟩
    · obtain ⟨s', S', h1, h2⟩ := hN
      exact ⟨m - 1, by omega, by omega, s', S', h2, h1⟩
    · obtain ⟨S', g', rv⟩ := hyl i y s σ S H v H' hR hy hy'
      have hw' : wpm (f y s) (fun z => match z with
        | .inl r => P (.inl r)
        | .inr s' => wpm (forR (xs.drop (i + 1)) s' f) P E) E := by
        refine wpm_imp (wb hw) fun z hz => ?_
        cases z with
        | inl r => exact hz
        | inr s' => exact hz
      exact hs y v s σ S H S' H' (fun z => match z with
        | .inl r => P (.inl r)
        | .inr s' => wpm (forR (xs.drop (i + 1)) s' f) P E) (fun r h => h) hR g' rv hw'
  · have : xs.drop i = [] := List.drop_eq_nil_of_le (by omega)
    rw [this] at hw
    have hi' : i = xs.length := by omega
    subst hi'
    exact .inl ⟨hst s σ S H hR, hd s σ S H hR hw⟩
theorem forCore {f : α → τ → M τ} {P : τ → Prop} (R : τ → St → Hp → Hp → Prop)
    (hgo : ∀ i s σ S H, R s σ S H → i < xs.length → J.go i H) (hst : ∀ s σ S H, R s σ S H → J.stop xs.length H)
    (hyl : ∀ i y s σ S H v H', R s σ S H → xs[i]? = some y → J.yld i H v H' → ∃ S', Gx [] S H S' H' ∧ Py.rep K S' v y)
    (h0 : R s0 σ S H) (h : wpm (forM' xs s0 f) P E)
    (hs : ∀ y v s σ S H S' H' (P' : τ → Prop), R s σ S H → Gx [] S H S' H' → Py.rep K S' v y → wpm (f y s) P' E →
      g v σ H' fun σ2 H2 => tb { D with nx := fun σ' H' => ∃ s' S', P' s' ∧ R s' σ' S' H', ct := fun σ' H' => ∃ s' S', P' s' ∧ R s' σ' S' H', bk := D.nx } σ2 H2)
    (hd : ∀ s σ S H, R s σ S H → P s → D.nx σ H) : ForG J g tb D σ H := by
  refine ⟨fun i m σ H => i + m = xs.length ∧ ∃ s S, R s σ S H ∧ wpm (forM' (xs.drop i) s f) P E, ⟨xs.length, by omega, s0, S, h0, h⟩, fun i m σ H hW => ?_⟩
  obtain ⟨e, s, S, hR, hw⟩ := hW
  by_cases hi : i < xs.length
  · obtain ⟨y, hy⟩ : ∃ y, xs[i]? = some y := ⟨xs[i], List.getElem?_eq_getElem hi⟩
    rw [drop_cons hy] at hw
    refine .inr ⟨hgo i s σ S H hR hi, fun σ' H' => ∃ s' S', wpm (forM' (xs.drop (i + 1)) s' f) P E ∧ R s' σ' S' H', fun σ' H' hN => ?_, fun v H' hy' => ?_⟩
    · obtain ⟨s', S', h1, h2⟩ := hN
      exact ⟨m - 1, by omega, by omega, s', S', h2, h1⟩
    · obtain ⟨S', g', rv⟩ := hyl i y s σ S H v H' hR hy hy'
      exact hs y v s σ S H S' H' _ hR g' rv (wb hw)
  · have : xs.drop i = [] := List.drop_eq_nil_of_le (by omega)
    rw [this] at hw
    have hi' : i = xs.length := by omega
    subst hi'
    exact .inl ⟨hst s σ S H hR, hd s σ S H hR hw⟩
end

/-! ### over a list, a range, enumerate, zip -/
/-- what is walked, and what it gives -/
structure Wk {α τ : Type} [Py α] (K : Fr) (J : It) (xs : List α) (R : τ → St → Hp → Hp → Prop) : Prop where
  go : ∀ i s σ S H, R s σ S H → i < xs.length → J.go i H
  st : ∀ s σ S H, R s σ S H → J.stop xs.length H
  yl : ∀ i y s σ S H v H', R s σ S H → xs[i]? = some y → J.yld i H v H' → ∃ S', Gx [] S H S' H' ∧ Py.rep K S' v y
def en {α : Type} : Int → List α → List (Int × α × Unit)
  | _, [] => []
  | i, x :: xs => (i, x, ()) :: en (i + 1) xs
theorem en_len {α : Type} : ∀ (i : Int) (xs : List α), (en i xs).length = xs.length
  | _, [] => rfl
  | i, _ :: xs => by simp [en, en_len (i + 1) xs]
theorem en_get {α : Type} : ∀ (j : Int) (xs : List α) (i : Nat) (y : Int × α × Unit), (en j xs)[i]? = some y → ∃ x, xs[i]? = some x ∧ y = (j + (i : Int), x, ())
  | _, [], i, y, h => by simp [en] at h
  | j, x :: xs, 0, y, h => by simp [en] at h; subst h; exact ⟨x, rfl, by simp⟩
  | j, x :: xs, i + 1, y, h => by
    obtain ⟨z, h1, h2⟩ := en_get (j + 1) xs i y (by simpa [en] using h)
    exact ⟨z, by simpa using h1, by rw [h2]; congr 1; omega⟩
def zp {α β : Type} (xs : List α) (ys : List β) : List (α × β × Unit) := List.zipWith (fun x y => (x, y, ())) xs ys
section
variable {α β τ : Type} [Py α] [Py β] {K : Fr} {R : τ → St → Hp → Hp → Prop} {xs : List α} {ys : List β} {a b : Addr}
theorem wk_list (hR : ∀ s σ S H, R s σ S H → Ex S H ∧ RepH K S H a xs) : Wk K (Itl K a) xs R where
  go i s σ S H h hi := by
    obtain ⟨e, vs, h1, h2⟩ := hR s σ S H h
    exact ⟨vs, vs[i]'(by rw [h2.len]; exact hi), h1, List.getElem?_eq_getElem _⟩
  st s σ S H h := by
    obtain ⟨e, vs, h1, h2⟩ := hR s σ S H h
    exact ⟨vs, h1, by rw [h2.len]; exact Nat.le_refl _⟩
  yl i y s σ S H v H' h hy hv := by
    obtain ⟨e, vs, h1, h2⟩ := hR s σ S H h
    obtain ⟨rfl, h3⟩ := hv
    obtain ⟨u, hu, ru⟩ := h2.get hy
    have := h3 vs h1
    rw [hu] at this
    cases this
    exact ⟨S, Gx.refl e, ru⟩
theorem wk_tup {t : List α} (hR : ∀ s σ S H, R s σ S H → Ex S H ∧ ∃ vs, SqT K H a vs ∧ Reps K S vs t) : Wk K (Itt K a) t R where
  go i s σ S H h hi := by
    obtain ⟨e, vs, h1, h2⟩ := hR s σ S H h
    exact ⟨vs, vs[i]'(by rw [h2.len]; exact hi), h1, List.getElem?_eq_getElem _⟩
  st s σ S H h := by
    obtain ⟨e, vs, h1, h2⟩ := hR s σ S H h
    exact ⟨vs, h1, by rw [h2.len]; exact Nat.le_refl _⟩
  yl i y s σ S H v H' h hy hv := by
    obtain ⟨e, vs, h1, h2⟩ := hR s σ S H h
    obtain ⟨rfl, h3⟩ := hv
    obtain ⟨u, hu, ru⟩ := h2.get hy
    have := h3 vs h1
    rw [hu] at this
    cases this
    exact ⟨S, Gx.refl e, ru⟩
theorem rng_len (lo hi : Int) : (rng lo hi).length = (hi - lo).toNat := by simp [rng]
theorem rng_get {lo hi : Int} {i : Nat} {y : Int} (h : (rng lo hi)[i]? = some y) : y = lo + (i : Int) := by
  unfold rng at h
  rw [List.getElem?_map] at h
  cases e : (List.range (hi - lo).toNat)[i]? with
  | none => rw [e] at h; cases h
  | some k =>
    rw [e] at h
    obtain ⟨h1, h2⟩ := List.getElem?_eq_some_iff.mp e
    rw [List.getElem_range] at h2
    subst h2
    exact (Option.some.inj h).symm
theorem wk_rng {lo hi : Int} (hR : ∀ s σ S H, R s σ S H → Ex S H) : Wk K (Itr lo (hi - lo).toNat) (rng lo hi) R where
  go i s σ S H h hi := by rw [rng_len] at hi; exact hi
  st s σ S H h := by rw [rng_len]; exact Nat.le_refl _
  yl i y s σ S H v H' h hy hv := by
    obtain ⟨rfl, rfl⟩ := hv
    exact ⟨S, Gx.refl (hR s σ S _ h), by rw [rng_get hy]; rfl⟩
theorem wk_enum (hR : ∀ s σ S H, R s σ S H → Ex S H ∧ RepH K S H a xs) : Wk K (Ite K a) (en 0 xs) R where
  go i s σ S H h hi := by
    rw [en_len] at hi
    obtain ⟨e, vs, h1, h2⟩ := hR s σ S H h
    exact ⟨vs, vs[i]'(by rw [h2.len]; exact hi), h1, List.getElem?_eq_getElem _⟩
  st s σ S H h := by
    obtain ⟨e, vs, h1, h2⟩ := hR s σ S H h
    exact ⟨vs, h1, by rw [h2.len, en_len]; exact Nat.le_refl _⟩
  yl i y s σ S H v H' h hy hv := by
    obtain ⟨e, vs, h1, h2⟩ := hR s σ S H h
    obtain ⟨T, x, rfl, hT, rfl, h3⟩ := hv
    obtain ⟨z, hz, rfl⟩ := en_get _ _ _ _ hy
    obtain ⟨u, hu, ru⟩ := h2.get hz
    have := h3 vs h1
    rw [hu] at this
    obtain rfl := Option.some.inj this
    refine ⟨_, (Gx.refl e).newS hT, T, _, rfl, st_of upd_same, .int i, [_], rfl, ?_, _, [], rfl, Py.mono (Ex.new (fresh_back e hT)) ru, rfl⟩
    show V.int i = V.int (0 + (i : Int))
    rw [Int.zero_add]
theorem zp_get : ∀ (xs : List α) (ys : List β) (i : Nat) (z : α × β × Unit), (zp xs ys)[i]? = some z → ∃ x y, xs[i]? = some x ∧ ys[i]? = some y ∧ z = (x, y, ())
  | [], ys, i, z, h => by simp [zp] at h
  | x :: xs, [], i, z, h => by simp [zp] at h
  | x :: xs, y :: ys, 0, z, h => by simp [zp] at h; exact ⟨x, y, rfl, rfl, h.symm⟩
  | x :: xs, y :: ys, i + 1, z, h => by
    obtain ⟨u, v, h1, h2, h3⟩ := zp_get xs ys i z (by simpa [zp] using h)
    exact ⟨u, v, by simpa using h1, by simpa using h2, h3⟩
theorem zp_len (xs : List α) (ys : List β) : (zp xs ys).length = min xs.length ys.length := by simp [zp]
theorem wk_zip (hR : ∀ s σ S H, R s σ S H → Ex S H ∧ RepH K S H a xs ∧ RepH K S H b ys) : Wk K (Itz K a b) (zp xs ys) R where
  go i s σ S H h hi := by
    rw [zp_len] at hi
    obtain ⟨e, ⟨vs, h1, h2⟩, ws, h3, h4⟩ := hR s σ S H h
    refine ⟨vs, ws, vs[i]'(by rw [h2.len]; omega), ws[i]'(by rw [h4.len]; omega), h1, h3, List.getElem?_eq_getElem _, List.getElem?_eq_getElem _⟩
  st s σ S H h := by
    obtain ⟨e, ⟨vs, h1, h2⟩, ws, h3, h4⟩ := hR s σ S H h
    rw [zp_len]
    refine ⟨vs, ws, h1, h3, ?_⟩
    rw [h2.len, h4.len]; omega
  yl i y s σ S H v H' h hy hv := by
    obtain ⟨e, ⟨vs, h1, h2⟩, ws, h3, h4⟩ := hR s σ S H h
    obtain ⟨T, x1, x2, rfl, hT, rfl, h5, h6⟩ := hv
    obtain ⟨z1, z2, hz1, hz2, rfl⟩ := zp_get _ _ _ _ hy
    obtain ⟨u, hu, ru⟩ := h2.get hz1
    obtain ⟨u', hu', ru'⟩ := h4.get hz2
    have e1 := h5 vs h1
    have e2 := h6 ws h3
    rw [hu] at e1
    rw [hu'] at e2
    obtain rfl := Option.some.inj e1
    obtain rfl := Option.some.inj e2
    exact ⟨_, (Gx.refl e).newS hT, T, _, rfl, st_of upd_same, _, [_], rfl, Py.mono (Ex.new (fresh_back e hT)) ru, _, [], rfl, Py.mono (Ex.new (fresh_back e hT)) ru', rfl⟩
end
/-! ### the forms -/
section
variable {α τ ρ γ : Type} [Py α] {K : Fr} {J : It} {g : TG} {tb : TS} {D : Ends} {σ : St} {S H : Hp} {xs : List α} {s0 : τ} {E : XC → Prop} {P : γ → Prop}
theorem s_forM {f : α → τ → M τ} {k : τ → M γ} (R : τ → St → Hp → Hp → Prop) (w : Wk K J xs R) (h0 : R s0 σ S H) (h : wpm (forM' xs s0 f >>= k) P E)
    (hs : ∀ y v s σ S H S' H' (P' : τ → Prop), R s σ S H → Gx [] S H S' H' → Py.rep K S' v y → wpm (f y s) P' E →
      g v σ H' fun σ2 H2 => tb { D with nx := fun σ' H' => ∃ s' S', P' s' ∧ R s' σ' S' H', ct := fun σ' H' => ∃ s' S', P' s' ∧ R s' σ' S' H', bk := D.nx } σ2 H2)
    (hd : ∀ s σ S H, R s σ S H → wpm (k s) P E → D.nx σ H) : ForG J g tb D σ H := forCore R w.go w.st w.yl h0 (wb h) hs hd
theorem s_forR {f : α → τ → M (ρ ⊕ τ)} {k : ρ ⊕ τ → M γ} (R : τ → St → Hp → Hp → Prop) (w : Wk K J xs R) (h0 : R s0 σ S H) (h : wpm (forR xs s0 f >>= k) P E)
    (hs : ∀ y v s σ S H S' H' (P' : ρ ⊕ τ → Prop), (∀ r, P' (.inl r) → wpm (k (.inl r)) P E) → R s σ S H → Gx [] S H S' H' → Py.rep K S' v y → wpm (f y s) P' E →
      g v σ H' fun σ2 H2 => tb { D with nx := fun σ' H' => ∃ s' S', P' (.inr s') ∧ R s' σ' S' H', ct := fun σ' H' => ∃ s' S', P' (.inr s') ∧ R s' σ' S' H', bk := D.nx } σ2 H2)
    (hd : ∀ s σ S H, R s σ S H → wpm (k (.inr s)) P E → D.nx σ H) : ForG J g tb D σ H := forCoreR R w.go w.st w.yl h0 (wb h) hs hd
/-- the way to a loop over a list -/
theorem i_for {wi : TI} (q : wi σ H fun J H1 => ForG J g tb D σ H1) : tFor wi g tb D σ H := q
def listK (K : Fr) (R : It → Hp → Prop) (x : V) (H1 : Hp) : Prop := ∃ a, x = .ref a ∧ (∃ xs, SqL K H1 a xs) ∧ R (Itl K a) H1
def enumK (K : Fr) (R : It → Hp → Prop) (vs : List V) (H1 : Hp) : Prop := ∃ a xs, vs = [.ref a] ∧ SqL K H1 a xs ∧ R (Ite K a) H1
def zipK (K : Fr) (R : It → Hp → Prop) (vs : List V) (H1 : Hp) : Prop := ∃ a b xs ys, vs = [.ref a, .ref b] ∧ SqL K H1 a xs ∧ SqL K H1 b ys ∧ R (Itz K a b) H1
def rng1K (R : It → Hp → Prop) (vs : List V) (H1 : Hp) : Prop := ∃ j : Int, vs = [.int j] ∧ -(2 ^ 62) ≤ j ∧ j < 2 ^ 62 ∧ R (Itr 0 j.toNat) H1
def rng2K (R : It → Hp → Prop) (vs : List V) (H1 : Hp) : Prop := ∃ i j : Int, vs = [.int i, .int j] ∧ (-(2 ^ 62) ≤ i ∧ i < 2 ^ 62 ∧ -(2 ^ 62) ≤ j ∧ j < 2 ^ 62) ∧ R (Itr i (j - i).toNat) H1
theorem i_list {tl : TE} {R : It → Hp → Prop} (q : tl σ H fun x H1 => listK K R x H1) : iList K tl σ H R := q
theorem i_listA {a : Addr} {R : It → Hp → Prop} (r : RepH K S H a xs) (q : R (Itl K a) H) : listK K R (.ref a) H := by
  obtain ⟨vs, h1, _⟩ := r
  exact ⟨a, rfl, ⟨vs, h1⟩, q⟩
theorem i_enum {ta : TA} {R : It → Hp → Prop} (q : ta σ H fun vs H1 => enumK K R vs H1) : iEnum K ta σ H R := q
theorem i_enumA {a : Addr} {R : It → Hp → Prop} (r : RepH K S H a xs) (q : R (Ite K a) H) : enumK K R [.ref a] H := by
  obtain ⟨vs, h1, _⟩ := r
  exact ⟨a, vs, rfl, h1, q⟩
theorem i_zip {ta : TA} {R : It → Hp → Prop} (q : ta σ H fun vs H1 => zipK K R vs H1) : iZip K ta σ H R := q
theorem i_zipA {β : Type} [Py β] {ys : List β} {a b : Addr} {R : It → Hp → Prop} (r : RepH K S H a xs) (r2 : RepH K S H b ys) (q : R (Itz K a b) H) : zipK K R [.ref a, .ref b] H := by
  obtain ⟨vs, h1, _⟩ := r
  obtain ⟨ws, h2, _⟩ := r2
  exact ⟨a, b, vs, ws, rfl, h1, h2, q⟩
theorem i_rng1 {ta : TA} {R : It → Hp → Prop} (q : ta σ H fun vs H1 => rng1K R vs H1) : iRng1 ta σ H R := q
theorem i_rng2 {ta : TA} {R : It → Hp → Prop} (q : ta σ H fun vs H1 => rng2K R vs H1) : iRng2 ta σ H R := q
theorem i_rng1A {hi : Int} {k : List Int → M γ} {R : It → Hp → Prop} (h : wpm (prng 0 hi >>= k) P E) (q : wpm (k (rng 0 hi)) P E → R (Itr 0 (hi - 0).toNat) H) : rng1K R [.int hi] H := by
  unfold prng at h
  obtain ⟨hc, h⟩ := wpm_ite h
  refine ⟨hi, rfl, hc.2.2.1, hc.2.2.2, ?_⟩
  have := q h
  rw [Int.sub_zero] at this
  exact this
theorem i_rng2A {lo hi : Int} {k : List Int → M γ} {R : It → Hp → Prop} (h : wpm (prng lo hi >>= k) P E) (q : wpm (k (rng lo hi)) P E → R (Itr lo (hi - lo).toNat) H) : rng2K R [.int lo, .int hi] H := by
  unfold prng at h
  obtain ⟨hc, h⟩ := wpm_ite h
  exact ⟨lo, hi, rfl, hc, q h⟩
/-- while -/
theorem s_while {tc : TT} {n : Nat} {c : τ → M Bool} {f : τ → M τ} {k : τ → M γ} (R : τ → St → Hp → Hp → Prop) (h0 : R s0 σ S H) (h : wpm (whileM n s0 c f >>= k) P E)
    (hs : ∀ s σ S H (G : Bool → Hp → Prop) (PT : τ → Prop) (PF : Prop), (∀ H1, tb { D with nx := fun σ' H' => ∃ s' S', PT s' ∧ R s' σ' S' H', ct := fun σ' H' => ∃ s' S', PT s' ∧ R s' σ' S' H', bk := D.nx } σ H1 → G true H1) →
      (∀ S1 H1, PF → R s σ S1 H1 → G false H1) → R s σ S H → wpm (c s) (fun b => if b = true then wpm (f s) PT E else PF) E → tc σ H G)
    (hd : ∀ s σ S H, R s σ S H → wpm (k s) P E → D.nx σ H) : tWhile tc tb D σ H := by
  refine ⟨fun m σ H => ∃ s S, R s σ S H ∧ wpm (whileM m s c f) (fun s => wpm (k s) P E) E, ⟨n, s0, S, h0, wb h⟩, fun m σ H hW => ?_⟩
  obtain ⟨s, S, hR, hw⟩ := hW
  cases m with
  | zero => exact hw.elim
  | succ m =>
    have hw' : wpm (c s) (fun b => if b = true then wpm (f s) (fun s' => wpm (whileM m s' c f) (fun s => wpm (k s) P E) E) E else wpm (k s) P E) E := by
      refine wpm_imp (wb hw) fun b hb => ?_
      cases b with
      | true => exact wb hb
      | false => exact hb
    refine hs s σ S H _ _ _ (fun H1 hT => ?_) (fun S1 H1 hF hR => ?_) hR hw'
    · rw [if_pos rfl]
      refine ⟨_, fun σ' H' hN => ?_, hT⟩
      obtain ⟨s', S', h1, h2⟩ := hN
      exact ⟨m, Nat.lt_succ_self m, s', S', h2, h1⟩
    · rw [if_neg Bool.false_ne_true]
      exact hd s σ S1 H1 hR hF
theorem wh_split {G : Bool → Hp → Prop} {A B : Prop} {b : Bool} (hT : A → G true H) (hF : B → G false H) (h1 : b = true → A) (h2 : b = false → B) : G b H := by
  cases b with
  | true => exact hT (h1 rfl)
  | false => exact hF (h2 rfl)
end
end G
/-! GComp: comprehensions. -/
namespace G
open PySem L2 Evl

/-- no list is too long -/
def LenOk (K : Fr) (H : Hp) : Prop := ∀ a vs, SqL K H a vs → vs.length ≤ sizeLine
def iLen (K : Fr) (wi : TI) : TI := fun σ H R => wi σ H fun J H1 => LenOk K H1 → R J H1
theorem pi_len {X : Cx} {tg iter : PySem.Expr} {wi : TI} (h : PI X tg iter wi) : PI X tg iter (iLen X.K wi) :=
  ⟨fun pins s σ H R I hq => thn (h.run pins s σ H _ I hq) fun v s1 hv => thn hv fun it s2 hit => by
    obtain ⟨it, fp, tn, J, H', e, I', t, tn0, fpo, hr⟩ := hit
    exact ⟨it, fp, tn, J, H', e, I', t, tn0, fpo, hr fun a vs hs => by
      obtain ⟨_, _, _, hl⟩ := I'.list hs
      exact hl⟩⟩
theorem i_len {K : Fr} {wi : TI} {σ : St} {H : Hp} {R : It → Hp → Prop} (q : wi σ H fun J H1 => LenOk K H1 → R J H1) : iLen K wi σ H R := q

theorem RepH.up {α : Type} [Py α] {K : Fr} {S H S' H' : Hp} {a : Addr} {xs : List α} (r : RepH K S H a xs) (g : Gx [] S H S' H') : RepH K S' H' a xs := by
  obtain ⟨vs, h1, h2⟩ := r
  exact ⟨vs, ex_l g.ex h1, h2.mono g.s⟩
theorem RepH.len {α : Type} [Py α] {K : Fr} {S H : Hp} {a : Addr} {xs : List α} (r : RepH K S H a xs) (l : LenOk K H) : xs.length ≤ sizeLine := by
  obtain ⟨vs, h1, h2⟩ := r
  rw [← h2.len]; exact l a vs h1

section
variable {α β γ : Type} [Py α] [Py β] {K : Fr} {J : It} {g : TG} {tt : TT} {te : TE} {σ : St} {S H S0 H0 : Hp} {L : List Addr} {xs : List α} {E : XC → Prop} {P : γ → Prop} {vs : List Nat} {Q : VK}
abbrev LcG (J : It) (g : TG) (tt : TT) (te : TE) (vs : List Nat) (σ : St) (H1 : Hp) (Q : VK) : Prop :=
  ∀ D, H1 D = none → ∃ W : Nat → Nat → Hp → Prop, (∃ m, W 0 m (upd H1 D (.lst []))) ∧ ∀ i m H, W i m H →
  (J.stop i H ∧ Q (.ref D) H) ∨ (J.go i H ∧ ∃ Nx : Hp → Prop, (∀ H', Nx H' → ∃ m', m' < m ∧ W (i + 1) m' H') ∧ ∀ x H', J.yld i H x H' → g x (wipe σ vs) H' fun σ2 H2 => wipe σ2 vs = wipe σ vs ∧ tt σ2 H2 fun b H3 =>
    if b = true then te σ2 H3 fun y H4 => ∃ acc, H4 D = some (.lst acc) ∧ acc.length < sizeLine ∧ Nx (upd H4 D (.lst (acc ++ [y]))) else Nx H3)
theorem s_comp {f : α → M (Option β)} {k : List β → M γ} (w : Wk K J xs fun (_ : Unit) (_ : St) S' H' => Gx [] S H S' H') (hl : xs.length ≤ sizeLine) (g0 : Gx L S0 H0 S H) (h : wpm (compM xs f >>= k) P E)
    (hs : ∀ y v S1 H1 (P' : Option β → Prop) (T : V → Hp → Prop) (F : Hp → Prop), Gx [] S H S1 H1 → Py.rep K S1 v y → wpm (f y) P' E →
      (∀ z w S2 H2, P' (some z) → Gx [] S1 H1 S2 H2 → Py.rep K S2 w z → T w H2) → (∀ S2 H2, P' none → Gx [] S1 H1 S2 H2 → F H2) →
      g v (wipe σ vs) H1 fun σ2 H2 => wipe σ2 vs = wipe σ vs ∧ tt σ2 H2 fun b H3 => if b = true then te σ2 H3 T else F H3)
    (q : ∀ p S1 H1 ys, Gx L S0 H0 S1 H1 → Gx [] S H S1 H1 → H p = none → OwnL K S1 H1 p ys → wpm (k ys) P E → Q (.ref p) H1) : LcG J g tt te vs σ H Q := by
  intro D hD
  refine ⟨fun i m H' => i + m = xs.length ∧ ∃ S' acc ys, Gx [] S H S' H' ∧ Own S' H' D (.lst acc) ∧ Reps K S' acc ys ∧ acc.length ≤ i ∧ wpm (compM (xs.drop i) f) (fun zs => wpm (k (ys ++ zs)) P E) E,
    ⟨xs.length, by omega, S, [], [], (Gx.refl g0.sh).newO hD, ⟨upd_same, fresh_back g0.sh hD⟩, .nil, Nat.zero_le _, (by have hw0 := wb h; exact hw0)⟩, fun i m H' hW => ?_⟩
  obtain ⟨e, S', acc, ys, gg, o, rs, hal, hw⟩ := hW
  by_cases hi : i < xs.length
  · obtain ⟨y, hy⟩ : ∃ y, xs[i]? = some y := ⟨xs[i], List.getElem?_eq_getElem hi⟩
    rw [drop_cons hy] at hw
    refine .inr ⟨w.go i () σ S' H' gg hi, fun H' => i + 1 + (m - 1) = xs.length ∧ ∃ S' acc ys, Gx [] S H S' H' ∧ Own S' H' D (.lst acc) ∧ Reps K S' acc ys ∧ acc.length ≤ i + 1 ∧ wpm (compM (xs.drop (i + 1)) f) (fun zs => wpm (k (ys ++ zs)) P E) E,
      fun H' hN => ⟨m - 1, by omega, hN⟩, fun v H1 hy' => ?_⟩
    obtain ⟨S1, g1, rv⟩ := w.yl i y () σ S' H' v H1 gg hy hy'
    refine hs y v S1 H1 (fun o => match o with
      | none => wpm (compM (xs.drop (i + 1)) f) (fun zs => wpm (k (ys ++ zs)) P E) E
      | some z => wpm (compM (xs.drop (i + 1)) f) (fun zs => wpm (k (ys ++ z :: zs)) P E) E) _ _ (gg.trans0 g1) rv ?_ (fun z w S2 H2 hz g2 rw_ => ?_) (fun S2 H2 hz g2 => ?_)
    · refine wpm_imp (wb hw) fun o ho => ?_
      cases o with
      | none => exact ho
      | some z => exact wpm_imp (wb ho) fun zs hz => hz
    · have o2 := (o.keep0 g1).keep0 g2
      refine ⟨acc, o2.at_, by omega, by omega, S2, acc ++ [w], ys ++ [z], ((gg.trans0 g1).trans0 g2).put o2 (.inl hD), o2.set, ((rs.mono g1.s).mono g2.s).snoc rw_, by simp; omega, ?_⟩
      simp only [List.append_assoc, List.singleton_append]
      exact hz
    · have o2 := (o.keep0 g1).keep0 g2
      exact ⟨by omega, S2, acc, ys, (gg.trans0 g1).trans0 g2, o2, (rs.mono g1.s).mono g2.s, by omega, hz⟩
  · have : xs.drop i = [] := List.drop_eq_nil_of_le (by omega)
    rw [this] at hw
    have hi' : i = xs.length := by omega
    subst hi'
    refine .inl ⟨w.st () σ S' H' gg, q D S' H' ys (g0.trans0 gg) gg hD ⟨acc, o, rs⟩ ?_⟩
    have hw' : wpm (k (ys ++ [])) P E := hw
    rw [List.append_nil] at hw'
    exact hw'
/-- the same; the new list stays as it is -/
theorem s_compS {f : α → M (Option β)} {k : List β → M γ} (w : Wk K J xs fun (_ : Unit) (_ : St) S' H' => Gx [] S H S' H') (hl : xs.length ≤ sizeLine) (g0 : Gx L S0 H0 S H) (h : wpm (compM xs f >>= k) P E)
    (hs : ∀ y v S1 H1 (P' : Option β → Prop) (T : V → Hp → Prop) (F : Hp → Prop), Gx [] S H S1 H1 → Py.rep K S1 v y → wpm (f y) P' E →
      (∀ z w S2 H2, P' (some z) → Gx [] S1 H1 S2 H2 → Py.rep K S2 w z → T w H2) → (∀ S2 H2, P' none → Gx [] S1 H1 S2 H2 → F H2) →
      g v (wipe σ vs) H1 fun σ2 H2 => wipe σ2 vs = wipe σ vs ∧ tt σ2 H2 fun b H3 => if b = true then te σ2 H3 T else F H3)
    (q : ∀ p S1 H1 ys, Gx L S0 H0 S1 H1 → Gx [] S H S1 H1 → RepL K S1 p ys → wpm (k ys) P E → Q (.ref p) H1) : LcG J g tt te vs σ H Q :=
  s_comp w hl g0 h hs fun p S1 H1 ys g1 g2 hp o hk => o.frz g2 hp fun S2 g3 e hb r => q p S2 H1 ys (g0.trans0 g3) g3 r hk
end
/-- .. its mirror -/
def compZ {α β τ : Type} : List α → τ → (α → τ → M (Option β × τ)) → M (List β × τ)
  | [], s, _ => .ok ([], s)
  | x :: xs, s, f => f x s >>= fun o => compZ xs o.2 f >>= fun r => .ok (match o.1 with
    | none => r.1
    | some y => y :: r.1, r.2)
section
variable {α β γ τ : Type} [Py α] [Py β] {K : Fr} {J : It} {g : TG} {tt : TT} {te : TE} {σ : St} {S H S0 H0 : Hp} {L Lb : List Addr} {xs : List α} {s0 : τ} {E : XC → Prop} {P : γ → Prop} {vs : List Nat} {Q : VK}
theorem s_compZ {f : α → τ → M (Option β × τ)} {k : List β × τ → M γ} (R : τ → Hp → Hp → Prop) (hRL : ∀ s S' H' p u, R s S' H' → p ∉ Lb → R s S' (upd H' p u)) (hLb : ∀ b ∈ Lb, H b ≠ none) (hLL : ∀ b ∈ Lb, b ∈ L ∨ H0 b = none)
    (w : Wk K J xs fun (s : τ) (_ : St) S' H' => Gx Lb S H S' H' ∧ R s S' H') (hl : xs.length ≤ sizeLine) (g0 : Gx L S0 H0 S H) (h0 : R s0 S H) (h : wpm (compZ xs s0 f >>= k) P E)
    (hs : ∀ y v s S1 H1 S2 H2 (P' : Option β × τ → Prop) (T : V → Hp → Prop) (F : Hp → Prop), Gx Lb S H S1 H1 → R s S1 H1 → Gx [] S1 H1 S2 H2 → Py.rep K S2 v y → wpm (f y s) P' E →
      (∀ z w s' S3 H3, P' (some z, s') → R s' S3 H3 → Gx Lb S2 H2 S3 H3 → Py.rep K S3 w z → T w H3) → (∀ s' S3 H3, P' (none, s') → R s' S3 H3 → Gx Lb S2 H2 S3 H3 → F H3) →
      g v (wipe σ vs) H2 fun σ2 H2 => wipe σ2 vs = wipe σ vs ∧ tt σ2 H2 fun b H3 => if b = true then te σ2 H3 T else F H3)
    (q : ∀ p S1 H1 ys s, Gx L S0 H0 S1 H1 → Gx Lb S H S1 H1 → R s S1 H1 → H p = none → OwnL K S1 H1 p ys → wpm (k (ys, s)) P E → Q (.ref p) H1) : LcG J g tt te vs σ H Q := by
  intro D hD
  have hDb : D ∉ Lb := fun hb => hLb D hb hD
  refine ⟨fun i m H' => i + m = xs.length ∧ ∃ s S' acc ys, Gx Lb S H S' H' ∧ R s S' H' ∧ Own S' H' D (.lst acc) ∧ Reps K S' acc ys ∧ acc.length ≤ i ∧ wpm (compZ (xs.drop i) s f) (fun zs => wpm (k (ys ++ zs.1, zs.2)) P E) E,
    ⟨xs.length, by omega, s0, S, [], [], ((Gx.refl g0.sh).newO hD), hRL _ _ _ _ _ h0 hDb, ⟨upd_same, fresh_back g0.sh hD⟩, .nil, Nat.zero_le _, (by have hw0 := wb h; exact hw0)⟩, fun i m H' hW => ?_⟩
  obtain ⟨e, s, S', acc, ys, gg, hR, o, rs, hal, hw⟩ := hW
  by_cases hi : i < xs.length
  · obtain ⟨y, hy⟩ : ∃ y, xs[i]? = some y := ⟨xs[i], List.getElem?_eq_getElem hi⟩
    rw [drop_cons hy] at hw
    refine .inr ⟨w.go i s σ S' H' ⟨gg, hR⟩ hi, fun H' => i + 1 + (m - 1) = xs.length ∧ ∃ s S' acc ys, Gx Lb S H S' H' ∧ R s S' H' ∧ Own S' H' D (.lst acc) ∧ Reps K S' acc ys ∧ acc.length ≤ i + 1 ∧ wpm (compZ (xs.drop (i + 1)) s f) (fun zs => wpm (k (ys ++ zs.1, zs.2)) P E) E,
      fun H' hN => ⟨m - 1, by omega, hN⟩, fun v H1 hy' => ?_⟩
    obtain ⟨S1, g1, rv⟩ := w.yl i y s σ S' H' v H1 ⟨gg, hR⟩ hy hy'
    refine hs y v s S' H' S1 H1 (fun o => wpm (compZ (xs.drop (i + 1)) o.2 f) (fun zs => wpm (k (ys ++ (match o.1 with
      | none => zs.1
      | some z => z :: zs.1), zs.2)) P E) E) _ _ gg hR g1 rv ?_ (fun z w s' S2 H2 hz hR2 g2 rw_ => ?_) (fun s' S2 H2 hz hR2 g2 => ?_)
    · refine wpm_imp (wb hw) fun o ho => ?_
      exact wpm_imp (wb ho) fun zs hz => hz
    · have o2 := (o.keep0 g1).keep g2 hDb
      refine ⟨acc, o2.at_, by omega, by omega, s', S2, acc ++ [w], ys ++ [z], ((gg.trans0 g1).trans g2 fun x hx => .inl hx).put o2 (.inl hD), hRL _ _ _ _ _ hR2 hDb, o2.set, ((rs.mono g1.s).mono g2.s).snoc rw_, by simp; omega, ?_⟩
      simp only [List.append_assoc, List.singleton_append]
      exact hz
    · have o2 := (o.keep0 g1).keep g2 hDb
      exact ⟨by omega, s', S2, acc, ys, (gg.trans0 g1).trans g2 fun x hx => .inl hx, hR2, o2, (rs.mono g1.s).mono g2.s, by omega, hz⟩
  · have : xs.drop i = [] := List.drop_eq_nil_of_le (by omega)
    rw [this] at hw
    have hi' : i = xs.length := by omega
    subst hi'
    refine .inl ⟨w.st s σ S' H' ⟨gg, hR⟩, q D S' H' ys s (g0.trans gg hLL) gg hR hD ⟨acc, o, rs⟩ ?_⟩
    have hw' : wpm (k (ys ++ [], s)) P E := hw
    rw [List.append_nil] at hw'
    exact hw'
theorem i_lc {wi : TI} (q : wi σ H fun J H1 => LcG J g tt te vs σ H1 Q) : tLc wi g tt te vs σ H Q := q
end
theorem i_yes {σ : St} {H : Hp} {Q : Bool → Hp → Prop} (q : Q true H) : tYes σ H Q := q
/-! no error leaves -/
theorem wb_ne {α γ : Type} {m : M α} {k : α → M γ} {P : γ → Prop} {E : XC → Prop} (h : wpm (noerr m >>= k) P E) : wpm m (fun a => wpm (k a) P E) (fun _ => False) := by
  cases m with
  | stuck => exact h
  | err c => exact h
  | ok a => exact h
/-! ### == and != of data -/
class PyD (α : Type) extends Py α where
  toD : α → PyData
  dp : ∀ {K : Fr} {S : Hp} {v : V} {x : α}, Py.rep K S v x → Dp K S v (toD x)
  lay : ∀ x, (toD x).canLay0 = true
  dep : Nat
  dle : ∀ x, (toD x).depth ≤ dep
instance : PyD Int where
  toD := .int
  dp := fun h => by cases h; exact .int _
  lay := fun _ => rfl
  dep := 0
  dle := fun _ => Nat.le_refl _
instance : PyD Bool where
  toD := .bool
  dp := fun h => by cases h; exact .bl _
  lay := fun _ => rfl
  dep := 0
  dle := fun _ => Nat.le_refl _
instance instOptD {α : Type} [PyD α] : PyD (Option α) where
  toD := fun o => match o with
    | none => .none
    | some x => PyD.toD x
  dp := fun {_ _ _ o} h => by
    cases o with
    | none =>
      have h' : _ = V.non := h
      subst h'; exact .non
    | some x => exact PyD.dp (x := x) h
  lay := fun o => by
    cases o with
    | none => rfl
    | some x => exact PyD.lay x
  dep := PyD.dep α
  dle := fun o => by
    cases o with
    | none => exact Nat.zero_le _
    | some x => exact PyD.dle x
theorem canAll {α : Type} [PyD α] : ∀ xs : List α, PyData.canLayAll0 (xs.map PyD.toD) = true
  | [] => rfl
  | x :: xs => by
    show (PyData.canLay0 (PyD.toD x) && PyData.canLayAll0 (xs.map PyD.toD)) = true
    rw [PyD.lay x, canAll xs]; rfl
theorem depAll {α : Type} [PyD α] : ∀ xs : List α, PyData.depthAll (xs.map PyD.toD) ≤ PyD.dep α
  | [] => Nat.zero_le _
  | x :: xs => by
    show max (PyData.depth (PyD.toD x)) (PyData.depthAll (xs.map PyD.toD)) ≤ _
    exact Nat.max_le.2 ⟨PyD.dle x, depAll xs⟩
theorem dpAll {α : Type} [PyD α] {K : Fr} {S : Hp} : ∀ {vs : List V} {xs : List α}, All2 (Py.rep K S) vs xs → DpAll K S vs (xs.map PyD.toD)
  | _, _, .nil => .nil
  | _, _, .cons h t => .cons (PyD.dp h) (dpAll t)
instance {α : Type} [PyD α] : PyD (List α) where
  toD := fun xs => .list (xs.map PyD.toD)
  dp := fun {_ _ _ _} h => by
    obtain ⟨a, rfl, vs, h1, h2⟩ := h
    exact .lst (sq_of h1) (dpAll h2)
  lay := fun xs => by
    show PyData.canLayAll0 _ = true
    exact canAll xs
  dep := PyD.dep α + 1
  dle := fun xs => Nat.succ_le_succ (depAll xs)
class PyTD (α : Type) extends PyT α where
  toDs : α → List PyData
  dps : ∀ {K : Fr} {S : Hp} {vs : List V} {x : α}, PyT.rept K S vs x → DpAll K S vs (toDs x)
  lays : ∀ x, PyData.canLayAll0 (toDs x) = true
  deps : Nat
  dles : ∀ x, PyData.depthAll (toDs x) ≤ deps
instance : PyTD Unit where
  toDs := fun _ => []
  dps := fun h => by cases h; exact .nil
  lays := fun _ => rfl
  deps := 0
  dles := fun _ => Nat.le_refl _
instance {α β : Type} [PyD α] [PyTD β] : PyTD (α × β) where
  toDs := fun x => PyD.toD x.1 :: PyTD.toDs x.2
  dps := fun {_ _ _ _} h => by
    obtain ⟨v, r, rfl, h1, h2⟩ := h
    exact .cons (PyD.dp h1) (PyTD.dps h2)
  lays := fun x => by
    show (PyData.canLay0 (PyD.toD x.1) && PyData.canLayAll0 (PyTD.toDs x.2)) = true
    rw [PyD.lay, PyTD.lays]; rfl
  deps := max (PyD.dep α) (PyTD.deps β)
  dles := fun x => by
    show max _ _ ≤ _
    exact Nat.max_le.2 ⟨Nat.le_trans (PyD.dle x.1) (Nat.le_max_left _ _), Nat.le_trans (PyTD.dles x.2) (Nat.le_max_right _ _)⟩
instance {α β : Type} [PyD α] [PyTD β] : PyD (α × β) where
  toD := fun x => .tuple (PyTD.toDs x)
  dp := fun {_ _ _ _} h => by
    obtain ⟨a, vs, rfl, h1, h2⟩ := h
    exact .tup h1 (PyTD.dps h2)
  lay := fun x => PyTD.lays x
  dep := PyTD.deps (α × β) + 1
  dle := fun x => Nat.succ_le_succ (PyTD.dles x)
theorem shaped_of {α : Type} [PyD α] (x : α) (h : PyD.dep α ≤ 64) : SeqAt.shaped (PyD.toD x) = true := by
  show ((PyD.toD x).canLay0 && decide ((PyD.toD x).depth ≤ 64)) = true
  rw [PyD.lay, decide_eq_true (Nat.le_trans (PyD.dle x) h)]; rfl
/-- == by values -/
class PyEq (α : Type) extends PyD α where
  eqv_iff : ∀ x y : α, (PyData.eqv (toD x) (toD y) = true) ↔ x = y
instance : PyEq Int where
  eqv_iff := fun x y => by show (x == y) = true ↔ x = y; exact beq_iff_eq
instance : PyEq Bool where
  eqv_iff := fun x y => by show (x == y) = true ↔ x = y; exact beq_iff_eq
/-- what is no None -/
class ND (α : Type) [PyD α] : Prop where
  nd : ∀ x : α, PyData.eqv .none (PyD.toD x) = false ∧ PyData.eqv (PyD.toD x) .none = false
instance : ND Int := ⟨fun x => ⟨rfl, rfl⟩⟩
instance : ND Bool := ⟨fun x => ⟨rfl, rfl⟩⟩
instance {α : Type} [PyD α] : ND (List α) := ⟨fun x => ⟨rfl, rfl⟩⟩
instance {α β : Type} [PyD α] [PyTD β] : ND (α × β) := ⟨fun x => ⟨rfl, rfl⟩⟩
instance {α : Type} [PyEq α] [ND α] : PyEq (Option α) where
  eqv_iff := fun x y => by
    cases x with
    | none => cases y with
      | none => exact ⟨fun _ => rfl, fun _ => rfl⟩
      | some y =>
        refine ⟨fun h => ?_, fun h => nomatch h⟩
        have := (ND.nd y).1
        have h' : PyData.eqv .none (PyD.toD y) = true := h
        rw [this] at h'; cases h'
    | some x => cases y with
      | none =>
        refine ⟨fun h => ?_, fun h => nomatch h⟩
        have := (ND.nd x).2
        have h' : PyData.eqv (PyD.toD x) .none = true := h
        rw [this] at h'; cases h'
      | some y => exact (PyEq.eqv_iff x y).trans ⟨fun h => congrArg some h, fun h => Option.some.inj h⟩
theorem eqvAll_iff {α : Type} [PyEq α] : ∀ xs ys : List α, PyData.eqvAll (xs.map PyD.toD) (ys.map PyD.toD) = true ↔ xs = ys
  | [], [] => ⟨fun _ => rfl, fun _ => rfl⟩
  | [], _ :: _ => ⟨(fun h => nomatch h), (fun h => nomatch h)⟩
  | _ :: _, [] => ⟨(fun h => nomatch h), (fun h => nomatch h)⟩
  | x :: xs, y :: ys => by
    show (PyData.eqv (PyD.toD x) (PyD.toD y) && PyData.eqvAll (xs.map PyD.toD) (ys.map PyD.toD)) = true ↔ _
    rw [Bool.and_eq_true, PyEq.eqv_iff, eqvAll_iff xs ys, List.cons.injEq]
instance {α : Type} [PyEq α] : PyEq (List α) where
  eqv_iff := fun xs ys => eqvAll_iff xs ys
class PyTEq (α : Type) extends PyTD α where
  eqvs_iff : ∀ x y : α, (PyData.eqvAll (toDs x) (toDs y) = true) ↔ x = y
instance : PyTEq Unit where
  eqvs_iff := fun _ _ => ⟨fun _ => rfl, fun _ => rfl⟩
instance {α β : Type} [PyEq α] [PyTEq β] : PyTEq (α × β) where
  eqvs_iff := fun x y => by
    show (PyData.eqv (PyD.toD x.1) (PyD.toD y.1) && PyData.eqvAll (PyTD.toDs x.2) (PyTD.toDs y.2)) = true ↔ _
    rw [Bool.and_eq_true, PyEq.eqv_iff, PyTEq.eqvs_iff, Prod.ext_iff]
instance {α β : Type} [PyEq α] [PyTEq β] : PyEq (α × β) where
  eqv_iff := fun x y => PyTEq.eqvs_iff x y
theorem eqv_dec {α : Type} [PyEq α] [DecidableEq α] (x y : α) : PyData.eqv (PyD.toD x) (PyD.toD y) = decide (x = y) := by
  by_cases h : x = y
  · rw [decide_eq_true h]; exact (PyEq.eqv_iff x y).2 h
  · rw [decide_eq_false h]
    cases e : PyData.eqv (PyD.toD x) (PyD.toD y) with
    | false => rfl
    | true => exact absurd ((PyEq.eqv_iff x y).1 e) h
section
variable {α : Type} [PyEq α] [DecidableEq α] {K : Fr} {S H : Hp} {u v : V} {x y : α} {Q : VK}
theorem s_eqD (e : Ex S H) (hx : Py.rep K S u x) (hy : Py.rep K S v y) (q : Q (.bl (decide (x = y))) H) (hd : PyD.dep α ≤ 64 := by decide) : rEqD K u v H Q :=
  ⟨_, _, Dp.mono e (PyD.dp hx), Dp.mono e (PyD.dp hy), shaped_of x hd, shaped_of y hd, by rw [eqv_dec]; exact q⟩
theorem s_neD (e : Ex S H) (hx : Py.rep K S u x) (hy : Py.rep K S v y) (q : Q (.bl (!decide (x = y))) H) (hd : PyD.dep α ≤ 64 := by decide) : rNeD K u v H Q :=
  ⟨_, _, Dp.mono e (PyD.dp hx), Dp.mono e (PyD.dp hy), shaped_of x hd, shaped_of y hd, by rw [eqv_dec]; exact q⟩
/-- one's own list as data, now -/
theorem OwnL.dp {β : Type} [PyD β] {a : Addr} {xs : List β} (o : OwnL K S H a xs) (e : Ex S H) : Dp K H (.ref a) (PyD.toD xs) := by
  obtain ⟨vs, h1, h2⟩ := o
  exact .lst (sq_of h1.at_) (dpAll (h2.mono e))
theorem s_eqDD (hx : Dp K H u (PyD.toD x)) (hy : Dp K H v (PyD.toD y)) (q : Q (.bl (decide (x = y))) H) (hd : PyD.dep α ≤ 64 := by decide) : rEqD K u v H Q :=
  ⟨_, _, hx, hy, shaped_of x hd, shaped_of y hd, by rw [eqv_dec]; exact q⟩
theorem s_neDD (hx : Dp K H u (PyD.toD x)) (hy : Dp K H v (PyD.toD y)) (q : Q (.bl (!decide (x = y))) H) (hd : PyD.dep α ≤ 64 := by decide) : rNeD K u v H Q :=
  ⟨_, _, hx, hy, shaped_of x hd, shaped_of y hd, by rw [eqv_dec]; exact q⟩
end
end G
/-! GCut: joins; what a call gives. -/
namespace G
open PySem L2 Evl
section
variable {γ τ : Type} {P : γ → Prop} {E : XC → Prop} {σ : St} {S H : Hp} {QB : Bool → Hp → Prop} {Q : VK} {uu : TT} {ta tb : TE} {a b : Bool} {Lb : List Addr} {D : Ends} {ts tw tu : TS} {tt : TT}
/-! the second test is simple -/
theorem and_s (b : Bool) (h1 : ∀ N : Bool → Hp → Prop, N b H → uu σ H N) (q : QB (a && b) H) : andK uu σ QB a H := by
  cases a with
  | true => exact h1 _ q
  | false => exact q
theorem or_s (b : Bool) (h1 : ∀ N : Bool → Hp → Prop, N b H → uu σ H N) (q : QB (a || b) H) : orK uu σ QB a H := by
  cases a with
  | true => exact q
  | false => exact h1 _ q
theorem andV_s (b : Bool) (h1 : ∀ N : VK, N (.bl b) H → tb σ H N) (q : Q (.bl (a && b)) H) : andVK tb σ Q (.bl a) H := by
  refine ⟨a, rfl, ?_⟩
  cases a with
  | true => exact h1 _ q
  | false => exact q
theorem orV_s (b : Bool) (h1 : ∀ N : VK, N (.bl b) H → tb σ H N) (q : Q (.bl (a || b)) H) : orVK tb σ Q (.bl a) H := by
  refine ⟨a, rfl, ?_⟩
  cases a with
  | true => exact q
  | false => exact h1 _ q
theorem chain_s {r' : R2} {y : V} {tc : TE} (b : Bool) (h1 : ∀ N : VK, N (.bl b) H → tc σ H fun w' H4 => r' y w' H4 N) (q : Q (.bl (a && b)) H) : chainK r' tc σ Q y (.bl a) H := by
  refine ⟨a, rfl, ?_⟩
  cases a with
  | true => exact h1 _ q
  | false => exact q
theorem ife_s {α : Type} [Flat α] {x y : α} (b : Bool) (h1 : ∀ N : VK, N (Flat.toV x) H → ta σ H N) (h2 : ∀ N : VK, N (Flat.toV y) H → tb σ H N) (q : Q (Flat.toV (if b = true then x else y)) H) : if b = true then ta σ H Q else tb σ H Q := by
  cases b with
  | true => exact h1 _ q
  | false => exact h2 _ q
/-! the second test says something -/
theorem and_m {mB : M Bool} {k : Bool → M γ} (h : wpm ((if a = true then mB else .ok false) >>= k) P E) (e : Ex S H)
    (h1 : a = true → ∀ (PB : Bool → Prop) (N : Bool → Hp → Prop), wpm mB PB E → (∀ c S1 H1, Gx [] S H S1 H1 → PB c → N c H1) → uu σ H N)
    (h2 : ∀ c S1 H1, Gx [] S H S1 H1 → wpm (k c) P E → QB c H1) : andK uu σ QB a H := by
  cases a with
  | true => exact h1 rfl _ _ (wb h) h2
  | false => exact h2 _ _ _ (Gx.refl e) h
theorem or_m {mB : M Bool} {k : Bool → M γ} (h : wpm ((if a = true then .ok true else mB) >>= k) P E) (e : Ex S H)
    (h1 : a = false → ∀ (PB : Bool → Prop) (N : Bool → Hp → Prop), wpm mB PB E → (∀ c S1 H1, Gx [] S H S1 H1 → PB c → N c H1) → uu σ H N)
    (h2 : ∀ c S1 H1, Gx [] S H S1 H1 → wpm (k c) P E → QB c H1) : orK uu σ QB a H := by
  cases a with
  | true => exact h2 _ _ _ (Gx.refl e) h
  | false => exact h1 rfl _ _ (wb h) h2
theorem andV_m {mB : M Bool} {k : Bool → M γ} (h : wpm ((if a = true then mB else .ok false) >>= k) P E) (e : Ex S H)
    (h1 : a = true → ∀ (PB : Bool → Prop) (N : VK), wpm mB PB E → (∀ c S1 H1, Gx [] S H S1 H1 → PB c → N (.bl c) H1) → tb σ H N)
    (h2 : ∀ c S1 H1, Gx [] S H S1 H1 → wpm (k c) P E → Q (.bl c) H1) : andVK tb σ Q (.bl a) H := by
  refine ⟨a, rfl, ?_⟩
  cases a with
  | true => exact h1 rfl _ _ (wb h) h2
  | false => exact h2 _ _ _ (Gx.refl e) h
theorem orV_m {mB : M Bool} {k : Bool → M γ} (h : wpm ((if a = true then .ok true else mB) >>= k) P E) (e : Ex S H)
    (h1 : a = false → ∀ (PB : Bool → Prop) (N : VK), wpm mB PB E → (∀ c S1 H1, Gx [] S H S1 H1 → PB c → N (.bl c) H1) → tb σ H N)
    (h2 : ∀ c S1 H1, Gx [] S H S1 H1 → wpm (k c) P E → Q (.bl c) H1) : orVK tb σ Q (.bl a) H := by
  refine ⟨a, rfl, ?_⟩
  cases a with
  | true => exact h2 _ _ _ (Gx.refl e) h
  | false => exact h1 rfl _ _ (wb h) h2
theorem ife_m {α : Type} [Py α] {K : Fr} {mA mB : M α} {k : α → M γ} (h : wpm ((if b = true then mA else mB) >>= k) P E) (e : Ex S H)
    (h1 : b = true → ∀ (PB : α → Prop) (N : VK), wpm mA PB E → (∀ x v S1 H1, Gx [] S H S1 H1 → Py.rep K S1 v x → PB x → N v H1) → ta σ H N)
    (h3 : b = false → ∀ (PB : α → Prop) (N : VK), wpm mB PB E → (∀ x v S1 H1, Gx [] S H S1 H1 → Py.rep K S1 v x → PB x → N v H1) → tb σ H N)
    (h2 : ∀ x v S1 H1, Gx [] S H S1 H1 → Py.rep K S1 v x → wpm (k x) P E → Q v H1) : if b = true then ta σ H Q else tb σ H Q := by
  cases b with
  | true => exact h1 rfl _ _ (wb h) h2
  | false => exact h3 rfl _ _ (wb h) h2
/-! .. and changes something -/
theorem andV_z {mB : M (Bool × τ)} {s0 : τ} {k : Bool × τ → M γ} (R : τ → Hp → Hp → Prop) (h0 : R s0 S H) (h : wpm ((if a = true then mB else .ok (false, s0)) >>= k) P E) (e : Ex S H)
    (h1 : a = true → ∀ (PB : Bool × τ → Prop) (N : VK), wpm mB PB E → (∀ c s S1 H1, Gx Lb S H S1 H1 → R s S1 H1 → PB (c, s) → N (.bl c) H1) → tb σ H N)
    (h2 : ∀ c s S1 H1, Gx Lb S H S1 H1 → R s S1 H1 → wpm (k (c, s)) P E → Q (.bl c) H1) : andVK tb σ Q (.bl a) H := by
  refine ⟨a, rfl, ?_⟩
  cases a with
  | true => exact h1 rfl _ _ (wb h) h2
  | false => exact h2 _ _ _ _ (Gx.refl e) h0 h
theorem and_z {mB : M (Bool × τ)} {s0 : τ} {k : Bool × τ → M γ} (R : τ → Hp → Hp → Prop) (h0 : R s0 S H) (h : wpm ((if a = true then mB else .ok (false, s0)) >>= k) P E) (e : Ex S H)
    (h1 : a = true → ∀ (PB : Bool × τ → Prop) (N : Bool → Hp → Prop), wpm mB PB E → (∀ c s S1 H1, Gx Lb S H S1 H1 → R s S1 H1 → PB (c, s) → N c H1) → uu σ H N)
    (h2 : ∀ c s S1 H1, Gx Lb S H S1 H1 → R s S1 H1 → wpm (k (c, s)) P E → QB c H1) : andK uu σ QB a H := by
  cases a with
  | true => exact h1 rfl _ _ (wb h) h2
  | false => exact h2 _ _ _ _ (Gx.refl e) h0 h
theorem or_z {mB : M (Bool × τ)} {s0 : τ} {k : Bool × τ → M γ} (R : τ → Hp → Hp → Prop) (h0 : R s0 S H) (h : wpm ((if a = true then .ok (true, s0) else mB) >>= k) P E) (e : Ex S H)
    (h1 : a = false → ∀ (PB : Bool × τ → Prop) (N : Bool → Hp → Prop), wpm mB PB E → (∀ c s S1 H1, Gx Lb S H S1 H1 → R s S1 H1 → PB (c, s) → N c H1) → uu σ H N)
    (h2 : ∀ c s S1 H1, Gx Lb S H S1 H1 → R s S1 H1 → wpm (k (c, s)) P E → QB c H1) : orK uu σ QB a H := by
  cases a with
  | true => exact h2 _ _ _ _ (Gx.refl e) h0 h
  | false => exact h1 rfl _ _ (wb h) h2
/-! an if whose ways meet -/
theorem i_ifJ {m : M τ} {k : τ → M γ} (R : τ → St → Hp → Hp → Prop) (h : wpm (m >>= k) P E)
    (h1 : ∀ (PJ : τ → Prop) (N : St → Hp → Prop), (∀ s σ' S' H', PJ s → R s σ' S' H' → N σ' H') → wpm m PJ E → tt σ H fun b H1 => if b = true then ts { D with nx := N } σ H1 else tw { D with nx := N } σ H1)
    (h2 : ∀ s σ' S' H', R s σ' S' H' → wpm (k s) P E → tu D σ' H') : tSeq (tIfS tt ts tw) tu D σ H :=
  h1 _ _ (fun s σ' S' H' hp hr => h2 s σ' S' H' hr hp) (wb h)
/-- the same as the last statement -/
theorem i_ifJ1 {m : M τ} {k : τ → M γ} (R : τ → St → Hp → Hp → Prop) (h : wpm (m >>= k) P E)
    (h1 : ∀ (PJ : τ → Prop) (N : St → Hp → Prop), (∀ s σ' S' H', PJ s → R s σ' S' H' → N σ' H') → wpm m PJ E → tt σ H fun b H1 => if b = true then ts { D with nx := N } σ H1 else tw { D with nx := N } σ H1)
    (h2 : ∀ s σ' S' H', R s σ' S' H' → wpm (k s) P E → D.nx σ' H') : tIfS tt ts tw D σ H :=
  h1 _ _ (fun s σ' S' H' hp hr => h2 s σ' S' H' hr hp) (wb h)
/-- .. and may return -/
theorem i_ifR1 {ρ : Type} {m : M (ρ ⊕ τ)} {k : ρ ⊕ τ → M γ} (R : τ → St → Hp → Hp → Prop) (h : wpm (m >>= k) P E)
    (h1 : ∀ (PJ : ρ ⊕ τ → Prop) (N : St → Hp → Prop), (∀ r, PJ (.inl r) → wpm (k (.inl r)) P E) → (∀ s σ' S' H', PJ (.inr s) → R s σ' S' H' → N σ' H') → wpm m PJ E → tt σ H fun b H1 => if b = true then ts { D with nx := N } σ H1 else tw { D with nx := N } σ H1)
    (h2 : ∀ s σ' S' H', R s σ' S' H' → wpm (k (.inr s)) P E → D.nx σ' H') : tIfS tt ts tw D σ H :=
  h1 _ _ (fun r h => h) (fun s σ' S' H' hp hr => h2 s σ' S' H' hr hp) (wb h)
end
theorem Gx.back {L : List Addr} {S H S' H' : Hp} {p : Addr} (g : Gx L S H S' H') (h : H' p = none) : H p = none := by
  cases e : H p with
  | none => rfl
  | some o => exact absurd h (g.th p (by rw [e]; simp))
/-! ### a def of the text, by its name -/
structure Dfn (P : Program) (w : World) (K : Fr) (mg : PySem.Str → Option Value) (base : Heap) (x : PySem.Str) (k : Nat) (ps : List PySem.Str) (sp : Sp) : Prop where
  ex : ∃ f fd, mg x = some (.ref f) ∧ PySem.W.keepIn K (.ref f) = true ∧ Binds K fd ps [] ∧ FnOk P w K mg base (L2N.CX P w) k f fd ps sp
/-- where it stands -/
structure At (K : Fr) (mg : PySem.Str → Option Value) (x : PySem.Str) (st : PySem.Stmt) (ps : List PySem.Str) : Prop where
  ex : ∃ f fd, mg x = some (.ref f) ∧ FunD K x x (defArgs st) (defBody st) (defScope st) [] [] f fd ∧ Binds K fd ps []
theorem Dfn.mk' {P : Program} {w : World} {K : Fr} {mg : PySem.Str → Option Value} {base : Heap} {x : PySem.Str} {k : Nat} {ps : List PySem.Str} {sp : Sp} {st : PySem.Stmt} (A : At K mg x st ps)
    (h : ∀ f fd, FunD K x x (defArgs st) (defBody st) (defScope st) [] [] f fd → FnOk P w K mg base (L2N.CX P w) k f fd ps sp) : Dfn P w K mg base x k ps sp := by
  obtain ⟨f, fd, h1, h2, h3⟩ := A.ex
  exact ⟨f, fd, h1, h2.kp, h3, h f fd h2⟩
end G
/-! GRule: rules that the layer lacks. -/
namespace G
open PySem L2 Evl PySem.Spec PyProof.Rows
section
variable {X : Cx} {a b c d : PySem.Expr} {ta tb tc td : TE} {pos : Pos}
/-- a op1 b op2 c op3 d -/
def tChain3 (r r' r'' : R2) (ta tb tc td : TE) : TE := fun σ H Q => ta σ H fun x H1 => tb σ H1 fun y H2 => r x y H2 fun z H3 => ∃ k, z = .bl k ∧
  (if k = true then tc σ H3 fun w' H4 => r' y w' H4 fun z H5 => ∃ k, z = .bl k ∧ (if k = true then td σ H5 fun u' H6 => r'' w' u' H6 Q else Q (.bl false) H5) else Q (.bl false) H3)
theorem pe_chain3 {op op' op'' : CmpOp} {r r' r'' : R2} (ho : OpR X (compareOp op) r) (ho' : OpR X (compareOp op') r') (ho'' : OpR X (compareOp op'') r'') (ha : PE X a ta) (hb : PE X b tb) (hc : PE X c tc) (hd : PE X d td)
    (hm : lastMarks [op, op', op''] [b, c, d] = false := by with_unfolding_all rfl) : PE X (.Compare a [op, op', op''] [b, c, d] pos) (tChain3 r r' r'' ta tb tc td) := by
  refine ⟨fun pins s σ H Q I h => ?_⟩
  refine Compare_chain (thn (ha.run pins s σ H _ I h) fun v s1 ⟨x, H1, I1, r1, q1⟩ => chain_link (thn (hb.run pins s1 σ H1 _ I1 q1) fun u s2 ⟨y, H2, I2, r2, q2⟩ =>
    thn (ho pins s2 σ H2 x y v u _ I2 r1 r2 q2) fun e s3 ⟨z, H3, I3, r3, k, e1, q3⟩ => ?_)) hm
  subst e1
  cases r3
  refine wpAny_truthy_bool ?_
  cases k with
  | false => exact ite_ff ⟨.bl false, H3, I3, rfl, q3⟩
  | true =>
    refine ite_tt (chain_link (thn (hc.run pins s3 σ H3 _ I3 q3) fun w' s4 ⟨z', H4, I4, r4, q4⟩ => thn (ho' pins s4 σ H4 y z' u w' _ I4 r2 r4 q4) fun e s5 ⟨z5, H5, I5, r5, k5, e5, q5⟩ => ?_))
    subst e5
    cases r5
    refine wpAny_truthy_bool ?_
    cases k5 with
    | false => exact ite_ff ⟨.bl false, H5, I5, rfl, q5⟩
    | true => exact ite_tt (chain_last (thn (hd.run pins s5 σ H5 _ I5 q5) fun w6 s6 ⟨z6, H6, I6, r6, q6⟩ => ho'' pins s6 σ H6 z' z6 w' w6 Q I6 r4 r6 q6))
theorem pt_chain3 {op op' op'' : CmpOp} {r r' r'' : R2} (ho : OpR X (compareOp op) r) (ho' : OpR X (compareOp op') r') (ho'' : OpR X (compareOp op'') r'') (ha : PE X a ta) (hb : PE X b tb) (hc : PE X c tc) (hd : PE X d td)
    (hm : lastMarks [op, op', op''] [b, c, d] = false := by with_unfolding_all rfl) : PT X (.Compare a [op, op', op''] [b, c, d] pos) (tTest (tChain3 r r' r'' ta tb tc td)) := by
  refine ⟨fun pins s σ H Q I h => ?_⟩
  refine isTrue_chain (thn (ha.run pins s σ H _ I h) fun v s1 ⟨x, H1, I1, r1, q1⟩ => test_link (thn (hb.run pins s1 σ H1 _ I1 q1) fun u s2 ⟨y, H2, I2, r2, q2⟩ =>
    thn (ho pins s2 σ H2 x y v u _ I2 r1 r2 q2) fun e s3 ⟨z, H3, I3, r3, k, e1, q3⟩ => ?_)) hm
  subst e1
  cases r3
  refine wpAny_truthy_bool ?_
  cases k with
  | false =>
    obtain ⟨k', e', q'⟩ := q3
    cases e'
    exact ite_ff ⟨H3, I3, q'⟩
  | true =>
    refine ite_tt (test_link (thn (hc.run pins s3 σ H3 _ I3 q3) fun w' s4 ⟨z', H4, I4, r4, q4⟩ => thn (ho' pins s4 σ H4 y z' u w' _ I4 r2 r4 q4) fun e s5 ⟨z5, H5, I5, r5, k5, e5, q5⟩ => ?_))
    subst e5
    cases r5
    refine wpAny_truthy_bool ?_
    cases k5 with
    | false =>
      obtain ⟨k', e', q'⟩ := q5
      cases e'
      exact ite_ff ⟨H5, I5, q'⟩
    | true =>
      refine ite_tt (test_last (thn (hd.run pins s5 σ H5 _ I5 q5) fun w6 s6 ⟨z6, H6, I6, r6, q6⟩ => thn (ho'' pins s6 σ H6 z' z6 w' w6 _ I6 r4 r6 q6) fun d' s7 ⟨z7, H7, I7, r7, k7, e7, q7⟩ => ?_))
      subst e7
      cases r7
      exact wpAny_truthy_bool ⟨H7, I7, q7⟩
end
def chain3K (r' r'' : R2) (tc td : TE) (σ : St) (Q : VK) (y z : V) (H3 : Hp) : Prop := ∃ k, z = .bl k ∧
  (if k = true then tc σ H3 fun w' H4 => r' y w' H4 fun z H5 => ∃ k, z = .bl k ∧ (if k = true then td σ H5 fun u' H6 => r'' w' u' H6 Q else Q (.bl false) H5) else Q (.bl false) H3)
section
variable {σ : St} {H : Hp} {Q : VK} {ta tb tc td : TE}
theorem i_chain3 {r r' r'' : R2} (q : ta σ H fun x H1 => tb σ H1 fun y H2 => r x y H2 fun z H3 => chain3K r' r'' tc td σ Q y z H3) : tChain3 r r' r'' ta tb tc td σ H Q := q
theorem chain3_s {a : Bool} {r' r'' : R2} {y w : V} (b c : Bool) (h1 : ∀ N : V → Hp → Prop, N w H → tc σ H N) (hb : ∀ N : VK, N (.bl b) H → r' y w H N) (h2 : ∀ N : VK, N (.bl c) H → td σ H fun u' H6 => r'' w u' H6 N) (q : Q (.bl (a && b && c)) H) :
    chain3K r' r'' tc td σ Q y (.bl a) H := by
  refine ⟨a, rfl, ?_⟩
  cases a with
  | false => exact q
  | true =>
    refine h1 _ (hb _ ⟨b, rfl, ?_⟩)
    cases b with
    | false => exact q
    | true => exact h2 _ q
end
end G
/-! GAux: more steps. -/
namespace G
open PySem L2 Evl
def fuelW : Nat := 1000000
def kR {ρ τ : Type} (z : ρ ⊕ τ) (f : τ → M ρ) : M ρ := match z with
  | .inl r => .ok r
  | .inr s => f s
def kRR {ρ τ υ : Type} (z : ρ ⊕ τ) (f : τ → M (ρ ⊕ υ)) : M (ρ ⊕ υ) := match z with
  | .inl r => .ok (.inl r)
  | .inr s => f s
def bint (b : Bool) : Int := if b = true then 1 else 0
def iabs (i : Int) : Int := if i < 0 then -i else i
def partK (R : Option Int → Hp → Prop) (x : V) (H : Hp) : Prop := ∃ i, x = .int i ∧ R (some i) H
def newK (Q : VK) (o : HO) (H : Hp) : Prop := ∀ p, H p = none → Q (.ref p) (upd H p o)
def lstK (Q : VK) (xs : List V) (H : Hp) : Prop := xs.length ≤ sizeLine ∧ newK Q (.lst xs) H
def tupK (Q : VK) (xs : List V) (H : Hp) : Prop := xs.length ≤ sizeLine ∧ newK Q (.tup xs) H
def revK (K : Fr) (Q : VK) (x : V) (H1 : Hp) : Prop := ∃ a xs, x = .ref a ∧ SqL K H1 a xs ∧ newK Q (.lst xs.reverse) H1
def rIsNG : R2 := fun x y H Q => y = .non ∧ Q (.bl (decide (x = .non))) H
def rNotNG : R2 := fun x y H Q => y = .non ∧ Q (.bl (!decide (x = .non))) H
theorem op_isNG {X : Cx} : OpR X (compareOp .Is) rIsNG := op_isN
theorem op_notNG {X : Cx} : OpR X (compareOp .IsNot) rNotNG := op_notN
def rAbsG : List V → Hp → VK → Prop := fun xs H Q => ∃ i, xs = [.int i] ∧ Q (.int (if i < 0 then -i else i)) H
theorem call_absG {X : Cx} : CallR X (.builtin "abs") rAbsG := call_abs
def rMax2G : List V → Hp → VK → Prop := fun xs H Q => ∃ i j, xs = [.int i, .int j] ∧ Q (.int (if j > i then j else i)) H
theorem call_max2G {X : Cx} (hc : X.calm = true) : CallR X (.builtin "max") rMax2G := call_max2 hc
def rMin2G : List V → Hp → VK → Prop := fun xs H Q => ∃ i j, xs = [.int i, .int j] ∧ Q (.int (if j < i then j else i)) H
theorem call_min2G {X : Cx} (hc : X.calm = true) : CallR X (.builtin "min") rMin2G := call_min2 hc
def rInt1G : List V → Hp → VK → Prop := fun xs H Q => (∃ i, xs = [.int i] ∧ Q (.int i) H) ∨ ∃ k, xs = [.bl k] ∧ Q (.int (if k then 1 else 0)) H
theorem call_int1G {X : Cx} : CallR X (.type "int") rInt1G := call_int1
section
variable {σ σ' : St} {H S : Hp} {Q : VK} {D : Ends} {K : Fr} {v x y : V} {ta tb tc te : TE} {t : TA} {ts : TS} {QA : List V → Hp → Prop} {b : Bool}
theorem i_start {N : List PySem.Str} {vs : List V} (e : start N vs = σ) (q : ts D σ H) : ts D (start N vs) H := by rw [e]; exact q
theorem i_nameE {i : Nat} {Qs : St → Hp → Prop} (e : σ.set i (some v) = σ') (q : Qs σ' H) : gName i v σ H Qs := by
  show Qs (σ.set i (some v)) H
  rw [e]; exact q
theorem i_aug {i : Nat} {ti : TIp} (h : σ[i]? = some (some x)) (q : te σ H fun y H1 => ti x y H1 fun z H2 => D.nx (σ.set i (some z)) H2) : tAug i te ti D σ H := ⟨x, h, q⟩
theorem i_ipI {f : Int → Int → Int} {i j : Int} (q : Q (.int (f i j)) H) : ipI f (.int i) (.int j) H Q := ⟨i, j, rfl, rfl, q⟩
theorem i_sig {i : Nat} {Qs : St → Hp → Prop} (e : σ.set i (some v) = σ') (q : Qs σ' H) : Qs (σ.set i (some v)) H := by rw [e]; exact q
theorem s_pow {i j k : Int} (hc : CPow i j) (e : i ^ j.toNat = k) (q : Q (.int k) H) : rI CPow (fun i j => .int (i ^ j.toNat)) (.int i) (.int j) H Q := ⟨i, j, rfl, rfl, hc, by show Q (.int (i ^ j.toNat)) H; rw [e]; exact q⟩
theorem i_varU {i : Nat} {o : Option Int} {k : Int} (h : σ[i]? = some (some (optV o))) (e : o = some k) (q : Q (.int k) H) : tVar i σ H Q := ⟨_, h, by rw [e]; exact q⟩
theorem i_cast {u v : V} (w : V) (e : u = w) (q : Q w H) : Q u H := by rw [e]; exact q
theorem i_unw {o : Option Int} {i : Int} (e : o = some i) (q : Q (.int i) H) : Q (optV o) H := by rw [e]; exact q
theorem i_noPart {R : Option Int → Hp → Prop} (q : R none H) : tNoPart σ H R := q
theorem i_part {R : Option Int → Hp → Prop} (q : te σ H fun x H1 => partK R x H1) : tPart te σ H R := q
theorem i_partI {R : Option Int → Hp → Prop} {i : Int} (q : R (some i) H) : partK R (.int i) H := ⟨i, rfl, q⟩
theorem i_sl {r : V → Option Int → Option Int → Hp → VK → Prop} {tl th : TO} (q : te σ H fun x H1 => tl σ H1 fun l H2 => th σ H2 fun u H3 => r x l u H3 Q) : tSl r te tl th σ H Q := q
theorem i_revL (q : te σ H fun x H1 => revK K Q x H1) : tRevL K te σ H Q := q
theorem i_lst (q : t σ H fun xs H1 => lstK Q xs H1) : tLst t σ H Q := q
theorem i_tup (q : t σ H fun xs H1 => tupK Q xs H1) : tTup t σ H Q := q
theorem s_isN {c : Bool} (e : decide (x = .non) = c) (q : Q (.bl c) H) : rIsNG x .non H Q := ⟨rfl, by rw [e]; exact q⟩
theorem s_notN {c : Bool} (e : decide (x = .non) = c) (q : Q (.bl (!c)) H) : rNotNG x .non H Q := ⟨rfl, by rw [e]; exact q⟩
theorem s_abs {i : Int} (q : Q (.int (iabs i)) H) : rAbsG [.int i] H Q := ⟨i, rfl, q⟩
theorem s_intB {b : Bool} (q : Q (.int (bint b)) H) : rInt1G [.bl b] H Q := .inr ⟨b, rfl, by
  have e : (if b = true then (1 : Int) else 0) = bint b := by cases b <;> rfl
  rw [e]; exact q⟩
theorem s_intI {i : Int} (q : Q (.int i) H) : rInt1G [.int i] H Q := .inl ⟨i, rfl, q⟩
theorem s_max2 {i j : Int} (q : Q (.int (max i j)) H) : rMax2G [.int i, .int j] H Q := ⟨i, j, rfl, by
  rw [show (if j > i then j else i) = max i j by split <;> omega]; exact q⟩
theorem s_min2 {i j : Int} (q : Q (.int (min i j)) H) : rMin2G [.int i, .int j] H Q := ⟨i, j, rfl, by
  rw [show (if j < i then j else i) = min i j by split <;> omega]; exact q⟩
end
section
variable {α γ : Type} [Py α] {K : Fr} {P : γ → Prop} {E : XC → Prop} {S H S0 H0 S' H' : Hp} {L : List Addr} {a b p : Addr} {xs ys : List α} {vs : List V} {Q : VK}
theorem s_lstS (g : Gx L S0 H0 S H) (hr : Reps K S vs xs) (hl : vs.length ≤ 16777216) (q : ∀ p S1 H1, Gx L S0 H0 S1 H1 → Gx [] S H S1 H1 → RepL K S1 p xs → Q (.ref p) H1) :
    lstK Q vs H := ⟨by rw [sizeLine_eq]; exact hl, newL_S g hr q⟩
theorem s_lstO (g : Gx L S0 H0 S H) (hr : Reps K S vs xs) (hl : vs.length ≤ 16777216) (q : ∀ p H1, Gx L S0 H0 S H1 → Gx [] S H S H1 → H p = none → OwnL K S H1 p xs → Q (.ref p) H1) :
    lstK Q vs H := ⟨by rw [sizeLine_eq]; exact hl, newL_O g hr q⟩
theorem s_tup {τ υ : Type} [Py τ] [PyT υ] {t : τ × υ} (g : Gx L S0 H0 S H) (hr : PyT.rept K S vs t) (hl : vs.length ≤ 16777216) (q : ∀ p S1 H1, Gx L S0 H0 S1 H1 → Gx [] S H S1 H1 → Py.rep K S1 (.ref p) t → Q (.ref p) H1) :
    tupK Q vs H := ⟨by rw [sizeLine_eq]; exact hl, newT_S g hr fun p S1 H1 g1 g2 h => q p S1 H1 g1 g2 ⟨p, vs, rfl, h.1, h.2⟩⟩
theorem s_idxFU {xs : List (Option Int)} {i : Int} {k : Int → M γ} (r : RepH K S H a xs) (h : wpm (idx xs i >>= fun x => unwrap x >>= k) P E) (q : ∀ x, wpm (k x) P E → Q (.int x) H) : rIxL K (.ref a) (.int i) H Q :=
  s_idxF r h fun x h => by
    obtain ⟨y, e, h⟩ := wpm_unwrap h
    subst e
    exact q y h
theorem s_revS (g : Gx L S0 H0 S H) (r : RepH K S H a xs) (q : ∀ p S1 H1, Gx L S0 H0 S1 H1 → Gx [] S H S1 H1 → RepL K S1 p xs.reverse → Q (.ref p) H1) :
    revK K Q (.ref a) H := by
  obtain ⟨vs, h1, h2⟩ := r
  exact ⟨a, vs, rfl, h1, newL_S g (All2.reverse h2) q⟩
theorem s_revO (g : Gx L S0 H0 S H) (r : RepH K S H a xs) (q : ∀ p H1, Gx L S0 H0 S H1 → Gx [] S H S H1 → H p = none → OwnL K S H1 p xs.reverse → Q (.ref p) H1) :
    revK K Q (.ref a) H := by
  obtain ⟨vs, h1, h2⟩ := r
  exact ⟨a, vs, rfl, h1, newL_O g (All2.reverse h2) q⟩
/-- an item of a tuple -/
theorem s_ixT {i : Nat} {v : V} (hs : SqT K H a vs) (e : vs[i]? = some v) (q : Q v H) : rIxT K (.ref a) (.int ((i : Nat) : Int)) H Q :=
  ⟨a, vs, _, v, rfl, rfl, hs, atI_nat e, q⟩
theorem s_ixTn {i : Int} {v : V} (hs : SqT K H a vs) (e : atI vs i = some v) (q : Q v H) : rIxT K (.ref a) (.int i) H Q :=
  ⟨a, vs, _, v, rfl, rfl, hs, e, q⟩
theorem Reps.opt (h : Reps K S vs xs) : Reps K S vs (xs.map some) := by
  induction h with
  | nil => exact .nil
  | cons h _ ih => exact .cons h ih
theorem RepL.opt (h : RepL K S a xs) : RepL K S a (xs.map some) := by
  obtain ⟨vs, h1, h2⟩ := h
  exact ⟨vs, h1, Reps.opt h2⟩
theorem rept_nil : PyT.rept K S [] () := rfl
theorem rept_cons {β υ : Type} [Py β] [PyT υ] {v : V} {r : List V} {x : β} {y : υ} (h : Py.rep K S v x) (h2 : PyT.rept K S r y) : PyT.rept K S (v :: r) (x, y) := ⟨v, r, rfl, h, h2⟩
theorem rep_ref {β υ : Type} [Py β] [PyT υ] {v : V} {t : β × υ} (h : Py.rep K S v t) : ∃ a, v = .ref a := by
  obtain ⟨a, vs, e, _⟩ := h
  exact ⟨a, e⟩
theorem rep_at {β υ : Type} [Py β] [PyT υ] {t : β × υ} (h : Py.rep K S (.ref a) t) : ∃ vs, SqT K S a vs ∧ PyT.rept K S vs t := by
  obtain ⟨b, vs, e, h1, h2⟩ := h
  cases e
  exact ⟨vs, h1, h2⟩
theorem OwnL.there (o : OwnL K S H a xs) : H a ≠ none := by
  obtain ⟨vs, h1, _⟩ := o
  rw [h1.at_]; simp
theorem OwnL.lift2 (o : OwnL K S H a xs) (hb : ∀ b, b ≠ p → S' b = S b) (e : Ex S S') (hne : a ≠ p) : OwnL K S' H a xs := by
  obtain ⟨vs, h1, h2⟩ := o
  exact ⟨vs, ⟨h1.at_, by rw [hb a hne]; exact h1.free⟩, h2.mono e⟩
theorem ex_frz {o : HO} (w : Own S H a o) (e : Ex S H) : Ex (upd S a o) H := fun b u h => by
  unfold upd at h
  split at h
  · rename_i q; subst q; cases h; exact w.at_
  · exact e b u h
/-- the call told nothing new -/
theorem Gx.undo {S1 S2 : Hp} (g : Gx [] S1 H S2 H') (e : Ex S H) : Gx [] S H S H' := ⟨Ex.refl S, g.h, e.trans g.ex, g.th, fun _ _ h => h⟩
theorem line_le {β : Type} {ys : List β} (h : decide (ys.length ≤ line) = true) : ys.length ≤ sizeLine := by rw [line_eq]; exact of_decide_eq_true h
theorem wh_split2 {G : Bool → Hp → Prop} {A B PT PF : Prop} {b : Bool} (hT : A → G true H) (hF : PF → B → G false H) (h : wpm (M.ok b) (fun b => if b = true then PT else PF) E)
    (h1 : PT → A) (h2 : PF → PF ∧ B) : G b H := by
  cases b with
  | true => exact hT (h1 h)
  | false => exact hF (h2 h).1 (h2 h).2
end
/-! ### members -/
theorem eqV_int {i j : Int} : eqV (.int i) (.int j) = decide (i = j) := by
  show (i == j) = decide (i = j)
  by_cases h : i = j <;> simp [h]
theorem eqV_opt {i j : Option Int} : eqV (optV i) (optV j) = decide (i = j) := by
  cases i <;> cases j
  · rfl
  · rfl
  · rfl
  · rename_i a b
    show (a == b) = decide (some a = some b)
    by_cases h : a = b <;> simp [h]
class FlatEq (α : Type) extends Flat α where
  fl : ∀ x : α, flatV (Flat.toV x) = true
  eqv : ∀ x y : α, eqV (Flat.toV x) (Flat.toV y) = true ↔ x = y
instance : FlatEq Int where
  fl := fun _ => rfl
  eqv := fun x y => by show eqV (.int x) (.int y) = true ↔ _; rw [eqV_int, decide_eq_true_eq]
instance : FlatEq (Option Int) where
  fl := fun x => by cases x <;> rfl
  eqv := fun x y => by show eqV (optV x) (optV y) = true ↔ _; rw [eqV_opt, decide_eq_true_eq]
instance : FlatEq Bool where
  fl := fun _ => rfl
  eqv := fun x y => by cases x <;> cases y <;> decide
theorem reps_flat {α : Type} [Flat α] {K : Fr} {S : Hp} : ∀ {vs : List V} {xs : List α}, Reps K S vs xs → vs = xs.map Flat.toV
  | _, _, .nil => rfl
  | _, _, .cons h t => by rw [Flat.is.1 h, reps_flat t]; rfl
theorem flat_reps {α : Type} [Flat α] {K : Fr} {S : Hp} : ∀ xs : List α, Reps K S (xs.map Flat.toV) xs
  | [] => .nil
  | x :: xs => .cons (Flat.is.2 rfl) (flat_reps xs)
theorem inV_flat {α : Type} [FlatEq α] [DecidableEq α] (x : α) : ∀ xs : List α, inV (Flat.toV x) (xs.map Flat.toV) = decide (x ∈ xs)
  | [] => rfl
  | y :: ys => by
    have ih := inV_flat x ys
    unfold inV at ih ⊢
    rw [List.map_cons, List.any_cons, ih]
    by_cases h : x = y
    · subst h; rw [(FlatEq.eqv x x).2 rfl]; simp
    · have : eqV (Flat.toV y) (Flat.toV x) = false := by
        cases e : eqV (Flat.toV y) (Flat.toV x) with
        | false => rfl
        | true => exact absurd ((FlatEq.eqv y x).1 e).symm h
      rw [this]; simp [h]
section
variable {α γ : Type} [FlatEq α] [DecidableEq α] {K : Fr} {S H : Hp} {a : Addr} {xs : List α} {Q : VK}
theorem s_inY {x : α} (r : RepH K S H a xs) (q : Q (.bl (decide (x ∈ xs))) H) : rIn K false (Flat.toV x) (.ref a) H Q := by
  obtain ⟨vs, h1, h2⟩ := r
  have e := reps_flat h2
  subst e
  refine ⟨a, _, rfl, .inl h1, FlatEq.fl x, by rw [List.all_map]; exact List.all_eq_true.2 fun y _ => FlatEq.fl y, ?_⟩
  show Q (.bl (inV _ _)) H
  rw [inV_flat]; exact q
theorem s_inN {x : α} (r : RepH K S H a xs) (q : Q (.bl (!decide (x ∈ xs))) H) : rIn K true (Flat.toV x) (.ref a) H Q := by
  obtain ⟨vs, h1, h2⟩ := r
  have e := reps_flat h2
  subst e
  refine ⟨a, _, rfl, .inl h1, FlatEq.fl x, by rw [List.all_map]; exact List.all_eq_true.2 fun y _ => FlatEq.fl y, ?_⟩
  show Q (.bl (!inV _ _)) H
  rw [inV_flat]; exact q
end
/-! ### the own classes of error, as they stand -/
structure XcOk (K : Fr) (mg : PySem.Str → Option Value) (ca : XC → Addr) (c : XC) (x : PySem.Str) : Prop where
  ex : PySem.W.excIn K (ca c) [.type "ValueError", .type "Exception", .type "BaseException", .type "object"] "ValueError.__new__" = true
  mg : mg x = some (.ref (ca c))
  kp : PySem.W.keepIn K (.ref (ca c)) = true
  sb : PySem.W.subIn K (.ref (ca c)) (.type "BaseException") = some true
  ty : PySem.W.typeIn K (.ref (ca c)) = some (.type "type")
end G
/-! GDict: dicts with whole numbers as keys. -/
namespace G
open PySem L2 Evl
def dfind {α : Type} (kvs : List (Int × α)) (k : Int) : Option α := (kvs.find? fun p => decide (p.1 = k)).map (·.2)
def dput {α : Type} (kvs : List (Int × α)) (k : Int) (v : α) : List (Int × α) := if (kvs.any fun p => decide (p.1 = k)) = true then kvs.map fun p => if p.1 = k then (p.1, v) else p else kvs ++ [(k, v)]
def pdput {α : Type} (kvs : List (Int × α)) (k : Int) (v : α) : M (List (Int × α)) := if kvs.length < line then .ok (dput kvs k v) else .stuck
def ditem {α : Type} (kvs : List (Int × α)) (k : Int) : M α := match dfind kvs k with
  | some x => .ok x
  | none => .stuck
def RelD {α : Type} [Py α] (K : Fr) (S : Hp) (p : Key × V) (q : Int × α) : Prop := p.1 = .inl q.1 ∧ Py.rep K S p.2 q.2
def OwnD {α : Type} [Py α] (K : Fr) (S H : Hp) (a : Addr) (kvs : List (Int × α)) : Prop := ∃ ws, Own S H a (.dK ws) ∧ All2 (RelD K S) ws kvs
section
variable {α γ : Type} [Py α] {K : Fr} {P : γ → Prop} {E : XC → Prop} {S H S0 H0 S' H' : Hp} {L L' : List Addr} {a b p : Addr} {kvs : List (Int × α)} {ws : List (Key × V)} {Q : VK}
theorem reld_mono (e : Ex S S') (h : All2 (RelD K S) ws kvs) : All2 (RelD K S') ws kvs := h.imp fun _ _ h => ⟨h.1, Py.mono e h.2⟩
theorem OwnD.keep (o : OwnD K S H a kvs) (g : Gx L' S H S' H') (h : a ∉ L') : OwnD K S' H' a kvs := by
  obtain ⟨vs, h1, h2⟩ := o
  exact ⟨vs, h1.keep g h, reld_mono g.s h2⟩
theorem OwnD.keep0 (o : OwnD K S H a kvs) (g : Gx [] S H S' H') : OwnD K S' H' a kvs := o.keep g (fun h => nomatch h)
theorem OwnD.ne (o : OwnD K S H a kvs) (h : H p = none) : a ≠ p := by
  obtain ⟨vs, h1, h2⟩ := o
  exact h1.ne h
theorem OwnD.there (o : OwnD K S H a kvs) : H a ≠ none := by
  obtain ⟨vs, h1, _⟩ := o
  rw [h1.at_]; simp
theorem OwnD.other (o : OwnD K S H b kvs) (hne : b ≠ a) (e : ∀ c, c ≠ a → H' c = H c) : OwnD K S H' b kvs := by
  obtain ⟨vs, h1, h2⟩ := o
  exact ⟨vs, ⟨by rw [e b hne]; exact h1.at_, h1.free⟩, h2⟩
theorem OwnD.lift2 (o : OwnD K S H a kvs) (hb : ∀ b, b ≠ p → S' b = S b) (e : Ex S S') (hne : a ≠ p) : OwnD K S' H a kvs := by
  obtain ⟨vs, h1, h2⟩ := o
  exact ⟨vs, ⟨h1.at_, by rw [hb a hne]; exact h1.free⟩, reld_mono e h2⟩
theorem key_dec (k : Int) (p : Key × V) (q : Int × α) (h : RelD K S p q) : decide (p.1 = (Sum.inl k : Key)) = decide (q.1 = k) := by
  rw [h.1]
  by_cases e : q.1 = k
  · rw [e]; simp
  · rw [decide_eq_false e, decide_eq_false (fun z => e (Sum.inl.inj z))]
theorem valV_rel (k : Int) : ∀ {ws : List (Key × V)} {kvs : List (Int × α)}, All2 (RelD K S) ws kvs → (dfind kvs k = none ∧ valV ws (.inl k) = none) ∨ ∃ v x, dfind kvs k = some x ∧ valV ws (.inl k) = some v ∧ Py.rep K S v x
  | _, _, .nil => .inl ⟨rfl, rfl⟩
  | _, _, .cons (a := p) (b := q) h t => by
    have hk := key_dec k p q h
    by_cases e : q.1 = k
    · have e1 : decide (q.1 = k) = true := decide_eq_true e
      have e2 : p.1 = (Sum.inl k : Key) := of_decide_eq_true (hk.trans e1)
      exact .inr ⟨p.2, q.2, by simp [dfind, e], by simp [valV, e2], h.2⟩
    · have e1 : decide (q.1 = k) = false := decide_eq_false e
      have e2 : ¬ p.1 = (Sum.inl k : Key) := of_decide_eq_false (hk.trans e1)
      rcases valV_rel k t with ⟨h1, h2⟩ | ⟨v, x, h1, h2, h3⟩
      · exact .inl ⟨by simpa [dfind, e] using h1, by simpa [valV, e2] using h2⟩
      · exact .inr ⟨v, x, by simpa [dfind, e] using h1, by simpa [valV, e2] using h2, h3⟩
theorem any_rel (k : Int) : ∀ {ws : List (Key × V)} {kvs : List (Int × α)}, All2 (RelD K S) ws kvs → (ws.any fun p => decide (p.1 = (Sum.inl k : Key))) = kvs.any fun p => decide (p.1 = k)
  | _, _, .nil => rfl
  | _, _, .cons h t => by rw [List.any_cons, List.any_cons, key_dec k _ _ h, any_rel k t]
theorem put_one (k : Int) {v : V} {x : α} (r : Py.rep K S v x) {p : Key × V} {q : Int × α} (h : RelD K S p q) : RelD K S (if p.1 = (Sum.inl k : Key) then (p.1, v) else p) (if q.1 = k then (q.1, x) else q) := by
  have hk := key_dec k p q h
  by_cases e : q.1 = k
  · rw [if_pos (of_decide_eq_true (hk.trans (decide_eq_true e))), if_pos e]; exact ⟨h.1, r⟩
  · rw [if_neg (of_decide_eq_false (hk.trans (decide_eq_false e))), if_neg e]; exact h
theorem put_map (k : Int) {v : V} {x : α} (r : Py.rep K S v x) : ∀ {ws : List (Key × V)} {kvs : List (Int × α)}, All2 (RelD K S) ws kvs →
    All2 (RelD K S) (ws.map fun kv => if kv.1 = (Sum.inl k : Key) then (kv.1, v) else kv) (kvs.map fun p => if p.1 = k then (p.1, x) else p)
  | _, _, .nil => .nil
  | _, _, .cons h t => .cons (put_one k r h) (put_map k r t)
theorem put_rel (k : Int) {v : V} {x : α} (r : Py.rep K S v x) {ws : List (Key × V)} {kvs : List (Int × α)} (h : All2 (RelD K S) ws kvs) : All2 (RelD K S) (putK ws (.inl k) v) (dput kvs k x) := by
  unfold putK dput
  rw [any_rel k h]
  split
  · exact put_map k r h
  · exact h.snoc ⟨rfl, r⟩
/-! ### the steps -/
def dg1K (ty : TE) (σ : St) (Q : VK) (x : V) (H1 : Hp) : Prop := ∃ a, x = .ref a ∧ IsD H1 a ∧ ty σ H1 fun y H2 => ∃ o, DGet H2 a y o ∧ Q (o.getD .non) H2
def dgetK (a : Addr) (Q : VK) (y : V) (H2 : Hp) : Prop := ∃ o, DGet H2 a y o ∧ Q (o.getD .non) H2
def dg2K (ty tx : TE) (σ : St) (Q : VK) (x : V) (H1 : Hp) : Prop := ∃ a, x = .ref a ∧ IsD H1 a ∧ ty σ H1 fun y H2 => tx σ H2 fun z H3 => ∃ o, DGet H3 a y o ∧ Q (o.getD z) H3
def dget2K (a : Addr) (Q : VK) (y z : V) (H2 : Hp) : Prop := ∃ o, DGet H2 a y o ∧ Q (o.getD z) H2
variable {σ : St} {td ty tx tv : TE} {D : Ends}
theorem i_dget1 (q : td σ H fun x H1 => dg1K ty σ Q x H1) : tDGet1 td ty σ H Q := q
theorem i_dget2 (q : td σ H fun x H1 => dg2K ty tx σ Q x H1) : tDGet2 td ty tx σ H Q := q
theorem OwnD.isD (o : OwnD K S H a kvs) : IsD H a := by
  obtain ⟨ws, h1, _⟩ := o
  exact .inl ⟨ws, .inl h1.at_⟩
theorem s_dg1 (o : OwnD K S H a kvs) (q : ty σ H fun y H2 => dgetK a Q y H2) : dg1K ty σ Q (.ref a) H := ⟨a, rfl, o.isD, q⟩
theorem s_dg2 (o : OwnD K S H a kvs) (q : ty σ H fun y H2 => tx σ H2 fun z H3 => dget2K a Q y z H3) : dg2K ty tx σ Q (.ref a) H := ⟨a, rfl, o.isD, q⟩
theorem s_dget {k : Int} (o : OwnD K S H a kvs) (q : ∀ v, Py.rep K S v (dfind kvs k) → Q v H) : dgetK a Q (.int k) H := by
  obtain ⟨ws, h1, h2⟩ := o
  refine ⟨valV ws (.inl k), DGet.k (k := Sum.inl k) h1.at_, q _ ?_⟩
  rcases valV_rel k h2 with ⟨e1, e2⟩ | ⟨v, x, e1, e2, e3⟩
  · rw [e1, e2]; rfl
  · rw [e1, e2]; exact e3
theorem s_dgetF {α : Type} [Flat α] {kvs : List (Int × α)} {k : Int} (o : OwnD K S H a kvs) (q : Q (optV (dfind kvs k)) H) : dgetK a Q (.int k) H := s_dget o fun v r => by
  rw [Flat.is.1 r]; exact q
theorem s_dget2 {k : Int} {z : V} {x : α} (o : OwnD K S H a kvs) (rz : Py.rep K S z x) (q : ∀ v, Py.rep K S v ((dfind kvs k).getD x) → Q v H) : dget2K a Q (.int k) z H := by
  obtain ⟨ws, h1, h2⟩ := o
  refine ⟨valV ws (.inl k), DGet.k (k := Sum.inl k) h1.at_, q _ ?_⟩
  rcases valV_rel k h2 with ⟨e1, e2⟩ | ⟨v, x, e1, e2, e3⟩
  · rw [e1, e2]; exact rz
  · rw [e1, e2]; exact e3
theorem s_dget2F {α : Type} [Flat α] {kvs : List (Int × α)} {k : Int} {x : α} (o : OwnD K S H a kvs) (q : Q (Flat.toV ((dfind kvs k).getD x)) H) : dget2K a Q (.int k) (Flat.toV x) H := s_dget2 o (Flat.is.2 rfl) fun v r => by
  rw [Flat.is.1 r]; exact q
/-- d[k] -/
def ditemK (Q : VK) (x y : V) (H2 : Hp) : Prop := ∃ a v, x = .ref a ∧ DGet H2 a y (some v) ∧ Q v H2
theorem i_ditem (q : td σ H fun x H1 => ty σ H1 fun y H2 => ditemK Q x y H2) : tDGet td ty σ H Q := q
theorem s_ditem {k : Int} {f : α → M γ} (o : OwnD K S H a kvs) (h : wpm (ditem kvs k >>= f) P E) (q : ∀ x v, Py.rep K S v x → wpm (f x) P E → Q v H) : ditemK Q (.ref a) (.int k) H := by
  obtain ⟨ws, h1, h2⟩ := o
  unfold ditem at h
  rcases valV_rel k h2 with ⟨e1, e2⟩ | ⟨v, x, e1, e2, e3⟩
  · rw [e1] at h; exact h.elim
  · rw [e1] at h; exact ⟨a, v, rfl, e2 ▸ DGet.k (k := Sum.inl k) h1.at_, q x v e3 h⟩
theorem s_ditemF {α : Type} [Flat α] {kvs : List (Int × α)} {k : Int} {f : α → M γ} (o : OwnD K S H a kvs) (h : wpm (ditem kvs k >>= f) P E) (q : ∀ x, wpm (f x) P E → Q (Flat.toV x) H) : ditemK Q (.ref a) (.int k) H :=
  s_ditem o h fun x v r h => by rw [Flat.is.1 r]; exact q x h
/-- k in d -/
def dinK (neg : Bool) (Q : VK) (y x : V) (H2 : Hp) : Prop := ∃ a o, x = .ref a ∧ DGet H2 a y o ∧ Q (.bl (if neg then !o.isSome else o.isSome)) H2
theorem i_din (q : ty σ H fun y H1 => td σ H1 fun x H2 => dinK false Q y x H2) : tDIn ty td σ H Q := q
theorem i_dnin (q : ty σ H fun y H1 => td σ H1 fun x H2 => dinK true Q y x H2) : tDNotIn ty td σ H Q := q
theorem dfind_some {k : Int} (h2 : All2 (RelD K S) ws kvs) : (valV ws (.inl k)).isSome = (dfind kvs k).isSome := by
  rcases valV_rel k h2 with ⟨e1, e2⟩ | ⟨v, x, e1, e2, e3⟩
  · rw [e1, e2]; rfl
  · rw [e1, e2]; rfl
theorem s_din {k : Int} (o : OwnD K S H a kvs) (q : Q (.bl (dfind kvs k).isSome) H) : dinK false Q (.int k) (.ref a) H := by
  obtain ⟨ws, h1, h2⟩ := o
  refine ⟨a, valV ws (.inl k), rfl, DGet.k (k := Sum.inl k) h1.at_, ?_⟩
  show Q (.bl (valV ws (.inl k)).isSome) H
  rw [dfind_some h2]; exact q
theorem s_dnin {k : Int} (o : OwnD K S H a kvs) (q : Q (.bl (!(dfind kvs k).isSome)) H) : dinK true Q (.int k) (.ref a) H := by
  obtain ⟨ws, h1, h2⟩ := o
  refine ⟨a, valV ws (.inl k), rfl, DGet.k (k := Sum.inl k) h1.at_, ?_⟩
  show Q (.bl (!(valV ws (.inl k)).isSome)) H
  rw [dfind_some h2]; exact q
/-- d[k] = v -/
def dputK (D : Ends) (σ : St) (v x y : V) (H3 : Hp) : Prop := ∃ a H4, x = .ref a ∧ DPut H3 a y v H4 ∧ D.nx σ H4
theorem i_dput (q : tv σ H fun v H1 => td σ H1 fun x H2 => ty σ H2 fun y H3 => dputK D σ v x y H3) : sDPut td ty tv D σ H := q
theorem s_dput {k : Int} {v : V} {x : α} {f : List (Int × α) → M γ} (g : Gx L S0 H0 S H) (o : OwnD K S H a kvs) (h0 : H0 a = none ∨ a ∈ L) (r : Py.rep K S v x) (h : wpm (pdput kvs k x >>= f) P E)
    (q : ∀ H1, Gx L S0 H0 S H1 → OwnD K S H1 a (dput kvs k x) → (∀ c, c ≠ a → H1 c = H c) → wpm (f (dput kvs k x)) P E → D.nx σ H1) : dputK D σ v (.ref a) (.int k) H := by
  obtain ⟨ws, h1, h2⟩ := o
  obtain ⟨hc, h⟩ := wpm_ite h
  exact ⟨a, _, rfl, DPut.k (k := Sum.inl k) h1.at_ (by rw [h2.len, line_eq]; exact hc), q _ (g.put h1 h0) ⟨_, h1.set, put_rel k r h2⟩ (fun c hc => upd_ne hc) h⟩
/-- {} -/
theorem i_dnew (q : newK Q (.dK []) H) : tDNewK σ H Q := q
theorem s_dnew (g : Gx L S0 H0 S H) (q : ∀ p H1, Gx L S0 H0 S H1 → Gx [] S H S H1 → H p = none → OwnD K S H1 p ([] : List (Int × α)) → Q (.ref p) H1) : newK Q (.dK []) H := fun p hp =>
  q p _ (g.newO hp) ((Gx.refl g.sh).newO hp) hp ⟨[], ⟨upd_same, fresh_back g.sh hp⟩, .nil⟩
end
end G
/-! GSet: len(set(..)), sorted(set(..)) of whole numbers. -/
namespace G
open PySem L2 Evl PySem.Spec PyProof.Rows
def setLine : Nat := 4000
/-- each number once, where it is met first -/
def dedup (ns : List Int) : List Int := ns.foldl step_dedup []
theorem firstMet_dedup (ns : List Int) : firstMet (fun i => ns.getD i 0) ns.length = dedup ns := by
  unfold firstMet dedup
  congr 1
  refine List.ext_getElem (by simp) fun i h1 h2 => ?_
  simp [List.getElem?_eq_getElem h2]
def tLenSetG (K : Fr) (ta : TE) : TE := fun σ H Q => ta σ H fun x H1 => ∃ (l : Addr) (ns : List Int), x = V.ref l ∧ SqL K H1 l (ns.map V.int) ∧ ns.length < setLine ∧ Q (.int (dedup ns).length) H1
theorem pe_lenSetL {X : Cx} {a : PySem.Expr} {ta : TE} {p p2 q pos : Pos} (hc : X.calm = true) (g1 : Gl X "len") (m1 : X.mg "len" = none) (g2 : Gl X "set") (m2 : X.mg "set" = none) (ha : PE X a ta)
    (na : starEach [a] X.env = (false, eval a X.env) :: starEach [] X.env := by rfl) : PE X (.Call (.Name "len" p) [.Call (.Name "set" p2) [a] [] q] [] pos) (tLenSetG X.K ta) := by
  constructor
  intro pins s σ H Q J hq
  refine Call_ (ld_blt J g1 m1 boot_len (callWith_builtin1 (args_cons (Call_ (ld_blt J g2 m2 boot_set (callWith_type1 (args_cons ?_ na) na rfl))) rfl) rfl rfl))
  refine thn (ha.run pins s σ H _ J hq) ?_
  rintro v s1 ⟨x, H1, J1, rx, l, ns, rfl, hl, hz, hQ⟩
  refine args_nil ?_
  cases rx
  obtain ⟨its, rv, pl, _⟩ := J1.list hl
  have es : its.toArray.size = ns.length := by rw [List.size_toArray, ← rv.length, List.length_map]
  refine call_set_list (J1.ok.hd hc) pl.isList (by simpa using rv.ints) (by rw [es]; unfold scanBound setLine at *; omega) ?_
  intro h' tk hS hk
  refine args_nil ?_
  rw [es, firstMet_dedup] at hS
  obtain ⟨o, ee, ep, t, ho, hx, hd, _, _, _, hf, hn⟩ := hS
  have J2 : Inv X pins σ H1 { s1 with heap := h', toks := tk } := J1.kept fun b o e => hk b o (Heap.lt_size e) e
  have hle : (dedup ns).length ≤ ns.length := by
    rw [← firstMet_dedup]; exact firstMet_length_le _ _
  refine call_len_set ho hx hd hf (by rw [hn]; unfold setLine at hz; omega) ?_
  exact ⟨.int (dedup ns).length, H1, J2.tok _, ⟨_, by rw [hn]⟩, hQ⟩
section
variable {γ : Type} {K : Fr} {P : γ → Prop} {E : XC → Prop} {S H S0 H0 : Hp} {L : List Addr} {a : Addr} {ns : List Int} {Q : VK} {σ : St} {ta : TE}
def lenSetK (K : Fr) (Q : VK) (x : V) (H1 : Hp) : Prop := ∃ (l : Addr) (ns : List Int), x = V.ref l ∧ SqL K H1 l (ns.map V.int) ∧ ns.length < setLine ∧ Q (.int (dedup ns).length) H1
theorem i_lenSet (q : ta σ H fun x H1 => lenSetK K Q x H1) : tLenSetG K ta σ H Q := q
theorem s_lenSet {k : Unit → M γ} (r : RepH K S H a ns) (h : wpm (guardM (decide (ns.length < setLine)) >>= k) P E) (q : wpm (k ()) P E → Q (.int ((dedup ns).length : Int)) H) : lenSetK K Q (.ref a) H := by
  obtain ⟨vs, h1, h2⟩ := r
  obtain ⟨hc, h⟩ := wpm_guard h
  have e := reps_flat h2
  subst e
  exact ⟨a, ns, rfl, h1, of_decide_eq_true hc, q h⟩
end
end G
/-! GDat: values of any kind. -/
namespace G
open PySem L2 Evl
def dNone : PyData → Bool
  | .none => true
  | _ => false
def tIs (t T : String) : Bool := t == T || (t == "bool" && T == "int")
def deq (x y : PyData) : M Bool := if (SeqAt.shaped x && SeqAt.shaped y) = true then .ok (PyData.eqv x y) else .stuck
def dlen : PyData → M Int
  | .list xs => .ok xs.length
  | .tuple xs => .ok xs.length
  | _ => .stuck
def didx (d : PyData) (i : Int) : M PyData := match d with
  | .list xs => idx xs i
  | .tuple xs => idx xs i
  | _ => .stuck
def tyD : PyData → String
  | .none => "NoneType"
  | .bool _ => "bool"
  | .int _ => "int"
  | .str _ => "str"
  | .list _ => "list"
  | .tuple _ => "tuple"
  | .dict _ => "dict"
def dIs (T : String) (d : PyData) : Bool := tIs (tyD d) T
theorem dpAll2 {K : Fr} {H : Hp} : ∀ {vs : List V} {ds : List PyData}, DpAll K H vs ds → All2 (Dp K H) vs ds
  | _, _, .nil => .nil
  | _, _, .cons h t => .cons h (dpAll2 t)
section
variable {γ : Type} {K : Fr} {P : γ → Prop} {E : XC → Prop} {S H : Hp} {u v : V} {d e : PyData} {Q : VK} {σ : St}
theorem isN_dat (h : Dp K H v d) : decide (v = .non) = dNone d := by
  cases h <;> simp [dNone]
theorem tyX_of (h : Dp K H v d) : TyX K H v (.type (tyD d)) := by
  cases h with
  | non => exact .base .non
  | bl b => exact .base (.bl b)
  | int i => exact .base (.int i)
  | str x => exact .base (.str x)
  | lst h _ =>
    rcases h with (h | ⟨o, h⟩) | ⟨o, its, n, h1, h2, _⟩
    · exact .base (.lst h)
    · exact .base (.frz h)
    · exact .kList h1 h2
  | tup h _ =>
    rcases h with (h | ⟨o, h⟩) | ⟨o, its, n, h1, h2, _⟩
    · exact .base (.tup h)
    · exact .fTuple h
    · exact .kTuple h1 h2
/-- what isinstance answers of data, for a built-in type -/
structure IsTy (T : String) : Prop where
  none : kitB "NoneType" T = some (tIs "NoneType" T)
  bool : kitB "bool" T = some (tIs "bool" T)
  int : kitB "int" T = some (tIs "int" T)
  str : kitB "str" T = some (tIs "str" T)
  list : kitB "list" T = some (tIs "list" T)
  tuple : kitB "tuple" T = some (tIs "tuple" T)
theorem isTy_bool : IsTy "bool" := ⟨by decide +kernel, by decide +kernel, by decide +kernel, by decide +kernel, by decide +kernel, by decide +kernel⟩
theorem isTy_int : IsTy "int" := ⟨by decide +kernel, by decide +kernel, by decide +kernel, by decide +kernel, by decide +kernel, by decide +kernel⟩
theorem isTy_str : IsTy "str" := ⟨by decide +kernel, by decide +kernel, by decide +kernel, by decide +kernel, by decide +kernel, by decide +kernel⟩
theorem isTy_list : IsTy "list" := ⟨by decide +kernel, by decide +kernel, by decide +kernel, by decide +kernel, by decide +kernel, by decide +kernel⟩
theorem isTy_tuple : IsTy "tuple" := ⟨by decide +kernel, by decide +kernel, by decide +kernel, by decide +kernel, by decide +kernel, by decide +kernel⟩
theorem s_isi {T : String} (t : IsTy T) (ex : Ex S H) (h : Dp K S v d) (q : Q (.bl (dIs T d)) H) : rIsi K [v, .ty T] H Q := by
  have h := Dp.mono ex h
  refine ⟨v, .ty T, .type (tyD d), .type T, dIs T d, rfl, .ty T, tyX_of h, kit_ty ?_, q⟩
  cases h with
  | non => exact t.none
  | bl b => exact t.bool
  | int b => exact t.int
  | str b => exact t.str
  | lst _ _ => exact t.list
  | tup _ _ => exact t.tuple
theorem s_eqDat {k : Bool → M γ} (ex : Ex S H) (h1 : Dp K S u d) (h2 : Dp K S v e) (h : wpm (deq d e >>= k) P E) (q : ∀ b, wpm (k b) P E → Q (.bl b) H) : rEqD K u v H Q := by
  obtain ⟨hc, h⟩ := wpm_ite h
  have hc' : SeqAt.shaped d = true ∧ SeqAt.shaped e = true := by simpa using hc
  exact ⟨d, e, Dp.mono ex h1, Dp.mono ex h2, hc'.1, hc'.2, q _ h⟩
theorem s_neDat {k : Bool → M γ} (ex : Ex S H) (h1 : Dp K S u d) (h2 : Dp K S v e) (h : wpm (deq d e >>= k) P E) (q : ∀ b, wpm (k b) P E → Q (.bl (!b)) H) : rNeD K u v H Q := by
  obtain ⟨hc, h⟩ := wpm_ite h
  have hc' : SeqAt.shaped d = true ∧ SeqAt.shaped e = true := by simpa using hc
  exact ⟨d, e, Dp.mono ex h1, Dp.mono ex h2, hc'.1, hc'.2, q _ h⟩
theorem s_dlen {k : Int → M γ} (ex : Ex S H) (h1 : Dp K S v d) (h : wpm (dlen d >>= k) P E) (q : ∀ n, wpm (k n) P E → Q (.int n) H) : rLenG K [v] H Q := by
  cases Dp.mono ex h1 with
  | non => exact h.elim
  | bl b => exact h.elim
  | int b => exact h.elim
  | str b => exact h.elim
  | lst h2 h3 => exact ⟨_, _, rfl, .inl h2, by rw [(dpAll2 h3).len]; exact q _ h⟩
  | tup h2 h3 => exact ⟨_, _, rfl, .inr h2, by rw [(dpAll2 h3).len]; exact q _ h⟩
theorem s_didx {k : PyData → M γ} {i : Int} (ex : Ex S H) (h1 : Dp K S v d) (h : wpm (didx d i >>= k) P E) (q : ∀ x w, Dp K S w x → wpm (k x) P E → Q w H) : rIx K v (.int i) H Q := by
  cases h1 with
  | non => exact h.elim
  | bl b => exact h.elim
  | int b => exact h.elim
  | str b => exact h.elim
  | lst h2 h3 =>
    obtain ⟨x, hx, h⟩ := wpm_idx h
    obtain ⟨w, hw, rw_⟩ := All2.atI (dpAll2 h3) hx
    exact .inl ⟨_, _, i, w, rfl, rfl, ex_l ex h2, hw, q x w rw_ h⟩
  | tup h2 h3 =>
    obtain ⟨x, hx, h⟩ := wpm_idx h
    obtain ⟨w, hw, rw_⟩ := All2.atI (dpAll2 h3) hx
    exact .inr (.inl ⟨_, _, i, w, rfl, rfl, ex_t ex h2, hw, q x w rw_ h⟩)
end
end G
/-! GK: rules whose reading names the written part, told apart. -/
namespace G
open PySem L2 Evl PySem.Spec PyProof.Rows
section
variable {X : Cx} {K : Fr} {a b e iter tg : PySem.Expr} {ta te tl : TE} {pos p p2 q : Pos}
theorem ix_listK (e : X.K = K := by rfl) : IxR X (rIxL K) := e ▸ ix_list
theorem ix_tupK (e : X.K = K := by rfl) : IxR X (rIxT K) := e ▸ ix_tup
theorem ix_seqK (e : X.K = K := by rfl) : IxR X (rIx K) := e ▸ ix_seq
theorem sl_listK (e : X.K = K := by rfl) : SlR X (rSlL K) := e ▸ sl_list
theorem call_lenK (e : X.K = K := by rfl) : CallR X (.builtin "len") (rLenG K) := e ▸ call_lenG
theorem call_listK (e : X.K = K := by rfl) : CallR X (.type "list") (rListG K) := e ▸ call_listG
theorem op_eqK (hu : X.A.units + 64 < cLine) (e : X.K = K := by rfl) : OpR X (compareOp .Eq) (rEqD K) := e ▸ op_eqD hu
theorem op_neK (hu : X.A.units + 64 < cLine) (e : X.K = K := by rfl) : OpR X (compareOp .NotEq) (rNeD K) := e ▸ op_neD hu
theorem op_inK (e : X.K = K := by rfl) : OpR X (compareOp .In) (rIn K false) := e ▸ op_in_seq
theorem op_notInK (e : X.K = K := by rfl) : OpR X (compareOp .NotIn) (rIn K true) := e ▸ op_notIn_seq
theorem call_isK (e : X.K = K := by rfl) : CallR X (.builtin "isinstance") (rIsi K) := e ▸ call_isi
theorem pi_listK (h : PE X iter tl) (e : X.K = K := by rfl) : PI X tg iter (iList K tl) := e ▸ pi_list h
theorem pi_lenK {wi : TI} (h : PI X tg iter wi) (e : X.K = K := by rfl) : PI X tg iter (iLen K wi) := e ▸ pi_len h
theorem pi_enumK {p pos tpos : Pos} {elts : List PySem.Expr} {kk : Nat} {ta : TA} (hg : Gl X "enumerate") (hm : X.mg "enumerate" = none) (ha : PA X [a] ta) (hs : starEach [a] X.env = [(false, eval a X.env)] := by rfl) (e : X.K = K := by rfl) :
    PI X (.Tuple elts kk tpos) (.Call (.Name "enumerate" p) [a] [] pos) (iEnum K ta) := e ▸ pi_enum hg hm ha hs
theorem pi_zipK {p pos tpos : Pos} {elts : List PySem.Expr} {kk : Nat} {ta : TA} (hg : Gl X "zip") (hm : X.mg "zip" = none) (ha : PA X [a, b] ta) (e : X.K = K := by rfl) (hi : PI X (.Tuple elts kk tpos) (.Call (.Name "zip" p) [a, b] [] pos) (iZip X.K ta) := by exact pi_zip (by assumption) (by assumption) (by assumption)) :
    PI X (.Tuple elts kk tpos) (.Call (.Name "zip" p) [a, b] [] pos) (iZip K ta) := e ▸ hi
theorem pg_tupK {es : List PySem.Expr} {k : Nat} {t : TGs} {n : Nat} (hc : X.calm = true) (h : PGs X es t) (hn : (assignEach es X.env).length = n := by rfl) (hst : (assignEach es X.env).findIdx? (·.1) = none := by rfl) (e : X.K = K := by rfl) :
    PG X (.Tuple es k pos) (gTup K n t) := e ▸ pg_tup hc h hn hst
theorem pe_K {x : PySem.Expr} {T : String} {r : V → List V → Hp → VK → Prop} {to : TE} {t : TA} (h : PE X x (tBM X.K T r to t)) (ek : X.K = K := by rfl) : PE X x (tBM K T r to t) := ek ▸ h
theorem pe_K0 {x : PySem.Expr} {T : String} {r : V → List V → Hp → VK → Prop} {to : TE} (h : PE X x (tBM0 X.K T r to)) (ek : X.K = K := by rfl) : PE X x (tBM0 K T r to) := ek ▸ h
theorem pe_revK {te : TE} {k : Nat} {p1 p2 p3 pos : Pos} (he : PE X e te) (ek : X.K = K := by rfl) : PE X (.Subscript e (.Slice none none (some (.UnaryOp .USub (.Constant (.int 1) k p1) p2)) p3) pos) (tRevL K te) := ek ▸ pe_revL he
theorem pe_lenSetK (hc : X.calm = true) (g1 : Gl X "len") (m1 : X.mg "len" = none) (g2 : Gl X "set") (m2 : X.mg "set" = none) (ha : PE X a ta)
    (na : starEach [a] X.env = (false, eval a X.env) :: starEach [] X.env := by rfl) (e : X.K = K := by rfl) : PE X (.Call (.Name "len" p) [.Call (.Name "set" p2) [a] [] q] [] pos) (tLenSetG K ta) := e ▸ pe_lenSetL hc g1 m1 g2 m2 ha na
end
end G
/-! GEnd: the end of a law. -/
namespace G
open PySem L2 Evl
def xcName : XC → PySem.Str
  | .hue => "HueError" | .tree => "NoTree" | .hues => "NoHues" | .place => "NoPlace" | .part => "NoPart" | .number => "NoNumber" | .leaf => "NoLeaf" | .text => "NoText" | .form => "NoForm" | .yet => "NoneYet"
def caOf (K : Fr) (c : XC) : Addr := He.ga K (xcName c)
theorem fnOk_nox {P : Program} {w : World} {K : Fr} {mg : PySem.Str → Option Value} {base : Heap} {k : Nat} {f : Addr} {fd : FuncData} {ps : List PySem.Str} {sp : Sp} (F : FnOk P w K mg base (L2N.CX P w) k f fd ps sp) :
    FnOk P w K mg base CX0 k f fd ps (fun vs H Q _ => sp vs H Q fun _ _ _ => False) where
  len := fun vs H Q _ h => F.len vs H Q _ h
  run := fun A outer s H args us vs Q E hr e0 hb rv h => by
    refine codeAny_mono (F.run A outer s H args us vs Q (fun _ _ _ => False) hr e0 hb rv h) fun r s' hr' => ?_
    cases r with
    | ok fl => cases fl <;> exact hr'
    | error e =>
      obtain ⟨a, B, H', cls, d, _, _, _, _, _, _, _, hf⟩ := hr'
      exact hf.elim
/-- the top's def x, by the head's facts -/
theorem at_of {fa : List He.Fa} {fn : List He.DefD} {K : Fr} {h : Heap} {mg : PySem.Str → Option Value} (X : K.In h) (G : h.Ns mainGlobals mg) (c : He.SaysD fa fn K) (i j : Nat) {x : PySem.Str} {st : PySem.Stmt} {ps : List PySem.Str}
    (hd : fn[i]? = some ⟨(x, none), x, x, defArgs st, defBody st, defScope st, [], []⟩) (hf : fa[j]? = some (.glo x))
    (hb : ∀ (kV doc pm : Value) (an : Option Addr) (cdv ct : Value) (us : List Value), us.length = ps.length → bindArgs (PySem.W.fnOf x x (defArgs st) (defBody st) (defScope st) .none kV doc pm an cdv ct) ⟨us, []⟩ = pure (ps.zip us)) : At K mg x st ps := by
  obtain ⟨fd, F⟩ := c.def_ i hd
  exact ⟨_, fd, He.glo_ok X G (c.fact j hf), F, FunD.bindsN F hb⟩
theorem xc_of {fa : List He.Fa} {fn : List He.DefD} {K : Fr} {h : Heap} {mg : PySem.Str → Option Value} (X : K.In h) (G : h.Ns mainGlobals mg) (c : He.SaysD fa fn K) (i j : Nat) (e : XC) (hi : fa[i]? = some (.exc (xcName e))) (hj : fa[j]? = some (.glo (xcName e))) : XcOk K mg (caOf K) e (xcName e) := by
  obtain ⟨h1, h2, h3, h4⟩ := He.exc_ok (c.fact i hi)
  exact ⟨h1, He.glo_ok X G (c.fact j hj), h2, h3, h4⟩
/-- the law holds where its mirror says True -/
theorem law_end {l : PySem.W.OpenLaw} {n k : Nat} {q : Program} {loose : List PySem.Str} {XP : (PySem.Str → Option Value) → Heap → Prop} {fa : List He.Fa} {fn : List He.DefD} {d : DefRec} {m : List Int → M Bool} {st : PySem.Stmt}
    (hn : l.most = some n) (hn2 : n ≤ sizeLine) (hdf : d.params.defaults = []) (hr : Room k callerA) (hm : ∀ ns : List Int, ns.length ≤ n → m ns = .ok true) (hd : d.name = ("law" : PySem.Str))
    (hb : ∀ (kV doc pm : Value) (an : Option Addr) (cdv ct : Value) (us : List Value), us.length = (["script"] : List PySem.Str).length → bindArgs (PySem.W.fnOf "law" "law" (defArgs st) (defBody st) (defScope st) .none kV doc pm an cdv ct) ⟨us, []⟩ = pure ((["script"] : List PySem.Str).zip us))
    (i j : Nat) (hfi : fn[i]? = some ⟨("law", none), "law", "law", defArgs st, defBody st, defScope st, [], []⟩) (hfj : fa[j]? = some (.glo "law"))
    (F : ∀ (w : World) (K : Fr) (mg : PySem.Str → Option Value) (h : Heap), K.In h → h.Ns mainGlobals mg → He.SaysD fa fn K → ∀ (base : Heap) (f : Addr) (fd : FuncData), FunD K "law" "law" (defArgs st) (defBody st) (defScope st) [] [] f fd →
      FnOk l.prog w K mg base (L2N.CX l.prog w) k f fd ["script"] (fun vs H Q E => ∃ (S0 : Hp) (a_script : Addr) (script : List Int), vs = [(V.ref a_script)] ∧ Ex S0 H ∧ RepQ K S0 a_script script ∧ wpm (m script) (fun r => ∀ S' H', Gx [] S0 H S' H' → Q (V.bl (r)) H') (fun c => ∀ S' H', Gx [] S0 H S' H' → E (.ref (caOf K c)) none H'))) :
    PySem.W.WalkO q loose XP (He.hookD 6 fa fn).says l.row.toRowW d [] (fun f vs => PySem.call f vs) := by
  refine L2.walk_ofE (l := l) (n := n) (k := k) (x := "script") (CX := L2.CX0) hn hn2 hdf hr ?_ (fun _ _ _ _ z => z)
  intro w mg fa' h Y G hmg0
  obtain ⟨K, KX, c⟩ := Y
  have hmg : mg ("law" : PySem.Str) = some (.ref fa') := by rw [← hd]; exact hmg0
  obtain ⟨fd, FD⟩ := c.def_ i hfi
  have e := hmg.symm.trans (He.glo_ok KX G (c.fact j hfj))
  cases e
  refine ⟨K, fd, _, KX, fun s u => FunD.bindsA (ps := ["script"]) FD hb s [u] rfl, ?_, fun base KB GB => fnOk_nox (F w K mg h KX G c base _ fd FD)⟩
  intro H a ns hl _ hS
  exact ⟨H, a, ns, rfl, Ex.refl H, ⟨_, hS, flat_reps ns⟩, wpm_of (hm ns hl) fun S' H' _ => rfl⟩
end G
/-! GNest: lists of lists of one's own; more steps. -/
namespace G
open PySem L2 Evl
/-- kids[i].append(x) -/
def pnapp {α : Type} (xss : List (List α)) (i : Int) (x : α) : M (List (List α)) := match ixN xss.length i with
  | some j => match xss[j]? with
    | some xs => if xs.length < line then .ok (xss.set j (xs ++ [x])) else .stuck
    | none => .stuck
  | none => .stuck
/-- a list of one's own, of lists of one's own, as the addresses of these -/
structure OwnN {α : Type} [Py α] (K : Fr) (S H : Hp) (a : Addr) (as : List Addr) (xss : List (List α)) : Prop where
  own : Own S H a (.lst (as.map V.ref))
  all : All2 (OwnL K S H) as xss
  nd : as.Nodup
  out : a ∉ as
section
variable {α β γ : Type} [Py α] [Py β] {K : Fr} {P : γ → Prop} {E : XC → Prop} {S H S0 H0 S' H' : Hp} {L L' : List Addr} {a b c p : Addr} {as : List Addr} {xss : List (List α)} {Q : VK}
theorem all2_mem {R R' : Addr → β → Prop} {ys : List β} (h : All2 R as ys) (f : ∀ b ∈ as, ∀ y, R b y → R' b y) : All2 R' as ys := by
  induction h with
  | nil => exact .nil
  | cons h _ ih => exact .cons (f _ List.mem_cons_self _ h) (ih fun b hb => f b (List.mem_cons_of_mem _ hb))
theorem all2_mem_l {R : Addr → β → Prop} {ys : List β} (h : All2 R as ys) : ∀ b ∈ as, ∃ y, R b y := by
  induction h with
  | nil => intro b hb; cases hb
  | cons h _ ih =>
    intro b hb
    cases hb with
    | head => exact ⟨_, h⟩
    | tail _ hb => exact ih b hb
theorem OwnN.keep (o : OwnN K S H a as xss) (g : Gx L' S H S' H') (h : a ∉ L') (h2 : ∀ b ∈ as, b ∉ L') : OwnN K S' H' a as xss :=
  ⟨o.own.keep g h, all2_mem o.all fun b hb y r => r.keep g (h2 b hb), o.nd, o.out⟩
theorem OwnN.keep0 (o : OwnN K S H a as xss) (g : Gx [] S H S' H') : OwnN K S' H' a as xss := o.keep g (fun h => nomatch h) (fun _ _ h => nomatch h)
theorem OwnN.other (o : OwnN K S H a as xss) (hne : a ≠ c) (h2 : c ∉ as) (e : ∀ d, d ≠ c → H' d = H d) : OwnN K S H' a as xss :=
  ⟨⟨by rw [e a hne]; exact o.own.at_, o.own.free⟩, all2_mem o.all fun b hb y r => r.other (fun z => h2 (by rw [← z]; exact hb)) e, o.nd, o.out⟩
theorem OwnN.ne (o : OwnN K S H a as xss) (h : H p = none) : a ≠ p := o.own.ne h
theorem OwnN.there (o : OwnN K S H a as xss) : H a ≠ none := by rw [o.own.at_]; simp
theorem OwnN.nin (o : OwnN K S H a as xss) (h : H p = none) : p ∉ as := fun hp => by
  obtain ⟨y, r⟩ := all2_mem_l o.all p hp
  exact r.there h
theorem OwnN.lift2 (o : OwnN K S H a as xss) (hb : ∀ b, b ≠ p → S' b = S b) (e : Ex S S') (hne : a ≠ p) (hn : p ∉ as) : OwnN K S' H a as xss :=
  ⟨⟨o.own.at_, by rw [hb a hne]; exact o.own.free⟩, all2_mem o.all fun b hb' y r => by
    obtain ⟨vs, h1, h2⟩ := r
    exact ⟨vs, ⟨h1.at_, by rw [hb b fun z => hn (z ▸ hb')]; exact h1.free⟩, h2.mono e⟩, o.nd, o.out⟩
theorem OwnL.otherN {xs : List α} (o : OwnL K S H b xs) (hne : b ∉ as) (e : ∀ d, d ∉ as → H' d = H d) : OwnL K S H' b xs := by
  obtain ⟨vs, h1, h2⟩ := o
  exact ⟨vs, ⟨by rw [e b hne]; exact h1.at_, h1.free⟩, h2⟩
theorem OwnD.otherN {xs : List (Int × α)} (o : OwnD K S H b xs) (hne : b ∉ as) (e : ∀ d, d ∉ as → H' d = H d) : OwnD K S H' b xs := by
  obtain ⟨vs, h1, h2⟩ := o
  exact ⟨vs, ⟨by rw [e b hne]; exact h1.at_, h1.free⟩, h2⟩
theorem OwnN.len (o : OwnN K S H a as xss) : as.length = xss.length := o.all.len
theorem OwnN.get (o : OwnN K S H a as xss) {j : Nat} {xs : List α} (h : xss[j]? = some xs) : ∃ b, as[j]? = some b ∧ b ∈ as ∧ OwnL K S H b xs := by
  obtain ⟨b, h1, h2⟩ := o.all.get h
  exact ⟨b, h1, List.mem_of_getElem? h1, h2⟩
/-- kids[i], read now -/
theorem s_idxN {i : Int} {k : List α → M γ} (o : OwnN K S H a as xss) (h : wpm (idx xss i >>= k) P E) (q : ∀ b xs, RepT K S H b xs → wpm (k xs) P E → Q (.ref b) H) : rIxL K (.ref a) (.int i) H Q := by
  obtain ⟨xs, hx, h⟩ := wpm_idx h
  unfold L2.atI at hx
  cases e : ixN xss.length i with
  | none => rw [e] at hx; cases hx
  | some j =>
    rw [e] at hx
    obtain ⟨b, h1, hb, h2⟩ := o.get hx
    refine ⟨a, as.map V.ref, i, .ref b, rfl, rfl, sq_of o.own.at_, ?_, q b xs h2.tp h⟩
    unfold L2.atI
    rw [List.length_map, o.len, e]
    show (as.map V.ref)[j]? = _
    rw [List.getElem?_map, h1]; rfl
theorem all2_set {R R' : Addr → β → Prop} {ys : List β} {j : Nat} {b : Addr} {y : β} (h : All2 R as ys) (nd : as.Nodup) (hj : as[j]? = some b) (hy : R' b y) (f : ∀ c ∈ as, c ≠ b → ∀ y, R c y → R' c y) : All2 R' as (ys.set j y) := by
  induction h generalizing j with
  | nil => cases hj
  | cons h t ih =>
    rename_i c z cs zs
    have nd' := List.nodup_cons.mp nd
    cases j with
    | zero =>
      have : c = b := by simpa using hj
      subst this
      exact .cons hy (all2_mem t fun d hd y r => f d (List.mem_cons_of_mem _ hd) (fun q => nd'.1 (q ▸ hd)) y r)
    | succ j =>
      have hj' : cs[j]? = some b := by simpa using hj
      have hb := List.mem_of_getElem? hj'
      exact .cons (f c List.mem_cons_self (fun q => nd'.1 (q ▸ hb)) z h) (ih nd'.2 hj' fun d hd => f d (List.mem_cons_of_mem _ hd))
/-- kids[i].append(x) -/
theorem s_napp {x : α} {v : V} {i : Int} {t : TA} {σ : St} {k : List (List α) → M γ} (g : Gx L S0 H0 S H) (o : OwnN K S H a as xss) (h0 : ∀ b ∈ as, H0 b = none ∨ b ∈ L) (r : Py.rep K S v x) (h : wpm (pnapp xss i x >>= k) P E)
    (ht : ∀ N : List V → Hp → Prop, N [v] H → t σ H N)
    (q : ∀ H1 yss, Gx L S0 H0 S H1 → OwnN K S H1 a as yss → (∀ d, d ∉ as → H1 d = H d) → wpm (k yss) P E → Q .non H1) : rIxL K (.ref a) (.int i) H (fun x H1 => bmK K "list" rAppend t σ Q x H1) := by
  unfold pnapp at h
  cases e : ixN xss.length i with
  | none => rw [e] at h; exact h.elim
  | some j =>
    rw [e] at h
    dsimp only at h
    cases e2 : xss[j]? with
    | none => rw [e2] at h; exact h.elim
    | some xs =>
      rw [e2] at h
      dsimp only at h
      obtain ⟨hc, h⟩ := wpm_ite h
      obtain ⟨b, h1, hb, h2⟩ := o.get e2
      have hab : a ≠ b := fun z => o.out (z ▸ hb)
      refine ⟨a, as.map V.ref, i, .ref b, rfl, rfl, sq_of o.own.at_, ?_, ?_⟩
      · unfold L2.atI
        rw [List.length_map, o.len, e]
        show (as.map V.ref)[j]? = _
        rw [List.getElem?_map, h1]; rfl
      · obtain ⟨vs, w1, w2⟩ := h2
        refine s_bmL (xs := xs) ⟨vs, sq_of w1.at_, w2⟩ (ht _ ?_)
        refine ⟨b, vs, v, rfl, rfl, w1.at_, by rw [w2.len, line_eq]; exact hc, q _ _ (g.put w1 (h0 b hb)) ⟨o.own.put hab, ?_, o.nd, o.out⟩ (fun d hd => upd_ne fun z => hd (z ▸ hb)) h⟩
        exact all2_set o.all o.nd h1 ⟨_, w1.set, w2.snoc r⟩ fun c hc hne y r => r.put hne
end
section
variable {α β γ : Type} [Py α] [Py β] {K : Fr} {J : It} {g : TG} {tt : TT} {te : TE} {σ : St} {S H S0 H0 : Hp} {L : List Addr} {xs : List α} {vs : List Nat} {Q : VK}
/-- [[] for x in xs] -/
theorem s_compN (w : Wk K J xs fun (_ : Unit) (_ : St) S' H' => Gx [] S H S' H') (hl : xs.length ≤ sizeLine) (g0 : Gx L S0 H0 S H)
    (hs : ∀ (y : α) v S1 H1 (T : V → Hp → Prop) (F : Hp → Prop), Gx [] S H S1 H1 → Py.rep K S1 v y → (∀ b, H1 b = none → T (.ref b) (upd H1 b (.lst []))) →
      g v (wipe σ vs) H1 fun σ2 H2 => wipe σ2 vs = wipe σ vs ∧ tt σ2 H2 fun b H3 => if b = true then te σ2 H3 T else F H3)
    (q : ∀ p S1 H1 as, Gx L S0 H0 S1 H1 → Gx [] S H S1 H1 → H p = none → (∀ b ∈ as, H b = none) → OwnN K S1 H1 p as (List.replicate xs.length ([] : List β)) → Q (.ref p) H1) : LcG J g tt te vs σ H Q := by
  intro D hD
  refine ⟨fun i m H' => i + m = xs.length ∧ ∃ S' as, Gx [] S H S' H' ∧ as.length = i ∧ (∀ b ∈ as, H b = none) ∧ OwnN K S' H' D as (List.replicate i ([] : List β)),
    ⟨xs.length, by omega, S, [], (Gx.refl g0.sh).newO hD, rfl, (fun b hb => nomatch hb), ⟨⟨upd_same, fresh_back g0.sh hD⟩, .nil, List.nodup_nil, (fun h => nomatch h)⟩⟩, fun i m H' hW => ?_⟩
  obtain ⟨e, S', as, gg, hla, hf, o⟩ := hW
  by_cases hi : i < xs.length
  · obtain ⟨y, hy⟩ : ∃ y, xs[i]? = some y := ⟨xs[i], List.getElem?_eq_getElem hi⟩
    refine .inr ⟨w.go i () σ S' H' gg hi, fun H' => i + 1 + (m - 1) = xs.length ∧ ∃ S' as, Gx [] S H S' H' ∧ as.length = i + 1 ∧ (∀ b ∈ as, H b = none) ∧ OwnN K S' H' D as (List.replicate (i + 1) ([] : List β)),
      fun H' hN => ⟨m - 1, by omega, hN⟩, fun v H1 hy' => ?_⟩
    obtain ⟨S1, g1, rv⟩ := w.yl i y () σ S' H' v H1 gg hy hy'
    refine hs y v S1 H1 _ _ (gg.trans0 g1) rv fun b hb => ?_
    have o2 := o.keep0 g1
    have hne : D ≠ b := o2.ne hb
    have hnin := o2.nin hb
    have gb : Gx [] S H S1 (upd H1 b (.lst [])) := (gg.trans0 g1).newO hb
    have hb0 : H b = none := Gx.back (gg.trans0 g1) hb
    refine ⟨as.map V.ref, by rw [upd_ne hne]; exact o2.own.at_, by rw [List.length_map, hla]; omega, by omega, S1, as ++ [b], ?_, by simp [hla], ?_, ?_⟩
    · exact gb.put (o := .lst (as.map V.ref)) ⟨by rw [upd_ne hne]; exact o2.own.at_, o2.own.free⟩ (.inl hD)
    · intro c hc
      rcases List.mem_append.mp hc with hc | hc
      · exact hf c hc
      · rw [List.mem_singleton.mp hc]; exact hb0
    · refine ⟨⟨?_, o2.own.free⟩, ?_, ?_, ?_⟩
      · rw [List.map_append]; exact upd_same
      · rw [List.replicate_succ']
        refine All2.snoc (all2_mem o2.all fun c hc z r => ?_) ⟨[], ⟨by rw [upd_ne hne.symm]; exact upd_same, fresh_back (gg.trans0 g1).sh hb⟩, (All2.nil : Reps K S1 [] ([] : List β))⟩
        refine (r.put (b := b) (fun z => hnin (z ▸ hc))).put (fun z => o2.out (z ▸ hc))
      · rw [List.nodup_append]
        refine ⟨o2.nd, by simp, fun c hc d hd => ?_⟩
        rw [List.mem_singleton.mp hd]
        exact fun z => hnin (z ▸ hc)
      · intro hc
        rcases List.mem_append.mp hc with hc | hc
        · exact o2.out hc
        · exact hne (List.mem_singleton.mp hc)
  · have hi' : i = xs.length := by omega
    subst hi'
    exact .inl ⟨w.st () σ S' H' gg, q D S' H' as (g0.trans0 gg) gg hD hf o⟩
end
end G
/-! GSort: sorted(set(..)), sorted(..) of whole numbers. -/
namespace G
open PySem L2 Evl PySem.Spec PyProof.Rows
theorem lt_unique : ∀ {xs ys : List Int}, xs.Pairwise (· < ·) → ys.Pairwise (· < ·) → (∀ k, k ∈ xs ↔ k ∈ ys) → xs = ys
  | [], [], _, _, _ => rfl
  | [], y :: ys, _, _, h => absurd ((h y).2 List.mem_cons_self) (fun z => nomatch z)
  | x :: xs, [], _, _, h => absurd ((h x).1 List.mem_cons_self) (fun z => nomatch z)
  | x :: xs, y :: ys, hx, hy, h => by
    have hx' := List.pairwise_cons.mp hx
    have hy' := List.pairwise_cons.mp hy
    have e : x = y := by
      have h1 : x ∈ y :: ys := (h x).1 List.mem_cons_self
      have h2 : y ∈ x :: xs := (h y).2 List.mem_cons_self
      rcases List.mem_cons.mp h1 with h1 | h1
      · exact h1
      · rcases List.mem_cons.mp h2 with h2 | h2
        · exact h2.symm
        · have a := hy'.1 x h1
          have b := hx'.1 y h2
          omega
    subst e
    congr 1
    refine lt_unique hx'.2 hy'.2 fun k => ?_
    constructor
    · intro hk
      rcases List.mem_cons.mp ((h k).1 (List.mem_cons_of_mem _ hk)) with q | q
      · have := hx'.1 k hk; omega
      · exact q
    · intro hk
      rcases List.mem_cons.mp ((h k).2 (List.mem_cons_of_mem _ hk)) with q | q
      · have := hy'.1 k hk; omega
      · exact q
theorem le_unique : ∀ {xs ys : List Int}, xs.Pairwise (· ≤ ·) → ys.Pairwise (· ≤ ·) → xs.Perm ys → xs = ys
  | [], ys, _, _, h => (List.Perm.nil_eq h)
  | x :: xs, [], _, _, h => absurd h.length_eq (by simp)
  | x :: xs, y :: ys, hx, hy, h => by
    have hx' := List.pairwise_cons.mp hx
    have hy' := List.pairwise_cons.mp hy
    have e : x = y := by
      have h1 : x ∈ y :: ys := h.subset List.mem_cons_self
      have h2 : y ∈ x :: xs := h.symm.subset List.mem_cons_self
      rcases List.mem_cons.mp h1 with h1 | h1
      · exact h1
      · rcases List.mem_cons.mp h2 with h2 | h2
        · exact h2.symm
        · have a := hy'.1 x h1
          have b := hx'.1 y h2
          omega
    subst e
    congr 1
    exact le_unique hx'.2 hy'.2 (List.Perm.cons_inv h)
/-- in rising order -/
def srt (ns : List Int) : List Int := ns.mergeSort fun a b => decide (a ≤ b)
theorem srt_perm (ns : List Int) : (srt ns).Perm ns := List.mergeSort_perm _ _
theorem srt_le (ns : List Int) : (srt ns).Pairwise (· ≤ ·) := by
  have := List.pairwise_mergeSort (le := fun a b : Int => decide (a ≤ b)) (by intro a b c; simp; omega) (by intro a b; simp; omega) ns
  exact this.imp fun h => by simpa using h
theorem mem_srt {ns : List Int} {k : Int} : k ∈ srt ns ↔ k ∈ ns := (srt_perm ns).mem_iff
/-- each once, in rising order -/
def sset (ns : List Int) : List Int := srt (dedup ns)
theorem mem_stepG (σ : List Int) (v k : Int) : k ∈ step_dedup σ v ↔ k ∈ σ ∨ k = v := by
  have h := step_any σ v k
  have e : ∀ l : List Int, (l.any (· == k)) = decide (k ∈ l) := fun l => by
    induction l with
    | nil => rfl
    | cons x l ih =>
      rw [List.any_cons, ih]
      by_cases q : x = k
      · subst q; simp
      · have : ¬ k = x := fun z => q z.symm
        simp [q, this]
  rw [e, e, ← Bool.decide_or] at h
  exact decide_eq_decide.mp h
theorem mem_dedupG (ns : List Int) (k : Int) : k ∈ dedup ns ↔ k ∈ ns := by
  unfold dedup
  suffices H : ∀ σ : List Int, k ∈ ns.foldl step_dedup σ ↔ k ∈ σ ∨ k ∈ ns by
    have := H []
    simpa using this
  induction ns with
  | nil => intro σ; simp
  | cons n ns ih =>
    intro σ
    rw [List.foldl_cons, ih, mem_stepG, List.mem_cons, or_assoc]
theorem mem_sset {ns : List Int} {k : Int} : k ∈ sset ns ↔ k ∈ ns := by unfold sset; rw [mem_srt, mem_dedupG]
theorem nodup_step (σ : List Int) (v : Int) (h : σ.Nodup) : (step_dedup σ v).Nodup := by
  unfold step_dedup
  split
  · exact h
  · rename_i q
    rw [List.nodup_append]
    refine ⟨h, by simp, fun a ha b hb e => q ?_⟩
    have hb' := List.mem_singleton.mp hb
    subst hb'
    subst e
    rw [List.any_eq_true]
    exact ⟨a, ha, by simp⟩
theorem nodup_dedup (ns : List Int) : (dedup ns).Nodup := by
  unfold dedup
  suffices H : ∀ σ : List Int, σ.Nodup → (ns.foldl step_dedup σ).Nodup from H [] List.nodup_nil
  induction ns with
  | nil => intro σ h; exact h
  | cons n ns ih => intro σ h; exact ih _ (nodup_step σ n h)
theorem lt_of_le_nd : ∀ {l : List Int}, l.Pairwise (· ≤ ·) → l.Nodup → l.Pairwise (· < ·)
  | [], _, _ => .nil
  | x :: l, h, d => by
    have h' := List.pairwise_cons.mp h
    have d' := List.nodup_cons.mp d
    refine List.pairwise_cons.mpr ⟨fun y hy => ?_, lt_of_le_nd h'.2 d'.2⟩
    have := h'.1 y hy
    have : x ≠ y := fun z => d'.1 (z ▸ hy)
    omega
theorem sset_lt (ns : List Int) : (sset ns).Pairwise (· < ·) := lt_of_le_nd (srt_le _) ((srt_perm _).nodup_iff.2 (nodup_dedup ns))
def sortedSetK (K : Fr) (Q : VK) (x : V) (H1 : Hp) : Prop := ∃ (l : Addr) (ns : List Int), x = V.ref l ∧ SqL K H1 l (ns.map V.int) ∧ ns.length < setLine ∧ newK Q (.lst ((sset ns).map V.int)) H1
def tSortedSetG (K : Fr) (ta : TE) : TE := fun σ H Q => ta σ H fun x H1 => sortedSetK K Q x H1
section
variable {α γ : Type} {K : Fr} {P : γ → Prop} {E : XC → Prop} {S H S0 H0 : Hp} {L : List Addr} {a : Addr} {ns : List Int} {Q : VK} {σ : St} {ta : TE}
theorem i_sortedSet (q : ta σ H fun x H1 => sortedSetK K Q x H1) : tSortedSetG K ta σ H Q := q
theorem s_sortedSetO {k : Unit → M γ} (g : Gx L S0 H0 S H) (r : RepH K S H a ns) (h : wpm (guardM (decide (ns.length < setLine)) >>= k) P E) (q : ∀ p H1, Gx L S0 H0 S H1 → Gx [] S H S H1 → H p = none → OwnL K S H1 p (sset ns) → wpm (k ()) P E → Q (.ref p) H1) : sortedSetK K Q (.ref a) H := by
  obtain ⟨vs, h1, h2⟩ := r
  obtain ⟨hc, h⟩ := wpm_guard h
  have e := reps_flat h2
  subst e
  exact ⟨a, ns, rfl, h1, of_decide_eq_true hc, newL_O (α := Int) g (flat_reps (sset ns)) fun p H1 g1 g2 hp o => q p H1 g1 g2 hp o h⟩
theorem s_sortedSetS {k : Unit → M γ} (g : Gx L S0 H0 S H) (r : RepH K S H a ns) (h : wpm (guardM (decide (ns.length < setLine)) >>= k) P E) (q : ∀ p S1 H1, Gx L S0 H0 S1 H1 → Gx [] S H S1 H1 → RepL K S1 p (sset ns) → wpm (k ()) P E → Q (.ref p) H1) : sortedSetK K Q (.ref a) H := by
  obtain ⟨vs, h1, h2⟩ := r
  obtain ⟨hc, h⟩ := wpm_guard h
  have e := reps_flat h2
  subst e
  exact ⟨a, ns, rfl, h1, of_decide_eq_true hc, newL_S (α := Int) g (flat_reps (sset ns)) fun p S1 H1 g1 g2 o => q p S1 H1 g1 g2 o h⟩
/-- xs.index(x) -/
def pidx {α : Type} [DecidableEq α] (xs : List α) (x : α) : M Int := match xs.findIdx? fun y => decide (y = x) with
  | some j => .ok (j : Int)
  | none => .stuck
theorem s_index [FlatEq α] [DecidableEq α] {xs : List α} {x : α} {k : Int → M γ} (r : RepH K S H a xs) (h : wpm (pidx xs x >>= k) P E) (q : ∀ j, wpm (k j) P E → Q (.int j) H) : rIndex K (.ref a) [Flat.toV x] H Q := by
  obtain ⟨vs, h1, h2⟩ := r
  have e := reps_flat h2
  subst e
  unfold pidx at h
  cases e : xs.findIdx? (fun y => decide (y = x)) with
  | none => rw [e] at h; exact h.elim
  | some j =>
    rw [e] at h
    obtain ⟨hj, hx, hm⟩ := List.findIdx?_eq_some_iff_getElem.mp e
    have hx' : xs[j] = x := of_decide_eq_true hx
    refine ⟨a, _, Flat.toV x, j, Flat.toV xs[j], rfl, rfl, h1, FlatEq.fl x, by rw [List.all_map]; exact List.all_eq_true.2 fun y _ => FlatEq.fl y, by rw [List.getElem?_map, List.getElem?_eq_getElem hj]; rfl, by rw [FlatEq.eqv]; exact hx', ?_, q _ h⟩
    intro m z' hmj hz
    rw [List.getElem?_map] at hz
    have hml : m < xs.length := Nat.lt_trans hmj hj
    rw [List.getElem?_eq_getElem hml] at hz
    cases hz
    cases ee : eqV (Flat.toV xs[m]) (Flat.toV x) with
    | false => rfl
    | true =>
      have e3 := (FlatEq.eqv _ _).1 ee
      have := hm m hmj
      simp [e3] at this
/-- xs.pop(), as a pair -/
theorem s_popT {α : Type} [Py α] {xs : List α} {k : α × List α → M γ} (g : Gx L S0 H0 S H) (o : OwnL K S H a xs) (h0 : H0 a = none ∨ a ∈ L) (h : wpm (ppop xs >>= k) P E)
    (q : ∀ H1 (t : α × List α) v, Gx L S0 H0 S H1 → OwnL K S H1 a t.2 → (∀ c, c ≠ a → H1 c = H c) → Py.rep K S v t.1 → wpm (k t) P E → Q v H1) : rPop (.ref a) [] H Q :=
  s_pop g o h0 h fun H1 x v g1 o1 he rv hk => q H1 (x, xs.dropLast) v g1 o1 he rv hk
end
end G
namespace G
open PySem L2 PySem.Spec PyProof.Rows
/-- a set as it is laid -/
abbrev set0 (w : World) : Obj := { cls := .type "set", dict := none, data := .set #[] 0 (.fresh 0 0 (!w.params.followText "set-order")) }
section
variable {P : Program} {w : World} {A : Around} {E : Value → Shared → Prop} {z : Shared}
/-- set(v), by what __init__ does to the new set -/
theorem set_call {v : Value} {Q : Value → Shared → Prop}
    (hi : codeAny (model P w) A.in1 (.call (.builtin "set.__init__") ⟨[.ref z.heap.objs.size, v], []⟩) (wants (fun r y => r = .none ∧ Q (.ref z.heap.objs.size) y) E) { z with heap := z.heap.push (set0 w) }) :
    wpAny (model P w) A (call (.type "set") [v]) Q E z := by
  have ft := F.called_set
  have a1 := ft.notType
  have a2 := ft.canCreate
  have a3 := ft.made
  have a4 := ft.sub
  obtain ⟨c0, ct, a5⟩ := ft.mro
  have a6 := F.typeCall_set_1 v
  apply wpAny_call
  apply codeAny_of_tree
  show wpAny _ _ (callAny (.type "set") ⟨[v], []⟩) _ _ _
  apply wpAny_pure
  refine ⟨Code.quiet_builtin _ (by decide +kernel), codeAny_builtin F.entry_type_call ?_⟩
  rw [Around.under_plain (weight_type_call_type _ _ _) (units_type_call_type _ _ _)]
  repeat any_goals first | assumption | wp_step
  refine codeAny_mono (code_set_led1 v (E := E) (Q₁ := fun o y => o = .ref z.heap.objs.size ∧ y = { z with heap := z.heap.push (set0 w) }) ⟨rfl, rfl⟩) ?_
  intro res y hy
  rcases res with e | fl
  · exact hy
  rcases fl with _ | o | _ | _
  any_goals exact hy.elim
  obtain ⟨rfl, rfl⟩ := hy
  have at0 : (z.heap.push (set0 w)).get? z.heap.objs.size = some (set0 w) := Heap.get?_push_size _ rfl
  have isS : Shared.TypeIs { z with heap := z.heap.push (set0 w) } (.ref z.heap.objs.size) "set" := ⟨_, at0, rfl⟩
  have b1 := ft.init.lookup
  have b2 := ft.init.bind (.ref z.heap.objs.size)
  repeat any_goals first | assumption | wp_step
  refine codeAny_mono hi ?_
  intro res y hy
  rcases res with e | fl
  · exact hy
  rcases fl with _ | o | _ | _
  any_goals exact hy.elim
  obtain ⟨rfl, q⟩ := hy
  repeat any_goals first | assumption | wp_step
/-- .. of a list of whole numbers -/
theorem set_init {l N : Addr} {arr : Array Value} {ns : List Int} {R : Result → Shared → Prop} (hh : A.handled = none) (hN : z.heap.get? N = some (set0 w)) (hne : N ≠ l)
    (hl : z.heap.IsList l arr) (hi : IntsAre arr.toList ns) (hb : ns.length + 1 < scanBound)
    (q : ∀ y c, Moved [N, z.heap.objs.size] (fun a b => b = a) { z with heap := z.heap.push { cls := .type "list_iterator", data := .fields #[.ref l, .int 0 0] } } y → c ≤ ns.length → SetR w y.heap N (fun j => decide (j ∈ ns)) c → R (.ok (.ret .none)) y) :
    codeAny (model P w) A (.call (.builtin "set.__init__") ⟨[.ref N, .ref l], []⟩) R z := by
  have hT : z.TypeIs (.ref N) "set" := ⟨_, hN, rfl⟩
  refine codeAny_call_builtin F.called_set.init.plain F.entry_set_init (check_set_init_1 hT ?_)
  obtain ⟨⟨k1, k2, k3, k4⟩, e1, e2, e4, e3⟩ := id hl
  dsimp only at e2 e3
  subst e2 e3
  have f1 := F.sub_list_set
  have f2 := F.sub_list_frozenset
  have f3 : (Value.type "list" == Value.type "dict") = false := by decide
  unfold Builtin.«set.__init__» noKeywords Builtin.Frozenset.updateFrom
  generalize eI : pyIter = it
  wp_walk
  subst eI
  refine wpAny_pyIter_list hl ?_
  apply wpAny_bind
  apply wpAny_runValue
  have lz : l < z.heap.objs.size := Heap.lt_size e1
  have nz : N < z.heap.objs.size := Heap.lt_size hN
  have la : arr.size = ns.length := by rw [← hi.length, Array.length_toList]
  have off : N ∉ [z.heap.objs.size, l] := fun h => (List.mem_cons.mp h).elim (Nat.ne_of_lt nz) fun h => hne (List.mem_singleton.mp h)
  have at1 : (z.heap.push { cls := .type "list_iterator", data := .fields #[.ref l, .int 0 0] }).get? N = some (set0 w) := Heap.get?_push_of_some _ hN
  refine set_update_ints (Walks.list (by simp [hh]) z.heap.objs.size l (Nat.ne_of_lt lz) arr).toS N off ns la hb (fun i v hv => ?_) arr.size 0 _ rfl (Nat.zero_le _) ⟨⟨_, Heap.get?_push_size _ rfl, rfl, rfl⟩, hl.push _⟩ ⟨0, Nat.le_refl 0, setR_new_at at1⟩ fun y c mv hc hy => ?_
  · have hlt : i < ns.length := by rw [← la]; exact (Array.getElem?_eq_some_iff.mp hv).1
    obtain ⟨t, e⟩ := hi.int_at i v (by rw [Array.getElem?_toList]; exact hv)
    refine ⟨ns.getD i 0, t, ?_, e⟩
    rw [List.getD_eq_getElem?_getD, List.getElem?_eq_getElem hlt]; rfl
  · apply wpAny_pure
    exact wpAny_pure (q y c mv (la ▸ hc) hy)
/-- set(xs) of a list of whole numbers, as it is walked -/
theorem set_of_list {l : Addr} {arr : Array Value} {ns : List Int} {Q : Value → Shared → Prop} (hh : A.handled = none) (hl : z.heap.IsList l arr) (hi : IntsAre arr.toList ns) (hb : ns.length + 1 < scanBound)
    (q : ∀ (y : Shared) (c : Nat), SetR w y.heap z.heap.objs.size (fun j => decide (j ∈ ns)) c → c ≤ ns.length → (∀ b o, z.heap.get? b = some o → y.heap.get? b = some o) → y.gens = z.gens → y.drawn = z.drawn → y.os = z.os → Q (.ref z.heap.objs.size) y) :
    wpAny (model P w) A (call (.type "set") [.ref l]) Q E z := by
  obtain ⟨ol, e1, e2⟩ := id hl
  have lz : l < z.heap.objs.size := Heap.lt_size e1
  refine set_call (set_init (by simp [hh]) (Heap.get?_push_size _ rfl) (Ne.symm (Nat.ne_of_lt lz)) (hl.push _) hi hb fun y c mv hc hy => ⟨rfl, q y c hy hc (fun b o e => ?_) mv.gens mv.drawn mv.os⟩)
  have hb1 : b < z.heap.objs.size := Heap.lt_size e
  refine mv.heap b o (fun h => ?_) (Heap.get?_push_of_some _ (Heap.get?_push_of_some _ e))
  rcases List.mem_cons.mp h with h | h
  · exact absurd h (Nat.ne_of_lt hb1)
  · have h2 := List.mem_singleton.mp h
    rw [Heap.size_push] at h2
    exact absurd h2 (Nat.ne_of_lt (Nat.lt_succ_of_lt hb1))
end
end G
namespace G
open PySem L2 PySem.Spec PyProof.Rows
section
variable {P : Program} {w : World} {A : Around} {E : Value → Shared → Prop} {z : Shared}
theorem ints_all : ∀ {vs : List Value}, (∀ v ∈ vs, ∃ k t, v = Value.int k t) → IntsAre vs (vs.map SrtO.iv)
  | [], _ => IntsAre.nil
  | v :: vs, h => by
    obtain ⟨k, t, rfl⟩ := h v List.mem_cons_self
    exact IntsAre.cons k t (ints_all fun u hu => h u (List.mem_cons_of_mem _ hu))
/-- sorted of a set of whole numbers, of any size -/
theorem sorted_any {a : Addr} {T : Int → Bool} {n : Nat} {Q : Value → Shared → Prop} (R : SetR w z.heap a T n) (hh : A.handled = none) (hz : n ≤ sizeLine)
    (q : ∀ (y : Shared) (p : Addr) (out : List Value) (c : Nat) (ms : List Int), (∀ b o, z.heap.get? b = some o → y.heap.get? b = some o) → y.gens = z.gens → y.os = z.os → z.heap.objs.size ≤ p → y.heap.get? p = some (seqObj "list" out.toArray c) →
      IntsAre out ms → ms.Pairwise (· < ·) → (∀ k, k ∈ ms ↔ T k = true) → Q (.ref p) y) : wpAny (model P w) A (call (.builtin "sorted") [.ref a]) Q E z := by
  obtain ⟨o, es, ep, t, ho, hex, hd, hg, hnd, hm, hb, hf, hn, hr, hl⟩ := R
  apply Calls.call_function_entry kind_sorted plain_sorted entry_sorted (args_sorted1 _)
  unfold Builtin.«sorted»
  apply wpAny_bind (m := checkCount "sorted" 1 1 _)
  apply wpAny_pure
  apply wpAny_bind
  refine collect_set (A := A.in1) hh ⟨o, ho, hex.1, hd⟩ hf hb hr hl ?_
  intro y vs k1 k2 g1 o1 pm
  have len : vs.length = n := by rw [← hn, ← Array.length_toList, ← List.length_map (f := fun e : Int × Value => e.2)]; exact pm.length_eq
  have hI : IntsAre vs (vs.map SrtO.iv) := ints_all fun v hv => by
    obtain ⟨e, he, rfl⟩ := List.mem_map.mp (pm.mem_iff.mp hv)
    obtain ⟨k, tk, h1, _⟩ := hg e he
    exact ⟨k, tk, h1⟩
  have pk : (vs.map SrtO.iv).Perm (es.toList.map keyOf) := by
    have q1 := pm.map SrtO.iv
    rw [List.map_map] at q1
    refine q1.trans (List.Perm.of_eq (List.map_congr_left fun e he => ?_))
    obtain ⟨k, tk, h1, _⟩ := hg e he
    show SrtO.iv e.2 = keyOf e
    unfold keyOf
    rw [h1]; rfl
  apply wpAny_bind
  refine wpAny_newList ?_ (by rw [len]; exact hz)
  have at0 : (y.heap.push (seqObj "list" vs.toArray 0)).get? y.heap.objs.size = some (seqObj "list" vs.toArray 0) := Heap.get?_push_size _ rfl
  apply wpAny_bind
  apply wpAny_holding
  refine wpAny_call_entry slot_list_sort ⟨_, at0, rfl⟩ entry_list_sort ?_ (args_list_sort _)
  refine SrtO.list_sort_ord SrtO.swo_int at0 (by rw [len]; exact hz) (fun h2 => SrtO.ints_sortable hI h2) fun out h1 h2 => ⟨_, rfl, ?_⟩
  obtain ⟨i1, i2, i3⟩ := SrtO.ints_out hI h1 h2
  obtain ⟨c, hc⟩ := sortedHeap_at (vs := vs) (out := out.toArray) at0
  have pn := i2.trans pk
  refine wpAny_pure ⟨_, rfl, q _ y.heap.objs.size out c _ (fun b u e => ?_) g1 o1 k2 hc i1 (lt_of_le_nd i3 (pn.nodup_iff.2 hnd)) (fun k => by rw [pn.mem_iff]; exact (hm k).symm)⟩
  have e' := k1 b u e
  have lb := Heap.lt_size e'
  rw [show (sortedHeap (y.heap.push (seqObj "list" vs.toArray 0)) y.heap.objs.size vs out.toArray).get? b = (y.heap.push (seqObj "list" vs.toArray 0)).get? b from sortedHeap_old (Nat.ne_of_lt lb) (by rw [size_push']; exact Nat.lt_succ_of_lt lb)]
  exact Heap.get?_push_of_some _ e'
end
theorem nodup_lenG {l m : List Int} (h : l.Nodup) (hs : ∀ x ∈ l, x ∈ m) : l.length ≤ m.length := by
  induction l generalizing m with
  | nil => exact Nat.zero_le _
  | cons x l ih =>
    have h' := List.nodup_cons.mp h
    have hx := hs x List.mem_cons_self
    have := ih h'.2 (m := m.erase x) fun y hy => (List.mem_erase_of_ne (fun e => h'.1 (by rw [← e]; exact hy))).2 (hs y (List.mem_cons_of_mem _ hy))
    rw [List.length_erase_of_mem hx] at this
    have hp := List.length_pos_of_mem hx
    rw [List.length_cons]; omega
section
open Evl
variable {X : Cx} {K : Fr} {a : PySem.Expr} {ta : TE} {p p2 q pos : Pos}
theorem pe_sortedSetG (hc : X.calm = true) (g1 : Gl X "sorted") (m1 : X.mg "sorted" = none) (g2 : Gl X "set") (m2 : X.mg "set" = none) (ha : PE X a ta)
    (na : starEach [a] X.env = (false, eval a X.env) :: starEach [] X.env := by rfl) : PE X (.Call (.Name "sorted" p) [.Call (.Name "set" p2) [a] [] q] [] pos) (tSortedSetG X.K ta) := by
  constructor
  intro pins s σ H Q J hq
  refine Call_ (ld_blt J g1 m1 boot_sorted (callWith_builtin1 (args_cons (Call_ (ld_blt J g2 m2 boot_set (callWith_type1 (args_cons ?_ na) na rfl))) rfl) rfl rfl))
  refine thn (ha.run pins s σ H _ J hq) ?_
  rintro v s1 ⟨x, H1, J1, rx, l, ns, rfl, hl, hz, hQ⟩
  refine args_nil ?_
  cases rx
  obtain ⟨its, rv, pl, _⟩ := J1.list hl
  refine set_of_list (J1.ok.hd hc) pl.isList (by simpa using rv.ints) (by unfold scanBound setLine at *; omega) fun y c R hcn k1 e1 e2 e3 => ?_
  refine args_nil ?_
  refine sorted_any R (J1.ok.hd hc) (by rw [sizeLine_eq]; unfold setLine at hz; omega) fun y2 r out d ms k2 e4 e5 hr ho hi hlt hm => ?_
  have ems : ms = sset ns := lt_unique hlt (sset_lt ns) fun k => by rw [hm k, mem_sset, decide_eq_true_eq]
  subst ems
  have hr1 : s1.heap.objs.size ≤ r := Nat.le_trans (Nat.le_of_lt R.lt) hr
  have kk : ∀ b u, s1.heap.get? b = some u → y2.heap.get? b = some u := fun b u e => k2 b u (k1 b u e)
  have hn : H1 r = none := J1.hok.fresh hr1
  have lz : ((sset ns).map V.int).length ≤ sizeLine := by
    rw [List.length_map, sizeLine_eq]
    unfold sset
    rw [(srt_perm _).length_eq]
    have := nodup_lenG (nodup_dedup ns) fun x hx => (mem_dedupG ns x).1 hx
    unfold setLine at hz; omega
  have J2 : Inv X pins σ (upd H1 r (.lst ((sset ns).map V.int))) y2 := J1.call' (ch := []) (e5.trans e3) (Un.laid kk hr1 hn) (J1.hok.laid kk hr1 ⟨lz, out, d, vals_of_ints hi, ho⟩) (by rw [e4, e1]; exact J1.bare) fun _ h => nomatch h
  exact ⟨.ref r, _, J2, rfl, hQ r hn⟩
theorem pe_sortedSetK (hc : X.calm = true) (g1 : Gl X "sorted") (m1 : X.mg "sorted" = none) (g2 : Gl X "set") (m2 : X.mg "set" = none) (ha : PE X a ta)
    (na : starEach [a] X.env = (false, eval a X.env) :: starEach [] X.env := by rfl) (e : X.K = K := by rfl) : PE X (.Call (.Name "sorted" p) [.Call (.Name "set" p2) [a] [] q] [] pos) (tSortedSetG K ta) := e ▸ pe_sortedSetG hc g1 m1 g2 m2 ha na
end
end G
/-! GMore: list(range), isinstance of several. -/
namespace G
open PySem L2 Evl RZ
@[irreducible] def plrg (a b : Int) : M (List Int) := if -(2 ^ 62) ≤ a ∧ a < 2 ^ 62 ∧ -(2 ^ 62) ≤ b ∧ b < 2 ^ 62 ∧ (b - a).toNat ≤ 2 ^ 24 then .ok (rng a b) else .stuck
def lrg1K (Q : VK) (x : V) (H : Hp) : Prop := ∃ n, x = .int n ∧ RgOk 0 n ∧ newK Q (.lst (rgV 0 n)) H
def lrg2K (Q : VK) (x y : V) (H : Hp) : Prop := ∃ i j, x = .int i ∧ y = .int j ∧ RgOk i j ∧ newK Q (.lst (rgV i j)) H
section
variable {γ : Type} {K : Fr} {P : γ → Prop} {E : XC → Prop} {S H S0 H0 : Hp} {L : List Addr} {Q : VK} {σ : St} {ta tb : TE} {v : V} {d : PyData}
theorem i_lrg1 (q : ta σ H fun x H1 => lrg1K Q x H1) : tLstRg (tRg1 ta) σ H Q := q
theorem i_lrg2 (q : ta σ H fun x H1 => tb σ H1 fun y H2 => lrg2K Q x y H2) : tLstRg (tRg2 ta tb) σ H Q := q
theorem reps_rg {i j : Int} : Reps K S (rgV i j) (rng i j) := by
  have e : rgV i j = (rng i j).map V.int := by
    unfold rgV rng
    rw [List.map_map]; rfl
  rw [e]; exact flat_reps _
theorem s_lrg1O {n : Int} {k : List Int → M γ} (g : Gx L S0 H0 S H) (h : wpm (plrg 0 n >>= k) P E) (q : ∀ p H1, Gx L S0 H0 S H1 → Gx [] S H S H1 → H p = none → OwnL K S H1 p (rng 0 n) → wpm (k (rng 0 n)) P E → Q (.ref p) H1) : lrg1K Q (.int n) H := by
  unfold plrg at h
  obtain ⟨hc, h⟩ := wpm_ite h
  exact ⟨n, rfl, hc, newL_O g reps_rg fun p H1 g1 g2 hp o => q p H1 g1 g2 hp o h⟩
theorem s_lrg1S {n : Int} {k : List Int → M γ} (g : Gx L S0 H0 S H) (h : wpm (plrg 0 n >>= k) P E) (q : ∀ p S1 H1, Gx L S0 H0 S1 H1 → Gx [] S H S1 H1 → RepL K S1 p (rng 0 n) → wpm (k (rng 0 n)) P E → Q (.ref p) H1) : lrg1K Q (.int n) H := by
  unfold plrg at h
  obtain ⟨hc, h⟩ := wpm_ite h
  exact ⟨n, rfl, hc, newL_S g reps_rg fun p S1 H1 g1 g2 o => q p S1 H1 g1 g2 o h⟩
theorem s_lrg2O {m n : Int} {k : List Int → M γ} (g : Gx L S0 H0 S H) (h : wpm (plrg m n >>= k) P E) (q : ∀ p H1, Gx L S0 H0 S H1 → Gx [] S H S H1 → H p = none → OwnL K S H1 p (rng m n) → wpm (k (rng m n)) P E → Q (.ref p) H1) : lrg2K Q (.int m) (.int n) H := by
  unfold plrg at h
  obtain ⟨hc, h⟩ := wpm_ite h
  exact ⟨m, n, rfl, rfl, hc, newL_O g reps_rg fun p H1 g1 g2 hp o => q p H1 g1 g2 hp o h⟩
theorem s_lrg2S {m n : Int} {k : List Int → M γ} (g : Gx L S0 H0 S H) (h : wpm (plrg m n >>= k) P E) (q : ∀ p S1 H1, Gx L S0 H0 S1 H1 → Gx [] S H S1 H1 → RepL K S1 p (rng m n) → wpm (k (rng m n)) P E → Q (.ref p) H1) : lrg2K Q (.int m) (.int n) H := by
  unfold plrg at h
  obtain ⟨hc, h⟩ := wpm_ite h
  exact ⟨m, n, rfl, rfl, hc, newL_S g reps_rg fun p S1 H1 g1 g2 o => q p S1 H1 g1 g2 o h⟩
theorem s_tupO {vs : List V} (g : Gx L S0 H0 S H) (hl : vs.length ≤ 16777216) (q : ∀ p H1, Gx L S0 H0 S H1 → Gx [] S H S H1 → H1 p = some (.tup vs) → Q (.ref p) H1) : tupK Q vs H :=
  ⟨by rw [sizeLine_eq]; exact hl, fun p hp => q p _ (g.newO hp) ((Gx.refl g.sh).newO hp) upd_same⟩
theorem isTy_of {T : String} (t : IsTy T) {H : Hp} (h : Dp K H v d) : kitB (tyD d) T = some (dIs T d) := by
  cases h with
  | non => exact t.none
  | bl b => exact t.bool
  | int b => exact t.int
  | str b => exact t.str
  | lst _ _ => exact t.list
  | tup _ _ => exact t.tuple
theorem s_isiT2 {T U : String} {tp : Addr} (t : IsTy T) (u : IsTy U) (ex : Ex S H) (h : Dp K S v d) (hT : H tp = some (.tup [.ty T, .ty U])) (q : Q (.bl (dIs T d || dIs U d)) H) : rIsiT K [v, .ref tp] H Q := by
  have h := Dp.mono ex h
  refine ⟨v, tp, _, .type (tyD d), [.type T, .type U], _, rfl, hT, .cons (.ty T) (.cons (.ty U) .nil), tyX_of h, ?_, q⟩
  refine kitAny_cons (kit_ty (isTy_of t h)) (fun e => ?_) (fun e => by rw [e]; rfl)
  refine kitAny_cons (kit_ty (isTy_of u h)) (fun e2 => ?_) (fun e2 => by rw [e2, Bool.or_true])
  rw [e, e2]; exact kitAny_nil
theorem call_isTK {X : Cx} (e : X.K = K := by rfl) : CallR X (.builtin "isinstance") (rIsiT K) := e ▸ call_isiT
theorem mt_indexK {X : Cx} (e : X.K = K := by rfl) : MtR X "list.index" (rIndex K) := e ▸ mt_index
end
/-! zip of data -/
def dzip (d e : PyData) : M (List (PyData × PyData × Unit)) := match d, e with
  | .list xs, .list ys => .ok (zp xs ys)
  | .tuple xs, .tuple ys => .ok (zp xs ys)
  | _, _ => .stuck
def zipAK (K : Fr) (R : It → Hp → Prop) (vs : List V) (H1 : Hp) : Prop := ∃ a b xs ys, vs = [.ref a, .ref b] ∧ ((SqL K H1 a xs ∧ SqL K H1 b ys ∧ R (Itz K a b) H1) ∨ (SqT K H1 a xs ∧ SqT K H1 b ys ∧ R (ItzT K a b) H1))
section
variable {τ γ : Type} {K : Fr} {P : γ → Prop} {E : XC → Prop} {S H : Hp} {σ : St} {u v : V} {d e : PyData}
theorem i_zipA2 {ta : TA} {R : It → Hp → Prop} (q : ta σ H fun vs H1 => zipAK K R vs H1) : iZipA K ta σ H R := q
theorem wk_zipT {R : τ → St → Hp → Hp → Prop} {a b : Addr} {xs ys : List PyData} (hR : ∀ s σ S H, R s σ S H → Ex S H ∧ (∃ vs, SqT K H a vs ∧ Reps K S vs xs) ∧ ∃ ws, SqT K H b ws ∧ Reps K S ws ys) : Wk K (ItzT K a b) (zp xs ys) R where
  go i s σ S H h hi := by
    rw [zp_len] at hi
    obtain ⟨e, ⟨vs, h1, h2⟩, ws, h3, h4⟩ := hR s σ S H h
    refine ⟨vs, ws, vs[i]'(by rw [h2.len]; omega), ws[i]'(by rw [h4.len]; omega), h1, h3, List.getElem?_eq_getElem _, List.getElem?_eq_getElem _⟩
  st s σ S H h := by
    obtain ⟨e, ⟨vs, h1, h2⟩, ws, h3, h4⟩ := hR s σ S H h
    rw [zp_len]
    refine ⟨vs, ws, h1, h3, ?_⟩
    rw [h2.len, h4.len]; omega
  yl i y s σ S H v H' h hy hv := by
    obtain ⟨e, ⟨vs, h1, h2⟩, ws, h3, h4⟩ := hR s σ S H h
    obtain ⟨T, x1, x2, rfl, hT, rfl, h5, h6⟩ := hv
    obtain ⟨z1, z2, hz1, hz2, rfl⟩ := zp_get _ _ _ _ hy
    obtain ⟨u, hu, ru⟩ := h2.get hz1
    obtain ⟨u', hu', ru'⟩ := h4.get hz2
    have e1 := h5 vs h1
    have e2 := h6 ws h3
    rw [hu] at e1
    rw [hu'] at e2
    obtain rfl := Option.some.inj e1
    obtain rfl := Option.some.inj e2
    exact ⟨_, (Gx.refl e).newS hT, T, _, rfl, st_of upd_same, _, [_], rfl, Py.mono (Ex.new (fresh_back e hT)) ru, _, [], rfl, Py.mono (Ex.new (fresh_back e hT)) ru', rfl⟩
theorem s_zipD {R : It → Hp → Prop} {k : List (PyData × PyData × Unit) → M γ} (ex : Ex S H) (h1 : Dp K S u d) (h2 : Dp K S v e) (h : wpm (dzip d e >>= k) P E)
    (q : ∀ J zs, (∀ (τ : Type) (R' : τ → St → Hp → Hp → Prop), (∀ s σ S' H', R' s σ S' H' → Ex S S' ∧ Ex S' H') → Wk K J zs R') → wpm (k zs) P E → R J H) : zipAK K R [u, v] H := by
  cases h1 with
  | lst a1 a2 =>
    cases h2 with
    | lst b1 b2 =>
      refine ⟨_, _, _, _, rfl, .inl ⟨ex_l ex a1, ex_l ex b1, q _ _ (fun τ R' hR => wk_zip fun s σ S' H' r => ?_) h⟩⟩
      obtain ⟨e1, e2⟩ := hR s σ S' H' r
      exact ⟨e2, ⟨_, ex_l (e1.trans e2) a1, (dpAll2 a2).imp fun _ _ z => Dp.mono e1 z⟩, _, ex_l (e1.trans e2) b1, (dpAll2 b2).imp fun _ _ z => Dp.mono e1 z⟩
    | _ => exact h.elim
  | tup a1 a2 =>
    cases h2 with
    | tup b1 b2 =>
      refine ⟨_, _, _, _, rfl, .inr ⟨ex_t ex a1, ex_t ex b1, q _ _ (fun τ R' hR => wk_zipT fun s σ S' H' r => ?_) h⟩⟩
      obtain ⟨e1, e2⟩ := hR s σ S' H' r
      exact ⟨e2, ⟨_, ex_t (e1.trans e2) a1, (dpAll2 a2).imp fun _ _ z => Dp.mono e1 z⟩, _, ex_t (e1.trans e2) b1, (dpAll2 b2).imp fun _ _ z => Dp.mono e1 z⟩
    | _ => exact h.elim
  | _ => exact h.elim
end
theorem pi_zipAK {X : Cx} {K : Fr} {a b : PySem.Expr} {ta : TA} {p pos tpos : Pos} {elts : List PySem.Expr} {kk : Nat} (e : X.K = K := by rfl) (hi : PI X (.Tuple elts kk tpos) (.Call (.Name "zip" p) [a, b] [] pos) (iZipA X.K ta)) :
    PI X (.Tuple elts kk tpos) (.Call (.Name "zip" p) [a, b] [] pos) (iZipA K ta) := e ▸ hi
end G
/-! GDown: xs[a:b:-1]; found[i] += v. -/
namespace G
open PySem L2 Evl PySem.Spec PyProof.Rows
/-- xs[lo:hi:-1] -/
def dcut {α : Type} (xs : List α) (lo hi : Option Int) : List α :=
  (sliceRange (sliceBounds lo hi (some (-1)) xs.length).1 (sliceBounds lo hi (some (-1)) xs.length).2.1 (sliceBounds lo hi (some (-1)) xs.length).2.2).filterMap fun (i : Nat) => xs[i]?
theorem vals_pick {xs : List V} {us : List Value} (r : Vals xs us) : ∀ is : List Nat, Vals (is.filterMap fun (i : Nat) => xs[i]?) (is.filterMap fun (i : Nat) => us[i]?)
  | [] => .nil
  | i :: is => by
    have ih := vals_pick r is
    have hl := r.length
    rw [List.filterMap_cons, List.filterMap_cons]
    by_cases h : i < xs.length
    · obtain ⟨u, hu, ru⟩ := r.get (List.getElem?_eq_getElem h)
      rw [List.getElem?_eq_getElem h, hu]
      exact .cons ru ih
    · rw [List.getElem?_eq_none (by omega), List.getElem?_eq_none (by omega)]
      exact ih
theorem dcut_len {α : Type} (xs : List α) (lo hi : Option Int) : (dcut xs lo hi).length ≤ xs.length := by
  have h := slicePick_size_le (List.replicate xs.length Value.none).toArray lo hi (some (-1))
  unfold slicePick at h
  rw [List.size_toArray, List.size_toArray, List.length_replicate] at h
  unfold dcut
  refine Nat.le_trans (Nat.le_of_eq ?_) h
  generalize sliceRange _ _ _ = is
  induction is with
  | nil => rfl
  | cons i is ih =>
    rw [List.filterMap_cons, List.filterMap_cons]
    by_cases c : i < xs.length
    · rw [List.getElem?_eq_getElem c]
      have : (List.replicate xs.length Value.none).toArray[i]? = some Value.none := by simp [c]
      rw [this, List.length_cons, List.length_cons, ih]
    · rw [List.getElem?_eq_none (by omega)]
      have : (List.replicate xs.length Value.none).toArray[i]? = none := by simp; omega
      rw [this, ih]
def downK (K : Fr) (Q : VK) (x : V) (l u : Option Int) (H : Hp) : Prop := ∃ a xs, x = .ref a ∧ SqL K H a xs ∧ newK Q (.lst (dcut xs l u)) H
def tDown (K : Fr) (te : TE) (tl th : TO) : TE := fun σ H Q => te σ H fun x H1 => tl σ H1 fun l H2 => th σ H2 fun u H3 => downK K Q x l u H3
theorem pe_down {X : Cx} {e : PySem.Expr} {lo hi : Option PySem.Expr} {te : TE} {tl th : TO} {k : Nat} {p1 p2 p3 pos : Pos} (he : PE X e te) (hl : PO X lo tl) (hh : PO X hi th)
    (hw : ∀ a N, subscripted (.Slice lo hi (some (.UnaryOp .USub (.Constant (.int 1) k p1) p2)) p3) false (.ref a) (.ref N) = operate [.ref a, .ref N] (getItem (.ref a) (.ref N)) := by intros; with_unfolding_all rfl) : PE X (.Subscript e (.Slice lo hi (some (.UnaryOp .USub (.Constant (.int 1) k p1) p2)) p3) pos) (tDown X.K te tl th) := by
  constructor
  intro pins z σ H Q J hq
  have one : PO X (some (.UnaryOp .USub (.Constant (.int 1) k p1) p2)) (tPart (tUn (rU fun i => .int (-i)) (tC (.int 1)))) := po_some (pe_un un_neg pe_int)
  apply Subscript_
  refine thn (he.run pins z σ H _ J hq) ?_
  rintro v z1 ⟨x, H1, J1, rx, q1⟩
  apply wpAny_Slice
  refine thn (hl.run pins z1 σ H1 _ J1 q1) ?_
  rintro v2 z2 ⟨l, H2, J2, pl, q2⟩
  refine thn (hh.run pins z2 σ H2 _ J2 q2) ?_
  rintro v3 z3 ⟨u, H3, J3, pu, q3⟩
  refine thn (one.run pins z3 σ H3 (fun o H4 => o = some (-1) ∧ H4 = H3) J3 ⟨1, rfl, -1, rfl, rfl, rfl⟩) ?_
  rintro v4 z4 ⟨o, H4, J4, ps, rfl, rfl⟩
  obtain ⟨a, xs, rfl, hx, hQ⟩ := q3
  cases rx
  have J5 := J4.kept (t' := z4.toks) (h' := z4.heap.push { cls := .type "slice", data := .fields #[v2, v3, v4] }) fun b ob e => Heap.get?_push_of_some _ e
  obtain ⟨its, r, ht, hz⟩ := J5.list hx
  have hits : its.length = xs.length := r.length.symm
  show wpAny (model X.prog X.w) X.A (subscriptTail e (.Slice lo hi (some (.UnaryOp .USub (.Constant (.int 1) k p1) p2)) p3) (.ref a) (.ref z4.heap.objs.size)) _ _ _
  refine tail_any ht.isList.typeIs PySem.slot_list_getitem.lookup ?_ (hw a _)
  refine wpAny_getItem_list_slice ht.isList (Heap.IsSliceOf.new _ v2 v3 v4) pl pu ps (by decide) ?_ (by rw [List.size_toArray, hits]; exact hz)
  have ep : (slicePick its.toArray l u (some (-1))) = ((dcut its l u).toArray) := by
    unfold slicePick dcut
    simp
  rw [ep]
  have hr := vals_pick r (sliceRange (sliceBounds l u (some (-1)) xs.length).1 (sliceBounds l u (some (-1)) xs.length).2.1 (sliceBounds l u (some (-1)) xs.length).2.2)
  have hr2 : Vals (dcut xs l u) (dcut its l u) := by
    unfold dcut
    rw [hits]; exact hr
  refine ⟨.ref _, _, J5.laid (t' := z4.toks) (o := .lst (dcut xs l u)) (fun b ob q => Heap.get?_push_of_some _ q) (Nat.le_refl _) ?_, rfl, hQ _ (J5.hok.fresh (Nat.le_refl _))⟩
  exact ⟨Nat.le_trans (dcut_len xs l u) hz, _, 0, hr2, Heap.get?_push_size _ rfl⟩
theorem pe_downK {X : Cx} {K : Fr} {e : PySem.Expr} {lo hi : Option PySem.Expr} {te : TE} {tl th : TO} {k : Nat} {p1 p2 p3 pos : Pos} (ek : X.K = K) (h : PE X (.Subscript e (.Slice lo hi (some (.UnaryOp .USub (.Constant (.int 1) k p1) p2)) p3) pos) (tDown X.K te tl th)) :
    PE X (.Subscript e (.Slice lo hi (some (.UnaryOp .USub (.Constant (.int 1) k p1) p2)) p3) pos) (tDown K te tl th) := ek ▸ h
/-! found[i] += v -/
def idx0 {α : Type} (xs : List α) (i : Int) : M α := if 0 ≤ i then (match xs[i.toNat]? with
  | some x => .ok x
  | none => .stuck) else .stuck
def rGet0 (K : Fr) : V → V → Hp → VK → Prop := fun o i H Q => ∃ (a : Addr) (xs : List V) (k : Int) (x : V), o = .ref a ∧ i = .int k ∧ SqL K H a xs ∧ 0 ≤ k ∧ xs[k.toNat]? = some x ∧ Q x H
theorem get_list0 {X : Cx} {K : Fr} (e : X.K = K := by rfl) : PGet X (rGet0 K) := by
  subst e
  intro pins z σ H o i ov iv Q J ro ri h
  obtain ⟨a, xs, k, x, rfl, rfl, hs, h0, hx, q⟩ := h
  cases ro
  obtain ⟨t, rfl⟩ := ri
  obtain ⟨its, r, pl, hz⟩ := J.list hs
  obtain ⟨w, ew, rw'⟩ := r.get hx
  have hk : k.toNat < xs.length := (List.getElem?_eq_some_iff.mp hx).1
  have hb : k < 2 ^ 63 := by
    rw [sizeLine_eq] at hz
    have : (2 : Int) ^ 63 = 9223372036854775808 := by decide +kernel
    rw [this]; omega
  exact wpAny_getItem_list pl.isList h0 hb (by simpa using ew) ⟨x, H, J, rw', q⟩
section
variable {α γ : Type} [Py α] {K : Fr} {P : γ → Prop} {E : XC → Prop} {S H S0 H0 : Hp} {L : List Addr} {a : Addr} {xs : List α} {Q : VK} {σ : St} {te to ti : TE} {tl th : TO} {D : Ends} {tget : V → V → Hp → VK → Prop} {tip : TIp} {tset : TSet}
theorem i_down (q : te σ H fun x H1 => tl σ H1 fun l H2 => th σ H2 fun u H3 => downK K Q x l u H3) : tDown K te tl th σ H Q := q
theorem All2.pick {R : V → α → Prop} {vs : List V} (h : All2 R vs xs) : ∀ is : List Nat, All2 R (is.filterMap fun (i : Nat) => vs[i]?) (is.filterMap fun (i : Nat) => xs[i]?)
  | [] => .nil
  | i :: is => by
    have ih := All2.pick h is
    have hl := h.len
    rw [List.filterMap_cons, List.filterMap_cons]
    by_cases c : i < xs.length
    · obtain ⟨u, hu, ru⟩ := h.get (List.getElem?_eq_getElem c)
      rw [List.getElem?_eq_getElem c, hu]
      exact .cons ru ih
    · rw [List.getElem?_eq_none (by omega), List.getElem?_eq_none (by omega)]
      exact ih
theorem All2.dcut {R : V → α → Prop} {vs : List V} {lo hi : Option Int} (h : All2 R vs xs) : All2 R (dcut vs lo hi) (G.dcut xs lo hi) := by
  unfold G.dcut
  rw [h.len]
  exact h.pick _
theorem s_downS {lo hi : Option Int} (g : Gx L S0 H0 S H) (r : RepH K S H a xs) (q : ∀ p S1 H1, Gx L S0 H0 S1 H1 → Gx [] S H S1 H1 → RepL K S1 p (dcut xs lo hi) → Q (.ref p) H1) : downK K Q (.ref a) lo hi H := by
  obtain ⟨vs, h1, h2⟩ := r
  exact ⟨a, vs, rfl, h1, newL_S g (All2.dcut h2) q⟩
theorem s_downO {lo hi : Option Int} (g : Gx L S0 H0 S H) (r : RepH K S H a xs) (q : ∀ p H1, Gx L S0 H0 S H1 → Gx [] S H S H1 → H p = none → OwnL K S H1 p (dcut xs lo hi) → Q (.ref p) H1) : downK K Q (.ref a) lo hi H := by
  obtain ⟨vs, h1, h2⟩ := r
  exact ⟨a, vs, rfl, h1, newL_O g (All2.dcut h2) q⟩
theorem i_augS (q : to σ H fun o H1 => ti σ H1 fun i H2 => tget o i H2 fun x H3 => te σ H3 fun y H4 => tip x y H4 fun z H5 => tset o i z H5 fun H6 => D.nx σ H6) : tAugS to ti te tget tip tset D σ H := q
theorem s_get0 {ns : List Int} {i : Int} {k : Int → M γ} (r : RepH K S H a ns) (h : wpm (idx0 ns i >>= k) P E) (q : ∀ x, wpm (k x) P E → Q (.int x) H) : rGet0 K (.ref a) (.int i) H Q := by
  obtain ⟨vs, h1, h2⟩ := r
  unfold idx0 at h
  by_cases c : 0 ≤ i
  · rw [if_pos c] at h
    cases e : ns[i.toNat]? with
    | none => rw [e] at h; exact h.elim
    | some x =>
      rw [e] at h
      obtain ⟨v, hv, rv⟩ := h2.get e
      exact ⟨a, vs, i, v, rfl, rfl, h1, c, hv, by rw [show v = .int x from rv]; exact q x h⟩
  · rw [if_neg c] at h; exact h.elim
end
end G
/-! GExc: errors that are caught: mirrors, a try whose error is tracked, isinstance of it. -/
namespace G
open PySem L2 Evl PySem.Spec PyProof.Rows
/-! ### mirrors -/
def xcSub (c d : XC) : Bool := decide (c = d) || decide (d = .hue)
def tryM {α : Type} (d : XC) (m : M α) (f : XC → M α) : M α := match m with
  | .stuck => .stuck
  | .err c => if xcSub c d = true then f c else .err c
  | .ok a => .ok a
theorem xcSub_hue (c : XC) : xcSub c .hue = true := by cases c <;> rfl
/-! ### an error's object, tracked -/
def ExV (cls : Value) (a : Addr) : HO := .ext fun h => ∃ (oe : Obj) (vs : Array Value), h.get? a = some oe ∧ oe.data = .fields vs ∧ L2N.Zn cls none oe
theorem exV_ok {P : Program} {w : World} {H : Hp} {h : Heap} {a : Addr} {cls : Value} {oe : Obj} {vs : Array Value} (e : h.get? a = some oe) (d : oe.data = .fields vs) (z : L2N.Zn cls none oe) : ObjOk P w H h a (ExV cls a) := by
  refine ⟨⟨oe, vs, e, d, z⟩, ⟨oe, e⟩, ?_⟩
  rintro _ _ ⟨o1, v1, q1, r1⟩ kp
  exact ⟨o1, v1, kp o1 q1, r1⟩
section
variable {s : Shared} {X : Cx} {σ : St} {H : Hp} {pins : List (Addr × Obj)}
/-- an object of the heap that was not looked after is looked after from here on -/
theorem inv_track {a : Addr} {φ : Heap → Prop} (I : Inv X pins σ H s) (ha : H a = none) (h0 : X.s_0.heap.get? a = none) (hL : a ≠ X.env.locals) (hC : ∀ x c, X.env.cells.lookup x = some c → c ≠ a) (hP : ∀ p ∈ X.pn ++ pins, p.1 ≠ a)
    (new : ObjOk X.prog X.w (upd H a (.ext φ)) s.heap a (.ext φ)) : Inv X pins σ (upd H a (.ext φ)) s where
  ok := I.ok
  os := I.os
  bare := I.bare
  base :=
    { keep := I.base.keep
      slot := I.base.slot
      free := fun b o e n hx => by
        have nb : b ≠ a := by
          intro z; rw [z, h0] at e; cases e
        rw [upd_ne nb]; exact I.base.free b o e n hx
      there := I.base.there
      tups := fun b xs e => by
        have q := I.base.tups b xs e
        rw [upd_ne (ne_of_none q ha)]; exact q
      frzs := fun b o u e => by
        have q := I.base.frzs b o u e
        rw [upd_ne (ne_of_none q ha)]; exact q
      tbls := fun b ps e => by
        obtain ⟨more, q⟩ := I.base.tbls b ps e
        exact ⟨more, by rw [upd_ne (ne_of_none q ha)]; exact q⟩ }
  loc := I.loc
  cell := I.cell
  free := by rw [upd_ne (Ne.symm hL)]; exact I.free
  freeC := fun x c e => by rw [upd_ne (hC x c e)]; exact I.freeC x c e
  pin := fun p hp => by
    obtain ⟨h1, h2, h3⟩ := I.pin p hp
    exact ⟨h1, by rw [upd_ne (hP p hp)]; exact h2, h3⟩
  hok := HOk.laidN I.hok (fun _ _ e => e) ha new
  len := I.len
/-- into an except suite, and out of it: nothing is pinned there -/
theorem inv_hot (I : Inv X pins σ H s) (a : Addr) : Inv (X.suite a (X.pn ++ pins)) [] σ H s where
  ok := I.ok.suite a _
  os := I.os
  bare := I.bare
  base := I.base
  loc := I.loc
  cell := I.cell
  free := I.free
  freeC := I.freeC
  pin := fun p hp => I.pin p (by simpa using hp)
  hok := I.hok
  len := I.len
theorem inv_cold {a : Addr} (J : Inv (X.suite a (X.pn ++ pins)) [] σ H s) (ok : X.Ok) : Inv X pins σ H s where
  ok := ok
  os := J.os
  bare := J.bare
  base := J.base
  loc := J.loc
  cell := J.cell
  free := J.free
  freeC := J.freeC
  pin := fun p hp => J.pin p (by simpa using hp)
  hok := J.hok
  len := J.len
end
def endsAt (i : Nat) (D : Ends) : Ends := { nx := fun σ H => D.nx (σ.set i none) H, rt := D.rt, bk := fun σ H => D.bk (σ.set i none) H, ct := fun σ H => D.ct (σ.set i none) H }
/-- what a try wishes of an error of its body; slot i is the error's name -/
def wTry (K : Fr) (c : Value) (i : Nat) (ts : Addr → TS) (Wout : WX) (D : Ends) : WX := fun cls d σ H =>
  ∃ b, PySem.W.exmOne K cls c = some b ∧ (b = true → d = none ∧ ∀ a, H a = none → ts a (endsAt i D) (σ.set i (some (.ref a))) (upd H a (ExV cls a))) ∧ (b = false → Wout cls d σ H)
def tTryX (K : Fr) (c : Value) (i : Nat) (ts : Addr → TS) (Wout : WX) (tb : WX → TS) : TS := fun D σ H => tb (wTry K c i ts Wout D) D σ H
section
variable {X : Cx} {x n : PySem.Str} {c : Value} {i : Nat} {body suite : List PySem.Stmt} {b₀ : PySem.Stmt} {np pos pos' : Pos} {tb : WX → TS} {ts : Addr → TS} {Wout : WX}
theorem ps_tryX (hs : X.stack = X.env :: X.outer) (hf : X.env.frame = some X.env.locals) (hex : X.ex = []) (hN : X.N.Nodup) (hi : X.N[i]? = some n) (hln : X.env.kindOf n = some .local) (hc : Names X x c) (tk : L2N.Takes X Wout)
    (hb : ∀ (W : WX) (q : List (Addr × Obj)) (ex : Value → Shared → Prop), L2N.Takes (X.tr q ex) W → PassesOwn (model X.prog X.w) X.A X.env ex → PSs (X.tr q ex) body (tb W))
    (hsu : ∀ (a : Addr) (pn : List (Addr × Obj)), PSs (X.suite a pn) (b₀ :: suite) (ts a)) :
    PS X (.Try body [.ExceptHandler (some (.Name x np)) (some n) (b₀ :: suite) pos'] [] [] pos) (tTryX X.K c i ts Wout tb) := by
  constructor
  intro pins s σ H D I h
  let hd : List PySem.ExceptHandler := [.ExceptHandler (some (.Name x np)) (some n) (b₀ :: suite) pos']
  let after : Value → Shared → Prop := fun e t => wpAny (model X.prog X.w) X.A (noteFrame e X.env) (fun _ t2 => wpAny (model X.prog X.w) X.A (setFlight e none)
    (fun _ t3 => wpAny (model X.prog X.w) X.A (handleBy e X.env hd) (SP X pins D) X.xe t3) X.xe t2) X.xe t
  have taken : L2N.Takes (X.tr (X.pn ++ pins) after) (wTry X.K c i ts Wout D) := by
    rintro u t ⟨a, B, sI, pins', σ', H', cls, d, eu, J', kept, up, air, na, os, gens, b, eb, hyes, hno⟩
    subst eu
    have J := J'.ofTry I.ok
    have fr1 : X.A.frames = some (X.env :: X.outer) := I.ok.frames.trans (congrArg some hs)
    have air' : Sky B (X.env :: X.outer) a (L2N.Zn cls d) X.env.locals t.heap := hs ▸ air
    -- the error is no frame, it is new
    have noFrame : ∀ g : Heap, HandSPX.FlyingZ B (X.env :: X.outer) a (L2N.Zn cls d) g → a ∉ frs (X.env :: X.outer) := by
      intro g fl hm
      obtain ⟨o1, v1, get1, _, data1⟩ := HandSPX.FlyingZ.there fl
      obtain ⟨_, o2, get2, nof⟩ := fl.2.2.1.mem hm
      rw [get1] at get2
      cases get2
      exact nof v1 data1
    refine L2N.Sky.land L2N.Zn.steady fr1 hf air' fun g3 f3 u3 => ?_
    have nfr := noFrame g3 f3
    have newI : sI.heap.get? a = none := by
      cases e : sI.heap.get? a with
      | none => rfl
      | some o =>
        have q := kept a o e (by show a ∉ frs X.stack; rw [hs]; exact nfr)
        rw [f3.2.1] at q
        cases q
    have new0 : X.s_0.heap.get? a = none := by
      cases e0 : X.s_0.heap.get? a with
      | none => rfl
      | some o => exact nomatch newI.symm.trans (J.base.there a o e0 (by rw [hex]; exact fun z => nomatch z)).choose_spec
    have neL : a ≠ X.env.locals := fun z => nfr (List.mem_filterMap.mpr ⟨X.env, List.mem_cons_self, hf.trans (congrArg some z.symm)⟩)
    have neC : ∀ y k, X.env.cells.lookup y = some k → k ≠ a := by
      intro y k e z
      obtain ⟨v, o, get, _⟩ := J.cell y k e
      rw [z, newI] at get
      cases get
    have neP : ∀ p ∈ X.pn ++ pins, p.1 ≠ a := by
      intro p hp z
      have q := (J.pin p hp).1
      rw [z, newI] at q
      cases q
    have at3 : Inv X pins σ' H' { t with heap := g3 } := J.landed kept f3.1 (up.trans u3) os gens
    obtain ⟨o3, v3, get3, z3, d3⟩ := HandSPX.FlyingZ.there f3
    refine wpAny_handleBy_cons (codeAny_handlers_test ?_) (by rintro ⟨⟩)
    -- the class that is named is looked up, the error's class is told
    have look : PySem.W.Looks (model X.prog X.w) g3 (typeOf (.ref a)) cls := by
      intro A' Q' E' s' k' q'
      exact wpAny_typeOf_ref (k' _ _ get3) (by rw [z3.1]; exact q')
    have matched := PySem.W.exm_one (M := model X.prog X.w) at3.kIn look eb
    have named : ∀ {Q' : Value → Shared → Prop} {E' : Value → Shared → Prop}, Q' c { t with heap := g3 } → wpAny (model X.prog X.w) (X.A.mark (some (.ref a))) (eval (.Name x np) X.env) Q' E' { t with heap := g3 } := by
      intro Q' E' q'
      have hot3 := inv_hot at3 a
      rcases hc with ⟨c1, c2, c3 | ⟨c3, c4, c5⟩⟩
      · exact ld_glob hot3 c1 c3 q' c2
      · exact ld_blt hot3 c1 c3 c4 q' c5 c2
    refine named (matched.here ?_)
    cases b with
    | false =>
      refine wpAny_handleBy_nil ?_
      obtain ⟨_, _, _, oe, ve, T, oT, tv, g1, _, g2, g4, _⟩ := id f3
      have onward : wpAny (model X.prog X.w) X.A (setFlight (.ref a) X.env.frame) (fun _ t4 => wpAny (model X.prog X.w) X.A (throw (.ref a) : Sem Flow) (SP X pins D) X.xe t4) X.xe { t with heap := g3 } := by
        rw [hf]
        refine HandSPX.setFlight_upZ f3 fun g5 held u5 => wpAny_throw (tk _ _ ⟨a, B, sI, pins, σ', H', cls, d, rfl, J, kept, (up.trans u3).trans u5, ?_, na, os, gens, hno rfl⟩)
        right; right
        rw [hs]; exact held
      unfold PySem.passOn
      refine wpAny_bind (wpAny_field g1 g2 g4 ?_)
      rw [if_neg (by simp)]
      first
        | exact wpAny_bind (wpAny_pure (wpAny_bind onward))
        | exact wpAny_bind onward
    | true =>
      obtain ⟨rfl, yes⟩ := hyes rfl
      refine codeAny_handlers_suite_as (HandSPX.lands_againZ f3 fun g4 f4 u4 => ?_)
      obtain ⟨o4, v4, get4, z4, d4⟩ := HandSPX.FlyingZ.there f4
      have at4 : Inv X pins σ' H' { t with heap := g4 } := J.landed kept f4.1 ((up.trans u3).trans u4) os gens
      have tr4 := inv_hot (inv_track at4 na new0 neL neC neP (exV_ok get4 d4 z4)) a
      refine store_ok (X := X.suite a (X.pn ++ pins)) (v := .ref a) tr4 hN hi (.inl hln) rfl (fun t5 I5 => ?_) (.inr hln)
      have leave : ∀ {σ6 : St} {H6 : Hp} {t6 : Shared} {Q' : Shared → Prop}, Inv (X.suite a (X.pn ++ pins)) [] σ6 H6 t6 → (∀ t7, Inv X pins (σ6.set i none) H6 t7 → Q' t7) →
          wpAny (model X.prog X.w) X.A (do bindName X.env n .none; unbindBehindTheSuite X.env n pos') (fun _ t7 => Q' t7) X.xe t6 := fun I6 q' => gone_ok (inv_cold I6 I.ok) hN hi hln q'
      refine wpAny_mono ((hsu a (X.pn ++ pins)).run [] t5 _ _ (endsAt i D) I5 (yes a na)) (fun fl t6 hsp => ?_) fun _ _ z => z.elim
      cases fl with
      | next => obtain ⟨σ6, H6, I6, q6⟩ := hsp; exact leave I6 fun t7 I7 => ⟨_, _, I7, q6⟩
      | brk => obtain ⟨σ6, H6, I6, q6⟩ := hsp; exact leave I6 fun t7 I7 => ⟨_, _, I7, q6⟩
      | cont => obtain ⟨σ6, H6, I6, q6⟩ := hsp; exact leave I6 fun t7 I7 => ⟨_, _, I7, q6⟩
      | ret r => obtain ⟨v6, σ6, H6, I6, r6, q6⟩ := hsp; exact leave I6 fun t7 I7 => ⟨_, _, _, I7, r6, q6⟩
  refine wpAny_Try_except (wpAny_mono ((hb _ (X.pn ++ pins) after taken PassesOwn.looking).run [] s σ H D (I.toTry _) h) (fun fl t hsp => ?_) fun _ _ z => z)
  cases fl with
  | next => obtain ⟨σ', H', J, q⟩ := hsp; exact wpAny_execs_nil ⟨σ', H', J.ofTry I.ok, q⟩
  | brk => obtain ⟨σ', H', J, q⟩ := hsp; exact ⟨σ', H', J.ofTry I.ok, q⟩
  | cont => obtain ⟨σ', H', J, q⟩ := hsp; exact ⟨σ', H', J.ofTry I.ok, q⟩
  | ret r => obtain ⟨v, σ', H', J, rv, q⟩ := hsp; exact ⟨v, σ', H', J.ofTry I.ok, rv, q⟩
theorem ps_tryXK {K : Fr} (hs : X.stack = X.env :: X.outer) (hf : X.env.frame = some X.env.locals) (hex : X.ex = []) (hN : X.N.Nodup) (hi : X.N[i]? = some n) (hln : X.env.kindOf n = some .local) (hc : Names X x c) (tk : L2N.Takes X Wout)
    (hb : ∀ (W : WX) (q : List (Addr × Obj)) (ex : Value → Shared → Prop), L2N.Takes (X.tr q ex) W → PassesOwn (model X.prog X.w) X.A X.env ex → PSs (X.tr q ex) body (tb W))
    (hsu : ∀ (a : Addr) (pn : List (Addr × Obj)), PSs (X.suite a pn) (b₀ :: suite) (ts a)) (ek : X.K = K := by rfl) :
    PS X (.Try body [.ExceptHandler (some (.Name x np)) (some n) (b₀ :: suite) pos'] [] [] pos) (tTryX K c i ts Wout tb) := ek ▸ ps_tryX hs hf hex hN hi hln hc tk hb hsu
end
end G
/-! GExc2: facts about the own classes of error, isinstance, defs that raise nothing and may be called while an error is handled. -/
namespace G
open PySem L2 Evl PySem.Spec PyProof.Rows
/-! ### facts of the classes -/
def allXC : List XC := [.hue, .tree, .hues, .place, .part, .number, .leaf, .text, .form, .yet]
theorem mem_allXC (c : XC) : c ∈ allXC := by cases c <;> decide
def eqB (a b : Option Bool) : Bool := decide (a = b)
def eqV2 (a b : Option (Option Value)) : Bool := decide (a = b)
def excCB (K : Fr) (D : Addr) : Bool :=
  eqV2 (PySem.W.findIn K (.ref D) "__getattribute__") (some (some (.builtin "BaseException.__getattribute__"))) && (eqV2 (PySem.W.findIn K (.ref D) "__getattr__") (some none) &&
  (eqB (PySem.W.subIn K (.ref D) (.type "BaseException")) (some true) && (PySem.W.hasDictIn K D && (eqV2 (PySem.W.findIn K (.ref D) "__class__") (some (some (.builtin "object.__class__"))) &&
  (eqV2 (PySem.W.specialIn K (.builtin "object.__class__") "__get__") (some (some (.builtin "getset_descriptor.__get__"))) && (eqB (PySem.W.takesIn K (.builtin "object.__class__")) (some true) && eqB (PySem.W.mroIn K D (.type "object")) (some true)))))))
theorem excCB_ok {K : Fr} {D : Addr} (h : excCB K D = true) : ExcC K D := by
  simp only [excCB, Bool.and_eq_true, eqV2, eqB, decide_eq_true_eq] at h
  obtain ⟨h1, h2, h3, h4, h5, h6, h7, h8⟩ := h
  exact ⟨h1, h2, h3, h4, h5, h6, h7, h8⟩
def xcB (K : Fr) : Bool := allXC.all fun c => excCB K (caOf K c) && (eqB (PySem.W.kitOne K (.ref (caOf K c)) (.type "ValueError")) (some true) &&
  allXC.all fun d => eqB (PySem.W.exmOne K (.ref (caOf K c)) (.ref (caOf K d))) (some (xcSub c d)) && eqB (PySem.W.kitOne K (.ref (caOf K c)) (.ref (caOf K d))) (some (xcSub c d)))
structure XcF (K : Fr) : Prop where
  exc : ∀ c, ExcC K (caOf K c)
  kve : ∀ c, PySem.W.kitOne K (.ref (caOf K c)) (.type "ValueError") = some true
  exm : ∀ c d, PySem.W.exmOne K (.ref (caOf K c)) (.ref (caOf K d)) = some (xcSub c d)
  kit : ∀ c d, PySem.W.kitOne K (.ref (caOf K c)) (.ref (caOf K d)) = some (xcSub c d)
theorem xcB_ok {K : Fr} (h : xcB K = true) : XcF K := by
  have h1 : ∀ c, excCB K (caOf K c) = true ∧ PySem.W.kitOne K (.ref (caOf K c)) (.type "ValueError") = some true ∧ ∀ d, PySem.W.exmOne K (.ref (caOf K c)) (.ref (caOf K d)) = some (xcSub c d) ∧ PySem.W.kitOne K (.ref (caOf K c)) (.ref (caOf K d)) = some (xcSub c d) := by
    intro c
    have q := List.all_eq_true.mp h c (mem_allXC c)
    simp only [Bool.and_eq_true, eqB, decide_eq_true_eq] at q
    refine ⟨q.1, q.2.1, fun d => ?_⟩
    have q2 := List.all_eq_true.mp q.2.2 d (mem_allXC d)
    simpa only [Bool.and_eq_true, eqB, decide_eq_true_eq] using q2
  exact ⟨fun c => excCB_ok (h1 c).1, fun c => (h1 c).2.1, fun c d => ((h1 c).2.2 d).1, fun c d => ((h1 c).2.2 d).2⟩
/-! ### an error as a value -/
instance : Py XC where
  rep := fun K S v c => ∃ a, v = .ref a ∧ S a = some (ExV (.ref (caOf K c)) a)
  mono := fun e ⟨a, h1, h2⟩ => ⟨a, h1, e _ _ h2⟩
instance : NN XC := ⟨fun ⟨a, h, _⟩ => by subst h; simp⟩
theorem rep_unopt {α : Type} [Py α] {K : Fr} {S : Hp} {v : V} {o : Option α} {x : α} (h : Py.rep K S v o) (e : o = some x) : Py.rep K S v x := by
  subst e; exact h
/-- isinstance of an error that is looked after -/
def rIsX (K : Fr) : List V → Hp → VK → Prop := fun xs H Q => ∃ (a D : Addr) (k : V) (kv : Value) (b : Bool), xs = [.ref a, k] ∧ H a = some (ExV (.ref D) a) ∧ ExcC K D ∧ ClsV k kv ∧ PySem.W.kitOne K (.ref D) kv = some b ∧ Q (.bl b) H
def rIsXT (K : Fr) : List V → Hp → VK → Prop := fun xs H Q => ∃ (a D tp : Addr) (ks : List V) (kvs : List Value) (b : Bool), xs = [.ref a, .ref tp] ∧ H a = some (ExV (.ref D) a) ∧ ExcC K D ∧ H tp = some (.tup ks) ∧ Paired ClsV ks kvs ∧
  PySem.W.kitAny K (.ref D) kvs = some b ∧ Q (.bl b) H
section
variable {s : Shared} {X : Cx} {σ : St} {H : Hp} {pins : List (Addr × Obj)}
theorem inst_of {a D : Addr} (I : Inv X pins σ H s) (h : H a = some (ExV (.ref D) a)) : ∃ oe, PySem.W.InstAt s.heap a oe D none := by
  obtain ⟨⟨⟨oc, od, oda, osl⟩, vs, g1, g2, g3, g4, _⟩, _, _⟩ := I.hok a _ h
  dsimp only at g2 g3 g4
  subst g2 g3 g4
  exact ⟨_, g1, rfl, rfl, trivial⟩
theorem call_isX : CallR X (.builtin "isinstance") (rIsX X.K) := by
  rintro pins s σ H xs us Q I r ⟨a, D, k, kv, b, rfl, ha, C, hk, e, q⟩
  obtain ⟨w1, w2, rfl, r1, r2⟩ := vals2 r
  cases r1
  obtain rfl := hk.eq r2
  obtain ⟨oe, J⟩ := inst_of I ha
  exact PySem.W.kia_one (PySem.W.handS_kitx_exc C.hg C.hk C.hs C.hd C.ha C.hn C.ht C.hm) I.kIn J e (by rintro ⟨⟩) fun tk => ⟨.bl b, H, I.tok tk, rfl, q⟩
theorem call_isXT : CallR X (.builtin "isinstance") (rIsXT X.K) := by
  rintro pins s σ H xs us Q I r ⟨a, D, tp, ks, kvs, b, rfl, ha, C, ht, hk, e, q⟩
  obtain ⟨w1, w2, rfl, r1, r2⟩ := vals2 r
  cases r1
  cases r2
  obtain ⟨oe, J⟩ := inst_of I ha
  obtain ⟨_, its, rv, ⟨oc, od, dt, sl⟩, g1, g2, n, g3⟩ := I.hok tp _ ht
  obtain rfl := ClsV.all hk rv
  dsimp only at g2 g3
  subst g2 g3
  exact PySem.W.kia_tup (PySem.W.handS_kitx_exc C.hg C.hk C.hs C.hd C.ha C.hn C.ht C.hm) I.kIn J g1 e (by rintro ⟨⟩) fun tk => ⟨.bl b, H, I.tok tk, rfl, q⟩
theorem call_isXK {K : Fr} (ek : X.K = K := by rfl) : CallR X (.builtin "isinstance") (rIsX K) := ek ▸ call_isX
theorem call_isXTK {K : Fr} (ek : X.K = K := by rfl) : CallR X (.builtin "isinstance") (rIsXT K) := ek ▸ call_isXT
end
section
variable {K : Fr} {S H : Hp} {v : V} {c d : XC} {Q : VK}
theorem s_isX (F : XcF K) (ex : Ex S H) (r : Py.rep K S v c) (q : Q (.bl (xcSub c d)) H) : rIsX K [v, .ref (caOf K d)] H Q := by
  obtain ⟨a, rfl, h⟩ := r
  exact ⟨a, _, _, _, _, rfl, ex _ _ h, F.exc c, .own _, F.kit c d, q⟩
theorem s_isXV (F : XcF K) (ex : Ex S H) (r : Py.rep K S v c) (q : Q (.bl true) H) : rIsX K [v, .ty "ValueError"] H Q := by
  obtain ⟨a, rfl, h⟩ := r
  exact ⟨a, _, _, _, _, rfl, ex _ _ h, F.exc c, .ty _, F.kve c, q⟩
theorem kitAny_xc (F : XcF K) : ∀ ds : List XC, PySem.W.kitAny K (.ref (caOf K c)) (ds.map fun d => .ref (caOf K d)) = some (ds.any fun d => xcSub c d)
  | [] => rfl
  | d :: ds => by
    have e := F.kit c d
    rw [List.map_cons, List.any_cons]
    cases h : xcSub c d with
    | true => exact kitAny_cons (b := true) (by rw [e, h]) (fun z => by cases z) fun _ => rfl
    | false => exact kitAny_cons (b := false) (by rw [e, h]) (fun _ => by rw [Bool.false_or]; exact kitAny_xc F ds) fun z => by cases z
theorem paired_xc : ∀ ds : List XC, Paired ClsV (ds.map fun d => V.ref (caOf K d)) (ds.map fun d => Value.ref (caOf K d))
  | [] => .nil
  | d :: ds => .cons (.own _) (paired_xc ds)
theorem s_isXT {p : Addr} (ds : List XC) (F : XcF K) (ex : Ex S H) (r : Py.rep K S v c) (ht : H p = some (.tup (ds.map fun d => V.ref (caOf K d)))) (q : Q (.bl (ds.any fun d => xcSub c d)) H) : rIsXT K [v, .ref p] H Q := by
  obtain ⟨a, rfl, h⟩ := r
  exact ⟨a, _, p, _, _, _, rfl, ex _ _ h, F.exc c, ht, paired_xc ds, kitAny_xc F ds, q⟩
end
/-! ### defs that raise nothing, called anywhere -/
structure FnQ (P : Program) (w : World) (K : Fr) (mg : PySem.Str → Option Value) (base : Heap) (k : Nat) (f : Addr) (fd : FuncData) (ps : List PySem.Str) (sp : Sp) : Prop where
  len : ∀ us H Q E, sp us H Q E → us.length = ps.length
  run : ∀ (A : Around) (outer : List Env) (s : Shared) (H : Hp) (args : Args) (us : List Value) (vs : List V) (Q : VK) (E : XK),
    L2H.RoomH k A → Env0 P w K mg base A outer s H → BindsTo s fd args (ps.zip us) → Vals vs us → sp vs H Q E → codeAny (model P w) A (.call (.ref f) args) (CR (L2N.CX P w) outer P w H s Q E) s
theorem FnQ.ok {P : Program} {w : World} {K : Fr} {mg : PySem.Str → Option Value} {base : Heap} {k : Nat} {f : Addr} {fd : FuncData} {ps : List PySem.Str} {sp : Sp} (F : FnQ P w K mg base k f fd ps sp) : FnOk P w K mg base (L2N.CX P w) k f fd ps sp :=
  ⟨F.len, fun A outer s H args us vs Q E hr => F.run A outer s H args us vs Q E (L2H.roomH_of hr)⟩
theorem FnQ.mono {P : Program} {w : World} {K : Fr} {mg : PySem.Str → Option Value} {base : Heap} {j k : Nat} {f : Addr} {fd : FuncData} {ps : List PySem.Str} {sp : Sp} (F : FnQ P w K mg base j f fd ps sp) (h : j ≤ k) : FnQ P w K mg base k f fd ps sp :=
  ⟨F.len, fun A outer s H args us vs Q E hr => F.run A outer s H args us vs Q E (hr.mono h)⟩
/-- such a def's body runs in a context that is not calm -/
def cxQ (P : Program) (w : World) (K : Fr) (mg : PySem.Str → Option Value) (base : Heap) (N : List PySem.Str) (qual : PySem.Str) (scope : Scope) (f : Addr) (cd : Value) (A : Around) (outer : List Env) (s : Shared) (H : Hp) (E : XK) : Cx :=
  { cxOf (L2N.CX P w) P w K mg base N qual scope f cd A outer s H E with calm := false }
/-- the module's names are a dict that stands outside: a pin that is always there -/
theorem pin_base {P : Program} {w : World} {K : Fr} {mg : PySem.Str → Option Value} {base : Heap} {A : Around} {outer : List Env} {s : Shared} {H : Hp} (e0 : Env0 P w K mg base A outer s H) : ∃ p, L2H.PinOk outer H s p := by
  obtain ⟨o, es, ep, ho, r⟩ := e0.mod.glob
  have at_ := e0.bs _ _ ho
  refine ⟨(mainGlobals, o), at_.1, at_.2, fun hm => ?_, fun v z => ?_⟩
  · have q := (e0.funs.mem hm).1
    rw [ho] at q
    cases q
  · exact nomatch (show Data.cell v = Data.dict es ep from z.symm.trans r.1)
theorem FunD.okQ {P : Program} {w : World} {K : Fr} {mg : PySem.Str → Option Value} {base : Heap} {x qual : PySem.Str} {params : Arguments} {body : List PySem.Stmt} {scope : Scope} {f : Addr} {fd : FuncData} {N ps : List PySem.Str} {k : Nat} {sp : Sp}
    (F : FunD K x qual params body scope [] [] f fd) (S : FnScope N ps scope) (len : ∀ vs H Q E, sp vs H Q E → vs.length = ps.length)
    (hbody : ∀ (cdv : Value) (A : Around) (outer : List Env) (s : Shared) (H : Hp) (vs : List V) (Q : VK) (E : XK), L2H.RoomH k (A.deeper (envOfC qual scope s.heap.objs.size f cdv)) → sp vs H Q E →
      ∃ t, PSs (cxQ P w K mg base N qual scope f cdv A outer s H E) body t ∧ t { nx := fun _ H' => Q .non H', rt := Q } (start N vs) H) : FnQ P w K mg base (k + 1) f fd ps sp := by
  obtain ⟨oc, od, dV, kV, doc, pm, an, cdv, ct, osl, rfl, lk, code, _, _⟩ := F.ex
  constructor
  · exact len
  intro A outer s H args us vs Q E room e0 bind rel told
  have nl := len _ _ _ _ told
  have kin : K.In s.heap := fun b o e => (e0.bs b o (e0.mod.kin b o e)).1
  have kinds : ∀ y ∈ ps.zip us, scope.names.lookup y.1 = some .local ∨ (scope.names.lookup y.1 = some .cell ∧ ((cellsFrom (s.heap.objs.size + 1) scope.names []).lookup y.1).isSome = true) := by
    rintro ⟨y, u⟩ hy
    exact (S.par y (List.of_mem_zip hy).1).imp (fun q => q) fun q => ⟨q, PySem.W.cellsFrom_some _ _ _ (.inl q)⟩
  obtain ⟨t, ht, goal⟩ := hbody cdv A outer s H vs Q E (room.deeper _) told
  obtain ⟨p, hp⟩ := pin_base e0
  refine codeAny_call_function room.depth (kin _ _ lk) rfl S.co S.gen rfl (PySem.W.codeRec_of kin code) (bind _ _ _ _ (wpAny_newFunctionEnv_cells S.kind kinds ?_))
  rintro env rfl s1 x1
  refine ⟨(e0.mod.nolimit.keeps fun b o e => (e0.bs b o e).1).keeps x1.toInCall.keep, codeAny_func ?_⟩
  have J := L2H.inv_startH (CX := L2N.CX P w) (P := P) (w := w) (K := K) (mg := mg) (base := base) (E := E) (f := f) (qual := qual) (cd := cdv) S hp e0 nl rel x1
  have I : Inv (cxQ P w K mg base N qual scope f cdv A outer s H E) [] (start N vs) H s1 :=
    { ok := ⟨J.ok.mod, J.ok.kind, J.ok.glob, J.ok.blt, J.ok.above, J.ok.inj, J.ok.has, J.ok.cab, fun z => Bool.noConfusion (show false = true from z), J.ok.frames, J.ok.stk, J.ok.exf, J.ok.bs, J.ok.bsz, J.ok.noex, J.ok.exfs, J.ok.funs, J.ok.frf⟩
      os := J.os, bare := J.bare, base := J.base, loc := J.loc, cell := J.cell, free := J.free, freeC := J.freeC
      pin := fun q hq => by cases (show q ∈ ([] : List (Addr × Obj)) from hq)
      hok := J.hok, len := J.len }
  refine wpAny_mono (ht.run [] s1 _ H _ I goal) (fun fl s' told' => ?_) fun _ _ z => z
  cases fl with
  | ret u => obtain ⟨v, _, H', J', rv, q⟩ := told'; exact ⟨v, H', J'.os, J'.bare, J'.base, J'.hok, rv, q⟩
  | next => obtain ⟨_, H', J', q⟩ := told'; exact ⟨.non, H', J'.os, J'.bare, J'.base, J'.hok, rfl, q⟩
  | brk => obtain ⟨_, _, _, no⟩ := told'; exact False.elim no
  | cont => obtain ⟨_, _, _, no⟩ := told'; exact False.elim no
/-- by its name -/
structure DfnQ (P : Program) (w : World) (K : Fr) (mg : PySem.Str → Option Value) (base : Heap) (x : PySem.Str) (k : Nat) (ps : List PySem.Str) (sp : Sp) : Prop where
  ex : ∃ f fd, mg x = some (.ref f) ∧ PySem.W.keepIn K (.ref f) = true ∧ Binds K fd ps [] ∧ FnQ P w K mg base k f fd ps sp
theorem DfnQ.mk' {P : Program} {w : World} {K : Fr} {mg : PySem.Str → Option Value} {base : Heap} {x : PySem.Str} {k : Nat} {ps : List PySem.Str} {sp : Sp} {st : PySem.Stmt} (A : At K mg x st ps)
    (h : ∀ f fd, FunD K x x (defArgs st) (defBody st) (defScope st) [] [] f fd → FnQ P w K mg base k f fd ps sp) : DfnQ P w K mg base x k ps sp := by
  obtain ⟨f, fd, h1, h2, h3⟩ := A.ex
  exact ⟨f, fd, h1, h2.kp, h3, h f fd h2⟩
theorem roomQ {k : Nat} {A : Around} {v : Option Value} (r : Room k A) : L2H.RoomH k (A.mark v) := ⟨r.dp, r.un⟩
section
variable {X : Cx} {k : Nat} {f : Addr} {fd : FuncData} {ps : List PySem.Str} {sp : Sp} {x : PySem.Str} {p pos : Pos} {e : PySem.Expr} {es : List PySem.Expr} {t : TA}
theorem run_fnQ {pins : List (Addr × Obj)} {σ : St} {H : Hp} {s : Shared} {Q : VK} {us : List Value} {vs : List V} (F : FnQ X.prog X.w X.K X.mg X.base k f fd ps sp) (room : L2H.RoomH k X.A) (bd : Binds X.K fd ps []) (I : Inv X pins σ H s) (rel : Vals vs us)
    (told : sp vs H Q fun _ _ _ => False) : wpAny (model X.prog X.w) X.A (call (.ref f) us) (EP X pins σ Q) X.xe s := by
  have n : us.length = ps.length := rel.length ▸ F.len _ _ _ _ told
  have b := bd s us I.kIn (by simpa using n)
  simp only [List.append_nil] at b
  refine wpAny_call (codeAny_mono (F.run X.A X.stack s H ⟨us, []⟩ us vs Q _ room I.env0 b rel told) ?_)
  rintro (e | fl) s' hq
  · obtain ⟨_, _, _, _, _, _, _, _, _, _, _, _, no⟩ := hq
    exact no.elim
  · cases fl with
    | ret u => exact I.after hq
    | next => exact hq.elim
    | brk => exact hq.elim
    | cont => exact hq.elim
theorem pe_callQ (F : FnQ X.prog X.w X.K X.mg X.base k f fd ps sp) (room : L2H.RoomH k X.A) (gx : Gl X x) (mx : X.mg x = some (.ref f)) (kp : PySem.W.keepIn X.K (.ref f) = true) (bd : Binds X.K fd ps []) (ha : PA X (e :: es) t)
    (dbg : (x == ("__debug__" : PySem.Str)) = false := by decide) (st1 : starEach (e :: es) X.env = (false, eval e X.env) :: starEach es X.env := by rfl) (st2 : (backTo pos (starEach es X.env)).any (·.1) = false := by rfl) :
    PE X (.Call (.Name x p) (e :: es) [] pos) (tCall sp [] (fun _ _ _ => False) t) where
  run := fun pins s σ H Q I h => wpAny_Call_Name_kw (ld_glob I gx mx (PySem.W.callWith_K (h₀ := X.base) I.ok.mod.kin kp (thn (ha.run pos pins s σ H _ I h) fun us s1 ⟨vs, H1, I1, r, q⟩ => by
    have q' : sp vs H1 Q fun _ _ _ => False := by simpa only [List.append_nil] using q
    exact ⟨I1.kIn, run_fnQ F room bd I1 r q'⟩) st1 st2) dbg)
end
/-! ### the try, beside its mirror -/
section
variable {γ τ : Type} {P : γ → Prop} {E : XC → Prop} {σ : St} {S H : Hp} {K : Fr} {D : Ends} {ts : Addr → TS} {tb : WX → TS} {Wout : WX} {i : Nat}
theorem i_tryJ {m : M τ} {f : XC → M τ} {k : τ → M γ} (d : XC) (F : XcF K) (R : τ → St → Hp → Hp → Prop) (Rx : St → Hp → Hp → Prop) (h : wpm (tryM d m f >>= k) P E)
    (hb : ∀ (PJ : τ → Prop) (EJ : XC → Prop) (N : St → Hp → Prop) (W : WX), (∀ st σ' S' H', PJ st → R st σ' S' H' → N σ' H') → (∀ c σ' S' H', EJ c → Rx σ' S' H' → W (.ref (caOf K c)) none σ' H') → wpm m PJ EJ → tb W { D with nx := N } σ H)
    (hs : ∀ (PJ : τ → Prop) (N : St → Hp → Prop) (c : XC) (a : Addr) (σ' : St) (S1 H1 S2 H2 : Hp), (∀ st σ3 S3 H3, PJ st → R st (σ3.set i none) S3 H3 → N σ3 H3) → Rx σ' S1 H1 → Gx [] S1 H1 S2 H2 → Py.rep K S2 (.ref a) c → wpm (f c) PJ E →
      ts a { endsAt i D with nx := N } (σ'.set i (some (.ref a))) H2)
    (ho : ∀ c σ' S' H', xcSub c d = false → E c → Rx σ' S' H' → Wout (.ref (caOf K c)) none σ' H')
    (hx : ∀ σ' S' H', Rx σ' S' H' → Ex S' H')
    (hk : ∀ st σ' S' H', R st σ' S' H' → wpm (k st) P E → D.nx σ' H') : tTryX K (.ref (caOf K d)) i ts Wout tb D σ H := by
  have h := wb h
  show tb (wTry K (.ref (caOf K d)) i ts Wout D) D σ H
  refine hb (fun st => wpm (k st) P E) (fun c => wpm (if xcSub c d = true then f c else .err c) (fun st => wpm (k st) P E) E) D.nx _ (fun st σ' S' H' p r => hk st σ' S' H' r p) (fun c σ' S' H' e r => ?_) ?_
  · refine ⟨_, F.exm c d, fun z => ⟨rfl, fun a na => ?_⟩, fun z => ?_⟩
    · rw [if_pos z] at e
      refine hs (fun st => wpm (k st) P E) (fun σ3 H3 => D.nx (σ3.set i none) H3) c a σ' S' H' (upd S' a (ExV (.ref (caOf K c)) a)) _ (fun st σ3 S3 H3 p r3 => hk _ _ _ _ r3 p) r ((Gx.refl (hx _ _ _ r)).newS na) ⟨a, rfl, upd_same⟩ e
    · rw [z, if_neg (by decide)] at e
      exact ho c σ' S' H' z e r
  · cases m with
    | stuck => exact h.elim
    | err c => exact h
    | ok a => exact h
end
/-! ### the head's facts, with these -/
def hookB (n : Nat) (fa : List He.Fa) (fn : List He.DefD) : PySem.W.Hook where
  α := He.AlD × Bool
  obs := fun s => (He.obsDG n fa fn s.heap.get?, xcB (He.frG s.heap.get? (He.asD s.heap.get? n)))
  val := fun _ => (He.valD fn, true)
  says := fun _ h => ∃ K : Fr, K.In h ∧ He.SaysD fa fn K ∧ xcB K = true
  of := fun _ _ e => ⟨_, He.frG_in, congrArg Prod.fst e, congrArg Prod.snd e⟩
  keeps := fun _ _ _ ⟨K, k1, k2⟩ k => ⟨K, PySem.W.Frag.In.keeps k1 k, k2⟩
def obsBG (n : Nat) (fa : List He.Fa) (fn : List He.DefD) (g : Addr → Option Obj) : He.AlD × Bool := (He.obsDG n fa fn g, xcB (He.frG g (He.asD g n)))
theorem obsBG_eq {n : Nat} {fa : List He.Fa} {fn : List He.DefD} {g : Addr → Option Obj} {s : Shared} (h : ∀ a, g a = s.heap.get? a) : obsBG n fa fn g = (hookB n fa fn).obs s := by
  obtain rfl : g = s.heap.get? := funext h
  rfl
/-- the law holds where its mirror says True -/
theorem law_endB {l : PySem.W.OpenLaw} {n k : Nat} {q : Program} {loose : List PySem.Str} {XP : (PySem.Str → Option Value) → Heap → Prop} {fa : List He.Fa} {fn : List He.DefD} {d : DefRec} {m : List Int → M Bool} {st : PySem.Stmt}
    (hn : l.most = some n) (hn2 : n ≤ sizeLine) (hdf : d.params.defaults = []) (hr : Room k callerA) (hm : ∀ ns : List Int, ns.length ≤ n → m ns = .ok true) (hd : d.name = ("law" : PySem.Str))
    (hb : ∀ (kV doc pm : Value) (an : Option Addr) (cdv ct : Value) (us : List Value), us.length = (["script"] : List PySem.Str).length → bindArgs (PySem.W.fnOf "law" "law" (defArgs st) (defBody st) (defScope st) .none kV doc pm an cdv ct) ⟨us, []⟩ = pure ((["script"] : List PySem.Str).zip us))
    (i j : Nat) (hfi : fn[i]? = some ⟨("law", none), "law", "law", defArgs st, defBody st, defScope st, [], []⟩) (hfj : fa[j]? = some (.glo "law"))
    (F : ∀ (w : World) (K : Fr) (mg : PySem.Str → Option Value) (h : Heap), K.In h → h.Ns mainGlobals mg → He.SaysD fa fn K → XcF K → ∀ (base : Heap) (f : Addr) (fd : FuncData), FunD K "law" "law" (defArgs st) (defBody st) (defScope st) [] [] f fd →
      FnOk l.prog w K mg base (L2N.CX l.prog w) k f fd ["script"] (fun vs H Q E => ∃ (S0 : Hp) (a_script : Addr) (script : List Int), vs = [(V.ref a_script)] ∧ Ex S0 H ∧ RepQ K S0 a_script script ∧ wpm (m script) (fun r => ∀ S' H', Gx [] S0 H S' H' → Q (V.bl (r)) H') (fun c => ∀ S' H', Gx [] S0 H S' H' → E (.ref (caOf K c)) none H'))) :
    PySem.W.WalkO q loose XP (hookB 6 fa fn).says l.row.toRowW d [] (fun f vs => PySem.call f vs) := by
  refine L2.walk_ofE (l := l) (n := n) (k := k) (x := "script") (CX := L2.CX0) hn hn2 hdf hr ?_ (fun _ _ _ _ z => z)
  rintro w mg fa' h ⟨K, KX, c, xb⟩ G hmg0
  have hmg : mg ("law" : PySem.Str) = some (.ref fa') := by rw [← hd]; exact hmg0
  obtain ⟨fd, FD⟩ := c.def_ i hfi
  obtain rfl := V.ref.inj (congrArg V.ref (Value.ref.inj (Option.some.inj (hmg.symm.trans (He.glo_ok KX G (c.fact j hfj))))))
  refine ⟨K, fd, _, KX, fun s u => FunD.bindsA (ps := ["script"]) FD hb s [u] rfl, ?_, fun base KB GB => fnOk_nox (F w K mg h KX G c (xcB_ok xb) base _ fd FD)⟩
  intro H a ns hl _ hS
  exact ⟨H, a, ns, rfl, Ex.refl H, ⟨_, hS, flat_reps ns⟩, wpm_of (hm ns hl) fun S' H' _ => rfl⟩
end G
/-! GPlus: more rules. -/
namespace G
open PySem L2 Evl
theorem i_sigT {ts : TS} {σ σ' : St} {H : Hp} {D : Ends} {i : Nat} {v : Option V} (e : σ.set i v = σ') (q : ts D σ' H) : ts D (σ.set i v) H := by rw [e]; exact q
theorem cr_sumK {X : Cx} {K : Fr} (hc : X.calm = true) (ek : X.K = K := by rfl) : CallR X (.builtin "sum") (rSum K) := ek ▸ cr_sum hc
section
variable {K : Fr} {S H : Hp} {a : Addr} {Q : VK}
theorem s_sum {xs : List Int} (r : RepH K S H a xs) (q : Q (.int xs.sum) H) : rSum K [.ref a] H Q := by
  obtain ⟨vs, h1, h2⟩ := r
  refine ⟨a, xs, rfl, ?_, q⟩
  rw [reps_flat h2] at h1
  exact h1
end
/-- a list of one's own stays as it is from here on -/
theorem own_frz {α : Type} [Py α] {K : Fr} {L : List Addr} {S0 H0 S H : Hp} {a : Addr} {xs : List α} {goal : Prop} (g : Gx L S0 H0 S H) (o : OwnL K S H a xs) (h0 : H0 a = none)
    (q : ∀ S2, Gx L S0 H0 S2 H → Ex S S2 → (∀ b, b ≠ a → S2 b = S b) → RepL K S2 a xs → goal) : goal := by
  obtain ⟨vs, w, rs⟩ := o
  exact q _ (g.frz w h0) (Ex.new w.free) (fun b hb => upd_ne hb) ⟨vs, upd_same, rs.mono (Ex.new w.free)⟩
/-! sorted(xs), min(xs), max(xs) of whole numbers -/
theorem cr_sortedIK {X : Cx} {K : Fr} (ek : X.K = K := by rfl) : CallR X (.builtin "sorted") (rSortedI K) := ek ▸ cr_sortedI
theorem cr_minK {X : Cx} {K : Fr} (hc : X.calm = true) (ek : X.K = K := by rfl) : CallR X (.builtin "min") (rMin K) := ek ▸ cr_min hc
theorem cr_maxK {X : Cx} {K : Fr} (hc : X.calm = true) (ek : X.K = K := by rfl) : CallR X (.builtin "max") (rMax K) := ek ▸ cr_max hc
def lmin : List Int → M Int
  | [] => .stuck
  | x :: r => .ok (r.foldl min x)
def lmax : List Int → M Int
  | [] => .stuck
  | x :: r => .ok (r.foldl max x)
theorem foldl_min : ∀ (r : List Int) (x : Int), (r.foldl min x = x ∨ r.foldl min x ∈ r) ∧ r.foldl min x ≤ x ∧ ∀ y ∈ r, r.foldl min x ≤ y
  | [], x => ⟨.inl rfl, Int.le_refl _, fun y h => nomatch h⟩
  | z :: r, x => by
    obtain ⟨h1, h2, h3⟩ := foldl_min r (min x z)
    refine ⟨?_, ?_, ?_⟩
    · rcases h1 with h | h
      · by_cases c : x ≤ z
        · left; show r.foldl min (min x z) = x; rw [h]; omega
        · right; show r.foldl min (min x z) ∈ z :: r; rw [h, show min x z = z by omega]; exact List.mem_cons_self
      · right; exact List.mem_cons_of_mem _ h
    · show r.foldl min (min x z) ≤ x; omega
    · intro y hy
      show r.foldl min (min x z) ≤ y
      rcases List.mem_cons.mp hy with e1 | e1
      · omega
      · exact h3 y e1
theorem foldl_max : ∀ (r : List Int) (x : Int), (r.foldl max x = x ∨ r.foldl max x ∈ r) ∧ x ≤ r.foldl max x ∧ ∀ y ∈ r, y ≤ r.foldl max x
  | [], x => ⟨.inl rfl, Int.le_refl _, fun y h => nomatch h⟩
  | z :: r, x => by
    obtain ⟨h1, h2, h3⟩ := foldl_max r (max x z)
    refine ⟨?_, ?_, ?_⟩
    · rcases h1 with h | h
      · by_cases c : z ≤ x
        · left; show r.foldl max (max x z) = x; rw [h]; omega
        · right; show r.foldl max (max x z) ∈ z :: r; rw [h, show max x z = z by omega]; exact List.mem_cons_self
      · right; exact List.mem_cons_of_mem _ h
    · show x ≤ r.foldl max (max x z); omega
    · intro y hy
      show y ≤ r.foldl max (max x z)
      rcases List.mem_cons.mp hy with e1 | e1
      · omega
      · exact h3 y e1
theorem lmin_ok {xs : List Int} {m : Int} (h : m ∈ xs) (h2 : ∀ y ∈ xs, m ≤ y) : lmin xs = .ok m := by
  cases xs with
  | nil => cases h
  | cons x r =>
    obtain ⟨h3, h4, h5⟩ := foldl_min r x
    have : r.foldl min x = m := by
      have a : m ≤ r.foldl min x := by
        rcases h3 with e | e
        · rw [e]; exact h2 x List.mem_cons_self
        · exact h2 _ (List.mem_cons_of_mem _ e)
      have b : r.foldl min x ≤ m := by
        rcases List.mem_cons.mp h with e1 | e1
        · omega
        · exact h5 m e1
      omega
    show M.ok (r.foldl min x) = _
    rw [this]
theorem lmax_ok {xs : List Int} {m : Int} (h : m ∈ xs) (h2 : ∀ y ∈ xs, y ≤ m) : lmax xs = .ok m := by
  cases xs with
  | nil => cases h
  | cons x r =>
    obtain ⟨h3, h4, h5⟩ := foldl_max r x
    have : r.foldl max x = m := by
      have a : r.foldl max x ≤ m := by
        rcases h3 with e | e
        · rw [e]; exact h2 x List.mem_cons_self
        · exact h2 _ (List.mem_cons_of_mem _ e)
      have b : m ≤ r.foldl max x := by
        rcases List.mem_cons.mp h with e1 | e1
        · omega
        · exact h5 m e1
      omega
    show M.ok (r.foldl max x) = _
    rw [this]
section
variable {γ : Type} {K : Fr} {P : γ → Prop} {E : XC → Prop} {S H S0 H0 : Hp} {L : List Addr} {a : Addr} {ns : List Int} {Q : VK}
theorem s_srtS (g : Gx L S0 H0 S H) (r : RepH K S H a ns) (q : ∀ p S1 H1, Gx L S0 H0 S1 H1 → Gx [] S H S1 H1 → RepL K S1 p (srt ns) → Q (.ref p) H1) : rSortedI K [.ref a] H Q := by
  obtain ⟨vs, h1, h2⟩ := r
  have e := reps_flat h2
  subst e
  refine ⟨a, ns, rfl, h1, fun ns' p hp hs hn => ?_⟩
  rw [le_unique hs (srt_le ns) (hp.trans (srt_perm ns).symm)]
  exact newL_S (α := Int) g (flat_reps (srt ns)) q p hn
theorem s_srtO (g : Gx L S0 H0 S H) (r : RepH K S H a ns) (q : ∀ p H1, Gx L S0 H0 S H1 → Gx [] S H S H1 → H p = none → OwnL K S H1 p (srt ns) → Q (.ref p) H1) : rSortedI K [.ref a] H Q := by
  obtain ⟨vs, h1, h2⟩ := r
  have e := reps_flat h2
  subst e
  refine ⟨a, ns, rfl, h1, fun ns' p hp hs hn => ?_⟩
  rw [le_unique hs (srt_le ns) (hp.trans (srt_perm ns).symm)]
  exact newL_O (α := Int) g (flat_reps (srt ns)) q p hn
theorem s_lmin {k : Int → M γ} (r : RepH K S H a ns) (h : wpm (lmin ns >>= k) P E) (q : ∀ m, wpm (k m) P E → Q (.int m) H) : rMin K [.ref a] H Q := by
  obtain ⟨vs, h1, h2⟩ := r
  have e := reps_flat h2
  subst e
  cases ns with
  | nil => exact h.elim
  | cons x r =>
    refine ⟨a, x :: r, rfl, h1, by simp, fun m h3 h4 => ?_⟩
    rw [lmin_ok h3 h4] at h
    exact q m h
theorem s_lmax {k : Int → M γ} (r : RepH K S H a ns) (h : wpm (lmax ns >>= k) P E) (q : ∀ m, wpm (k m) P E → Q (.int m) H) : rMax K [.ref a] H Q := by
  obtain ⟨vs, h1, h2⟩ := r
  have e := reps_flat h2
  subst e
  cases ns with
  | nil => exact h.elim
  | cons x r =>
    refine ⟨a, x :: r, rfl, h1, by simp, fun m h3 h4 => ?_⟩
    rw [lmax_ok h3 h4] at h
    exact q m h
end
theorem pi_zipK2 {X : Cx} {K : Fr} {tg it : PySem.Expr} {ta : TA} (ek : X.K = K) (hi : PI X tg it (iZip X.K ta)) : PI X tg it (iZip K ta) := ek ▸ hi
/-! xs.pop(i) -/
def ppopi {α : Type} (xs : List α) (i : Int) : M (α × List α) := if 0 ≤ i ∧ i < 2 ^ 62 then (match xs[i.toNat]? with
  | some x => .ok (x, xs.eraseIdx i.toNat)
  | none => .stuck) else .stuck
section
variable {α γ : Type} [Py α] {K : Fr} {P : γ → Prop} {E : XC → Prop} {S H S0 H0 : Hp} {L : List Addr} {a : Addr} {xs : List α} {Q : VK}
theorem s_popi {i : Int} {k : α × List α → M γ} (g : Gx L S0 H0 S H) (o : OwnL K S H a xs) (h0 : H0 a = none ∨ a ∈ L) (h : wpm (ppopi xs i >>= k) P E)
    (q : ∀ H1 (t : α × List α) v, Gx L S0 H0 S H1 → OwnL K S H1 a t.2 → (∀ c, c ≠ a → H1 c = H c) → Py.rep K S v t.1 → wpm (k t) P E → Q v H1) : rPopAt (.ref a) [.int i] H Q := by
  obtain ⟨vs, w, rs⟩ := o
  unfold ppopi at h
  by_cases c : 0 ≤ i ∧ i < 2 ^ 62
  · rw [if_pos c] at h
    cases e : xs[i.toNat]? with
    | none => rw [e] at h; exact h.elim
    | some x =>
      rw [e] at h
      obtain ⟨v, hv, rv⟩ := rs.get e
      have hl := (List.getElem?_eq_some_iff.mp hv).1
      have e62 : (2 : Int) ^ 62 = 4611686018427387904 := by decide +kernel
      have e63 : (2 : Int) ^ 63 = 9223372036854775808 := by decide +kernel
      have hs : seqIndex? i vs.length = some i.toNat := by
        unfold seqIndex?
        simp only [if_neg (show ¬ i < 0 by omega)]
        rw [if_pos (by simp; omega)]
      refine ⟨a, vs, i, i.toNat, v, rfl, rfl, w.at_, ?_, ?_, hs, hv, ?_⟩
      · rw [e63]; omega
      · rw [e63]; rw [e62] at c; omega
      · exact q _ (x, xs.eraseIdx i.toNat) v (g.put w h0) ⟨_, w.set, rs.eraseIdx⟩ (fun c hc => upd_ne hc) rv h
  · rw [if_neg c] at h; exact h.elim
end
/-! a written list of things of several kinds -/
structure HL (τ : Type) where
  t : τ
  deriving DecidableEq
instance {τ : Type} [PyT τ] : Py (HL τ) where
  rep := fun K S v x => ∃ a vs, v = .ref a ∧ S a = some (.lst vs) ∧ PyT.rept K S vs x.t
  mono := fun e ⟨a, vs, h1, h2, h3⟩ => ⟨a, vs, h1, e _ _ h2, PyT.monot e h3⟩
instance {τ : Type} [PyTD τ] : PyD (HL τ) where
  toD := fun x => .list (PyTD.toDs x.t)
  dp := fun {_ _ _ _} h => by
    obtain ⟨a, vs, rfl, h1, h2⟩ := h
    exact .lst (sq_of h1) (PyTD.dps h2)
  lay := fun x => PyTD.lays x.t
  dep := PyTD.deps τ + 1
  dle := fun x => Nat.succ_le_succ (PyTD.dles x.t)
instance {τ : Type} [PyTEq τ] : PyEq (HL τ) where
  eqv_iff := fun x y => by
    cases x; cases y
    exact (PyTEq.eqvs_iff _ _).trans ⟨fun h => congrArg HL.mk h, fun h => HL.mk.inj h⟩
section
variable {τ : Type} [PyT τ] {K : Fr} {S H S0 H0 : Hp} {L : List Addr} {a : Addr} {vs : List V} {x : HL τ} {Q : VK}
theorem s_hl (g : Gx L S0 H0 S H) (hr : PyT.rept K S vs x.t) (hl : vs.length ≤ 16777216) (q : ∀ p S1 H1, Gx L S0 H0 S1 H1 → Gx [] S H S1 H1 → Py.rep K S1 (.ref p) x → Q (.ref p) H1) : lstK Q vs H := by
  refine ⟨by rw [sizeLine_eq]; exact hl, fun p hp => ?_⟩
  exact q p (upd S p (.lst vs)) _ (g.newS hp) ((Gx.refl g.sh).newS hp) ⟨p, vs, rfl, upd_same, PyT.monot (Ex.new (fresh_back g.sh hp)) hr⟩
theorem hl_ref {v : V} (h : Py.rep K S v x) : ∃ a, v = .ref a := by
  obtain ⟨a, _, e, _⟩ := h
  exact ⟨a, e⟩
theorem hl_at (h : Py.rep K S (.ref a) x) : ∃ vs, SqL K S a vs ∧ PyT.rept K S vs x.t := by
  obtain ⟨b, vs, e, h1, h2⟩ := h
  cases e
  exact ⟨vs, sq_of h1, h2⟩
theorem s_ixHL {i : Nat} {v : V} (hs : SqL K H a vs) (e : vs[i]? = some v) (q : Q v H) : rIxL K (.ref a) (.int ((i : Nat) : Int)) H Q :=
  ⟨a, vs, _, v, rfl, rfl, hs, atI_nat e, q⟩
end
/-- a nest of lists of one's own stays as it is from here on -/
theorem ownn_frz {α : Type} [Py α] {K : Fr} {L : List Addr} {S0 H0 S H : Hp} {p : Addr} {as : List Addr} {xss : List (List α)} {goal : Prop} (g : Gx L S0 H0 S H) (o : OwnN K S H p as xss) (h0 : H0 p = none) (h1 : ∀ b ∈ as, H0 b = none)
    (q : ∀ S2, Gx L S0 H0 S2 H → RepL K S2 p xss → goal) : goal := by
  obtain ⟨S2, hS2⟩ : ∃ S2 : Hp, ∀ b, S2 b = if b ∈ p :: as then H b else S b := ⟨fun b => if b ∈ p :: as then H b else S b, fun b => rfl⟩
  have free : ∀ b ∈ p :: as, S b = none := by
    intro b hb
    rcases List.mem_cons.mp hb with z | z
    · rw [z]; exact o.own.free
    · have key : ∀ {as : List Addr} {yss : List (List α)}, All2 (OwnL K S H) as yss → ∀ b ∈ as, S b = none := by
        intro as yss h
        induction h with
        | nil => intro b hb; cases hb
        | cons h _ ih =>
          intro b hb
          rcases List.mem_cons.mp hb with z | z
          · obtain ⟨vs, w, _⟩ := h
            rw [z]; exact w.free
          · exact ih b z
      exact key o.all b z
  have ex : Ex S S2 := fun b u e => by
    rw [hS2, if_neg fun hb => by rw [free b hb] at e; cases e]
    exact e
  refine q S2 ⟨g.s.trans ex, g.h, fun b u e => ?_, g.th, fun b n0 n1 => ?_⟩ ⟨as.map V.ref, ?_, ?_⟩
  · rw [hS2] at e
    split at e
    · exact e
    · exact g.sh b u e
  · rw [hS2, if_neg, g.fr b n0 n1]
    intro hb
    rcases List.mem_cons.mp hb with z | z
    · exact n0 (z ▸ h0)
    · exact n0 (h1 b z)
  · rw [hS2, if_pos List.mem_cons_self]; exact o.own.at_
  · have key : ∀ {bs : List Addr} {yss : List (List α)}, All2 (OwnL K S H) bs yss → (∀ b ∈ bs, b ∈ as) → All2 (Py.rep K S2) (bs.map V.ref) yss := by
      intro bs yss h
      induction h with
      | nil => intro _; exact .nil
      | cons h _ ih =>
        intro hb
        obtain ⟨vs, w, rs⟩ := h
        refine .cons ⟨_, rfl, vs, ?_, rs.mono ex⟩ (ih fun b hb' => hb b (List.mem_cons_of_mem _ hb'))
        rw [hS2, if_pos (List.mem_cons_of_mem _ (hb _ List.mem_cons_self))]; exact w.at_
    exact key o.all fun b hb => hb
theorem rep_list {α : Type} [Py α] {K : Fr} {S : Hp} {a : Addr} {xs : List α} (r : RepL K S a xs) : Py.rep K S (.ref a) xs := ⟨a, rfl, r⟩
/-! dict(pairs) -/
def dofl {α : Type} (xs : List (Int × α × Unit)) : List (Int × α) := xs.foldl (fun d kv => dput d kv.1 kv.2.1) []
def rDictP (K : Fr) : List V → Hp → VK → Prop := fun xs H Q => ∃ (a : Addr) (ps : List Addr) (kvs : List (Key × V)), xs = [.ref a] ∧ SqL K H a (ps.map V.ref) ∧ Paired (fun p kv => SqT K H p [kV kv.1, kv.2]) ps kvs ∧ newK Q (.dK (mergeK [] kvs)) H
theorem call_dictPK {X : Cx} {K : Fr} (hc : X.calm = true) (ek : X.K = K := by rfl) : CallR X (.type "dict") (rDictP K) := ek ▸ call_dictP hc
section
variable {α : Type} [Py α] {K : Fr} {S H S0 H0 : Hp} {L : List Addr} {a : Addr} {Q : VK}
theorem pairs_rel (ex : Ex S H) : ∀ {vs : List V} {xs : List (Int × α × Unit)}, Reps K S vs xs → ∃ (ps : List Addr) (kvs : List (Key × V)), vs = ps.map V.ref ∧ Paired (fun p kv => SqT K H p [kV kv.1, kv.2]) ps kvs ∧ All2 (RelD K S) kvs (xs.map fun x => (x.1, x.2.1))
  | _, _, .nil => ⟨[], [], rfl, .nil, .nil⟩
  | _, _, .cons (b := x) h t => by
    obtain ⟨ps, kvs, h1, h2, h3⟩ := pairs_rel ex t
    obtain ⟨p, ws, e1, e2, v, r, e3, e4, v2, r2, e5, e6, e7⟩ := h
    cases e4
    cases e7
    refine ⟨p :: ps, (.inl x.1, v2) :: kvs, by rw [e1, h1]; rfl, .cons ?_ h2, .cons ⟨rfl, e6⟩ h3⟩
    rw [e3, e5] at e2
    exact ex_t ex e2
theorem merge_rel : ∀ {kvs : List (Key × V)} {xs : List (Int × α)}, All2 (RelD K S) kvs xs → ∀ {acc : List (Key × V)} {d : List (Int × α)}, All2 (RelD K S) acc d → All2 (RelD K S) (mergeK acc kvs) (xs.foldl (fun d kv => dput d kv.1 kv.2) d)
  | _, _, .nil, _, _, h => h
  | _, _, .cons (a := p) (b := q) h t, acc, d, h2 => by
    have := put_rel q.1 h.2 h2
    rw [← h.1] at this
    exact merge_rel t this
theorem s_dictP {xs : List (Int × α × Unit)} (g : Gx L S0 H0 S H) (r : RepH K S H a xs) (q : ∀ p H1, Gx L S0 H0 S H1 → Gx [] S H S H1 → H p = none → OwnD K S H1 p (dofl xs) → Q (.ref p) H1) : rDictP K [.ref a] H Q := by
  obtain ⟨vs, h1, h2⟩ := r
  obtain ⟨ps, kvs, e1, e2, e3⟩ := pairs_rel (H := H) g.sh h2
  subst e1
  refine ⟨a, ps, kvs, rfl, h1, e2, fun p hp => ?_⟩
  have m := merge_rel e3 (acc := []) (d := []) .nil
  rw [List.foldl_map] at m
  exact q p _ (g.newO hp) ((Gx.refl g.sh).newO hp) hp ⟨_, ⟨upd_same, fresh_back g.sh hp⟩, m⟩
end
end G
/-! GLock: walking over a dict of one's own (locked while it is walked), its keys sorted, pop. -/
namespace G
open PySem L2 Evl
/-- a dict of one's own, locked -/
def OwnF {α : Type} [Py α] (K : Fr) (S H : Hp) (a : Addr) (od : Obj) (ws : List (Key × V)) (kvs : List (Int × α)) : Prop := Own S H a (.frz od (.dK ws)) ∧ All2 (RelD K S) ws kvs
def dkeys {α : Type} (kvs : List (Int × α)) : List Int := kvs.map (·.1)
def lockN (a : Addr) (od : Obj) (ws : List (Key × V)) (N : St → Hp → Prop) : St → Hp → Prop := fun σ' H' => H' a = some (.frz od (.dK ws)) ∧ N σ' (upd H' a (.dK ws))
def lockV (a : Addr) (od : Obj) (ws : List (Key × V)) (N : VK) : VK := fun v H' => H' a = some (.frz od (.dK ws)) ∧ N v (upd H' a (.dK ws))
def lockE (a : Addr) (od : Obj) (ws : List (Key × V)) (D : Ends) : Ends := ⟨lockN a od ws D.nx, lockV a od ws D.rt, lockN a od ws D.bk, lockN a od ws D.ct⟩
section
variable {α γ : Type} [Py α] {K : Fr} {P : γ → Prop} {E : XC → Prop} {S H S0 H0 S' H' : Hp} {L L' : List Addr} {a b p : Addr} {od : Obj} {kvs : List (Int × α)} {ws : List (Key × V)} {Q : VK} {D : Ends} {σ : St} {t : TS} {te : TE}
theorem OwnF.keep (o : OwnF K S H a od ws kvs) (g : Gx L' S H S' H') (h : a ∉ L') : OwnF K S' H' a od ws kvs := ⟨o.1.keep g h, reld_mono g.s o.2⟩
theorem OwnF.keep0 (o : OwnF K S H a od ws kvs) (g : Gx [] S H S' H') : OwnF K S' H' a od ws kvs := o.keep g (fun h => nomatch h)
theorem OwnF.ne (o : OwnF K S H a od ws kvs) (h : H p = none) : a ≠ p := o.1.ne h
theorem OwnF.there (o : OwnF K S H a od ws kvs) : H a ≠ none := by rw [o.1.at_]; simp
theorem OwnF.other (o : OwnF K S H b od ws kvs) (hne : b ≠ a) (e : ∀ c, c ≠ a → H' c = H c) : OwnF K S H' b od ws kvs := ⟨⟨by rw [e b hne]; exact o.1.at_, o.1.free⟩, o.2⟩
theorem OwnF.lift2 (o : OwnF K S H a od ws kvs) (hb : ∀ b, b ≠ p → S' b = S b) (e : Ex S S') (hne : a ≠ p) : OwnF K S' H a od ws kvs := ⟨⟨o.1.at_, by rw [hb a hne]; exact o.1.free⟩, reld_mono e o.2⟩
theorem i_lockD (g : Gx L S0 H0 S H) (o : OwnD K S H a kvs) (h0 : H0 a = none ∨ a ∈ L)
    (q : ∀ od ws H1, Gx L S0 H0 S H1 → OwnF K S H1 a od ws kvs → (∀ c, c ≠ a → H1 c = H c) → t (lockE a od ws D) σ H1) : tLock t D σ H := by
  obtain ⟨ws, h1, h2⟩ := o
  exact ⟨a, _, h1.at_, True.intro, fun od => q od ws _ (g.put h1 h0) ⟨h1.set, h2⟩ fun c hc => upd_ne hc⟩
theorem i_lockX (g : Gx L S0 H0 S H) (o : OwnD K S H a kvs) (h0 : H0 a = none ∨ a ∈ L)
    (q : ∀ od ws H1, Gx L S0 H0 S H1 → OwnF K S H1 a od ws kvs → (∀ c, c ≠ a → H1 c = H c) → te σ H1 (lockV a od ws Q)) : tLockE te σ H Q := by
  obtain ⟨ws, h1, h2⟩ := o
  exact ⟨a, _, h1.at_, True.intro, fun od => q od ws _ (g.put h1 h0) ⟨h1.set, h2⟩ fun c hc => upd_ne hc⟩
theorem i_unlockN {N : St → Hp → Prop} (g : Gx L S0 H0 S H) (o : OwnF K S H a od ws kvs) (h0 : H0 a = none ∨ a ∈ L)
    (q : ∀ H1, Gx L S0 H0 S H1 → OwnD K S H1 a kvs → (∀ c, c ≠ a → H1 c = H c) → N σ H1) : lockN a od ws N σ H :=
  ⟨o.1.at_, q _ (g.put o.1 h0) ⟨ws, o.1.set, o.2⟩ fun c hc => upd_ne hc⟩
theorem i_unlockV {v : V} (g : Gx L S0 H0 S H) (o : OwnF K S H a od ws kvs) (h0 : H0 a = none ∨ a ∈ L)
    (q : ∀ H1, Gx L S0 H0 S H1 → OwnD K S H1 a kvs → (∀ c, c ≠ a → H1 c = H c) → Q v H1) : lockV a od ws Q v H :=
  ⟨o.1.at_, q _ (g.put o.1 h0) ⟨ws, o.1.set, o.2⟩ fun c hc => upd_ne hc⟩
def keysK (R : It → Hp → Prop) (x : V) (H1 : Hp) : Prop := ∃ d o, x = .ref d ∧ ((∃ kvs, H1 d = some (.frz o (.dK kvs)) ∧ R (Itk d o kvs) H1) ∨ ∃ kvs, H1 d = some (.frz o (.dT kvs)) ∧ R (Itkt d o kvs) H1)
theorem i_keys {td : TE} {R : It → Hp → Prop} (q : td σ H fun x H1 => keysK R x H1) : iKeys td σ H R := q
theorem i_keysA {R : It → Hp → Prop} (o : OwnF K S H a od ws kvs) (q : R (Itk a od ws) H) : keysK R (.ref a) H := ⟨a, od, rfl, .inl ⟨ws, o.1.at_, q⟩⟩
theorem relD_get : ∀ {ws : List (Key × V)} {kvs : List (Int × α)} {i : Nat} {k : Key} {v : V}, All2 (RelD K S) ws kvs → ws[i]? = some (k, v) → ∃ q, kvs[i]? = some q ∧ k = .inl q.1
  | _, _, 0, _, _, .cons h t, e => by
    rw [List.getElem?_cons_zero] at e
    have := Option.some.inj e
    subst this
    exact ⟨_, rfl, h.1⟩
  | _, _, i + 1, _, _, .cons h t, e => by
    rw [List.getElem?_cons_succ] at e
    obtain ⟨q, h1, h2⟩ := relD_get t e
    exact ⟨q, by rw [List.getElem?_cons_succ]; exact h1, h2⟩
theorem wk_keys {τ : Type} {R : τ → St → Hp → Hp → Prop} (hR : ∀ s σ S H, R s σ S H → Ex S H ∧ OwnF K S H a od ws kvs) : Wk K (Itk a od ws) (dkeys kvs) R where
  go i s σ S H h hi := by
    obtain ⟨e, o, h2⟩ := hR s σ S H h
    unfold dkeys at hi
    rw [List.length_map] at hi
    exact ⟨o.at_, by rw [h2.len]; exact hi⟩
  st s σ S H h := by
    obtain ⟨e, o, h2⟩ := hR s σ S H h
    unfold dkeys
    rw [List.length_map]
    exact ⟨o.at_, by rw [h2.len]; exact Nat.le_refl _⟩
  yl i y s σ S H v H' h hy hv := by
    obtain ⟨e, o, h2⟩ := hR s σ S H h
    obtain ⟨rfl, k, u, h3, rfl⟩ := hv
    obtain ⟨q, h4, rfl⟩ := relD_get h2 h3
    unfold dkeys at hy
    rw [List.getElem?_map, h4] at hy
    obtain rfl := Option.some.inj hy
    exact ⟨S, Gx.refl e, rfl⟩
/-! reading it while it is locked -/
theorem s_ditemR {k : Int} {f : α → M γ} (o : OwnF K S H a od ws kvs) (h : wpm (ditem kvs k >>= f) P E) (q : ∀ x v, Py.rep K S v x → wpm (f x) P E → Q v H) : ditemK Q (.ref a) (.int k) H := by
  obtain ⟨h1, h2⟩ := o
  unfold ditem at h
  rcases valV_rel k h2 with ⟨e1, e2⟩ | ⟨v, x, e1, e2, e3⟩
  · rw [e1] at h; exact h.elim
  · rw [e1] at h; exact ⟨a, v, rfl, .inl ⟨ws, .inl k, .inr ⟨od, h1.at_⟩, rfl, e2.symm⟩, q x v e3 h⟩
theorem s_ditemFR {α : Type} [Flat α] {kvs : List (Int × α)} {k : Int} {f : α → M γ} (o : OwnF K S H a od ws kvs) (h : wpm (ditem kvs k >>= f) P E) (q : ∀ x, wpm (f x) P E → Q (Flat.toV x) H) : ditemK Q (.ref a) (.int k) H :=
  s_ditemR o h fun x v r h => by rw [Flat.is.1 r]; exact q x h
theorem s_dinR {k : Int} (o : OwnF K S H a od ws kvs) (q : Q (.bl (dfind kvs k).isSome) H) : dinK false Q (.int k) (.ref a) H := by
  obtain ⟨h1, h2⟩ := o
  refine ⟨a, valV ws (.inl k), rfl, .inl ⟨ws, .inl k, .inr ⟨od, h1.at_⟩, rfl, rfl⟩, ?_⟩
  show Q (.bl (valV ws (.inl k)).isSome) H
  rw [dfind_some h2]; exact q
theorem s_dninR {k : Int} (o : OwnF K S H a od ws kvs) (q : Q (.bl (!(dfind kvs k).isSome)) H) : dinK true Q (.int k) (.ref a) H := by
  obtain ⟨h1, h2⟩ := o
  refine ⟨a, valV ws (.inl k), rfl, .inl ⟨ws, .inl k, .inr ⟨od, h1.at_⟩, rfl, rfl⟩, ?_⟩
  show Q (.bl (!(valV ws (.inl k)).isSome)) H
  rw [dfind_some h2]; exact q
theorem RepT.keepZ {xs : List α} {b : Addr} (r : RepT K S H b xs) (g : Gx [] S H S' H') : RepT K S' H' b xs := by
  obtain ⟨vs, h1, h2⟩ := r
  exact ⟨vs, g.h b _ (fun h => nomatch h) h1, h2.mono g.s⟩
/-! d.pop(k) -/
def ddrop {α : Type} (kvs : List (Int × α)) (k : Int) : List (Int × α) := kvs.filter fun p => decide (p.1 ≠ k)
def pdpop {α : Type} (kvs : List (Int × α)) (k : Int) : M (α × List (Int × α)) := ditem kvs k >>= fun x => .ok (x, ddrop kvs k)
def dpopK (a : Addr) (Q : VK) (y : V) (H2 : Hp) : Prop := ∃ kvs k v, H2 a = some (.dK kvs) ∧ y = kV k ∧ valV kvs k = some v ∧ Q v (upd H2 a (.dK (L2.dropK kvs k)))
def dp1K (ty : TE) (σ : St) (Q : VK) (x : V) (H1 : Hp) : Prop := ∃ a, x = .ref a ∧ IsD H1 a ∧ ty σ H1 fun y H2 => dpopK a Q y H2
theorem i_dpop {td ty : TE} (q : td σ H fun x H1 => dp1K ty σ Q x H1) : tDPop1 td ty σ H Q := q
theorem s_dp1 {ty : TE} (o : OwnD K S H a kvs) (q : ty σ H fun y H2 => dpopK a Q y H2) : dp1K ty σ Q (.ref a) H := ⟨a, rfl, o.isD, q⟩
theorem drop_rel (k : Int) : ∀ {ws : List (Key × V)} {kvs : List (Int × α)}, All2 (RelD K S) ws kvs → All2 (RelD K S) (L2.dropK ws (Sum.inl k)) (ddrop kvs k)
  | _, _, .nil => .nil
  | _, _, .cons (a := p) (b := q) h t => by
    have hk := key_dec k p q h
    have ih := drop_rel k t
    unfold L2.dropK ddrop at ih ⊢
    rw [List.filter_cons, List.filter_cons]
    by_cases e : q.1 = k
    · have e2 : p.1 = (Sum.inl k : Key) := of_decide_eq_true (hk.trans (decide_eq_true e))
      rw [if_neg (by simp [e2]), if_neg (by simp [e])]
      exact ih
    · have e2 : ¬ p.1 = (Sum.inl k : Key) := of_decide_eq_false (hk.trans (decide_eq_false e))
      rw [if_pos (by simp [e2]), if_pos (by simp [e])]
      exact .cons h ih
theorem s_dpop {k : Int} {f : α × List (Int × α) → M γ} (g : Gx L S0 H0 S H) (o : OwnD K S H a kvs) (h0 : H0 a = none ∨ a ∈ L) (h : wpm (pdpop kvs k >>= f) P E)
    (q : ∀ r v H1, Gx L S0 H0 S H1 → OwnD K S H1 a r.2 → (∀ c, c ≠ a → H1 c = H c) → Py.rep K S v r.1 → wpm (f r) P E → Q v H1) : dpopK a Q (.int k) H := by
  obtain ⟨ws, h1, h2⟩ := o
  unfold pdpop ditem at h
  rcases valV_rel k h2 with ⟨e1, e2⟩ | ⟨v, x, e1, e2, e3⟩
  · rw [e1] at h; exact h.elim
  · rw [e1] at h
    exact ⟨ws, .inl k, v, h1.at_, rfl, e2, q (x, ddrop kvs k) v _ (g.put h1 h0) ⟨_, h1.set, drop_rel k h2⟩ (fun c hc => upd_ne hc) e3 h⟩
end
section
open PySem.Spec PyProof.Rows
/-- sorted(d), all keys whole numbers, of any number -/
def rSortedDK : List V → Hp → VK → Prop := fun xs H Q => ∃ (a : Addr) (ws : List (Key × V)) (ks : List Int), xs = [.ref a] ∧ Rd H a (.dK ws) ∧ ws.map (·.1) = ks.map Sum.inl ∧
    ∀ (p : Addr), H p = none → Q (.ref p) (upd H p (.lst ((srt ks).map V.int)))
theorem call_sortedDG {X : Cx} (hcalm : X.calm = true) : CallR X (.builtin "sorted") rSortedDK := by
  intro pins s σ H xs us Q I r q
  obtain ⟨a, kvs, ks, ex, hd, hks, q⟩ := q
  subst ex
  obtain ⟨u, eu, rx⟩ := vals1 r
  subst eu
  cases rx
  obtain ⟨z, lo, vs, rel, dd⟩ := dk_rd I.hok hd
  obtain ⟨ep, hat⟩ := dd.dictAt
  have hkeys : vs.map (·.1) = ks.map Sum.inl := rel.keys.symm.trans hks
  have hl : vs.length = ks.length := by simpa using congrArg List.length hkeys
  have hz : vs.length ≤ sizeLine := by rw [← rel.length]; exact z
  apply Calls.call_function_entry kind_sorted plain_sorted entry_sorted (args_sorted1 _)
  unfold Builtin.«sorted»
  apply wpAny_bind (m := checkCount "sorted" 1 1 _)
  apply wpAny_pure
  apply wpAny_bind
  refine PySem.W.kdu_collect (A := X.A.in1) (PySem.W.kdl_dict (knd := mixKind X.prog X.w) (kvs := vs) (ep := ep) lo) (I.ok.hd hcalm) hat hz ?_
  intro h' tk acc hk hacc
  have hal : acc.toList.length = ks.length := by rw [Array.length_toList, hacc.1, hl]
  have hI : IntsAre acc.toList ks := by
    refine ints_each hal fun j v e => ?_
    obtain ⟨k, x, e1, e2⟩ := hacc.2 j v (by rw [← Array.getElem?_toList]; exact e)
    have e3 : (vs.map (·.1))[j]? = some k := by rw [List.getElem?_map, e1]; rfl
    rw [hkeys, List.getElem?_map] at e3
    obtain ⟨y, hy, rfl⟩ := Option.map_eq_some_iff.mp e3
    rcases keyIs_shape (show keyIs (Sum.inl y) v = true from e2) with ⟨i, t, ek, ev⟩ | ⟨w, t, ek, ev⟩
    · cases ek; exact ⟨y, t, hy, ev⟩
    · cases ek
  have I1 : Inv X pins σ H { s with heap := h', toks := tk } := I.kept hk
  apply wpAny_bind
  refine wpAny_newList ?_ (by rw [hal, ← hl]; exact hz)
  have at0 : (h'.push (seqObj "list" acc.toList.toArray 0)).get? h'.objs.size = some (seqObj "list" acc.toList.toArray 0) := Heap.get?_push_size _ rfl
  apply wpAny_bind
  apply wpAny_holding
  refine wpAny_call_entry slot_list_sort ⟨_, at0, rfl⟩ entry_list_sort ?_ (args_list_sort _)
  refine SrtO.list_sort_ord SrtO.swo_int at0 (by rw [hal, ← hl]; exact hz) (fun h2 => SrtO.ints_sortable hI h2) fun out h1 h2 => ⟨_, rfl, ?_⟩
  obtain ⟨i1, i2, i3⟩ := SrtO.ints_out hI h1 h2
  obtain ⟨c, hc⟩ := sortedHeap_at (vs := acc.toList) (out := out.toArray) at0
  have es : out.map SrtO.iv = srt ks := le_unique i3 (srt_le ks) (i2.trans (srt_perm ks).symm)
  have hn : H h'.objs.size = none := I1.hok.fresh (Nat.le_refl _)
  have lz : ((srt ks).map V.int).length ≤ sizeLine := by rw [List.length_map, (srt_perm _).length_eq, ← hl]; exact hz
  refine wpAny_pure ⟨_, rfl, ?_⟩
  refine ⟨.ref h'.objs.size, upd H h'.objs.size (.lst ((srt ks).map V.int)), I1.laid (t' := tk) (fun b u e => ?_) (Nat.le_refl _) ⟨lz, out, c, by rw [← es]; exact vals_of_ints i1, hc⟩, rfl, q _ hn⟩
  have lb := Heap.lt_size e
  rw [show (sortedHeap (h'.push (seqObj "list" acc.toList.toArray 0)) h'.objs.size acc.toList out.toArray).get? b = (h'.push (seqObj "list" acc.toList.toArray 0)).get? b from sortedHeap_old (Nat.ne_of_lt lb) (by rw [size_push']; exact Nat.lt_succ_of_lt lb)]
  exact Heap.get?_push_of_some _ e
end
section
variable {α : Type} [Py α] {K : Fr} {S H S0 H0 : Hp} {L : List Addr} {a : Addr} {od : Obj} {ws : List (Key × V)} {kvs : List (Int × α)} {Q : VK}
theorem keys_rel : ∀ {ws : List (Key × V)} {kvs : List (Int × α)}, All2 (RelD K S) ws kvs → ws.map (·.1) = (dkeys kvs).map Sum.inl
  | _, _, .nil => rfl
  | _, _, .cons h t => by
    have := keys_rel t
    unfold dkeys at this ⊢
    rw [List.map_cons, List.map_cons, List.map_cons, h.1, this]
theorem s_sortedDO (g : Gx L S0 H0 S H) (o : OwnD K S H a kvs) (q : ∀ p H1, Gx L S0 H0 S H1 → Gx [] S H S H1 → H p = none → OwnL K S H1 p (srt (dkeys kvs)) → Q (.ref p) H1) : rSortedDK [.ref a] H Q := by
  obtain ⟨ws, h1, h2⟩ := o
  exact ⟨a, ws, dkeys kvs, rfl, .inl h1.at_, keys_rel h2, newL_O (α := Int) g (flat_reps (srt (dkeys kvs))) q⟩
theorem s_sortedDS (g : Gx L S0 H0 S H) (o : OwnD K S H a kvs) (q : ∀ p S1 H1, Gx L S0 H0 S1 H1 → Gx [] S H S1 H1 → RepL K S1 p (srt (dkeys kvs)) → Q (.ref p) H1) : rSortedDK [.ref a] H Q := by
  obtain ⟨ws, h1, h2⟩ := o
  exact ⟨a, ws, dkeys kvs, rfl, .inl h1.at_, keys_rel h2, newL_S (α := Int) g (flat_reps (srt (dkeys kvs))) q⟩
end
end G
/-! GPart: tuples of any kind (parts), a module's own tuple of texts. -/
namespace G
open PySem L2 Evl
/-- as data, whatever is within -/
class TD (α : Type) extends Py α where
  tod : α → PyData
  tdp : ∀ {K : Fr} {S : Hp} {v : V} {x : α}, Py.rep K S v x → Dp K S v (tod x)
class TDs (α : Type) extends PyT α where
  tods : α → List PyData
  tdps : ∀ {K : Fr} {S : Hp} {vs : List V} {x : α}, PyT.rept K S vs x → DpAll K S vs (tods x)
instance : TD Int := ⟨.int, fun h => by cases h; exact .int _⟩
instance : TD PySem.Str := ⟨.str, fun h => by cases h; exact .str _⟩
instance : TD PyData := ⟨id, fun h => h⟩
instance : TDs Unit := ⟨fun _ => [], fun {_ _ vs _} h => by
  have : vs = [] := h
  subst this
  exact .nil⟩
instance {α β : Type} [TD α] [TDs β] : TDs (α × β) := ⟨fun x => TD.tod x.1 :: TDs.tods x.2, fun {_ _ _ _} h => by
  obtain ⟨v, r, rfl, h1, h2⟩ := h
  exact .cons (TD.tdp h1) (TDs.tdps h2)⟩
instance {α β : Type} [TD α] [TDs β] : TD (α × β) := ⟨fun x => .tuple (TDs.tods x), fun {_ _ _ _} h => by
  obtain ⟨a, vs, rfl, h1, h2⟩ := h
  exact .tup h1 (TDs.tdps h2)⟩
instance : FlatEq PySem.Str where
  fl := fun _ => rfl
  eqv := fun x y => by show (x == y) = true ↔ _; exact beq_iff_eq
def dint : PyData → M Int
  | .int i => .ok i
  | _ => .stuck
def dstr : PyData → M PySem.Str
  | .str z => .ok z
  | _ => .stuck
def dtail : PyData → M PyData
  | .tuple (_ :: xs) => .ok (.tuple xs)
  | _ => .stuck
def ditems : PyData → M (List PyData)
  | .tuple xs => .ok xs
  | _ => .stuck
section
variable {γ : Type} {K : Fr} {P : γ → Prop} {E : XC → Prop} {S H S0 H0 S' H' : Hp} {L : List Addr} {u v : V} {d e : PyData} {Q : VK} {σ : St} {a : Addr}
theorem dp_int {k : Int → M γ} (h : Dp K S v d) (hw : wpm (dint d >>= k) P E) : ∃ i, v = .int i ∧ wpm (k i) P E := by
  cases h with
  | int i => exact ⟨i, rfl, hw⟩
  | _ => exact hw.elim
theorem dp_str {k : PySem.Str → M γ} (h : Dp K S v d) (hw : wpm (dstr d >>= k) P E) : ∃ i, v = .str i ∧ wpm (k i) P E := by
  cases h with
  | str i => exact ⟨i, rfl, hw⟩
  | _ => exact hw.elim
theorem sl_tupK {X : Cx} {K : Fr} (e : X.K = K := by rfl) : SlR X (rSlT K) := e ▸ sl_tup
theorem dpa_reps : ∀ {vs : List V} {ds : List PyData}, DpAll K S vs ds → Reps K S vs ds
  | _, _, .nil => .nil
  | _, _, .cons h t => .cons h (dpa_reps t)
theorem reps_dpa : ∀ {vs : List V} {ds : List PyData}, Reps K S vs ds → DpAll K S vs ds
  | _, _, .nil => .nil
  | _, _, .cons h t => .cons h (reps_dpa t)
theorem s_dtail {k : PyData → M γ} (g : Gx L S0 H0 S H) (h1 : Dp K S v d) (h : wpm (dtail d >>= k) P E) (q : ∀ x p S1 H1, Gx L S0 H0 S1 H1 → Gx [] S H S1 H1 → Py.rep K S1 (.ref p) x → wpm (k x) P E → Q (.ref p) H1) : rSlT K v (some 1) none H Q := by
  cases h1 with
  | tup h2 h3 =>
    cases h3 with
    | nil => exact h.elim
    | cons h4 h5 =>
      refine ⟨_, _, rfl, ex_t g.sh h2, ?_, fun p hp => ?_⟩
      · rintro ⟨z, _⟩
        simp [HT.sIx] at z
      · refine q _ p (upd S p _) _ (g.newS hp) ((Gx.refl g.sh).newS hp) ?_ h
        refine Dp.tup (st_of upd_same) ?_
        have e : ∀ (w : V) (vs : List V), cutV (w :: vs) (some 1) none = vs := fun w vs => by
          unfold cutV HT.sIx
          simp
        rw [e]
        exact reps_dpa ((dpa_reps h5).mono (Ex.new (fresh_back g.sh hp)))
  | _ => exact h.elim
/-- a tuple that stands, of data -/
def RepTu (K : Fr) (S : Hp) (a : Addr) (xs : List PyData) : Prop := ∃ vs, SqT K S a vs ∧ Reps K S vs xs
theorem RepTu.mono {xs : List PyData} (e : Ex S S') (r : RepTu K S a xs) : RepTu K S' a xs := by
  obtain ⟨vs, h1, h2⟩ := r
  exact ⟨vs, ex_t e h1, h2.mono e⟩
theorem RepTu.at {xs : List PyData} (r : RepTu K S a xs) (e : Ex S H) : ∃ vs, SqT K H a vs ∧ Reps K S vs xs := by
  obtain ⟨vs, h1, h2⟩ := r
  exact ⟨vs, ex_t e h1, h2⟩
def tupIK (K : Fr) (R : It → Hp → Prop) (x : V) (H1 : Hp) : Prop := ∃ a, x = .ref a ∧ (∃ xs, SqT K H1 a xs) ∧ R (Itt K a) H1
theorem i_tupI {tl : TE} {R : It → Hp → Prop} (q : tl σ H fun x H1 => tupIK K R x H1) : iTup K tl σ H R := q
theorem s_tupI {k : List PyData → M γ} {R : It → Hp → Prop} (ex : Ex S H) (h1 : Dp K S v d) (h : wpm (ditems d >>= k) P E) (q : ∀ a xs, RepTu K S a xs → wpm (k xs) P E → R (Itt K a) H) : tupIK K R v H := by
  cases h1 with
  | tup h2 h3 => exact ⟨_, rfl, ⟨_, ex_t ex h2⟩, q _ _ ⟨_, h2, dpa_reps h3⟩ h⟩
  | _ => exact h.elim
theorem pi_tupIK {X : Cx} {K : Fr} {tg iter : PySem.Expr} {tl : TE} (h : PE X iter tl) (e : X.K = K := by rfl) : PI X tg iter (iTup K tl) := e ▸ pi_tup h
theorem repL_dp {xs : List PyData} (r : RepL K S a xs) : Py.rep (α := PyData) K S (.ref a) (.list xs) := by
  obtain ⟨vs, h1, h2⟩ := r
  exact Dp.lst (sq_of h1) (reps_dpa h2)
end
section
variable {α : Type} [FlatEq α] [DecidableEq α] {K : Fr} {H : Hp} {a : Addr} {xs : List α} {Q : VK}
theorem s_inYT {x : α} (h1 : SqT K H a (xs.map Flat.toV)) (q : Q (.bl (decide (x ∈ xs))) H) : rIn K false (Flat.toV x) (.ref a) H Q := by
  refine ⟨a, _, rfl, .inr h1, FlatEq.fl x, by rw [List.all_map]; exact List.all_eq_true.2 fun y _ => FlatEq.fl y, ?_⟩
  show Q (.bl (inV _ _)) H
  rw [inV_flat]; exact q
end
/-! a, b = x, y -/
def parK (i j : Nat) (D : Ends) (σ : St) (vs : List V) (H1 : Hp) : Prop := ∃ v w, vs = [v, w] ∧ D.nx ((σ.set i (some v)).set j (some w)) H1
theorem i_par {i j : Nat} {ta : TA} {D : Ends} {σ : St} {H : Hp} (q : ta σ H fun vs H1 => parK i j D σ vs H1) : tPar i j ta D σ H := q
theorem s_par {i j : Nat} {D : Ends} {σ σ' : St} {v w : V} {H1 : Hp} (e : (σ.set i (some v)).set j (some w) = σ') (q : D.nx σ' H1) : parK i j D σ [v, w] H1 := ⟨v, w, rfl, by rw [e]; exact q⟩
/-! a step looked at ahead of its time -/
def hst {α : Type} : M α → M α
  | .ok a => .ok a
  | _ => .stuck
theorem wpm_hst {α γ : Type} {m : M α} {k : α → M γ} {P : γ → Prop} {E : XC → Prop} (h : wpm (hst m >>= k) P E) : ∃ b, m = .ok b ∧ wpm (k b) P E := by
  cases m with
  | ok a => exact ⟨a, rfl, h⟩
  | stuck => exact h.elim
  | err c => exact h.elim
theorem hst_ok {α : Type} {m : M α} {b : α} (e : m = .ok b) : hst m = .ok b := by rw [e]; rfl
section
variable {K : Fr} {S H S0 H0 : Hp} {L : List Addr} {v : V} {d : PyData} {Q : VK} {a b : Addr}
theorem s_didxH {i j : Int} (ex : Ex S H) (h1 : Dp K S v d) (e : (didx d i >>= fun x => dint x) = .ok j) (q : Q (.int j) H) : rIx K v (.int i) H Q := by
  have h : wpm (didx d i >>= fun x => dint x) (fun z => z = j) (fun _ => False) := by rw [e]; rfl
  refine s_didx ex h1 h fun x w r hw => ?_
  cases r with
  | int i2 =>
    have : i2 = j := hw
    rw [this]; exact q
  | _ => exact hw.elim
theorem op_catTK {X : Cx} {K : Fr} (e : X.K = K := by rfl) : OpR X (binaryOp .Add) (rCatT K) := e ▸ op_catT
theorem s_catT {τ υ : Type} [Py τ] [PyT υ] {t : τ × υ} {x y : V} {xs ys : List V} (g : Gx L S0 H0 S H) (h1 : SqT K H a (x :: xs)) (h2 : SqT K H b (y :: ys)) (hl : (x :: xs).length + (y :: ys).length ≤ 16777216) (hr : PyT.rept K S (x :: xs ++ y :: ys) t)
    (q : ∀ p S1 H1, Gx L S0 H0 S1 H1 → Gx [] S H S1 H1 → Py.rep K S1 (.ref p) t → Q (.ref p) H1) : rCatT K (.ref a) (.ref b) H Q :=
  ⟨a, b, _, _, rfl, rfl, h1, h2, List.cons_ne_nil _ _, (by rw [sizeLine_eq]; exact hl), fun z => absurd z (List.cons_ne_nil _ _), fun _ => newT_S g hr fun p S1 H1 g1 g2 h => q p S1 H1 g1 g2 ⟨p, _, rfl, h.1, h.2⟩⟩
end
/-! ### a module's own tuples of texts -/
def cstB (K : Fr) (cs : List (PySem.Str × List PySem.Str)) : Bool := cs.all fun c => He.Fa.ok K (.glo c.1) && He.tupB K c.1 (c.2.map He.Dv.str)
structure CstOk (K : Fr) (mg : PySem.Str → Option Value) (x : PySem.Str) (zs : List PySem.Str) : Prop where
  at_ : mg x = some (.ref (He.ga K x))
  tup : ∀ H, SqT K H (He.ga K x) (zs.map V.str)
theorem cst_of {K : Fr} {h : Heap} {mg : PySem.Str → Option Value} (X : K.In h) (G : h.Ns mainGlobals mg) {cs : List (PySem.Str × List PySem.Str)} (b : cstB K cs = true) {x : PySem.Str} {zs : List PySem.Str} (m : (x, zs) ∈ cs) : CstOk K mg x zs := by
  have := List.all_eq_true.mp b _ m
  obtain ⟨h1, h2⟩ := He.ba this
  refine ⟨He.glo_ok X G h1, fun H => ?_⟩
  have := He.tupB_ok h2 H
  rw [List.map_map] at this
  exact this
/-- the hook, with classes and such tuples -/
def hookG (n : Nat) (fa : List He.Fa) (fn : List He.DefD) (bf : Fr → Bool) : PySem.W.Hook where
  α := He.AlD × Bool
  obs := fun s => (He.obsDG n fa fn s.heap.get?, bf (He.frG s.heap.get? (He.asD s.heap.get? n)))
  val := fun _ => (He.valD fn, true)
  says := fun _ h => ∃ K : Fr, K.In h ∧ He.SaysD fa fn K ∧ bf K = true
  of := fun _ _ e => ⟨_, He.frG_in, congrArg Prod.fst e, congrArg Prod.snd e⟩
  keeps := fun _ _ _ ⟨K, k1, k2⟩ k => ⟨K, PySem.W.Frag.In.keeps k1 k, k2⟩
def obsGG (n : Nat) (fa : List He.Fa) (fn : List He.DefD) (bf : Fr → Bool) (g : Addr → Option Obj) : He.AlD × Bool := (He.obsDG n fa fn g, bf (He.frG g (He.asD g n)))
theorem obsGG_eq {n : Nat} {fa : List He.Fa} {fn : List He.DefD} {bf : Fr → Bool} {g : Addr → Option Obj} {s : Shared} (h : ∀ a, g a = s.heap.get? a) : obsGG n fa fn bf g = (hookG n fa fn bf).obs s := by
  obtain rfl : g = s.heap.get? := funext h
  rfl
/-- the law holds where its mirror says True -/
theorem law_endG {l : PySem.W.OpenLaw} {n k : Nat} {q : Program} {loose : List PySem.Str} {XP : (PySem.Str → Option Value) → Heap → Prop} {fa : List He.Fa} {fn : List He.DefD} {bf : Fr → Bool} {d : DefRec} {m : List Int → M Bool} {st : PySem.Stmt}
    (hn : l.most = some n) (hn2 : n ≤ sizeLine) (hdf : d.params.defaults = []) (hr : Room k callerA) (hm : ∀ ns : List Int, ns.length ≤ n → m ns = .ok true) (hd : d.name = ("law" : PySem.Str))
    (hb : ∀ (kV doc pm : Value) (an : Option Addr) (cdv ct : Value) (us : List Value), us.length = (["script"] : List PySem.Str).length → bindArgs (PySem.W.fnOf "law" "law" (defArgs st) (defBody st) (defScope st) .none kV doc pm an cdv ct) ⟨us, []⟩ = pure ((["script"] : List PySem.Str).zip us))
    (i j : Nat) (hfi : fn[i]? = some ⟨("law", none), "law", "law", defArgs st, defBody st, defScope st, [], []⟩) (hfj : fa[j]? = some (.glo "law"))
    (F : ∀ (w : World) (K : Fr) (mg : PySem.Str → Option Value) (h : Heap), K.In h → h.Ns mainGlobals mg → He.SaysD fa fn K → bf K = true → ∀ (base : Heap) (f : Addr) (fd : FuncData), FunD K "law" "law" (defArgs st) (defBody st) (defScope st) [] [] f fd →
      FnOk l.prog w K mg base (L2N.CX l.prog w) k f fd ["script"] (fun vs H Q E => ∃ (S0 : Hp) (a_script : Addr) (script : List Int), vs = [(V.ref a_script)] ∧ Ex S0 H ∧ RepQ K S0 a_script script ∧ wpm (m script) (fun r => ∀ S' H', Gx [] S0 H S' H' → Q (V.bl (r)) H') (fun c => ∀ S' H', Gx [] S0 H S' H' → E (.ref (caOf K c)) none H'))) :
    PySem.W.WalkO q loose XP (hookG 6 fa fn bf).says l.row.toRowW d [] (fun f vs => PySem.call f vs) := by
  refine L2.walk_ofE (l := l) (n := n) (k := k) (x := "script") (CX := L2.CX0) hn hn2 hdf hr ?_ (fun _ _ _ _ z => z)
  rintro w mg fa' h ⟨K, KX, c, xb⟩ G hmg0
  have hmg : mg ("law" : PySem.Str) = some (.ref fa') := by rw [← hd]; exact hmg0
  obtain ⟨fd, FD⟩ := c.def_ i hfi
  obtain rfl := V.ref.inj (congrArg V.ref (Value.ref.inj (Option.some.inj (hmg.symm.trans (He.glo_ok KX G (c.fact j hfj))))))
  refine ⟨K, fd, _, KX, fun s u => FunD.bindsA (ps := ["script"]) FD hb s [u] rfl, ?_, fun base KB GB => fnOk_nox (F w K mg h KX G c xb base _ fd FD)⟩
  intro H a ns hl _ hS
  exact ⟨H, a, ns, rfl, Ex.refl H, ⟨_, hS, flat_reps ns⟩, wpm_of (hm ns hl) fun S' H' _ => rfl⟩
end G
/-! GRng: range(a, b, c) with c = -1 or 2; xs[a:b:s] with a reckoned step; a list of one's own that a loop binds anew. -/
namespace G
open PySem L2 Evl PySem.Spec PyProof.Rows
/-- a, a + c, .. -/
def rngC (a c : Int) (n : Nat) : List Int := (List.range n).map fun (k : Nat) => a + (k : Int) * c
/-- how many -/
def cntC (a b c : Int) : Nat := if c = -1 then (a - b).toNat else ((b - a + 1) / 2).toNat
@[irreducible] def prng3 (a b c : Int) : M (List Int) := if -(2 ^ 62) ≤ a ∧ a < 2 ^ 62 ∧ -(2 ^ 62) ≤ b ∧ b < 2 ^ 62 ∧ (c = -1 ∨ c = 2) then .ok (rngC a c (cntC a b c)) else .stuck
theorem rngC_len (a c : Int) (n : Nat) : (rngC a c n).length = n := by simp [rngC]
theorem rngC_get {a c : Int} {n i : Nat} {y : Int} (h : (rngC a c n)[i]? = some y) : y = a + (i : Int) * c := by
  unfold rngC at h
  rw [List.getElem?_map] at h
  cases e : (List.range n)[i]? with
  | none => rw [e] at h; cases h
  | some k =>
    rw [e] at h
    obtain ⟨h1, h2⟩ := List.getElem?_eq_some_iff.mp e
    rw [List.getElem_range] at h2
    subst h2
    exact (Option.some.inj h).symm
theorem size_two (a b : Int) : PySem.Builtin.Range.rangeSize a b 2 = (((b - a + 1) / 2).toNat : Int) := by
  unfold PySem.Builtin.Range.rangeSize
  simp only [show ((2 : Int) > 0) by decide, if_true]
  split <;> omega
theorem small_two {a b : Int} (ha : -(2 ^ 62) ≤ a) (ha' : a < 2 ^ 62) (hb : -(2 ^ 62) ≤ b) (hb' : b < 2 ^ 62) : PySem.Builtin.Range.small a b 2 = true := by
  unfold PySem.Builtin.Range.small
  rw [size_two]
  simp only [PySem.Builtin.Range.rangeFitsLong, Bool.and_eq_true, Bool.or_eq_true, decide_eq_true_eq, beq_iff_eq, show ((2 : Int) > 0) by decide, if_true]
  omega
theorem rgC_of {a b c : Int} (h : -(2 ^ 62) ≤ a ∧ a < 2 ^ 62 ∧ -(2 ^ 62) ≤ b ∧ b < 2 ^ 62 ∧ (c = -1 ∨ c = 2)) : RgC a b c (cntC a b c) := by
  obtain ⟨h1, h2, h3, h4, rfl | rfl⟩ := h
  · exact RgC.neg h1 h2 h3 h4
  · exact ⟨by decide, by decide, small_two h1 h2 h3 h4, size_two a b⟩
section
variable {τ γ : Type} {K : Fr} {P : γ → Prop} {E : XC → Prop} {H : Hp} {σ : St} {R : τ → St → Hp → Hp → Prop}
theorem wk_rngC {a c : Int} {n : Nat} (hR : ∀ s σ S H, R s σ S H → Ex S H) : Wk K (Itc a c n) (rngC a c n) R where
  go i s σ S H h hi := by rw [rngC_len] at hi; exact hi
  st s σ S H h := by rw [rngC_len]; exact Nat.le_refl _
  yl i y s σ S H v H' h hy hv := by
    obtain ⟨rfl, rfl⟩ := hv
    exact ⟨S, Gx.refl (hR s σ S _ h), by rw [rngC_get hy]; rfl⟩
def rng3K (R : It → Hp → Prop) (vs : List V) (H1 : Hp) : Prop := ∃ (i j c : Int) (n : Nat), vs = [.int i, .int j, .int c] ∧ RgC i j c n ∧ R (Itc i c n) H1
theorem i_rng3 {ta : TA} {R : It → Hp → Prop} (q : ta σ H fun vs H1 => rng3K R vs H1) : iRng3 ta σ H R := q
theorem i_rng3A {a b c : Int} {k : List Int → M γ} {R : It → Hp → Prop} (h : wpm (prng3 a b c >>= k) P E) (q : wpm (k (rngC a c (cntC a b c))) P E → R (Itc a c (cntC a b c)) H) : rng3K R [.int a, .int b, .int c] H := by
  unfold prng3 at h
  obtain ⟨hc, h⟩ := wpm_ite h
  exact ⟨a, b, c, _, rfl, rgC_of hc, q h⟩
end
/-! xs[a:b:s] -/
def scut {α : Type} (xs : List α) (lo hi : Option Int) (s : Int) : List α :=
  (sliceRange (sliceBounds lo hi (some s) xs.length).1 (sliceBounds lo hi (some s) xs.length).2.1 (sliceBounds lo hi (some s) xs.length).2.2).filterMap fun (i : Nat) => xs[i]?
def pscut {α : Type} (xs : List α) (lo hi : Option Int) (s : Int) : M (List α) := if s = 0 then .stuck else .ok (scut xs lo hi s)
theorem scut_len {α : Type} (xs : List α) (lo hi : Option Int) (s : Int) : (scut xs lo hi s).length ≤ xs.length := by
  have h := slicePick_size_le (List.replicate xs.length Value.none).toArray lo hi (some s)
  unfold slicePick at h
  rw [List.size_toArray, List.size_toArray, List.length_replicate] at h
  unfold scut
  refine Nat.le_trans (Nat.le_of_eq ?_) h
  generalize sliceRange _ _ _ = is
  induction is with
  | nil => rfl
  | cons i is ih =>
    rw [List.filterMap_cons, List.filterMap_cons]
    by_cases c : i < xs.length
    · rw [List.getElem?_eq_getElem c]
      have : (List.replicate xs.length Value.none).toArray[i]? = some Value.none := by simp [c]
      rw [this, List.length_cons, List.length_cons, ih]
    · rw [List.getElem?_eq_none (by omega)]
      have : (List.replicate xs.length Value.none).toArray[i]? = none := by simp; omega
      rw [this, ih]
def stepK (K : Fr) (Q : VK) (x : V) (l u o : Option Int) (H : Hp) : Prop := ∃ a xs s, x = .ref a ∧ o = some s ∧ s ≠ 0 ∧ SqL K H a xs ∧ newK Q (.lst (scut xs l u s)) H
def tStep (K : Fr) (te : TE) (tl th ts : TO) : TE := fun σ H Q => te σ H fun x H1 => tl σ H1 fun l H2 => th σ H2 fun u H3 => ts σ H3 fun o H4 => stepK K Q x l u o H4
theorem pe_step {X : Cx} {e es : PySem.Expr} {lo hi : Option PySem.Expr} {te : TE} {tl th ts : TO} {p3 pos : Pos} (he : PE X e te) (hl : PO X lo tl) (hh : PO X hi th) (hs : PO X (some es) ts)
    (hw : ∀ a N, subscripted (.Slice lo hi (some es) p3) false (.ref a) (.ref N) = operate [.ref a, .ref N] (getItem (.ref a) (.ref N)) := by intros; with_unfolding_all rfl) : PE X (.Subscript e (.Slice lo hi (some es) p3) pos) (tStep X.K te tl th ts) := by
  constructor
  intro pins z σ H Q J hq
  apply Subscript_
  refine thn (he.run pins z σ H _ J hq) ?_
  rintro v z1 ⟨x, H1, J1, rx, q1⟩
  apply wpAny_Slice
  refine thn (hl.run pins z1 σ H1 _ J1 q1) ?_
  rintro v2 z2 ⟨l, H2, J2, pl, q2⟩
  refine thn (hh.run pins z2 σ H2 _ J2 q2) ?_
  rintro v3 z3 ⟨u, H3, J3, pu, q3⟩
  refine thn (hs.run pins z3 σ H3 _ J3 q3) ?_
  rintro v4 z4 ⟨o, H4, J4, ps, q4⟩
  obtain ⟨a, xs, s, rfl, rfl, s0, hx, hQ⟩ := q4
  cases rx
  have J5 := J4.kept (t' := z4.toks) (h' := z4.heap.push { cls := .type "slice", data := .fields #[v2, v3, v4] }) fun b ob e => Heap.get?_push_of_some _ e
  obtain ⟨its, r, ht, hz⟩ := J5.list hx
  have hits : its.length = xs.length := r.length.symm
  show wpAny (model X.prog X.w) X.A (subscriptTail e (.Slice lo hi (some es) p3) (.ref a) (.ref z4.heap.objs.size)) _ _ _
  refine tail_any ht.isList.typeIs PySem.slot_list_getitem.lookup ?_ (hw a _)
  refine wpAny_getItem_list_slice ht.isList (Heap.IsSliceOf.new _ v2 v3 v4) pl pu ps (fun e => s0 (Option.some.inj e)) ?_ (by rw [List.size_toArray, hits]; exact hz)
  have ep : (slicePick its.toArray l u (some s)) = ((scut its l u s).toArray) := by
    unfold slicePick scut
    simp
  rw [ep]
  have hr := vals_pick r (sliceRange (sliceBounds l u (some s) xs.length).1 (sliceBounds l u (some s) xs.length).2.1 (sliceBounds l u (some s) xs.length).2.2)
  have hr2 : Vals (scut xs l u s) (scut its l u s) := by
    unfold scut
    rw [hits]; exact hr
  refine ⟨.ref _, _, J5.laid (t' := z4.toks) (o := .lst (scut xs l u s)) (fun b ob q => Heap.get?_push_of_some _ q) (Nat.le_refl _) ?_, rfl, hQ _ (J5.hok.fresh (Nat.le_refl _))⟩
  exact ⟨Nat.le_trans (scut_len xs l u s) hz, _, 0, hr2, Heap.get?_push_size _ rfl⟩
theorem pe_stepK {X : Cx} {K : Fr} {e es : PySem.Expr} {lo hi : Option PySem.Expr} {te : TE} {tl th ts : TO} {p3 pos : Pos} (ek : X.K = K) (h : PE X (.Subscript e (.Slice lo hi (some es) p3) pos) (tStep X.K te tl th ts)) : PE X (.Subscript e (.Slice lo hi (some es) p3) pos) (tStep K te tl th ts) := ek ▸ h
section
variable {α γ : Type} [Py α] {K : Fr} {P : γ → Prop} {E : XC → Prop} {S H S0 H0 : Hp} {L : List Addr} {a : Addr} {xs : List α} {Q : VK} {σ : St} {te : TE} {tl th ts : TO}
theorem i_stepS (q : te σ H fun x H1 => tl σ H1 fun l H2 => th σ H2 fun u H3 => ts σ H3 fun o H4 => stepK K Q x l u o H4) : tStep K te tl th ts σ H Q := q
theorem All2.scut {R : V → α → Prop} {vs : List V} {lo hi : Option Int} {s : Int} (h : All2 R vs xs) : All2 R (scut vs lo hi s) (G.scut xs lo hi s) := by
  unfold G.scut
  rw [h.len]
  exact h.pick _
theorem s_stepS {lo hi : Option Int} {s : Int} {k : List α → M γ} (g : Gx L S0 H0 S H) (r : RepH K S H a xs) (h : wpm (pscut xs lo hi s >>= k) P E) (q : ∀ p S1 H1, Gx L S0 H0 S1 H1 → Gx [] S H S1 H1 → RepL K S1 p (scut xs lo hi s) → wpm (k (scut xs lo hi s)) P E → Q (.ref p) H1) : stepK K Q (.ref a) lo hi (some s) H := by
  obtain ⟨vs, h1, h2⟩ := r
  unfold pscut at h
  by_cases c : s = 0
  · rw [if_pos c] at h; exact h.elim
  rw [if_neg c] at h
  exact ⟨a, vs, s, rfl, rfl, c, h1, newL_S g (All2.scut h2) fun p S1 H1 g1 g2 r2 => q p S1 H1 g1 g2 r2 h⟩
theorem s_stepO {lo hi : Option Int} {s : Int} {k : List α → M γ} (g : Gx L S0 H0 S H) (r : RepH K S H a xs) (h : wpm (pscut xs lo hi s >>= k) P E) (q : ∀ p H1, Gx L S0 H0 S H1 → Gx [] S H S H1 → H p = none → OwnL K S H1 p (scut xs lo hi s) → wpm (k (scut xs lo hi s)) P E → Q (.ref p) H1) : stepK K Q (.ref a) lo hi (some s) H := by
  obtain ⟨vs, h1, h2⟩ := r
  unfold pscut at h
  by_cases c : s = 0
  · rw [if_pos c] at h; exact h.elim
  rw [if_neg c] at h
  exact ⟨a, vs, s, rfl, rfl, c, h1, newL_O g (All2.scut h2) fun p H1 g1 g2 hp r2 => q p H1 g1 g2 hp r2 h⟩
end
theorem nuMin3_int (i j k : Int) : nuMin3 (.int i) (.int j) (.int k) = some (.int (min (min i j) k)) := by
  have h2 : ∀ a b : Int, nuMin2 (.int a) (.int b) = some (.int (min a b)) := fun a b => by
    unfold nuMin2
    show some (if decide (b < a) = true then V.int b else V.int a) = _
    by_cases c : b < a
    · rw [if_pos (decide_eq_true c)]; congr 2; omega
    · rw [if_neg (by simpa using c)]; congr 2; omega
  unfold nuMin3
  rw [h2]
  exact h2 _ _
theorem s_min3 {H : Hp} {Q : VK} {i j k : Int} (q : Q (.int (min (min i j) k)) H) : rNuC3 nuMin3 [.int i, .int j, .int k] H Q := ⟨_, _, _, _, rfl, nuMin3_int i j k, q⟩
/-- a list that a loop bound anew is one's own or new behind it, too -/
theorem mv_mem {L Lm : List Addr} {S0 H0 S H : Hp} {b : Addr} (h : H b = none ∨ b ∈ Lm) (hm : ∀ x ∈ Lm, x ∈ L ∨ H0 x = none) (g : Gx L S0 H0 S H) : H0 b = none ∨ b ∈ L := by
  rcases h with h | h
  · exact .inl (Gx.back g h)
  · exact (hm b h).symm
end G
/-! GOft: pairs of whole numbers in order; a dict's entries in order; count; setdefault. -/
namespace G
open PySem L2 Evl PySem.Spec PyProof.Rows
abbrev Pr := Int × Int × Unit
def prLe (a b : Pr) : Bool := !SrtO.lexB (b.1, b.2.1) (a.1, a.2.1)
theorem prLe_iff {a b : Pr} : prLe a b = true ↔ a.1 < b.1 ∨ (a.1 = b.1 ∧ a.2.1 ≤ b.2.1) := by
  unfold prLe
  rw [Bool.not_eq_true', SrtO.lexB_no]
  show ¬ (b.1 < a.1 ∨ (b.1 = a.1 ∧ b.2.1 < a.2.1)) ↔ _
  omega
def psrt (xs : List Pr) : List Pr := xs.mergeSort prLe
theorem psrt_perm (xs : List Pr) : (psrt xs).Perm xs := List.mergeSort_perm _ _
theorem psrt_le (xs : List Pr) : (psrt xs).Pairwise (fun a b => prLe a b = true) :=
  List.pairwise_mergeSort (le := prLe) (by intro a b c h1 h2; rw [prLe_iff] at h1 h2 ⊢; omega) (by intro a b; rw [Bool.or_eq_true, prLe_iff, prLe_iff]; omega) xs
theorem ord_unique {α : Type} {r : α → α → Prop} (anti : ∀ a b, r a b → r b a → a = b) : ∀ {xs ys : List α}, xs.Pairwise r → ys.Pairwise r → xs.Perm ys → xs = ys
  | [], ys, _, _, h => (List.Perm.nil_eq h)
  | x :: xs, [], _, _, h => absurd h.length_eq (by simp)
  | x :: xs, y :: ys, hx, hy, h => by
    have hx' := List.pairwise_cons.mp hx
    have hy' := List.pairwise_cons.mp hy
    have e : x = y := by
      rcases List.mem_cons.mp (h.subset (List.mem_cons_self (a := x) (l := xs))) with h1 | h1
      · exact h1
      · rcases List.mem_cons.mp (h.symm.subset (List.mem_cons_self (a := y) (l := ys))) with h2 | h2
        · exact h2.symm
        · exact anti _ _ (hx'.1 y h2) (hy'.1 x h1)
    subst e
    congr 1
    exact ord_unique anti hx'.2 hy'.2 (List.Perm.cons_inv h)
theorem prLe_anti (a b : Pr) (h1 : prLe a b = true) (h2 : prLe b a = true) : a = b := by
  rw [prLe_iff] at h1 h2
  obtain ⟨a1, a2, ⟨⟩⟩ := a
  obtain ⟨b1, b2, ⟨⟩⟩ := b
  have h3 : a1 = b1 := by show a1 = b1; simp only at h1 h2; omega
  have h4 : a2 = b2 := by simp only at h1 h2; omega
  rw [h3, h4]
/-- a pair that a heap holds -/
def readP (h : Heap) (v : Value) : Int × Int := match v with
  | .ref a => match h.get? a with
    | some o => match o.data with
      | .seq arr _ => match arr.toList with
        | [.int x _, .int y _] => (x, y)
        | _ => (0, 0)
      | _ => (0, 0)
    | none => (0, 0)
  | _ => (0, 0)
theorem readP_at {h : Heap} {a : Addr} {o : Obj} {x y : Int} {t u : Tok} {n : Nat} (ho : h.get? a = some o) (hd : o.data = .seq #[.int x t, .int y u] n) : readP h (.ref a) = (x, y) := by
  unfold readP
  simp only [ho, hd]
def lexLe (p q : Int × Int) : Prop := SrtO.lexB q p = false
/-- sorted(xs), xs a list of pairs -/
def rSortPG (K : Fr) : List V → Hp → VK → Prop := fun vs H Q => ∃ (a : Addr) (ws : List (V × Int × Int)), vs = [V.ref a] ∧ SqL K H a (ws.map (·.1)) ∧ (∀ w ∈ ws, ∃ t, w.1 = V.ref t ∧ SqT K H t [.int w.2.1, .int w.2.2]) ∧
  ∀ us : List (V × Int × Int), us.Perm ws → (us.map (·.2)).Pairwise lexLe → newK Q (.lst (us.map (·.1))) H
theorem call_sortedPG {X : Cx} : CallR X (.builtin "sorted") (rSortPG X.K) := by
  intro pins s σ H vs us Q I r h
  obtain ⟨a, ws, rfl, hs, hx, q⟩ := h
  obtain ⟨its, rv, hl, hz⟩ := I.list hs
  obtain ⟨u, rfl, ru⟩ := vals1 r
  obtain rfl : u = Value.ref a := ru
  obtain ⟨e1, e2⟩ := refs_back rv fun x m => by
    obtain ⟨w, hw, rfl⟩ := List.mem_map.mp m
    obtain ⟨t, e, _⟩ := hx w hw
    exact ⟨t, e⟩
  have pr : ∀ w ∈ ws, ∃ t, w.1 = V.ref t ∧ Srt.IsPair s.heap (.ref t) w.2.1 w.2.2 ∧ readP s.heap (.ref t) = w.2 := fun w hw => by
    obtain ⟨t, e, ht⟩ := hx w hw
    obtain ⟨its2, r2, ⟨o, ho, hc, n, hd⟩, _⟩ := I.tuple ht
    obtain ⟨u1, u2, rfl, ri, rj⟩ := vals2 r2
    obtain ⟨t1, rfl⟩ := ri
    obtain ⟨t2, rfl⟩ := rj
    exact ⟨t, e, ⟨t, o, t1, t2, n, rfl, ho, hc, hd⟩, readP_at ho hd⟩
  have ew : ws = its.map fun u => (backV u, readP s.heap u) := by
    have hlen : ws.length = its.length := by
      have := rv.length
      rwa [List.length_map] at this
    refine List.ext_getElem (by rw [List.length_map, hlen]) fun i h1 h2 => ?_
    have hi : i < its.length := by omega
    rw [List.getElem_map]
    have e3 : ws[i].1 = backV its[i] := by
      have : (ws.map (·.1))[i]'(by rw [List.length_map]; exact h1) = (its.map backV)[i]'(by rw [List.length_map]; exact hi) := by
        congr 1
      rwa [List.getElem_map, List.getElem_map] at this
    obtain ⟨t, e4, _, e5⟩ := pr ws[i] (List.getElem_mem _)
    obtain ⟨t', e6⟩ := e2 its[i] (List.getElem_mem _)
    rw [e6] at e3 ⊢
    have e7 : V.ref t = V.ref t' := e4.symm.trans e3
    cases e7
    rw [e5]
    exact Prod.ext e3 rfl
  refine SrtO.sorted_pairsO (k := fun u => readP s.heap u) hl.isList (by rw [← rv.length]; exact hz) (fun v hv => ?_) fun h' d out h1 h2 kp hd hn => ?_
  · have hm : (backV v, readP s.heap v) ∈ ws := by rw [ew]; exact List.mem_map.mpr ⟨v, hv, rfl⟩
    obtain ⟨t, e4, e5, _⟩ := pr _ hm
    obtain ⟨t', e6⟩ := e2 v hv
    subst e6
    have e7 : V.ref t' = V.ref t := e4
    cases e7
    exact e5
  · have h3 : ∀ u ∈ out, ∃ a, u = Value.ref a := fun u hu => e2 u (h2.perm.mem_iff.mp hu)
    obtain ⟨n, hn⟩ := hn
    have hq := q (out.map fun u => (backV u, readP s.heap u)) (by rw [ew]; exact h2.perm.map _) (by
      rw [List.map_map, List.pairwise_map]
      exact h1.imp fun h => h) d (I.hok.fresh hd)
    rw [List.map_map] at hq
    refine ⟨.ref d, upd H d (.lst (out.map backV)), I.laid (t' := s.toks) kp hd ⟨?_, out, n, vals_back h3, hn⟩, rfl, hq⟩
    rw [List.length_map, h2.perm.length_eq, ← rv.length]
    exact hz
theorem call_sortedPK {X : Cx} {K : Fr} (e : X.K = K := by rfl) : CallR X (.builtin "sorted") (rSortPG K) := e ▸ call_sortedPG
/-! tuples laid one after another -/
def layT : Hp → List (Addr × Int × Int) → Hp
  | H, [] => H
  | H, u :: us => layT (upd H u.1 (.tup [.int u.2.1, .int u.2.2])) us
theorem layT_off {b : Addr} : ∀ (us : List (Addr × Int × Int)) (H : Hp), (∀ u ∈ us, u.1 ≠ b) → layT H us b = H b
  | [], _, _ => rfl
  | u :: us, H, h => by
    show layT (upd H u.1 _) us b = H b
    rw [layT_off us _ fun v hv => h v (List.mem_cons_of_mem _ hv), upd_ne fun z => h u List.mem_cons_self z.symm]
theorem layT_at : ∀ (us : List (Addr × Int × Int)) (H : Hp), (us.map (·.1)).Nodup → ∀ u ∈ us, layT H us u.1 = some (.tup [.int u.2.1, .int u.2.2])
  | [], _, _, u, hu => nomatch hu
  | v :: us, H, nd, u, hu => by
    rw [List.map_cons, List.nodup_cons] at nd
    show layT (upd H v.1 _) us u.1 = _
    rcases List.mem_cons.mp hu with e | hu
    · subst e
      rw [layT_off us _ fun w hw z => nd.1 (List.mem_map.mpr ⟨w, hw, z⟩), upd_same]
    · exact layT_at us _ nd.2 u hu
theorem inv_many {X : Cx} {pins : List (Addr × Obj)} {σ : St} {H H' : Hp} {s : Shared} {h' : Heap} {tk : Nat} (I : Inv X pins σ H s) (hk : ∀ b o, s.heap.get? b = some o → h'.get? b = some o) (kp : ∀ b u, H b = some u → H' b = some u)
    (old : ∀ b o, s.heap.get? b = some o → H b = none → H' b = none) (ok : ∀ b u, H' b = some u → H b = some u ∨ ObjOk X.prog X.w H' h' b u) : Inv X pins σ H' { s with heap := h', toks := tk } := by
  refine I.call' (ch := []) rfl ⟨fun b o q _ _ _ => hk b o q, fun b o q _ _ _ => ⟨o.slots, hk b o q⟩, fun b o q n _ => old b o q n, fun b o q _ => ⟨o, hk b o q⟩, fun b xs q => kp b _ q, fun b o u q => kp b _ q, fun b ps q => ⟨#[], by rw [kp b _ q]; simp⟩⟩ (fun b u q => ?_) I.bare fun b z => by simp at z
  rcases ok b u q with h | h
  · exact (I.hok b u h).stay (fun d v _ y => hk d v y) (fun d y => kp d _ y) fun d xs y => kp d _ y
  · exact h
theorem paired_getR {α β : Type} {F : α → β → Prop} : ∀ {xs : List α} {ys : List β}, Paired F xs ys → ∀ {i : Nat} {y : β}, ys[i]? = some y → ∃ x, xs[i]? = some x ∧ F x y
  | _, _, .nil, i, x, h => by cases h
  | _, _, .cons r t, 0, x, h => by
    have e := Option.some.inj h
    subst e
    exact ⟨_, rfl, r⟩
  | _, _, .cons r t, i + 1, x, h => paired_getR t h
def bkA : Value → Addr
  | .ref a => a
  | _ => 0
/-- sorted(d.items()), whole numbers to whole numbers -/
def sItK (x : V) (H : Hp) (Q : VK) : Prop := ∃ (d : Addr) (kvs : List (Int × Int)), x = .ref d ∧ H d = some (.dK (kvs.map fun q => ((Sum.inl q.1 : Key), V.int q.2))) ∧
  ∀ (us : List (Addr × Int × Int)) (p : Addr), (us.map (·.2)).Perm kvs → (us.map (·.2)).Pairwise lexLe → (us.map (·.1)).Nodup → (∀ u ∈ us, H u.1 = none) → (∀ u ∈ us, u.1 ≠ p) → H p = none → Q (.ref p) (upd (layT H us) p (.lst (us.map fun u => V.ref u.1)))
def tSIt (te : TE) : TE := fun σ H Q => te σ H fun x H1 => sItK x H1 Q
section
variable {X : Cx} {e : PySem.Expr} {te : TE} {p apos cpos pos : Pos}
theorem pe_sortedItems (hc : X.calm = true) (he : PE X e te) (hg : Gl X "sorted") (hm : X.mg "sorted" = none) (hbase : attributeBase e "items" X.env (eval e X.env) = eval e X.env := by rfl) (hline : (apos.endLine == cpos.line) = true := by rfl)
    (na : starEach [.Call (.Attribute e "items" apos) [] [] cpos] X.env = (false, eval (.Call (.Attribute e "items" apos) [] [] cpos) X.env) :: starEach [] X.env := by rfl) :
    PE X (.Call (.Name "sorted" p) [.Call (.Attribute e "items" apos) [] [] cpos] [] pos) (tSIt te) := by
  constructor
  intro pins s σ H Q I hq
  refine Call_ (ld_blt I hg hm boot_sorted (callWith_builtin1 (args_cons ?_ na) na rfl))
  refine wpAny_Call_method (T := "dict") (id := "dict.items") hbase rfl hline F.plainAttrs_dict F.slot_dict_items F.type_dict_items (thn (he.run pins s σ H _ I hq) ?_)
  rintro v s1 ⟨x, H1, I1, rx, d, kvs, rfl, hd, q⟩
  obtain rfl : v = Value.ref d := rx
  obtain ⟨hz, hs0, vs, kv, hdo⟩ := I1.hok d _ hd
  obtain ⟨ep, hat⟩ := hdo.dictAt
  have lk : vs.length = kvs.length := by rw [← Paired.length kv, List.length_map]
  rw [List.length_map] at hz
  have I2 : Inv X pins σ H1 { s1 with heap := s1.heap.push { cls := .type "dict_items", data := .fields #[.ref d] } } := I1.kept (t' := s1.toks) fun b ob q => Heap.get?_push_of_some _ q
  refine ⟨hdo.typeIs, hdo.mapOf.noDict, ?_⟩
  show wpAny _ _ (callWith cpos (.builtin "dict.items") [.ref d] [] []) _ X.xe s1
  refine method_meetsIn F.slot_dict_items F.entry_dict_items rfl (PySem.evalArgs_none ⟨rfl, hdo.typeIs, F.args_dict_items_1 _, _, meets_dict_items (mixKind X.prog X.w) d hs0, ⟨vs, hdo⟩, ?_⟩)
  refine args_nil ?_
  apply Calls.call_function_entry kind_sorted plain_sorted entry_sorted (args_sorted1 _)
  unfold Builtin.«sorted»
  apply wpAny_bind (m := checkCount "sorted" 1 1 _)
  apply wpAny_pure
  apply wpAny_bind
  refine PySem.W.kdx_collect (knd := mixKind X.prog X.w) (kvs := vs) (ep := ep) (I1.ok.hd hc) ⟨_, Heap.get?_push_size _ rfl, rfl, rfl⟩ (hat.push _) (by omega) fun h' tk as hk hl hG => ?_
  have hsz : (s1.heap.push { cls := .type "dict_items", data := .fields #[.ref d] }).objs.size = s1.heap.objs.size + 1 := size_push' _ _
  have at_ : ∀ (j : Nat) (a : Addr), as[j]? = some a → ∃ (z : Int × Int) (t1 t2 : Tok), kvs[j]? = some z ∧ h'.get? a = some { cls := .type "tuple", data := .seq #[.int z.1 t1, .int z.2 t2] } := fun j a ha => by
    obtain ⟨key, k, y, f1, f2, f3⟩ := hG.pairs j a ha
    obtain ⟨q2, g1, g2, g3⟩ := paired_getR kv f1
    rw [List.getElem?_map] at g1
    obtain ⟨z, hz1, rfl⟩ := Option.map_eq_some_iff.mp g1
    obtain ⟨t2, rfl⟩ := g3
    have g2 : (Sum.inl z.1 : Key) = k := g2
    subst g2
    rcases keyIs_shape (show keyIs (Sum.inl z.1) key = true from f2) with ⟨i, t, ek, ev⟩ | ⟨w, t, ek, ev⟩
    · cases ek
      subst ev
      exact ⟨z, t, t2, hz1, f3⟩
    · cases ek
  have low : ∀ a ∈ as, s1.heap.objs.size ≤ a := fun a ha => by
    have := hG.above a ha
    rw [hsz] at this
    exact Nat.le_trans (Nat.le_succ _) (Nat.le_of_lt this)
  have rd : ∀ a ∈ as, Srt.IsPair h' (.ref a) (readP h' (.ref a)).1 (readP h' (.ref a)).2 := fun a ha => by
    obtain ⟨j, hj⟩ := List.mem_iff_getElem?.mp ha
    obtain ⟨z, t1, t2, _, e⟩ := at_ j a hj
    rw [readP_at e rfl]
    exact ⟨a, _, t1, t2, _, rfl, e, rfl, rfl⟩
  have eks : (as.map fun a => readP h' (.ref a)) = kvs := by
    refine List.ext_getElem? fun j => ?_
    rw [List.getElem?_map]
    cases ha : as[j]? with
    | none =>
      rw [List.getElem?_eq_none_iff] at ha
      rw [List.getElem?_eq_none (by omega)]; rfl
    | some a =>
      obtain ⟨z, t1, t2, e1, e2⟩ := at_ j a ha
      rw [e1, Option.map_some, readP_at e2 rfl]
  have nd : as.Nodup := hG.rise.imp fun h => Nat.ne_of_lt h
  have lz : (as.map Value.ref).length ≤ sizeLine := by rw [List.length_map, hl, lk]; exact hz
  apply wpAny_bind
  refine wpAny_newList ?_ lz
  have at0 : (h'.push (seqObj "list" (as.map Value.ref).toArray 0)).get? h'.objs.size = some (seqObj "list" (as.map Value.ref).toArray 0) := Heap.get?_push_size _ rfl
  apply wpAny_bind
  apply wpAny_holding
  refine wpAny_call_entry slot_list_sort ⟨_, at0, rfl⟩ entry_list_sort ?_ (args_list_sort _)
  refine SrtO.list_sort_ord (SrtO.swo_lex (readP h')) at0 lz (fun h2 => ?_) fun out h1 h2 => ⟨_, rfl, ?_⟩
  · refine SrtO.pairs_sortableO (by omega) (fun v hm => ?_) fun o e => ?_
    · obtain ⟨a, ha, rfl⟩ := List.mem_map.mp hm
      exact (rd a ha).keeps fun b o e _ => Heap.get?_push_of_some _ e
    · have e0 : (h'.push (seqObj "list" (as.map Value.ref).toArray 0)).get? h'.objs.size = some o := e
      obtain rfl := Option.some.inj (at0.symm.trans e0)
      intro c
      exact absurd (Value.type.inj c) (by decide)
  obtain ⟨c, hcc⟩ := sortedHeap_at (vs := as.map Value.ref) (out := out.toArray) at0
  have keep : ∀ b u, h'.get? b = some u → (sortedHeap (h'.push (seqObj "list" (as.map Value.ref).toArray 0)) h'.objs.size (as.map Value.ref) out.toArray).get? b = some u := fun b u e => by
    have lb := Heap.lt_size e
    rw [sortedHeap_old (Nat.ne_of_lt lb) (by rw [size_push']; exact Nat.lt_succ_of_lt lb)]
    exact Heap.get?_push_of_some _ e
  have old : ∀ b u, s1.heap.get? b = some u → h'.get? b = some u := fun b u e => hk b u (Heap.get?_push_of_some _ e)
  have h3 : ∀ u ∈ out, ∃ a ∈ as, u = Value.ref a := fun u hu => by
    obtain ⟨a, ha, e⟩ := List.mem_map.mp (h2.perm.mem_iff.mp hu)
    exact ⟨a, ha, e.symm⟩
  have hus : ∀ u ∈ (out.map fun u => (bkA u, readP h' u)), u.1 ∈ as ∧ u.2 = readP h' (.ref u.1) := fun u hu => by
    obtain ⟨v, hv, rfl⟩ := List.mem_map.mp hu
    obtain ⟨a, ha, rfl⟩ := h3 v hv
    exact ⟨ha, rfl⟩
  have hsz2 : s1.heap.objs.size ≤ h'.objs.size := Nat.le_of_lt (Heap.lt_size (hk _ _ (Heap.get?_push_size _ rfl)))
  have hn : H1 h'.objs.size = none := I1.hok.fresh hsz2
  have new : ∀ u ∈ (out.map fun u => (bkA u, readP h' u)), H1 u.1 = none := fun u hu => I1.hok.fresh (low _ (hus u hu).1)
  have ne : ∀ u ∈ (out.map fun u => (bkA u, readP h' u)), u.1 ≠ h'.objs.size := fun u hu => Nat.ne_of_lt (hG.there (hus u hu).1)
  have ndu : ((out.map fun u => (bkA u, readP h' u)).map (·.1)).Nodup := by
    rw [List.map_map]
    have : (out.map ((·.1) ∘ fun u => (bkA u, readP h' u))).Perm as := by
      have := h2.perm.map bkA
      rw [List.map_map] at this
      refine this.trans (List.Perm.of_eq ?_)
      exact List.map_id as
    exact this.nodup_iff.mpr nd
  have hq := q (out.map fun u => (bkA u, readP h' u)) h'.objs.size (by
    rw [List.map_map, ← eks]
    have := h2.perm.map (readP h')
    rw [List.map_map] at this
    exact this) (by
    rw [List.map_map, List.pairwise_map]
    exact h1.imp fun h => h) ndu new ne hn
  have eo : (out.map fun u => (bkA u, readP h' u)).map (fun u => V.ref u.1) = out.map backV := by
    rw [List.map_map]
    refine List.map_congr_left fun u hu => ?_
    obtain ⟨a, _, rfl⟩ := h3 u hu
    rfl
  refine wpAny_pure ⟨_, rfl, ?_⟩
  refine ⟨.ref h'.objs.size, _, inv_many (s := s1) (tk := tk) I1 (fun b u e => keep b u (old b u e)) (fun b u e => ?_) (fun b o e e2 => ?_) (fun b u e => ?_), rfl, hq⟩
  · rw [upd_ne (fun z => by rw [z, hn] at e; cases e), layT_off _ _ fun v hv z => by rw [← z, new v hv] at e; cases e]
    exact e
  · have lb := Heap.lt_size e
    rw [upd_ne (Nat.ne_of_lt (Nat.lt_of_lt_of_le lb hsz2)), layT_off _ _ fun v hv z => by
      have := low _ (hus v hv).1
      rw [z] at this
      exact Nat.not_le_of_lt lb this]
    exact e2
  · by_cases c1 : b = h'.objs.size
    · subst c1
      rw [upd_same] at e
      cases e
      refine .inr ⟨by rw [List.length_map, List.length_map, h2.perm.length_eq]; exact lz, out, c, ?_, hcc⟩
      rw [eo]
      exact vals_back fun u hu => by
        obtain ⟨a, _, e⟩ := h3 u hu
        exact ⟨a, e⟩
    · rw [upd_ne c1] at e
      by_cases c2 : ∃ v ∈ (out.map fun u => (bkA u, readP h' u)), v.1 = b
      · obtain ⟨v, hv, rfl⟩ := c2
        rw [layT_at _ _ ndu v hv] at e
        cases e
        obtain ⟨ha, e3⟩ := hus v hv
        obtain ⟨j, hj⟩ := List.mem_iff_getElem?.mp ha
        obtain ⟨z, t1, t2, _, e4⟩ := at_ j _ hj
        rw [readP_at e4 rfl] at e3
        rw [e3]
        exact .inr ⟨by show 2 ≤ sizeLine; decide, [.int z.1 t1, .int z.2 t2], .cons ⟨t1, rfl⟩ (.cons ⟨t2, rfl⟩ .nil), ⟨_, keep _ _ e4, rfl, _, rfl⟩⟩
      · rw [layT_off _ _ fun v hv z => c2 ⟨v, hv, z⟩] at e
        exact .inl e
end
section
variable {K : Fr} {P : List Pr → Prop} {E : XC → Prop} {S H S0 H0 : Hp} {L : List Addr} {a : Addr} {Q : VK} {σ : St} {te : TE}
theorem lex_pr {us : List (Int × Int)} (h : us.Pairwise lexLe) : (us.map fun k => ((k.1, k.2, ()) : Pr)).Pairwise (fun a b => prLe a b = true) := by
  rw [List.pairwise_map]
  exact h.imp fun {x y} h => by
    show (!SrtO.lexB (y.1, y.2) (x.1, x.2)) = true
    have h : SrtO.lexB y x = false := h
    rw [show ((y.1, y.2) : Int × Int) = y from rfl, show ((x.1, x.2) : Int × Int) = x from rfl, h]
    rfl
theorem psrt_of {us ks : List (Int × Int)} (hp : us.Perm ks) (hs : us.Pairwise lexLe) : (us.map fun k => ((k.1, k.2, ()) : Pr)) = psrt (ks.map fun k => ((k.1, k.2, ()) : Pr)) :=
  ord_unique prLe_anti (lex_pr hs) (psrt_le _) ((hp.map _).trans (psrt_perm _).symm)
/-- the values of pairs -/
theorem reps_pairs : ∀ {vs : List V} {xs : List Pr}, Reps K S vs xs → ∃ ws : List (V × Int × Int), ws.map (·.1) = vs ∧ (ws.map fun w => ((w.2.1, w.2.2, ()) : Pr)) = xs ∧ ∀ w ∈ ws, ∃ t, w.1 = V.ref t ∧ SqT K S t [.int w.2.1, .int w.2.2]
  | _, _, .nil => ⟨[], rfl, rfl, fun w h => nomatch h⟩
  | _, _, .cons (a := v) (b := x) h t => by
    obtain ⟨ws, h1, h2, h3⟩ := reps_pairs t
    obtain ⟨p, vs, rfl, hT, _, _, rfl, hi, _, _, rfl, hj, hn⟩ := h
    have hi : _ = V.int x.1 := hi
    have hj : _ = V.int x.2.1 := hj
    have hn : _ = [] := hn
    subst hi hj hn
    refine ⟨(V.ref p, x.1, x.2.1) :: ws, by rw [List.map_cons, h1], by rw [List.map_cons, h2], fun w hw => ?_⟩
    rcases List.mem_cons.mp hw with e | hw
    · rw [e]; exact ⟨p, rfl, hT⟩
    · exact h3 w hw
theorem pairs_reps : ∀ {ws : List (V × Int × Int)}, (∀ w ∈ ws, ∃ t, w.1 = V.ref t ∧ SqT K S t [.int w.2.1, .int w.2.2]) → Reps K S (ws.map (·.1)) (ws.map fun w => ((w.2.1, w.2.2, ()) : Pr))
  | [], _ => .nil
  | w :: ws, h => by
    obtain ⟨t, e, hT⟩ := h w List.mem_cons_self
    refine .cons ?_ (pairs_reps fun v hv => h v (List.mem_cons_of_mem _ hv))
    exact ⟨t, _, e, hT, _, _, rfl, rfl, _, _, rfl, rfl, rfl⟩
theorem sortP_use {xs : List Pr} (ex : Ex S H) (r : RepH K S H a xs) (q : ∀ vs, Reps K S vs (psrt xs) → newK Q (.lst vs) H) : rSortPG K [.ref a] H Q := by
  obtain ⟨vs, h1, h2⟩ := r
  obtain ⟨ws, rfl, rfl, h3⟩ := reps_pairs h2
  refine ⟨a, ws, rfl, h1, fun w hw => ?_, fun us hp hs => ?_⟩
  · obtain ⟨t, e, hT⟩ := h3 w hw
    exact ⟨t, e, ex_t ex hT⟩
  · have := psrt_of (hp.map (·.2)) hs
    rw [List.map_map, List.map_map] at this
    refine q _ ?_
    have hr := pairs_reps (K := K) (S := S) (ws := us) fun w hw => h3 w (hp.mem_iff.mp hw)
    exact this ▸ hr
theorem s_psrtS {xs : List Pr} (g : Gx L S0 H0 S H) (r : RepH K S H a xs) (q : ∀ p S1 H1, Gx L S0 H0 S1 H1 → Gx [] S H S1 H1 → RepL K S1 p (psrt xs) → Q (.ref p) H1) : rSortPG K [.ref a] H Q :=
  sortP_use g.sh r fun vs hr => newL_S g hr q
theorem s_psrtO {xs : List Pr} (g : Gx L S0 H0 S H) (r : RepH K S H a xs) (q : ∀ p H1, Gx L S0 H0 S H1 → Gx [] S H S H1 → H p = none → OwnL K S H1 p (psrt xs) → Q (.ref p) H1) : rSortPG K [.ref a] H Q :=
  sortP_use g.sh r fun vs hr => newL_O g hr q
/-! a dict's entries -/
def dpairs (kvs : List (Int × Int)) : List Pr := kvs.map fun k => (k.1, k.2, ())
theorem i_sit (q : te σ H fun x H1 => sItK x H1 Q) : tSIt te σ H Q := q
theorem gx_lay : ∀ (us : List (Addr × Int × Int)) {S H : Hp}, Gx L S0 H0 S H → (us.map (·.1)).Nodup → (∀ u ∈ us, H u.1 = none) → Gx L S0 H0 (layT S us) (layT H us) ∧ ∀ b o, S b = some o → layT S us b = some o
  | [], _, _, g, _, _ => ⟨g, fun _ _ h => h⟩
  | u :: us, S, H, g, nd, hn => by
    rw [List.map_cons, List.nodup_cons] at nd
    have hu := hn u List.mem_cons_self
    obtain ⟨g1, g2⟩ := gx_lay us (g.newS (o := .tup [.int u.2.1, .int u.2.2]) hu) nd.2 fun v hv => by
      rw [upd_ne fun z => nd.1 (List.mem_map.mpr ⟨v, hv, z⟩)]
      exact hn v (List.mem_cons_of_mem _ hv)
    exact ⟨g1, fun b o e => g2 b o (by rw [upd_ne fun z => by rw [z, fresh_back g.sh hu] at e; cases e]; exact e)⟩
theorem lay_none {b : Addr} {us : List (Addr × Int × Int)} {H : Hp} (h : H b = none) (hb : ∀ u ∈ us, u.1 ≠ b) : layT H us b = none := by rw [layT_off us H hb, h]
theorem reld_int {ws : List (Key × V)} {kvs : List (Int × Int)} (h : All2 (RelD K S) ws kvs) : ws = kvs.map fun q => ((Sum.inl q.1 : Key), V.int q.2) := by
  induction h with
  | nil => rfl
  | cons h t ih =>
    rw [List.map_cons, ← ih]
    congr 1
    exact Prod.ext h.1 h.2
theorem lay_reps {us : List (Addr × Int × Int)} {S : Hp} (nd : (us.map (·.1)).Nodup) : Reps K (layT S us) (us.map fun u => V.ref u.1) (us.map fun u => ((u.2.1, u.2.2, ()) : Pr)) := by
  have H := pairs_reps (K := K) (S := layT S us) (ws := us.map fun u => (V.ref u.1, u.2.1, u.2.2)) fun w hw => by
    obtain ⟨u, hu, rfl⟩ := List.mem_map.mp hw
    exact ⟨u.1, rfl, st_of (layT_at us S nd u hu)⟩
  rw [List.map_map, List.map_map] at H
  exact H
theorem s_sitS {kvs : List (Int × Int)} (g : Gx L S0 H0 S H) (o : OwnD K S H a kvs) (q : ∀ p S1 H1, Gx L S0 H0 S1 H1 → Gx [] S H S1 H1 → RepL K S1 p (psrt (dpairs kvs)) → Q (.ref p) H1) : sItK (.ref a) H Q := by
  obtain ⟨ws, h1, h2⟩ := o
  refine ⟨a, kvs, rfl, by rw [h1.at_, reld_int h2], fun us p hp hs nd hn hne hpn => ?_⟩
  have e := psrt_of hp hs
  rw [List.map_map] at e
  obtain ⟨g1, _⟩ := gx_lay us g nd hn
  obtain ⟨g2, _⟩ := gx_lay us (Gx.refl (L := []) g.sh) nd hn
  have hr := lay_reps (K := K) (S := S) nd
  refine newL_S (L := L) (S0 := S0) (H0 := H0) (S := layT S us) (H := layT H us) g1 (xs := psrt (dpairs kvs)) (e ▸ hr) (fun p S1 H1 g3 g4 r => q p S1 H1 g3 (g2.trans0 g4) r) p (lay_none hpn hne)
theorem s_sitO {kvs : List (Int × Int)} (g : Gx L S0 H0 S H) (o : OwnD K S H a kvs) (q : ∀ p S1 H1, Gx L S0 H0 S1 H1 → Gx [] S H S1 H1 → H p = none → OwnL K S1 H1 p (psrt (dpairs kvs)) → Q (.ref p) H1) : sItK (.ref a) H Q := by
  obtain ⟨ws, h1, h2⟩ := o
  refine ⟨a, kvs, rfl, by rw [h1.at_, reld_int h2], fun us p hp hs nd hn hne hpn => ?_⟩
  have e := psrt_of hp hs
  rw [List.map_map] at e
  obtain ⟨g1, _⟩ := gx_lay us g nd hn
  obtain ⟨g2, _⟩ := gx_lay us (Gx.refl (L := []) g.sh) nd hn
  have hr := lay_reps (K := K) (S := S) nd
  have hlp := lay_none hpn hne
  exact q p _ _ (g1.newO hlp) (g2.newO hlp) hpn ⟨_, ⟨upd_same, fresh_back g1.sh hlp⟩, e ▸ hr⟩
/-! count -/
theorem mt_lcountK {X : Cx} {K : Fr} (e : X.K = K := by rfl) : MtR X "list.count" (rCntI K) := e ▸ mt_lcount
theorem s_count {ns : List Int} {k : Int} (r : RepH K S H a ns) (q : Q (.int (ns.count k : Nat)) H) : rCntI K (.ref a) [.int k] H Q := by
  obtain ⟨vs, h1, h2⟩ := r
  have e : vs = ns.map V.int := reps_flat h2
  subst e
  exact ⟨a, ns, k, rfl, rfl, h1, q⟩
end
/-! setdefault -/
def dsetd {α : Type} (kvs : List (Int × α)) (k : Int) (v : α) : List (Int × α) := match dfind kvs k with
  | some _ => kvs
  | none => dput kvs k v
def pdsetd {α : Type} (kvs : List (Int × α)) (k : Int) (v : α) : M (List (Int × α)) := if kvs.length < line then .ok (dsetd kvs k v) else .stuck
def dsd2K (a : Addr) (Q : VK) (y z : V) (H3 : Hp) : Prop := ∃ (kvs : List (Key × V)) (k : Key), H3 a = some (.dK kvs) ∧ y = kV k ∧ kvs.length < sizeLine ∧ (∀ v, valV kvs k = some v → Q v H3) ∧ (valV kvs k = none → Q z (upd H3 a (.dK (putK kvs k z))))
def dsd1K (ty tx : TE) (σ : St) (Q : VK) (x : V) (H1 : Hp) : Prop := ∃ a, x = .ref a ∧ IsD H1 a ∧ ty σ H1 fun y H2 => tx σ H2 fun z H3 => dsd2K a Q y z H3
section
variable {α γ : Type} [Py α] {K : Fr} {P : γ → Prop} {E : XC → Prop} {S H S0 H0 : Hp} {L : List Addr} {a : Addr} {kvs : List (Int × α)} {Q : VK} {σ : St} {td ty tx : TE}
theorem i_dsetd (q : td σ H fun x H1 => dsd1K ty tx σ Q x H1) : tDSetd td ty tx σ H Q := q
theorem s_dsd1 (o : OwnD K S H a kvs) (q : ty σ H fun y H2 => tx σ H2 fun z H3 => dsd2K a Q y z H3) : dsd1K ty tx σ Q (.ref a) H := ⟨a, rfl, o.isD, q⟩
theorem s_dsd2 {k : Int} {v : V} {x : α} {f : List (Int × α) → M γ} (g : Gx L S0 H0 S H) (o : OwnD K S H a kvs) (h0 : H0 a = none ∨ a ∈ L) (r : Py.rep K S v x) (h : wpm (pdsetd kvs k x >>= f) P E)
    (q : ∀ w H1, Gx L S0 H0 S H1 → OwnD K S H1 a (dsetd kvs k x) → (∀ c, c ≠ a → H1 c = H c) → wpm (f (dsetd kvs k x)) P E → Q w H1) : dsd2K a Q (.int k) v H := by
  obtain ⟨hc, h⟩ := wpm_ite h
  have o' := o
  obtain ⟨ws, h1, h2⟩ := o
  refine ⟨ws, .inl k, h1.at_, rfl, by rw [h2.len, line_eq]; exact hc, fun w hw => ?_, fun hw => ?_⟩
  · have e : dsetd kvs k x = kvs := by
      rcases valV_rel k h2 with ⟨e1, e2⟩ | ⟨v2, x2, e1, e2, _⟩
      · rw [hw] at e2; cases e2
      · unfold dsetd; rw [e1]
    rw [e] at h q
    exact q w H g o' (fun _ _ => rfl) h
  · have e : dsetd kvs k x = dput kvs k x := by
      rcases valV_rel k h2 with ⟨e1, e2⟩ | ⟨v2, x2, e1, e2, _⟩
      · unfold dsetd; rw [e1]
      · rw [hw] at e2; cases e2
    rw [e] at h q
    exact q v _ (g.put h1 h0) ⟨_, h1.set, put_rel k r h2⟩ (fun c hc => upd_ne hc) h
end
/-! is True, is not True -/
def rIsBG : R2 := fun x y H Q => ∃ a b : Bool, x = .bl a ∧ y = .bl b ∧ Q (.bl (decide (a = b))) H
def rNotBG : R2 := fun x y H Q => ∃ a b : Bool, x = .bl a ∧ y = .bl b ∧ Q (.bl (!decide (a = b))) H
theorem op_isBlG {X : Cx} : OpR X (compareOp .Is) rIsBG := op_is_bl
theorem op_notBlG {X : Cx} : OpR X (compareOp .IsNot) rNotBG := op_isnot_bl
theorem s_isBl {H : Hp} {Q : VK} {a b : Bool} (q : Q (.bl (decide (a = b))) H) : rIsBG (.bl a) (.bl b) H Q := ⟨a, b, rfl, rfl, q⟩
theorem s_notBl {H : Hp} {Q : VK} {a b : Bool} (q : Q (.bl (!decide (a = b))) H) : rNotBG (.bl a) (.bl b) H Q := ⟨a, b, rfl, rfl, q⟩
section
variable {α : Type} [Py α] {K : Fr} {S H : Hp} {a : Addr} {xs : List α}
theorem RepH.opt (h : RepH K S H a xs) : RepH K S H a (xs.map some) := by
  obtain ⟨vs, h1, h2⟩ := h
  exact ⟨vs, h1, Reps.opt h2⟩
end
end G
/-! GExc3: errors as values where the text has not all classes: facts of those that are there. -/
namespace G
open PySem L2 Evl PySem.Spec PyProof.Rows
def xcBL (cs : List XC) (K : Fr) : Bool := cs.all fun c => excCB K (caOf K c) && (eqB (PySem.W.kitOne K (.ref (caOf K c)) (.type "ValueError")) (some true) &&
  cs.all fun d => eqB (PySem.W.exmOne K (.ref (caOf K c)) (.ref (caOf K d))) (some (xcSub c d)) && eqB (PySem.W.kitOne K (.ref (caOf K c)) (.ref (caOf K d))) (some (xcSub c d)))
structure XcL (cs : List XC) (K : Fr) : Prop where
  exc : ∀ c ∈ cs, ExcC K (caOf K c)
  kve : ∀ c ∈ cs, PySem.W.kitOne K (.ref (caOf K c)) (.type "ValueError") = some true
  exm : ∀ c ∈ cs, ∀ d ∈ cs, PySem.W.exmOne K (.ref (caOf K c)) (.ref (caOf K d)) = some (xcSub c d)
  kit : ∀ c ∈ cs, ∀ d ∈ cs, PySem.W.kitOne K (.ref (caOf K c)) (.ref (caOf K d)) = some (xcSub c d)
theorem xcBL_ok {cs : List XC} {K : Fr} (h : xcBL cs K = true) : XcL cs K := by
  have h1 : ∀ c ∈ cs, excCB K (caOf K c) = true ∧ PySem.W.kitOne K (.ref (caOf K c)) (.type "ValueError") = some true ∧ ∀ d ∈ cs, PySem.W.exmOne K (.ref (caOf K c)) (.ref (caOf K d)) = some (xcSub c d) ∧ PySem.W.kitOne K (.ref (caOf K c)) (.ref (caOf K d)) = some (xcSub c d) := by
    intro c hc
    have q := List.all_eq_true.mp h c hc
    simp only [Bool.and_eq_true, eqB, decide_eq_true_eq] at q
    refine ⟨q.1, q.2.1, fun d hd => ?_⟩
    have q2 := List.all_eq_true.mp q.2.2 d hd
    simpa only [Bool.and_eq_true, eqB, decide_eq_true_eq] using q2
  exact ⟨fun c hc => excCB_ok (h1 c hc).1, fun c hc => (h1 c hc).2.1, fun c hc d hd => ((h1 c hc).2.2 d hd).1, fun c hc d hd => ((h1 c hc).2.2 d hd).2⟩
def xin (cs : List XC) (c : XC) : M Unit := if c ∈ cs then .ok () else .stuck
def tryL {α : Type} (cs : List XC) (d : XC) (m : M α) (f : XC → M α) : M α := match m with
  | .stuck => .stuck
  | .err c => if c ∈ cs then (if xcSub c d = true then f c else .err c) else .stuck
  | .ok a => .ok a
section
variable {γ : Type} {P : γ → Prop} {E : XC → Prop} {cs : List XC} {K : Fr} {S H : Hp} {v : V} {c d : XC} {Q : VK} {k : Unit → M γ}
theorem s_isXL (F : XcL cs K) (hd : d ∈ cs) (ex : Ex S H) (r : Py.rep K S v c) (h : wpm (xin cs c >>= k) P E) (q : wpm (k ()) P E → Q (.bl (xcSub c d)) H) : rIsX K [v, .ref (caOf K d)] H Q := by
  obtain ⟨hc, h⟩ := wpm_ite h
  obtain ⟨a, rfl, e⟩ := r
  exact ⟨a, _, _, _, _, rfl, ex _ _ e, F.exc c hc, .own _, F.kit c hc d hd, q h⟩
theorem s_isXVL (F : XcL cs K) (ex : Ex S H) (r : Py.rep K S v c) (h : wpm (xin cs c >>= k) P E) (q : wpm (k ()) P E → Q (.bl true) H) : rIsX K [v, .ty "ValueError"] H Q := by
  obtain ⟨hc, h⟩ := wpm_ite h
  obtain ⟨a, rfl, e⟩ := r
  exact ⟨a, _, _, _, _, rfl, ex _ _ e, F.exc c hc, .ty _, F.kve c hc, q h⟩
theorem kitAny_xcL (F : XcL cs K) (hc : c ∈ cs) : ∀ ds : List XC, (∀ d ∈ ds, d ∈ cs) → PySem.W.kitAny K (.ref (caOf K c)) (ds.map fun d => .ref (caOf K d)) = some (ds.any fun d => xcSub c d)
  | [], _ => rfl
  | d :: ds, hs => by
    have e := F.kit c hc d (hs d List.mem_cons_self)
    rw [List.map_cons, List.any_cons]
    cases h : xcSub c d with
    | true => exact kitAny_cons (b := true) (by rw [e, h]) (fun z => by cases z) fun _ => rfl
    | false => exact kitAny_cons (b := false) (by rw [e, h]) (fun _ => by rw [Bool.false_or]; exact kitAny_xcL F hc ds fun x hx => hs x (List.mem_cons_of_mem _ hx)) fun z => by cases z
theorem s_isXTL {p : Addr} (ds : List XC) (hs : ∀ d ∈ ds, d ∈ cs) (F : XcL cs K) (ex : Ex S H) (r : Py.rep K S v c) (ht : H p = some (.tup (ds.map fun d => V.ref (caOf K d)))) (h : wpm (xin cs c >>= k) P E) (q : wpm (k ()) P E → Q (.bl (ds.any fun d => xcSub c d)) H) : rIsXT K [v, .ref p] H Q := by
  obtain ⟨hc, h⟩ := wpm_ite h
  obtain ⟨a, rfl, e⟩ := r
  exact ⟨a, _, p, _, _, _, rfl, ex _ _ e, F.exc c hc, ht, paired_xc ds, kitAny_xcL F hc ds hs, q h⟩
end
section
variable {γ τ : Type} {P : γ → Prop} {E : XC → Prop} {σ : St} {S H : Hp} {K : Fr} {D : Ends} {ts : Addr → TS} {tb : WX → TS} {Wout : WX} {i : Nat}
theorem i_tryL {cs : List XC} {m : M τ} {f : XC → M τ} {k : τ → M γ} (d : XC) (hd : d ∈ cs) (F : XcL cs K) (R : τ → St → Hp → Hp → Prop) (Rx : St → Hp → Hp → Prop) (h : wpm (tryL cs d m f >>= k) P E)
    (hb : ∀ (PJ : τ → Prop) (EJ : XC → Prop) (N : St → Hp → Prop) (W : WX), (∀ st σ' S' H', PJ st → R st σ' S' H' → N σ' H') → (∀ c σ' S' H', EJ c → Rx σ' S' H' → W (.ref (caOf K c)) none σ' H') → wpm m PJ EJ → tb W { D with nx := N } σ H)
    (hs : ∀ (PJ : τ → Prop) (N : St → Hp → Prop) (c : XC) (a : Addr) (σ' : St) (S1 H1 S2 H2 : Hp), (∀ st σ3 S3 H3, PJ st → R st (σ3.set i none) S3 H3 → N σ3 H3) → Rx σ' S1 H1 → Gx [] S1 H1 S2 H2 → Py.rep K S2 (.ref a) c → wpm (f c) PJ E →
      ts a { endsAt i D with nx := N } (σ'.set i (some (.ref a))) H2)
    (ho : ∀ c σ' S' H', xcSub c d = false → E c → Rx σ' S' H' → Wout (.ref (caOf K c)) none σ' H')
    (hx : ∀ σ' S' H', Rx σ' S' H' → Ex S' H')
    (hk : ∀ st σ' S' H', R st σ' S' H' → wpm (k st) P E → D.nx σ' H') : tTryX K (.ref (caOf K d)) i ts Wout tb D σ H := by
  have h := wb h
  show tb (wTry K (.ref (caOf K d)) i ts Wout D) D σ H
  refine hb (fun st => wpm (k st) P E) (fun c => wpm (if c ∈ cs then (if xcSub c d = true then f c else .err c) else .stuck) (fun st => wpm (k st) P E) E) D.nx _ (fun st σ' S' H' p r => hk st σ' S' H' r p) (fun c σ' S' H' e r => ?_) ?_
  · by_cases hc : c ∈ cs
    · rw [if_pos hc] at e
      refine ⟨_, F.exm c hc d hd, fun z => ⟨rfl, fun a na => ?_⟩, fun z => ?_⟩
      · rw [if_pos z] at e
        refine hs (fun st => wpm (k st) P E) (fun σ3 H3 => D.nx (σ3.set i none) H3) c a σ' S' H' (upd S' a (ExV (.ref (caOf K c)) a)) _ (fun st σ3 S3 H3 p r3 => hk _ _ _ _ r3 p) r ((Gx.refl (hx _ _ _ r)).newS na) ⟨a, rfl, upd_same⟩ e
      · rw [z, if_neg (by decide)] at e
        exact ho c σ' S' H' z e r
    · rw [if_neg hc] at e
      exact e.elim
  · cases m with
    | stuck => exact h.elim
    | err c => exact h
    | ok a => exact h
end
/-- whether a thing is in a list, by the thing's own equality -/
def memB {α : Type} [DecidableEq α] (x : α) (xs : List α) : Bool := decide (x ∈ xs)
section
variable {α : Type} [FlatEq α] [DecidableEq α] {K : Fr} {S H : Hp} {a : Addr} {xs : List α} {Q : VK}
theorem s_inYB {x : α} (r : RepH K S H a xs) (q : Q (.bl (memB x xs)) H) : rIn K false (Flat.toV x) (.ref a) H Q := s_inY r q
theorem s_inNB {x : α} (r : RepH K S H a xs) (q : Q (.bl (!memB x xs)) H) : rIn K true (Flat.toV x) (.ref a) H Q := s_inN r q
end
end G
/-! GPots: a list of one's own of lists of one's own, made whole, handed back, and gone through, each item written in its own turn. -/
namespace G
open PySem L2 Evl
theorem drop_oneG {α : Type} {xs : List α} {i : Nat} {y : α} (h : xs[i]? = some y) : xs.drop i = y :: xs.drop (i + 1) := by
  obtain ⟨h1, h2⟩ := List.getElem?_eq_some_iff.mp h
  rw [List.drop_eq_getElem_cons h1, h2]
section
variable {τ ρ γ : Type} {K : Fr} {g : TG} {tb : TS} {D : Ends} {σ : St} {S H : Hp} {s0 : τ} {E : XC → Prop} {P : γ → Prop} {Lm as : List Addr} {a : Addr} {xss : List (List Int)}
/-- for i, pot in enumerate(pots) -/
theorem s_forNE {f : Int × List Int × Unit → τ → M (ρ ⊕ τ)} {k : ρ ⊕ τ → M γ} (R : τ → St → Hp → Hp → Prop) (o : OwnN K S H a as xss) (ha : a ∉ Lm) (hR : ∀ s σ' S' H', R s σ' S' H' → Gx Lm S H S' H')
    (h0 : R s0 σ S H) (h : wpm (forR (en 0 xss) s0 f >>= k) P E)
    (hs : ∀ (y : Int × List Int × Unit) b s σ1 S1 H1 T S2 H2 (P' : ρ ⊕ τ → Prop), (∀ r, P' (.inl r) → wpm (k (.inl r)) P E) → R s σ1 S1 H1 → b ∈ as → OwnL K S2 H2 b y.2.1 → Gx [] S1 H1 S2 H2 → SqT K S2 T [.int y.1, .ref b] → wpm (f y s) P' E →
      g (.ref T) σ1 H2 fun σ2 H3 => tb { D with nx := fun σ' H' => ∃ s' S', P' (.inr s') ∧ R s' σ' S' H' ∧ Gx [b] S1 H1 S' H', ct := fun σ' H' => ∃ s' S', P' (.inr s') ∧ R s' σ' S' H' ∧ Gx [b] S1 H1 S' H', bk := D.nx } σ2 H3)
    (hd : ∀ s σ S H, R s σ S H → wpm (k (.inr s)) P E → D.nx σ H) : ForG (Ite K a) g tb D σ H := by
  have h := wb h
  have hlen : (en 0 xss).length = xss.length := en_len _ _
  have hla : as.length = xss.length := o.all.len
  refine ⟨fun i m σ' H' => i + m = xss.length ∧ ∃ s S', R s σ' S' H' ∧ wpm (forR ((en 0 xss).drop i) s f) (fun z => wpm (k z) P E) E ∧ ∀ j xs, i ≤ j → xss[j]? = some xs → ∃ b, as[j]? = some b ∧ OwnL K S' H' b xs,
    ⟨xss.length, by omega, s0, S, h0, h, fun j xs _ hj => by obtain ⟨b, h1, _, h2⟩ := o.get hj; exact ⟨b, h1, h2⟩⟩, fun i m σ1 H1 hW => ?_⟩
  obtain ⟨e, s, S1, hr, hw, hpots⟩ := hW
  have gx := hR s σ1 S1 H1 hr
  have hat : H1 a = some (.lst (as.map V.ref)) := gx.h a _ ha o.own.at_
  have hsq : SqL K H1 a (as.map V.ref) := sq_of hat
  by_cases hi : i < xss.length
  · have hx : xss[i]? = some xss[i] := List.getElem?_eq_getElem hi
    obtain ⟨b, hb1, hb2⟩ := hpots i _ (Nat.le_refl _) hx
    have hbm : b ∈ as := List.mem_of_getElem? hb1
    have hy : (en 0 xss)[i]? = some ((i : Int), xss[i], ()) := by
      have h1 : i < (en 0 xss).length := by rw [hlen]; exact hi
      obtain ⟨x, hx1, hx2⟩ := en_get 0 xss i _ (List.getElem?_eq_getElem h1)
      rw [hx] at hx1
      obtain rfl := Option.some.inj hx1
      rw [List.getElem?_eq_getElem h1, hx2, Int.zero_add]
    rw [drop_oneG hy] at hw
    refine .inr ⟨⟨as.map V.ref, .ref b, hsq, by rw [List.getElem?_map, hb1]; rfl⟩, fun σ' H' => ∃ s' S', wpm (forR ((en 0 xss).drop (i + 1)) s' f) (fun z => wpm (k z) P E) E ∧ R s' σ' S' H' ∧ Gx [b] S1 H1 S' H', fun σ' H' hN => ?_, fun v H2 hy' => ?_⟩
    · obtain ⟨s', S', q1, q2, q3⟩ := hN
      refine ⟨m - 1, by omega, by omega, s', S', q2, q1, fun j xs hj hjx => ?_⟩
      obtain ⟨c, c1, c2⟩ := hpots j xs (by omega) hjx
      refine ⟨c, c1, c2.keep q3 fun hc => ?_⟩
      have hcb := List.mem_singleton.mp hc
      have e1 := (List.getElem?_eq_some_iff.mp c1).2
      have e2 := (List.getElem?_eq_some_iff.mp hb1).2
      have : j = i := (List.getElem_inj o.nd).mp (by rw [e1, e2, hcb])
      omega
    · obtain ⟨T, x, rfl, hT, rfl, h3⟩ := hy'
      have hxv := h3 _ hsq
      rw [List.getElem?_map, hb1] at hxv
      obtain rfl : V.ref b = x := Option.some.inj hxv
      have g2 : Gx [] S1 H1 (upd S1 T (.tup [.int (i : Nat), .ref b])) (upd H1 T (.tup [.int (i : Nat), .ref b])) := (Gx.refl gx.sh).newS hT
      have hw' : wpm (f ((i : Int), xss[i], ()) s) (fun z => match z with
        | .inl r => wpm (k (.inl r)) P E
        | .inr s' => wpm (forR ((en 0 xss).drop (i + 1)) s' f) (fun z => wpm (k z) P E) E) E := by
        refine wpm_imp (wb hw) fun z hz => ?_
        cases z with
        | inl r => exact hz
        | inr s' => exact hz
      exact hs ((i : Int), xss[i], ()) b s σ1 S1 H1 T _ _ (fun z => match z with
        | .inl r => wpm (k (.inl r)) P E
        | .inr s' => wpm (forR ((en 0 xss).drop (i + 1)) s' f) (fun z => wpm (k z) P E) E) (fun r h => h) hr hbm (hb2.keep0 g2) g2 (st_of upd_same) hw'
  · have hi' : i = xss.length := by omega
    subst hi'
    have : (en 0 xss).drop xss.length = [] := List.drop_eq_nil_of_le (by omega)
    rw [this] at hw
    exact .inl ⟨⟨as.map V.ref, hsq, by rw [List.length_map, hla]; exact Nat.le_refl _⟩, hd s σ1 S1 H1 hr hw⟩
end
section
variable {α γ : Type} [Py α] {K : Fr} {P : γ → Prop} {E : XC → Prop} {S H S0 H0 : Hp} {L : List Addr} {a b : Addr} {Q : VK} {xs : List α} {σ : St} {J : It} {g : TG} {tt : TT} {te : TE} {vs : List Nat}
/-- [xs], xs one's own -/
theorem s_lstN1 {ys : List Int} (g : Gx L S0 H0 S H) (o : OwnL K S H b ys) (q : ∀ p H1, Gx L S0 H0 S H1 → Gx [] S H S H1 → H p = none → OwnN K S H1 p [b] [ys] → Q (.ref p) H1) : lstK Q [.ref b] H := by
  refine ⟨show (1 : Nat) ≤ 16777216 by decide, fun p hp => ?_⟩
  have hne : b ≠ p := o.ne hp
  refine q p _ (g.newO hp) ((Gx.refl g.sh).newO hp) hp ⟨⟨upd_same, fresh_back g.sh hp⟩, .cons (o.other hne fun c hc => upd_ne hc) .nil, by simp, fun z => hne (List.mem_singleton.mp z).symm⟩
/-- [[..] for x in xs], the items flat and all known -/
theorem s_compNF (F : α → List Int) (w : Wk K J xs fun (_ : Unit) (_ : St) S' H' => Gx [] S H S' H') (hl : xs.length ≤ sizeLine) (g0 : Gx L S0 H0 S H)
    (hs : ∀ (y : α) v S1 H1 (T : V → Hp → Prop) (Fl : Hp → Prop), Gx [] S H S1 H1 → Py.rep K S1 v y → (∀ b, H1 b = none → T (.ref b) (upd H1 b (.lst ((F y).map V.int)))) →
      g v (wipe σ vs) H1 fun σ2 H2 => wipe σ2 vs = wipe σ vs ∧ tt σ2 H2 fun b H3 => if b = true then te σ2 H3 T else Fl H3)
    (q : ∀ p S1 H1 as, Gx L S0 H0 S1 H1 → Gx [] S H S1 H1 → H p = none → (∀ b ∈ as, H b = none) → OwnN K S1 H1 p as (xs.map F) → Q (.ref p) H1) : LcG J g tt te vs σ H Q := by
  intro D hD
  refine ⟨fun i m H' => i + m = xs.length ∧ ∃ S' as, Gx [] S H S' H' ∧ as.length = i ∧ (∀ b ∈ as, H b = none) ∧ OwnN K S' H' D as ((xs.take i).map F),
    ⟨xs.length, by omega, S, [], (Gx.refl g0.sh).newO hD, rfl, (fun b hb => nomatch hb), ⟨⟨upd_same, fresh_back g0.sh hD⟩, .nil, List.nodup_nil, (fun h => nomatch h)⟩⟩, fun i m H' hW => ?_⟩
  obtain ⟨e, S', as, gg, hla, hf, o⟩ := hW
  by_cases hi : i < xs.length
  · have hy : xs[i]? = some xs[i] := List.getElem?_eq_getElem hi
    refine .inr ⟨w.go i () σ S' H' gg hi, fun H' => i + 1 + (m - 1) = xs.length ∧ ∃ S' as, Gx [] S H S' H' ∧ as.length = i + 1 ∧ (∀ b ∈ as, H b = none) ∧ OwnN K S' H' D as ((xs.take (i + 1)).map F),
      fun H' hN => ⟨m - 1, by omega, hN⟩, fun v H1 hy' => ?_⟩
    obtain ⟨S1, g1, rv⟩ := w.yl i _ () σ S' H' v H1 gg hy hy'
    refine hs _ v S1 H1 _ _ (gg.trans0 g1) rv fun b hb => ?_
    have o2 := o.keep0 g1
    have hne : D ≠ b := o2.ne hb
    have hnin := o2.nin hb
    have gb : Gx [] S H S1 (upd H1 b (.lst ((F xs[i]).map V.int))) := (gg.trans0 g1).newO hb
    have hb0 : H b = none := Gx.back (gg.trans0 g1) hb
    refine ⟨as.map V.ref, by rw [upd_ne hne]; exact o2.own.at_, by rw [List.length_map, hla]; omega, by omega, S1, as ++ [b], ?_, by simp [hla], ?_, ?_⟩
    · exact gb.put (o := .lst (as.map V.ref)) ⟨by rw [upd_ne hne]; exact o2.own.at_, o2.own.free⟩ (.inl hD)
    · intro c hc
      rcases List.mem_append.mp hc with hc | hc
      · exact hf c hc
      · rw [List.mem_singleton.mp hc]; exact hb0
    · refine ⟨⟨?_, o2.own.free⟩, ?_, ?_, ?_⟩
      · rw [List.map_append]; exact upd_same
      · rw [List.take_add_one, hy, List.map_append]
        refine All2.snoc (all2_mem o2.all fun c hc z r => ?_) ⟨_, ⟨by rw [upd_ne hne.symm]; exact upd_same, fresh_back (gg.trans0 g1).sh hb⟩, (flat_reps (K := K) (S := S1) (F xs[i]) : Reps K S1 ((F xs[i]).map V.int) (F xs[i]))⟩
        refine (r.put (b := b) (fun z => hnin (z ▸ hc))).put (fun z => o2.out (z ▸ hc))
      · rw [List.nodup_append]
        refine ⟨o2.nd, by simp, fun c hc d hd => ?_⟩
        rw [List.mem_singleton.mp hd]
        exact fun z => hnin (z ▸ hc)
      · intro hc
        rcases List.mem_append.mp hc with hc | hc
        · exact o2.out hc
        · exact hne (List.mem_singleton.mp hc)
  · have hi' : i = xs.length := by omega
    subst hi'
    rw [List.take_length] at o
    exact .inl ⟨w.st () σ S' H' gg, q D S' H' as (g0.trans0 gg) gg hD hf o⟩
end
theorem i_enumN {K : Fr} {S H : Hp} {a : Addr} {as : List Addr} {xss : List (List Int)} {R : It → Hp → Prop} (o : OwnN K S H a as xss) (q : R (Ite K a) H) : enumK K R [.ref a] H := ⟨a, as.map V.ref, rfl, sq_of o.own.at_, q⟩
/-! parts: t + (x,), t[a:b], a, b, c = t, of data -/
def dcat : PyData → PyData → M PyData
  | .tuple (x :: xs), .tuple (y :: ys) => if (x :: xs).length + (y :: ys).length ≤ line then .ok (.tuple ((x :: xs) ++ (y :: ys))) else .stuck
  | _, _ => .stuck
def dcutT (lo hi : Option Int) : PyData → M PyData
  | .tuple xs => .ok (.tuple (cut xs lo hi))
  | _ => .stuck
def dtup3 : PyData → M (PyData × PyData × PyData)
  | .tuple [x, y, z] => .ok (x, y, z)
  | _ => .stuck
theorem sl_tupAK {X : Cx} {K : Fr} (e : X.K = K := by rfl) : SlR X (rSlA K) := e ▸ sl_tupA
section
variable {γ : Type} {K : Fr} {P : γ → Prop} {E : XC → Prop} {S H S0 H0 : Hp} {L : List Addr} {u v : V} {d e : PyData} {Q : VK} {σ : St}
theorem s_dcat {k : PyData → M γ} (g : Gx L S0 H0 S H) (h1 : Dp K S v d) (h2 : Dp K S u e) (h : wpm (dcat d e >>= k) P E) (q : ∀ x p S1 H1, Gx L S0 H0 S1 H1 → Gx [] S H S1 H1 → Py.rep K S1 (.ref p) x → wpm (k x) P E → Q (.ref p) H1) : rCatT K v u H Q := by
  cases h1 with
  | tup t1 a1 =>
    cases h2 with
    | tup t2 a2 =>
      cases a1 with
      | nil => exact h.elim
      | cons b1 c1 =>
        cases a2 with
        | nil => exact h.elim
        | cons b2 c2 =>
          obtain ⟨hc, h⟩ := wpm_ite h
          have l1 := (dpa_reps c1).len
          have l2 := (dpa_reps c2).len
          refine ⟨_, _, _, _, rfl, rfl, ex_t g.sh t1, ex_t g.sh t2, List.cons_ne_nil _ _, by simp only [List.length_cons] at hc ⊢; rw [l1, l2, line_eq]; exact hc, fun z => absurd z (List.cons_ne_nil _ _), fun _ p hp => ?_⟩
          refine q _ p (upd S p _) _ (g.newS hp) ((Gx.refl g.sh).newS hp) ?_ h
          refine Dp.tup (st_of upd_same) (reps_dpa ?_)
          exact Reps.mono (Ex.new (fresh_back g.sh hp)) (All2.append (dpa_reps (.cons b1 c1)) (dpa_reps (.cons b2 c2)))
    | _ => cases a1 <;> exact h.elim
  | _ => exact h.elim
theorem s_dcutT {lo hi : Option Int} {k : PyData → M γ} (g : Gx L S0 H0 S H) (h1 : Dp K S v d) (h : wpm (dcutT lo hi d >>= k) P E) (q : ∀ x p S1 H1, Gx L S0 H0 S1 H1 → Gx [] S H S1 H1 → Py.rep K S1 (.ref p) x → wpm (k x) P E → Q (.ref p) H1) : rSlA K v lo hi H Q := by
  cases h1 with
  | @tup _ xs0 _ t1 a1 =>
    have hc := All2.cut (lo := lo) (hi := hi) (dpa_reps a1)
    refine ⟨_, _, rfl, ex_t g.sh t1, fun hw => ?_, fun _ p hp => ?_⟩
    · refine q _ _ S H g (Gx.refl g.sh) ?_ h
      refine Dp.tup t1 (reps_dpa ?_)
      have e : cutV xs0 lo hi = xs0 := by
        unfold cutV
        rw [hw.1, hw.2, Nat.sub_zero, List.drop_zero, List.take_length]
      rw [e] at hc
      exact hc
    · exact q _ p (upd S p _) _ (g.newS hp) ((Gx.refl g.sh).newS hp) (Dp.tup (st_of upd_same) (reps_dpa (Reps.mono (Ex.new (fresh_back g.sh hp)) hc))) h
  | _ => exact h.elim
theorem dp_tup3 {k : PyData × PyData × PyData → M γ} (h : Dp K S v d) (hw : wpm (dtup3 d >>= k) P E) : ∃ a v1 v2 v3 x y z, v = .ref a ∧ SqT K S a [v1, v2, v3] ∧ Dp K S v1 x ∧ Dp K S v2 y ∧ Dp K S v3 z ∧ wpm (k (x, y, z)) P E := by
  cases h with
  | tup t1 a1 =>
    cases a1 with
    | nil => exact hw.elim
    | cons b1 c1 =>
      cases c1 with
      | nil => exact hw.elim
      | cons b2 c2 =>
        cases c2 with
        | nil => exact hw.elim
        | cons b3 c3 =>
          cases c3 with
          | nil => exact ⟨_, _, _, _, _, _, _, rfl, t1, b1, b2, b3, hw⟩
          | cons _ _ => exact hw.elim
  | _ => exact hw.elim
theorem i_varDI {i : Nat} {k : Int → M γ} (hs : σ[i]? = some (some v)) (hr : Py.rep (α := PyData) K S v d) (h : wpm (dint d >>= k) P E) (q : ∀ j, wpm (k j) P E → Q (.int j) H) : tVar i σ H Q := by
  obtain ⟨j, rfl, h⟩ := dp_int hr h
  exact ⟨_, hs, q j h⟩
end
end G
/-! GText: texts: split, partition, join, str(n), int(text), items, slices, signs one by one, one text in another; a module's own whole numbers and texts. -/
namespace G
open PySem L2 Evl RZ
/-! ### mirrors -/
@[irreducible] def psplit (a b : PySem.Str) : M Unit := if (b.length == 0) = false ∧ a.length + 2 ≤ sizeLine then .ok () else .stuck
@[irreducible] def ppart (a b : PySem.Str) : M Unit := if (b.length == 0) = false ∧ a.length ≤ sizeLine then .ok () else .stuck
@[irreducible] def pjoin (a : PySem.Str) (ys : List PySem.Str) : M Unit := if (ys.map (·.length)).sum + ys.length * a.length ≤ 16777216 then .ok () else .stuck
@[irreducible] def pfit (a : PySem.Str) : M Unit := if a.length ≤ sizeLine then .ok () else .stuck
@[irreducible] def pistr (i : Int) : M Unit := if i.natAbs.log2 < 1920 then .ok () else .stuck
def istr (i : Int) : PySem.Str := PySem.Str.ofString (toString i)
def postr : Option Int → M Unit
  | none => .ok ()
  | some i => pistr i
def ostr : Option Int → PySem.Str
  | none => PySem.Str.ofString "None"
  | some i => istr i
def pint (a : PySem.Str) : M Int := match PySem.intText? a with
  | none => .stuck
  | some n => if a.length ≤ 640 then .ok n else .stuck
def sitem (a : PySem.Str) (i : Int) : M PySem.Str := match atI a.cps.toList i with
  | none => .stuck
  | some c => .ok ⟨#[c]⟩
def signs (a : PySem.Str) : List PySem.Str := a.cps.toList.map fun c => ⟨#[c]⟩
def tpart (a b : PySem.Str) : PySem.Str × PySem.Str × PySem.Str × Unit := ((Txt.partition a b).1, (Txt.partition a b).2.1, (Txt.partition a b).2.2, ())
/-! ### steps -/
def m1K (te : TE) (r : V → List V → Hp → VK → Prop) (σ : St) (Q : VK) (x : V) (H : Hp) : Prop := (∃ a, x = .str a) ∧ te σ H fun y H2 => r x [y] H2 Q
def rSplitG : V → List V → Hp → VK → Prop := fun x xs H Q => ∃ a b, x = .str a ∧ xs = [.str b] ∧ (b.length == 0) = false ∧ a.length + 2 ≤ sizeLine ∧ rNewStrs (Txt.split a b) H Q
def rPartG : V → List V → Hp → VK → Prop := fun x xs H Q => ∃ a b, x = .str a ∧ xs = [.str b] ∧ (b.length == 0) = false ∧ a.length ≤ sizeLine ∧
  ∀ p, H p = none → Q (.ref p) (upd H p (.tup [.str (Txt.partition a b).1, .str (Txt.partition a b).2.1, .str (Txt.partition a b).2.2]))
def rJoinG (K : Fr) : V → List V → Hp → VK → Prop := fun x xs H Q => ∃ a p, ∃ ys : List PySem.Str, x = .str a ∧ xs = [.ref p] ∧ (SqL K H p (ys.map V.str) ∨ SqT K H p (ys.map V.str)) ∧
  (ys.map (·.length)).sum + ys.length * a.length ≤ 16777216 ∧ Q (.str (Txt.join a ys)) H
def rStrG : List V → Hp → VK → Prop := fun xs H Q => (∃ i, xs = [.int i] ∧ i.natAbs.log2 < 1920 ∧ Q (.str (istr i)) H) ∨ (xs = [.non] ∧ Q (.str (PySem.Str.ofString "None")) H)
def rIntG : List V → Hp → VK → Prop := fun xs H Q => ∃ a n, xs = [.str a] ∧ PySem.intText? a = some n ∧ a.length ≤ 640 ∧ Q (.int n) H
section
variable {X : Cx} {K : Fr} {o e : PySem.Expr} {to te : TE} {apos pos : Pos}
theorem mt_splitG : MtR X "str.split" rSplitG := mt_split
theorem mt_partG : MtR X "str.partition" rPartG := mt_partition
theorem mt_joinG (ek : X.K = K := by rfl) : MtR X "str.join" (rJoinG K) := ek ▸ mt_join
theorem call_strG : CallR X (.type "str") rStrG := by
  intro pins s σ H xs us Q I r h
  rcases h with ⟨i, rfl, hz, q⟩ | ⟨rfl, q⟩
  · obtain ⟨u, rfl, t, rfl⟩ := vals1 r
    exact PySem.P.str_of_int hz ⟨.str _, H, I.tok _, ⟨_, rfl⟩, q⟩
  · obtain ⟨u, rfl, r1⟩ := vals1 r
    cases r1
    exact PySem.P.str_of_none ⟨.str _, H, I.tok _, ⟨_, rfl⟩, q⟩
theorem call_intG : CallR X (.type "int") rIntG := call_int_str
end
section
variable {α γ : Type} {K : Fr} {S H S0 H0 : Hp} {L : List Addr} {Q : VK} {a b : PySem.Str} {ys : List PySem.Str} {P : γ → Prop} {E : XC → Prop} {σ : St} {p : Addr}
theorem i_m1 {r : V → List V → Hp → VK → Prop} {to te : TE} (q : to σ H fun x H1 => m1K te r σ Q x H1) : tM1 r to te σ H Q := q
theorem s_m1 {r : V → List V → Hp → VK → Prop} {te : TE} (q : te σ H fun y H2 => r (.str a) [y] H2 Q) : m1K te r σ Q (.str a) H := ⟨⟨a, rfl⟩, q⟩
theorem reps_strs : ∀ ys : List PySem.Str, Reps K S (ys.map V.str) ys
  | [] => .nil
  | y :: ys => .cons rfl (reps_strs ys)
theorem strs_reps : ∀ {vs : List V} {ys : List PySem.Str}, Reps K S vs ys → vs = ys.map V.str
  | _, _, .nil => rfl
  | _, _, .cons h t => by cases h; rw [strs_reps t]; rfl
theorem wpm_if {c : Prop} [Decidable c] {k : Unit → M γ} (h : wpm ((if c then M.ok () else M.stuck) >>= k) P E) : c ∧ wpm (k ()) P E := by
  by_cases hc : c
  · rw [if_pos hc] at h; exact ⟨hc, h⟩
  · rw [if_neg hc] at h; exact h.elim
theorem s_splitS {k : Unit → M γ} (g : Gx L S0 H0 S H) (h : wpm (psplit a b >>= k) P E) (q : ∀ p S1 H1, Gx L S0 H0 S1 H1 → Gx [] S H S1 H1 → RepL K S1 p (Txt.split a b) → wpm (k ()) P E → Q (.ref p) H1) : rSplitG (.str a) [.str b] H Q := by
  unfold psplit at h
  obtain ⟨⟨h1, h2⟩, h⟩ := wpm_if h
  exact ⟨a, b, rfl, rfl, h1, h2, newL_S g (reps_strs _) fun p S1 H1 g1 g2 r => q p S1 H1 g1 g2 r h⟩
theorem s_splitO {k : Unit → M γ} (g : Gx L S0 H0 S H) (h : wpm (psplit a b >>= k) P E) (q : ∀ p H1, Gx L S0 H0 S H1 → Gx [] S H S H1 → H p = none → OwnL K S H1 p (Txt.split a b) → wpm (k ()) P E → Q (.ref p) H1) : rSplitG (.str a) [.str b] H Q := by
  unfold psplit at h
  obtain ⟨⟨h1, h2⟩, h⟩ := wpm_if h
  exact ⟨a, b, rfl, rfl, h1, h2, newL_O g (reps_strs _) fun p H1 g1 g2 hp r => q p H1 g1 g2 hp r h⟩
theorem s_part {k : Unit → M γ} (g : Gx L S0 H0 S H) (h : wpm (ppart a b >>= k) P E) (q : ∀ p S1 H1, Gx L S0 H0 S1 H1 → Gx [] S H S1 H1 → Py.rep K S1 (.ref p) (tpart a b) → wpm (k ()) P E → Q (.ref p) H1) : rPartG (.str a) [.str b] H Q := by
  unfold ppart at h
  obtain ⟨⟨h1, h2⟩, h⟩ := wpm_if h
  exact ⟨a, b, rfl, rfl, h1, h2, newT_S (t := tpart a b) g (rept_cons rfl (rept_cons rfl (rept_cons rfl rept_nil))) fun p S1 H1 g1 g2 r => q p S1 H1 g1 g2 ⟨p, _, rfl, r.1, r.2⟩ h⟩
theorem s_join {k : Unit → M γ} (r : RepH K S H p ys) (h : wpm (pjoin a ys >>= k) P E) (q : wpm (k ()) P E → Q (.str (Txt.join a ys)) H) : rJoinG K (.str a) [.ref p] H Q := by
  unfold pjoin at h
  obtain ⟨hc, h⟩ := wpm_if h
  obtain ⟨vs, h1, h2⟩ := r
  have e := strs_reps h2
  subst e
  exact ⟨a, p, ys, rfl, rfl, .inl h1, hc, q h⟩
theorem s_strI {i : Int} {k : Unit → M γ} (h : wpm (pistr i >>= k) P E) (q : wpm (k ()) P E → Q (.str (istr i)) H) : rStrG [.int i] H Q := by
  unfold pistr at h
  obtain ⟨hc, h⟩ := wpm_if h
  exact .inl ⟨i, rfl, hc, q h⟩
theorem s_strO {i : Option Int} {k : Unit → M γ} (h : wpm (postr i >>= k) P E) (q : wpm (k ()) P E → Q (.str (ostr i)) H) : rStrG [optV i] H Q := by
  cases i with
  | none => exact .inr ⟨rfl, q h⟩
  | some i => exact s_strI (i := i) h q
theorem s_intS {k : Int → M γ} (h : wpm (pint a >>= k) P E) (q : ∀ n, wpm (k n) P E → Q (.int n) H) : rIntG [.str a] H Q := by
  unfold pint at h
  cases e : PySem.intText? a with
  | none => rw [e] at h; exact h.elim
  | some n =>
    rw [e] at h
    replace h : wpm ((if a.length ≤ 640 then M.ok n else .stuck) >>= k) P E := h
    by_cases hc : a.length ≤ 640
    · rw [if_pos hc] at h
      exact ⟨a, n, rfl, e, hc, q n h⟩
    · rw [if_neg hc] at h; exact h.elim
theorem s_sitem {i : Int} {k : PySem.Str → M γ} (h : wpm (pfit a >>= fun _ => sitem a i >>= k) P E) (q : ∀ x, wpm (k x) P E → Q (.str x) H) : rIxS (.str a) (.int i) H Q := by
  unfold pfit at h
  obtain ⟨hc, h⟩ := wpm_if h
  unfold sitem at h
  cases e : atI a.cps.toList i with
  | none => rw [e] at h; exact h.elim
  | some c => rw [e] at h; exact ⟨a, i, c, rfl, rfl, hc, e, q _ h⟩
theorem s_cutS {lo hi : Option Int} {k : Unit → M γ} (h : wpm (pfit a >>= k) P E) (q : wpm (k ()) P E → Q (.str (cutS a lo hi)) H) : rSlS (.str a) lo hi H Q := by
  unfold pfit at h
  obtain ⟨hc, h⟩ := wpm_if h
  exact ⟨a, rfl, hc, q h⟩
end
/-! ### one text in another -/
def rInSG : V → V → Hp → VK → Prop := fun x y H Q => ∃ i j, x = .str i ∧ y = .str j ∧ Q (.bl (!(Builtin.Str.occurrences j i 0 j.length 1).isEmpty)) H
def rNotInSG : V → V → Hp → VK → Prop := fun x y H Q => ∃ i j, x = .str i ∧ y = .str j ∧ Q (.bl (!(!(Builtin.Str.occurrences j i 0 j.length 1).isEmpty))) H
theorem op_inSG {X : Cx} : OpR X (compareOp .In) rInSG := op_in_str
theorem op_notInSG {X : Cx} : OpR X (compareOp .NotIn) rNotInSG := op_notIn_str
theorem s_inSG {a b : PySem.Str} {H : Hp} {Q : VK} (q : Q (.bl (Txt.contains b a)) H) : rInSG (.str a) (.str b) H Q := ⟨a, b, rfl, rfl, q⟩
theorem s_notInSG {a b : PySem.Str} {H : Hp} {Q : VK} (q : Q (.bl (!(Txt.contains b a))) H) : rNotInSG (.str a) (.str b) H Q := ⟨a, b, rfl, rfl, q⟩
/-! ### lists of texts compared -/
def rEqP (K : Fr) : R2 := fun x y H Q => ∃ d e, Dp K H x d ∧ Dp K H y e ∧ d.plain = true ∧ e.plain = true ∧ d.depth ≤ 64 ∧ Q (.bl (PyData.eqv d e)) H
def rNeP (K : Fr) : R2 := fun x y H Q => ∃ d e, Dp K H x d ∧ Dp K H y e ∧ d.plain = true ∧ e.plain = true ∧ d.depth ≤ 64 ∧ Q (.bl (!PyData.eqv d e)) H
theorem op_eqP {X : Cx} (hu : X.A.units + 64 < cLine) : OpR X (compareOp .Eq) (rEqP X.K) := by
  intro pins s σ H x y v u Q I rx ry h
  obtain ⟨d, e, hd, he, sd, se, dl, q⟩ := h
  obtain ⟨as, r1⟩ := Dp.reads I d x v hd rx
  obtain ⟨bs, r2⟩ := Dp.reads I e y u he ry
  exact SeqAt.eq_plain r1 r2 sd se (by omega) ⟨.bl _, H, I, rfl, q⟩
theorem op_neP {X : Cx} (hu : X.A.units + 64 < cLine) : OpR X (compareOp .NotEq) (rNeP X.K) := by
  intro pins s σ H x y v u Q I rx ry h
  obtain ⟨d, e, hd, he, sd, se, dl, q⟩ := h
  obtain ⟨as, r1⟩ := Dp.reads I d x v hd rx
  obtain ⟨bs, r2⟩ := Dp.reads I e y u he ry
  exact SeqAt.ne_plain r1 r2 sd se (by omega) ⟨.bl _, H, I, rfl, q⟩
theorem op_eqPK {X : Cx} {K : Fr} (hu : X.A.units + 64 < cLine) (e : X.K = K := by rfl) : OpR X (compareOp .Eq) (rEqP K) := e ▸ op_eqP hu
theorem op_nePK {X : Cx} {K : Fr} (hu : X.A.units + 64 < cLine) (e : X.K = K := by rfl) : OpR X (compareOp .NotEq) (rNeP K) := e ▸ op_neP hu
theorem strs_dpa {K : Fr} {H : Hp} : ∀ ys : List PySem.Str, DpAll K H (ys.map V.str) (ys.map PyData.str)
  | [] => .nil
  | _ :: ys => .cons (.str _) (strs_dpa ys)
theorem strs_plain : ∀ ys : List PySem.Str, PyData.plainAll (ys.map PyData.str) = true
  | [] => rfl
  | _ :: ys => by show (true && PyData.plainAll (ys.map PyData.str)) = true; rw [strs_plain ys]; rfl
theorem strs_dep : ∀ ys : List PySem.Str, PyData.depthAll (ys.map PyData.str) ≤ 0
  | [] => Nat.le_refl _
  | _ :: ys => by show max 0 (PyData.depthAll (ys.map PyData.str)) ≤ 0; exact Nat.max_le.2 ⟨Nat.le_refl _, strs_dep ys⟩
theorem strs_eqv : ∀ xs ys : List PySem.Str, PyData.eqvAll (xs.map PyData.str) (ys.map PyData.str) = decide (xs = ys)
  | [], [] => rfl
  | [], _ :: _ => rfl
  | _ :: _, [] => rfl
  | x :: xs, y :: ys => by
    show ((x == y) && PyData.eqvAll (xs.map PyData.str) (ys.map PyData.str)) = _
    rw [strs_eqv xs ys, Bool.eq_iff_iff, Bool.and_eq_true, beq_iff_eq, decide_eq_true_eq, decide_eq_true_eq, List.cons.injEq]
section
variable {K : Fr} {S H : Hp} {a b : Addr} {xs ys : List PySem.Str} {Q : VK}
theorem s_eqStrs (h1 : RepH K S H a xs) (h2 : RepH K S H b ys) (q : Q (.bl (decide (xs = ys))) H) : rEqP K (.ref a) (.ref b) H Q := by
  obtain ⟨vs, v1, v2⟩ := h1
  obtain ⟨ws, w1, w2⟩ := h2
  rw [strs_reps v2] at v1
  rw [strs_reps w2] at w1
  refine ⟨_, _, .lst v1 (strs_dpa xs), .lst w1 (strs_dpa ys), strs_plain xs, strs_plain ys, ?_, ?_⟩
  · exact Nat.le_trans (Nat.succ_le_succ (strs_dep xs)) (by decide)
  · show Q (.bl (PyData.eqvAll (xs.map PyData.str) (ys.map PyData.str))) H
    rw [strs_eqv]; exact q
theorem s_neStrs (h1 : RepH K S H a xs) (h2 : RepH K S H b ys) (q : Q (.bl (!decide (xs = ys))) H) : rNeP K (.ref a) (.ref b) H Q := by
  obtain ⟨vs, v1, v2⟩ := h1
  obtain ⟨ws, w1, w2⟩ := h2
  rw [strs_reps v2] at v1
  rw [strs_reps w2] at w1
  refine ⟨_, _, .lst v1 (strs_dpa xs), .lst w1 (strs_dpa ys), strs_plain xs, strs_plain ys, ?_, ?_⟩
  · exact Nat.le_trans (Nat.succ_le_succ (strs_dep xs)) (by decide)
  · show Q (.bl (!PyData.eqvAll (xs.map PyData.str) (ys.map PyData.str))) H
    rw [strs_eqv]; exact q
end
/-! ### sign by sign -/
section
variable {τ : Type} {K : Fr} {R : τ → St → Hp → Hp → Prop} {a : PySem.Str} {σ : St} {H : Hp}
def strIK (R : It → Hp → Prop) (v : V) (H : Hp) : Prop := ∃ x, v = .str x ∧ R (Its x) H
theorem i_strI {te : TE} {R : It → Hp → Prop} (q : te σ H fun v H1 => strIK R v H1) : iStr te σ H R := q
theorem s_strIt {R : It → Hp → Prop} (q : R (Its a) H) : strIK R (.str a) H := ⟨a, rfl, q⟩
theorem signs_len : (signs a).length = a.cps.size := by rw [signs, List.length_map, Array.length_toList]
theorem wk_str (hR : ∀ s σ S H, R s σ S H → Ex S H) : Wk K (Its a) (signs a) R where
  go i s σ S H h hi := by rw [signs_len] at hi; exact hi
  st s σ S H h := by rw [signs_len]; exact Nat.le_refl _
  yl i y s σ S H v H' h hy hv := by
    obtain ⟨rfl, c, hc, rfl⟩ := hv
    refine ⟨S, Gx.refl (hR s σ S _ h), ?_⟩
    rw [signs, List.getElem?_map, Array.getElem?_toList, hc] at hy
    cases hy
    rfl
end
/-! ### a module's own whole numbers and texts -/
def GInt (mg : PySem.Str → Option Value) (x : PySem.Str) (i : Int) : Prop := ∃ t, mg x = some (.int i t)
def GStr (mg : PySem.Str → Option Value) (x z : PySem.Str) : Prop := ∃ t, mg x = some (.str z t)
theorem pe_gint {X : Cx} {x : PySem.Str} {i : Int} {pos : Pos} (hg : Gl X x) (c : GInt X.mg x i) (hn : x ≠ "__name__" := by decide) (hd : (x == ("__debug__" : PySem.Str)) = false := by decide) : PE X (.Name x pos) (tC (.int i)) := by
  obtain ⟨t, e⟩ := c
  exact pe_glob hg e ⟨_, rfl⟩ hd
theorem pe_gstr {X : Cx} {x z : PySem.Str} {pos : Pos} (hg : Gl X x) (c : GStr X.mg x z) (hn : x ≠ "__name__" := by decide) (hd : (x == ("__debug__" : PySem.Str)) = false := by decide) : PE X (.Name x pos) (tC (.str z)) := by
  obtain ⟨t, e⟩ := c
  exact pe_glob hg e ⟨_, rfl⟩ hd
/-! ### a new tuple of two lists of one's own -/
structure PairAt where
  a : Addr
  b : Addr
instance : Py PairAt where
  rep := fun K S v x => ∃ p, v = .ref p ∧ SqT K S p [.ref x.a, .ref x.b]
  mono := fun e ⟨p, h1, h2⟩ => ⟨p, h1, ex_t e h2⟩
theorem pair_sq {K : Fr} {S H : Hp} {p : Addr} {x : PairAt} (h : Py.rep K S (.ref p) x) (e : Ex S H) : SqT K H p [.ref x.a, .ref x.b] := by
  obtain ⟨q, e1, h1⟩ := h
  cases e1
  exact ex_t e h1
theorem s_pair {K : Fr} {S H S0 H0 : Hp} {L : List Addr} {Q : VK} {a b : Addr} (g : Gx L S0 H0 S H) (q : ∀ p S1 H1, Gx L S0 H0 S1 H1 → Gx [] S H S1 H1 → Py.rep K S1 (.ref p) (⟨a, b⟩ : PairAt) → Q (.ref p) H1) : tupK Q [.ref a, .ref b] H := by
  refine ⟨by rw [sizeLine_eq]; exact (by decide : (2 : Nat) ≤ 16777216), fun p hp => ?_⟩
  exact q p (upd S p (.tup [.ref a, .ref b])) _ (g.newS hp) ((Gx.refl g.sh).newS hp) ⟨p, rfl, st_of upd_same⟩
theorem pair_dp {α β : Type} [PyD α] [PyD β] {K : Fr} {S S' : Hp} {p : Addr} {x : PairAt} {xs : List α} {ys : List β} (h : Py.rep K S (.ref p) x) (e : Ex S S') (h1 : RepL K S' x.a xs) (h2 : RepL K S' x.b ys) :
    Dp K S' (.ref p) (PyD.toD (α := List α × List β × Unit) (xs, ys, ())) :=
  PyD.dp (α := List α × List β × Unit) ⟨p, _, rfl, pair_sq h e, rept_cons ⟨_, rfl, h1⟩ (rept_cons ⟨_, rfl, h2⟩ rept_nil)⟩
theorem pair_rep {α β : Type} [Py α] [Py β] {K : Fr} {S : Hp} {p : Addr} {x : PairAt} {xs : List α} {ys : List β} (h : Py.rep K S (.ref p) x) (h1 : RepL K S x.a xs) (h2 : RepL K S x.b ys) :
    Py.rep (α := List α × List β × Unit) K S (.ref p) (xs, ys, ()) := by
  obtain ⟨q, e1, h3⟩ := h
  exact ⟨q, _, e1, h3, rept_cons ⟨_, rfl, h1⟩ (rept_cons ⟨_, rfl, h2⟩ rept_nil)⟩
def rAddSG : V → V → Hp → VK → Prop := fun x y H Q => ∃ i j, x = .str i ∧ y = .str j ∧ i.length + j.length ≤ sizeLine ∧ Q (.str (i ++ j)) H
theorem op_addSG {X : Cx} : OpR X (binaryOp .Add) rAddSG := op_add_str
@[irreducible] def pcats (a b : PySem.Str) : M PySem.Str := if a.length + b.length ≤ sizeLine then .ok (a ++ b) else .stuck
theorem s_cats {γ : Type} {H : Hp} {Q : VK} {a b : PySem.Str} {P : γ → Prop} {E : XC → Prop} {k : PySem.Str → M γ} (h : wpm (pcats a b >>= k) P E) (q : ∀ x, wpm (k x) P E → Q (.str x) H) : rAddSG (.str a) (.str b) H Q := by
  unfold pcats at h
  by_cases hc : a.length + b.length ≤ sizeLine
  · rw [if_pos hc] at h; exact ⟨a, b, rfl, rfl, hc, q _ h⟩
  · rw [if_neg hc] at h; exact h.elim
def rLenSG : List V → Hp → VK → Prop := fun xs H Q => ∃ z, xs = [.str z] ∧ z.length ≤ sizeLine ∧ Q (.int z.length) H
theorem call_lenSG {X : Cx} : CallR X (.builtin "len") rLenSG := call_len_str
theorem s_lenS {γ : Type} {H : Hp} {Q : VK} {a : PySem.Str} {P : γ → Prop} {E : XC → Prop} {k : Unit → M γ} (h : wpm (guardM (decide (a.length ≤ line)) >>= k) P E) (q : wpm (k ()) P E → Q (.int (a.length : Int)) H) : rLenSG [.str a] H Q := by
  obtain ⟨hc, h⟩ := wpm_guard h
  exact ⟨a, rfl, by rw [line_eq]; exact of_decide_eq_true hc, q h⟩
/-! ### a text so many times -/
@[irreducible] def pmuls (a : PySem.Str) (n : Int) : M Unit := if a.length ≤ 1000 ∧ 0 ≤ n ∧ n ≤ 1000 then .ok () else .stuck
def rMulSG : V → V → Hp → VK → Prop := fun x y H Q => ∃ a n, x = .str a ∧ y = .int n ∧ MulOk a n ∧ Q (.str (Txt.mul a n)) H
theorem op_mulSG {X : Cx} : OpR X (binaryOp .Mult) rMulSG := by
  intro pins s σ H x y v u Q I rx ry h
  obtain ⟨a, n, rfl, rfl, hz, q⟩ := h
  obtain ⟨t, rfl⟩ := rx
  obtain ⟨t', rfl⟩ := ry
  exact SB.mul hz fun t' k => ⟨.str _, H, I.tok k, ⟨t', rfl⟩, q⟩
theorem mul_ok {a : PySem.Str} {n : Int} (h : a.length ≤ 1000 ∧ 0 ≤ n ∧ n ≤ 1000) : MulOk a n := by
  obtain ⟨h1, h2, h3⟩ := h
  refine ⟨?_, fun h4 _ => ?_, fun h4 _ => ?_⟩
  · rw [decide_eq_false (by omega), decide_eq_false (by omega)]; rfl
  · intro h5
    have e : (1000 : Int) ≤ (2 ^ 63 - 1) / n := Int.le_ediv_of_mul_le (by omega) (by omega)
    omega
  · have : a.length * n.toNat ≤ 1000 * 1000 := Nat.mul_le_mul h1 (by omega)
    unfold Builtin.Str.tooLong
    rw [decide_eq_false (by rw [sizeLine_eq]; omega)]
theorem s_muls {γ : Type} {H : Hp} {Q : VK} {a : PySem.Str} {n : Int} {P : γ → Prop} {E : XC → Prop} {k : Unit → M γ} (h : wpm (pmuls a n >>= k) P E) (q : wpm (k ()) P E → Q (.str (Txt.mul a n)) H) : rMulSG (.str a) (.int n) H Q := by
  unfold pmuls at h
  obtain ⟨hc, h⟩ := wpm_if h
  exact ⟨a, n, rfl, rfl, mul_ok hc, q h⟩
/-! ### data of texts, too, compared -/
def deqP (x y : PyData) : M Bool := if (x.plain && y.plain && decide (x.depth ≤ 64)) = true then .ok (PyData.eqv x y) else .stuck
section
variable {γ : Type} {K : Fr} {S H : Hp} {u v : V} {d e : PyData} {Q : VK} {P : γ → Prop} {E : XC → Prop}
theorem s_eqDatP {k : Bool → M γ} (ex : Ex S H) (h1 : Dp K S u d) (h2 : Dp K S v e) (h : wpm (deqP d e >>= k) P E) (q : ∀ b, wpm (k b) P E → Q (.bl b) H) : rEqP K u v H Q := by
  obtain ⟨hc, h⟩ := wpm_ite h
  have hc' : (d.plain = true ∧ e.plain = true) ∧ d.depth ≤ 64 := by simpa using hc
  exact ⟨d, e, Dp.mono ex h1, Dp.mono ex h2, hc'.1.1, hc'.1.2, hc'.2, q _ h⟩
theorem s_neDatP {k : Bool → M γ} (ex : Ex S H) (h1 : Dp K S u d) (h2 : Dp K S v e) (h : wpm (deqP d e >>= k) P E) (q : ∀ b, wpm (k b) P E → Q (.bl (!b)) H) : rNeP K u v H Q := by
  obtain ⟨hc, h⟩ := wpm_ite h
  have hc' : (d.plain = true ∧ e.plain = true) ∧ d.depth ≤ 64 := by simpa using hc
  exact ⟨d, e, Dp.mono ex h1, Dp.mono ex h2, hc'.1.1, hc'.1.2, hc'.2, q _ h⟩
end
end G
/-! GDn: a list of one's own of dicts of one's own: made in a comprehension, one put into another (update), handed back. -/
namespace G
open PySem L2 Evl PySem.Spec PyProof.Rows
structure DV (α : Type) where
  kvs : List (Int × α)
def RepDV {α : Type} [Py α] (K : Fr) (S : Hp) (a : Addr) (x : DV α) : Prop := ∃ ws, S a = some (.dK ws) ∧ All2 (RelD K S) ws x.kvs
instance {α : Type} [Py α] : Py (DV α) where
  rep := fun K S v x => ∃ a, v = .ref a ∧ RepDV K S a x
  mono := fun e ⟨a, h1, ws, h2, h3⟩ => ⟨a, h1, ws, e _ _ h2, reld_mono e h3⟩
/-! ### mirrors -/
def dmerge {α : Type} (x y : List (Int × α)) : List (Int × α) := y.foldl (fun acc kv => dput acc kv.1 kv.2) x
def ixd {α : Type} (xss : List (DV α)) (i : Int) : M Nat := match ixN xss.length i with
  | some j => match xss[j]? with
    | some _ => .ok j
    | none => .stuck
  | none => .stuck
def pmupd {α : Type} (xss : List (DV α)) (j k : Nat) : M (List (DV α)) := match xss[j]? with
  | some x => match xss[k]? with
    | some y => if j ≠ k ∧ x.kvs.length + y.kvs.length ≤ line then .ok (xss.set j ⟨dmerge x.kvs y.kvs⟩) else .stuck
    | none => .stuck
  | none => .stuck
/-! ### the nest -/
structure OwnM {α : Type} [Py α] (K : Fr) (S H : Hp) (a : Addr) (as : List Addr) (xss : List (DV α)) : Prop where
  own : Own S H a (.lst (as.map V.ref))
  all : All2 (fun b (x : DV α) => OwnD K S H b x.kvs) as xss
  nd : as.Nodup
  out : a ∉ as
section
variable {α β γ : Type} [Py α] [Py β] {K : Fr} {P : γ → Prop} {E : XC → Prop} {S H S0 H0 S' H' : Hp} {L L' : List Addr} {a b c p : Addr} {as : List Addr} {xss : List (DV α)} {Q : VK}
theorem OwnM.keep (o : OwnM K S H a as xss) (g : Gx L' S H S' H') (h : a ∉ L') (h2 : ∀ b ∈ as, b ∉ L') : OwnM K S' H' a as xss :=
  ⟨o.own.keep g h, all2_mem o.all fun b hb y r => OwnD.keep r g (h2 b hb), o.nd, o.out⟩
theorem OwnM.keep0 (o : OwnM K S H a as xss) (g : Gx [] S H S' H') : OwnM K S' H' a as xss := o.keep g (fun h => nomatch h) (fun _ _ h => nomatch h)
theorem OwnM.other (o : OwnM K S H a as xss) (hne : a ≠ c) (h2 : c ∉ as) (e : ∀ d, d ≠ c → H' d = H d) : OwnM K S H' a as xss :=
  ⟨⟨by rw [e a hne]; exact o.own.at_, o.own.free⟩, all2_mem o.all fun b hb y r => OwnD.other r (fun z => h2 (by rw [← z]; exact hb)) e, o.nd, o.out⟩
theorem OwnM.ne (o : OwnM K S H a as xss) (h : H p = none) : a ≠ p := o.own.ne h
theorem OwnM.there (o : OwnM K S H a as xss) : H a ≠ none := by rw [o.own.at_]; simp
theorem OwnM.nin (o : OwnM K S H a as xss) (h : H p = none) : p ∉ as := fun hp => by
  obtain ⟨y, r⟩ := all2_mem_l o.all p hp
  exact OwnD.there r h
theorem OwnM.len (o : OwnM K S H a as xss) : as.length = xss.length := o.all.len
theorem OwnM.get (o : OwnM K S H a as xss) {j : Nat} {x : DV α} (h : xss[j]? = some x) : ∃ b, as[j]? = some b ∧ b ∈ as ∧ OwnD K S H b x.kvs := by
  obtain ⟨b, h1, h2⟩ := o.all.get h
  exact ⟨b, h1, List.mem_of_getElem? h1, h2⟩
/-- found[i], a dict of one's own -/
theorem s_idxM {i : Int} {k : Nat → M γ} (o : OwnM K S H a as xss) (h : wpm (ixd xss i >>= k) P E) (q : ∀ (j : Nat) (b : Addr), as[j]? = some b → wpm (k j) P E → Q (.ref b) H) : rIxL K (.ref a) (.int i) H Q := by
  unfold ixd at h
  cases e : ixN xss.length i with
  | none => rw [e] at h; exact h.elim
  | some j =>
    rw [e] at h
    dsimp only at h
    cases e2 : xss[j]? with
    | none => rw [e2] at h; exact h.elim
    | some x =>
      rw [e2] at h
      obtain ⟨b, h1, hb, h2⟩ := o.get e2
      refine ⟨a, as.map V.ref, i, .ref b, rfl, rfl, sq_of o.own.at_, ?_, q j b h1 h⟩
      unfold L2.atI
      rw [List.length_map, o.len, e]
      show (as.map V.ref)[j]? = _
      rw [List.getElem?_map, h1]; rfl
theorem merge_relM : ∀ {ms : List (Key × V)} {lvs : List (Int × α)} {ws : List (Key × V)} {kvs : List (Int × α)}, All2 (RelD K S) ms lvs → All2 (RelD K S) ws kvs → All2 (RelD K S) (mergeK ws ms) (dmerge kvs lvs)
  | _, _, _, _, .nil, h => h
  | _, _, ws, kvs, .cons (a := p) (b := q) h t, h2 => by
    show All2 (RelD K S) (mergeK (putK ws p.1 p.2) _) (dmerge (dput kvs q.1 q.2) _)
    rw [h.1]
    exact merge_relM t (put_rel q.1 h.2 h2)
def rUpdG : V → List V → Hp → VK → Prop := fun x xs H Q => ∃ a b ws ms, x = .ref a ∧ xs = [.ref b] ∧ a ≠ b ∧ H a = some (.dK ws) ∧ H b = some (.dK ms) ∧ ws.length + ms.length ≤ sizeLine ∧ Q .non (upd H a (.dK (mergeK ws ms)))
theorem s_bmM {r : V → List V → Hp → VK → Prop} {t : TA} {σ : St} {j : Nat} (o : OwnM K S H a as xss) (hj : as[j]? = some b) (q : t σ H fun ws H2 => r (.ref b) ws H2 Q) : bmK K "dict" r t σ Q (.ref b) H := by
  have hb : b ∈ as := List.mem_of_getElem? hj
  obtain ⟨y, ws, h1, h2⟩ := all2_mem_l o.all b hb
  exact ⟨.inr (.inr (.inl ⟨rfl, .inl ⟨ws, h1.at_⟩⟩)), q⟩
/-- found[i].update(found[k]) -/
theorem s_mupd {j k : Nat} {f : List (DV α) → M γ} (g : Gx L S0 H0 S H) (o : OwnM K S H a as xss) (h0 : ∀ b ∈ as, H0 b = none ∨ b ∈ L) (hj : as[j]? = some b) (hk : as[k]? = some c) (h : wpm (pmupd xss j k >>= f) P E)
    (q : ∀ H1 yss, Gx L S0 H0 S H1 → OwnM K S H1 a as yss → (∀ d, d ∉ as → H1 d = H d) → wpm (f yss) P E → Q .non H1) : rUpdG (.ref b) [.ref c] H Q := by
  unfold pmupd at h
  cases e1 : xss[j]? with
  | none => rw [e1] at h; exact h.elim
  | some x =>
    rw [e1] at h
    dsimp only at h
    cases e2 : xss[k]? with
    | none => rw [e2] at h; exact h.elim
    | some y =>
      rw [e2] at h
      dsimp only at h
      obtain ⟨⟨hne, hl⟩, h⟩ := wpm_ite h
      obtain ⟨b', hb1, hb, ws, w1, w2⟩ := o.get e1
      obtain ⟨c', hc1, hc, ms, m1, m2⟩ := o.get e2
      rw [hj] at hb1
      rw [hk] at hc1
      cases hb1
      cases hc1
      have hbc : b ≠ c := fun z => hne (by
        have hj2 := (List.getElem?_eq_some_iff.mp hj).1
        exact (List.getElem?_inj hj2 o.nd).mp (by rw [hj, hk, z]))
      have hab : a ≠ b := fun z => o.out (z ▸ hb)
      refine ⟨b, c, ws, ms, rfl, rfl, hbc, w1.at_, m1.at_, by rw [w2.len, m2.len, line_eq]; exact hl, q _ _ (g.put w1 (h0 b hb)) ⟨o.own.put hab, ?_, o.nd, o.out⟩ (fun d hd => upd_ne fun z => hd (z ▸ hb)) h⟩
      exact all2_set o.all o.nd hj ⟨_, w1.set, merge_relM m2 w2⟩ fun d hd hne y r => OwnD.other r hne fun d hd => upd_ne hd
theorem ownm_frz {goal : Prop} (g : Gx L S0 H0 S H) (o : OwnM K S H p as xss) (h0 : H0 p = none) (h1 : ∀ b ∈ as, H0 b = none)
    (q : ∀ S2, Gx L S0 H0 S2 H → RepL K S2 p xss → goal) : goal := by
  obtain ⟨S2, hS2⟩ : ∃ S2 : Hp, ∀ b, S2 b = if b ∈ p :: as then H b else S b := ⟨fun b => if b ∈ p :: as then H b else S b, fun b => rfl⟩
  have free : ∀ b ∈ p :: as, S b = none := by
    intro b hb
    rcases List.mem_cons.mp hb with z | z
    · rw [z]; exact o.own.free
    · obtain ⟨y, ws, w, _⟩ := all2_mem_l o.all b z
      exact w.free
  have ex : Ex S S2 := fun b u e => by
    rw [hS2, if_neg fun hb => by rw [free b hb] at e; cases e]
    exact e
  refine q S2 ⟨g.s.trans ex, g.h, fun b u e => ?_, g.th, fun b n0 n1 => ?_⟩ ⟨as.map V.ref, ?_, ?_⟩
  · rw [hS2] at e
    split at e
    · exact e
    · exact g.sh b u e
  · rw [hS2, if_neg, g.fr b n0 n1]
    intro hb
    rcases List.mem_cons.mp hb with z | z
    · exact n0 (z ▸ h0)
    · exact n0 (h1 b z)
  · rw [hS2, if_pos List.mem_cons_self]; exact o.own.at_
  · have key : ∀ {bs : List Addr} {yss : List (DV α)}, All2 (fun b (x : DV α) => OwnD K S H b x.kvs) bs yss → (∀ b ∈ bs, b ∈ as) → All2 (Py.rep K S2) (bs.map V.ref) yss := by
      intro bs yss h
      induction h with
      | nil => intro _; exact .nil
      | cons h _ ih =>
        intro hb
        obtain ⟨ws, w, rs⟩ := h
        refine .cons ⟨_, rfl, ws, ?_, reld_mono ex rs⟩ (ih fun b hb' => hb b (List.mem_cons_of_mem _ hb'))
        rw [hS2, if_pos (List.mem_cons_of_mem _ (hb _ List.mem_cons_self))]; exact w.at_
    exact key o.all fun b hb => hb
/-- k in d, d a dict that stays -/
theorem s_dinV {v : V} {x : DV α} {k : Int} (e : Ex S H) (r : Py.rep K S v x) (q : Q (.bl (dfind x.kvs k).isSome) H) : dinK false Q (.int k) v H := by
  obtain ⟨a, rfl, ws, h1, h2⟩ := r
  refine ⟨a, valV ws (.inl k), rfl, DGet.k (k := Sum.inl k) (e _ _ h1), ?_⟩
  show Q (.bl (valV ws (.inl k)).isSome) H
  rw [dfind_some h2]; exact q
theorem s_dninV {v : V} {x : DV α} {k : Int} (e : Ex S H) (r : Py.rep K S v x) (q : Q (.bl (!(dfind x.kvs k).isSome)) H) : dinK true Q (.int k) v H := by
  obtain ⟨a, rfl, ws, h1, h2⟩ := r
  refine ⟨a, valV ws (.inl k), rfl, DGet.k (k := Sum.inl k) (e _ _ h1), ?_⟩
  show Q (.bl (!(valV ws (.inl k)).isSome)) H
  rw [dfind_some h2]; exact q
/-- len(d) -/
def rLenDG : List V → Hp → VK → Prop := fun xs H Q => ∃ a ws, xs = [.ref a] ∧ H a = some (.dK ws) ∧ Q (.int (ws.length : Int)) H
theorem s_lenDV {v : V} {x : DV α} (e : Ex S H) (r : Py.rep K S v x) (q : Q (.int (x.kvs.length : Int)) H) : rLenDG [v] H Q := by
  obtain ⟨a, rfl, ws, h1, h2⟩ := r
  exact ⟨a, ws, rfl, e _ _ h1, by rw [h2.len]; exact q⟩
end
section
variable {X : Cx}
theorem mt_updG : MtR X "dict.update" rUpdG := by
  intro pins s σ H x xs v us Q I rx rs h
  obtain ⟨a, b, ws, ms, rfl, rfl, hne, ha, hb, hz, q⟩ := h
  cases rx
  cases rs with
  | cons r1 rs =>
    cases rs
    cases r1
    obtain ⟨_, sa, va, ra, da⟩ := dk_of I.hok ha
    obtain ⟨_, sb, vb, rb, db⟩ := dk_of I.hok hb
    refine call_meetsIn F.slot_dict_update da.typeIs F.entry_dict_update (F.args_dict_update_2 _ _) (meets_dict_update (mixKind X.prog X.w) a b hne sb) ⟨va, vb, da, db, ?_, fun h' d1 _ hs => ?_⟩
    · have e1 := ra.length
      have e2 := rb.length
      omega
    · have he : ∃ q, h'.get? a = some q := let ⟨q, _, _, hq, _⟩ := d1; ⟨q, hq⟩
      exact ⟨.non, _, d_write I (by rw [ha]; exact True.intro) hs he (dk_new (Nat.le_trans (length_mergeK ms ws) hz) sa (rb.merge ra) d1), rfl, q⟩
end
/-! ### [{k: v} for x in xs] -/
def tDisp1 (tk tv : TE) : TE := tDisp [(tk, tv)]
theorem pe_disp1 {X : Cx} {pos : Pos} {k v : PySem.Expr} {tk tv : TE} (hk : PE X k tk) (hv : PE X v tv) : PE X (.Dict [some k] [v] pos) (tDisp1 tk tv) :=
  pe_disp (pps_cons hk hv pps_nil) rfl rfl (by simp) (by simp)
theorem s_disp1 {α : Type} [Py α] {K : Fr} {S H : Hp} {Q : VK} {tk tv : TE} {σ : St} {k : Int} {v : V} {x : α} (hk : ∀ H N, N (.int k) H → tk σ H N) (hv : ∀ H N, N v H → tv σ H N) (r : Py.rep K S v x)
    (q : ∀ b ws, H b = none → All2 (RelD K S) ws [(k, x)] → Q (.ref b) (upd H b (.dK ws))) : tDisp1 tk tv σ H Q := by
  intro p hp
  refine hk _ _ (hv _ _ ⟨upd_same, [(.inl k, v)], rfl, by simp, ?_⟩)
  have e : upd (upd H p (.dK [])) p (.dK (mergeK [] [((Sum.inl k : Key), v)])) = upd H p (.dK [((Sum.inl k : Key), v)]) := by
    funext c
    by_cases hc : c = p
    · subst hc; rw [upd_same, upd_same]; rfl
    · rw [upd_ne hc, upd_ne hc, upd_ne hc]
  rw [e]
  exact q p _ hp (.cons ⟨rfl, r⟩ .nil)
section
variable {α β γ : Type} [Py α] [Py β] {K : Fr} {J : It} {g : TG} {tt : TT} {te : TE} {σ : St} {S H S0 H0 : Hp} {L : List Addr} {xs : List α} {vs : List Nat} {Q : VK}
theorem s_compM (F : α → DV β) (w : Wk K J xs fun (_ : Unit) (_ : St) S' H' => Gx [] S H S' H') (hl : xs.length ≤ sizeLine) (g0 : Gx L S0 H0 S H)
    (hs : ∀ (y : α) v S1 H1 (T : V → Hp → Prop) (Fl : Hp → Prop), Gx [] S H S1 H1 → Py.rep K S1 v y → (∀ b ws, H1 b = none → All2 (RelD K S1) ws (F y).kvs → T (.ref b) (upd H1 b (.dK ws))) →
      g v (wipe σ vs) H1 fun σ2 H2 => wipe σ2 vs = wipe σ vs ∧ tt σ2 H2 fun b H3 => if b = true then te σ2 H3 T else Fl H3)
    (q : ∀ p S1 H1 as, Gx L S0 H0 S1 H1 → Gx [] S H S1 H1 → H p = none → (∀ b ∈ as, H b = none) → OwnM K S1 H1 p as (xs.map F) → Q (.ref p) H1) : LcG J g tt te vs σ H Q := by
  intro D hD
  refine ⟨fun i m H' => i + m = xs.length ∧ ∃ S' as, Gx [] S H S' H' ∧ as.length = i ∧ (∀ b ∈ as, H b = none) ∧ OwnM K S' H' D as ((xs.take i).map F),
    ⟨xs.length, by omega, S, [], (Gx.refl g0.sh).newO hD, rfl, (fun b hb => nomatch hb), ⟨⟨upd_same, fresh_back g0.sh hD⟩, .nil, List.nodup_nil, (fun h => nomatch h)⟩⟩, fun i m H' hW => ?_⟩
  obtain ⟨e, S', as, gg, hla, hf, o⟩ := hW
  by_cases hi : i < xs.length
  · have hy : xs[i]? = some xs[i] := List.getElem?_eq_getElem hi
    refine .inr ⟨w.go i () σ S' H' gg hi, fun H' => i + 1 + (m - 1) = xs.length ∧ ∃ S' as, Gx [] S H S' H' ∧ as.length = i + 1 ∧ (∀ b ∈ as, H b = none) ∧ OwnM K S' H' D as ((xs.take (i + 1)).map F),
      fun H' hN => ⟨m - 1, by omega, hN⟩, fun v H1 hy' => ?_⟩
    obtain ⟨S1, g1, rv⟩ := w.yl i _ () σ S' H' v H1 gg hy hy'
    refine hs _ v S1 H1 _ _ (gg.trans0 g1) rv fun b ws hb hr => ?_
    have o2 := o.keep0 g1
    have hne : D ≠ b := o2.ne hb
    have hnin := o2.nin hb
    have gb : Gx [] S H S1 (upd H1 b (.dK ws)) := (gg.trans0 g1).newO hb
    have hb0 : H b = none := Gx.back (gg.trans0 g1) hb
    refine ⟨as.map V.ref, by rw [upd_ne hne]; exact o2.own.at_, by rw [List.length_map, hla]; omega, by omega, S1, as ++ [b], ?_, by simp [hla], ?_, ?_⟩
    · exact gb.put (o := .lst (as.map V.ref)) ⟨by rw [upd_ne hne]; exact o2.own.at_, o2.own.free⟩ (.inl hD)
    · intro c hc
      rcases List.mem_append.mp hc with hc | hc
      · exact hf c hc
      · rw [List.mem_singleton.mp hc]; exact hb0
    · refine ⟨⟨?_, o2.own.free⟩, ?_, ?_, ?_⟩
      · rw [List.map_append]; exact upd_same
      · rw [List.take_add_one, hy, List.map_append]
        refine All2.snoc (all2_mem o2.all fun c hc z r => ?_) ⟨ws, ⟨by rw [upd_ne hne.symm]; exact upd_same, fresh_back (gg.trans0 g1).sh hb⟩, hr⟩
        have hcb : c ≠ b := fun z => hnin (z ▸ hc)
        have hcD : c ≠ D := fun z => o2.out (z ▸ hc)
        exact OwnD.other (OwnD.other r hcb fun d hd => upd_ne hd) hcD fun d hd => upd_ne hd
      · rw [List.nodup_append]
        refine ⟨o2.nd, by simp, fun c hc d hd => ?_⟩
        rw [List.mem_singleton.mp hd]
        exact fun z => hnin (z ▸ hc)
      · intro hc
        rcases List.mem_append.mp hc with hc | hc
        · exact o2.out hc
        · exact hne (List.mem_singleton.mp hc)
  · have hi' : i = xs.length := by omega
    subst hi'
    rw [List.take_length] at o
    exact .inl ⟨w.st () σ S' H' gg, q D S' H' as (g0.trans0 gg) gg hD hf o⟩
end
/-! ### min of a list of pairs -/
open PySem.SeqAt PySem.W
def p2 (x : Pr) : Int × Int := (x.1, x.2.1)
def minPr (x : Pr) (xs : List Pr) : Pr := ((minOf (p2 x) (xs.map p2)).1, (minOf (p2 x) (xs.map p2)).2, ())
def lminP : List Pr → M Pr
  | [] => .stuck
  | x :: xs => .ok (minPr x xs)
def rMinPG (K : Fr) : List V → Hp → VK → Prop := fun vs H Q => ∃ (a : Addr) (ws : List V) (x : Int × Int) (xs : List (Int × Int)), vs = [.ref a] ∧ SqL K H a ws ∧ DpAll K H ws ((x :: xs).map Datum.toD) ∧
  ∀ (i : Nat) (v : V), ws[i]? = some v → (x :: xs)[i]? = some (minOf x xs) → Q v H
theorem call_minPG {X : Cx} {K : Fr} (hc : X.calm = true) (hu : X.A.units + 64 < cLine) (ek : X.K = K := by rfl) : CallR X (.builtin "min") (rMinPG K) := by
  subst ek
  intro pins s σ H vs us Q I r h
  obtain ⟨a, ws, x, xs, rfl, hs, hd, q⟩ := h
  obtain ⟨its, rv, hl, _⟩ := I.list hs
  rw [Vals.ref1 r]
  obtain ⟨as, hr⟩ := Dp.readsAll I _ _ its hd rv
  refine min_list_datum (I.ok.hd hc) hl.isList ⟨as, hr⟩ (show X.A.units + 1 + 1 < cLine by omega) fun i v h' tk hi hv hk => ?_
  have hi' : its[i]? = some v := by simpa using hi
  obtain ⟨w, hw⟩ : ∃ w, ws[i]? = some w := ⟨_, List.getElem?_eq_getElem (by rw [rv.length]; exact (List.getElem?_eq_some_iff.mp hi').1)⟩
  obtain ⟨u, hu', rw'⟩ := rv.get hw
  rw [hi'] at hu'
  cases hu'
  obtain ⟨bs, r1, hlt, _, _⟩ := PySem.W.readsAll_at hr i v hi'
  obtain ⟨cs, r2⟩ := hv
  have hx : i < (x :: xs).length := by simpa using hlt
  have e := SeqAt.plain_unique _ _ v _ _ (by
    rw [List.getD_eq_getElem?_getD, List.getElem?_map, List.getElem?_eq_getElem hx]
    exact Datum.plain _) (Reads.keeps hk r1) r2
  rw [List.getD_eq_getElem?_getD, List.getElem?_map, List.getElem?_eq_getElem hx] at e
  have e2 : (x :: xs)[i] = minOf x xs := by
    have h1 := Datum.eqv ((x :: xs)[i]) (minOf x xs)
    have h2 : Datum.toD ((x :: xs)[i]) = Datum.toD (minOf x xs) := e
    rw [h2, SeqAt.eqv_refl_plain _ (Datum.plain _)] at h1
    exact of_decide_eq_true h1.symm
  exact ⟨w, H, I.kept hk, rw', q i w hw (by rw [List.getElem?_eq_getElem hx, e2])⟩
theorem pairs_dpa {K : Fr} {S : Hp} : ∀ {vs : List V} {xs : List Pr}, Reps K S vs xs → DpAll K S vs ((xs.map p2).map Datum.toD)
  | _, _, .nil => .nil
  | _, _, .cons h t => .cons (PyD.dp (α := Pr) h) (pairs_dpa t)
theorem dpa_mono {K : Fr} {S S' : Hp} (e : Ex S S') : ∀ {vs : List V} {ds : List PyData}, DpAll K S vs ds → DpAll K S' vs ds
  | _, _, .nil => .nil
  | _, _, .cons h t => .cons (Dp.mono e h) (dpa_mono e t)
theorem s_lminP {γ : Type} {K : Fr} {S H : Hp} {a : Addr} {xs : List Pr} {Q : VK} {P : γ → Prop} {E : XC → Prop} {k : Pr → M γ} (ex : Ex S H) (r : RepH K S H a xs) (h : wpm (lminP xs >>= k) P E) (q : ∀ p v, Py.rep K S v p → wpm (k p) P E → Q v H) : rMinPG K [.ref a] H Q := by
  obtain ⟨vs, h1, h2⟩ := r
  cases xs with
  | nil => exact h.elim
  | cons x xs =>
    refine ⟨a, vs, p2 x, xs.map p2, rfl, h1, dpa_mono ex (pairs_dpa h2), fun i v hv hm => ?_⟩
    obtain ⟨y, hy⟩ : ∃ y, (x :: xs)[i]? = some y := ⟨_, List.getElem?_eq_getElem (by rw [← h2.len]; exact (List.getElem?_eq_some_iff.mp hv).1)⟩
    obtain ⟨u, hu, ru⟩ := h2.get hy
    rw [hv] at hu
    cases hu
    have e : p2 y = minOf (p2 x) (xs.map p2) := by
      have : ((x :: xs).map p2)[i]? = some (p2 y) := by rw [List.getElem?_map, hy]; rfl
      rw [List.map_cons, hm] at this
      exact (Option.some.inj this).symm
    refine q (minPr x xs) v ?_ h
    have e2 : minPr x xs = y := by
      unfold minPr
      rw [← e]
      rfl
    rw [e2]; exact ru
end G
/-! GLate: a name that is first bound within a loop and read behind it. -/
namespace G
open PySem L2 Evl
/-- the slot of such a name: of none nothing is known -/
def SlotO {α : Type} [Py α] (K : Fr) (S : Hp) (s : Option V) (o : Option α) : Prop := match o with
  | none => True
  | some x => ∃ v, s = some v ∧ Py.rep K S v x
theorem SlotO.mono {α : Type} [Py α] {K : Fr} {S S' : Hp} {s : Option V} {o : Option α} (e : Ex S S') (h : SlotO K S s o) : SlotO K S' s o := by
  cases o with
  | none => trivial
  | some x =>
    obtain ⟨v, h1, h2⟩ := h
    exact ⟨v, h1, Py.mono e h2⟩
theorem SlotO.get {α : Type} [Py α] {K : Fr} {S : Hp} {s : Option V} {o : Option α} {x : α} (h : SlotO K S s o) (e : o = some x) : ∃ v, s = some v ∧ Py.rep K S v x := by
  subst e; exact h
/-! ### d.update(e), two dicts of one's own -/
def pupd {α : Type} (xs ys : List (Int × α)) : M Unit := if xs.length + ys.length ≤ line then .ok () else .stuck
section
variable {α γ : Type} [Py α] {K : Fr} {P : γ → Prop} {E : XC → Prop} {S H S0 H0 : Hp} {L : List Addr} {a b : Addr} {xs ys : List (Int × α)} {Q : VK}
theorem s_bmD {r : V → List V → Hp → VK → Prop} {t : TA} {σ : St} (o : OwnD K S H b xs) (q : t σ H fun ws H2 => r (.ref b) ws H2 Q) : bmK K "dict" r t σ Q (.ref b) H := by
  obtain ⟨ws, h1, h2⟩ := o
  exact ⟨.inr (.inr (.inl ⟨rfl, .inl ⟨ws, h1.at_⟩⟩)), q⟩
theorem s_updO {f : Unit → M γ} (g : Gx L S0 H0 S H) (o : OwnD K S H a xs) (h0 : H0 a = none ∨ a ∈ L) (o2 : OwnD K S H b ys) (hne : a ≠ b) (h : wpm (pupd xs ys >>= f) P E)
    (q : ∀ H1, Gx L S0 H0 S H1 → OwnD K S H1 a (dmerge xs ys) → (∀ d, d ≠ a → H1 d = H d) → wpm (f ()) P E → Q .non H1) : rUpdG (.ref a) [.ref b] H Q := by
  unfold pupd at h
  obtain ⟨hl, h⟩ := wpm_ite h
  obtain ⟨ws, w1, w2⟩ := o
  obtain ⟨ms, m1, m2⟩ := o2
  exact ⟨a, b, ws, ms, rfl, rfl, hne, w1.at_, m1.at_, by rw [w2.len, m2.len, line_eq]; exact hl, q _ (g.put w1 h0) ⟨_, w1.set, merge_relM m2 w2⟩ (fun d hd => upd_ne hd) h⟩
end
/-! ### a list of pairs, the second perhaps none -/
def someP (x : Int × Int × Unit) : Int × Option Int × Unit := (x.1, some x.2.1, ())
theorem RepL.mapR {α β : Type} [Py α] [Py β] {K : Fr} {S : Hp} {a : Addr} {xs : List α} {f : α → β} (hf : ∀ v x, Py.rep K S v x → Py.rep K S v (f x)) (h : RepL K S a xs) : RepL K S a (xs.map f) := by
  obtain ⟨vs, h1, h2⟩ := h
  refine ⟨vs, h1, ?_⟩
  clear h1
  induction h2 with
  | nil => exact .nil
  | cons h _ ih => exact .cons (hf _ _ h) ih
theorem RepL.someP {K : Fr} {S : Hp} {a : Addr} {xs : List (Int × Int × Unit)} (h : RepL K S a xs) : RepL K S a (xs.map someP) := by
  refine RepL.mapR (fun v x hx => ?_) h
  obtain ⟨b, vs, e, h1, v1, r1, rfl, i1, v2, r2, rfl, i2, i3⟩ := hx
  exact ⟨b, _, e, h1, rept_cons i1 (rept_cons (show Py.rep K S v2 (some x.2.1) from i2) i3)⟩
end G
/-! GObj: objects of one's own: attributes, methods, making one. -/
namespace G
open PySem L2 Evl PySem.Spec PyProof.Rows
/-- an object of a class of the text, its attributes told by x -/
def OwnOb {τ : Type} (nm : PySem.Str) (fs : τ → List (PySem.Str × V)) (K : Fr) (S H : Hp) (a : Addr) (x : τ) : Prop := ∃ dx, Own S H a (.ins (He.ga K nm) dx (fs x))
section
variable {τ : Type} {nm : PySem.Str} {fs : τ → List (PySem.Str × V)} {K : Fr} {S H S' H' : Hp} {a b p : Addr} {x : τ} {L' as : List Addr}
theorem OwnOb.keep (o : OwnOb nm fs K S H a x) (g : Gx L' S H S' H') (h : a ∉ L') : OwnOb nm fs K S' H' a x := o.imp fun _ w => w.keep g h
theorem OwnOb.keep0 (o : OwnOb nm fs K S H a x) (g : Gx [] S H S' H') : OwnOb nm fs K S' H' a x := o.keep g (fun h => nomatch h)
theorem OwnOb.ne (o : OwnOb nm fs K S H a x) (h : H p = none) : a ≠ p := by
  obtain ⟨dx, w⟩ := o
  exact w.ne h
theorem OwnOb.there (o : OwnOb nm fs K S H a x) : H a ≠ none := by
  obtain ⟨dx, w⟩ := o
  rw [w.at_]; simp
theorem OwnOb.other (o : OwnOb nm fs K S H b x) (hne : b ≠ a) (e : ∀ c, c ≠ a → H' c = H c) : OwnOb nm fs K S H' b x := o.imp fun _ w => ⟨by rw [e b hne]; exact w.at_, w.free⟩
theorem OwnOb.lift2 (o : OwnOb nm fs K S H a x) (hb : ∀ b, b ≠ p → S' b = S b) (e : Ex S S') (hne : a ≠ p) : OwnOb nm fs K S' H a x := o.imp fun _ w => ⟨w.at_, by rw [hb a hne]; exact w.free⟩
theorem OwnOb.otherN (o : OwnOb nm fs K S H b x) (hne : b ∉ as) (e : ∀ d, d ∉ as → H' d = H d) : OwnOb nm fs K S H' b x := o.imp fun _ w => ⟨by rw [e b hne]; exact w.at_, w.free⟩
end
/-! ### where a class and its defs stand -/
structure ClsOk (K : Fr) (mg : PySem.Str → Option Value) (nm : PySem.Str) (fl : List PySem.Str) : Prop where
  cls : Cls K (He.ga K nm)
  no : ∀ f ∈ fl, NoAttr K (He.ga K nm) f
  mg : mg nm = some (.ref (He.ga K nm))
structure AtM (K : Fr) (nm m q : PySem.Str) (st : PySem.Stmt) (ps : List PySem.Str) : Prop where
  ex : ∃ f fd, Meth K (He.ga K nm) m f ∧ FunD K m q (defArgs st) (defBody st) (defScope st) [] [] f fd ∧ Binds K fd ps []
structure DfnM (P : Program) (w : World) (K : Fr) (mg : PySem.Str → Option Value) (base : Heap) (nm m : PySem.Str) (k : Nat) (ps : List PySem.Str) (sp : Sp) : Prop where
  ex : ∃ f fd, Meth K (He.ga K nm) m f ∧ Binds K fd ps [] ∧ FnOk P w K mg base (L2N.CX P w) k f fd ps sp
theorem DfnM.mk' {P : Program} {w : World} {K : Fr} {mg : PySem.Str → Option Value} {base : Heap} {nm m q : PySem.Str} {k : Nat} {ps : List PySem.Str} {sp : Sp} {st : PySem.Stmt} (A : AtM K nm m q st ps)
    (h : ∀ f fd, FunD K m q (defArgs st) (defBody st) (defScope st) [] [] f fd → FnOk P w K mg base (L2N.CX P w) k f fd ps sp) : DfnM P w K mg base nm m k ps sp := by
  obtain ⟨f, fd, h1, h2, h3⟩ := A.ex
  exact ⟨f, fd, h1, h3, h f fd h2⟩
structure AtI (K : Fr) (nm q : PySem.Str) (st : PySem.Stmt) (ps : List PySem.Str) : Prop where
  ex : ∃ f fd, Mk K (He.ga K nm) f ∧ FunD K "__init__" q (defArgs st) (defBody st) (defScope st) [] [] f fd ∧ Binds K fd ps []
structure DfnI (P : Program) (w : World) (K : Fr) (mg : PySem.Str → Option Value) (base : Heap) (nm : PySem.Str) (k : Nat) (ps : List PySem.Str) (sp : Sp) : Prop where
  ex : ∃ f fd, Mk K (He.ga K nm) f ∧ Binds K fd ps [] ∧ FnOk P w K mg base (L2N.CX P w) k f fd ps sp
theorem DfnI.mk' {P : Program} {w : World} {K : Fr} {mg : PySem.Str → Option Value} {base : Heap} {nm q : PySem.Str} {k : Nat} {ps : List PySem.Str} {sp : Sp} {st : PySem.Stmt} (A : AtI K nm q st ps)
    (h : ∀ f fd, FunD K "__init__" q (defArgs st) (defBody st) (defScope st) [] [] f fd → FnOk P w K mg base (L2N.CX P w) k f fd ps sp) : DfnI P w K mg base nm k ps sp := by
  obtain ⟨f, fd, h1, h2, h3⟩ := A.ex
  exact ⟨f, fd, h1, h3, h f fd h2⟩
theorem cls_of {fa : List He.Fa} {fn : List He.DefD} {K : Fr} {h : Heap} {mg : PySem.Str → Option Value} (X : K.In h) (G : h.Ns mainGlobals mg) (c : He.SaysD fa fn K) (i j : Nat) {nm : PySem.Str} {fl : List PySem.Str}
    (hi : fa[i]? = some (.cls nm)) (hj : fa[j]? = some (.glo nm)) (hf : ∀ f ∈ fl, (He.Fa.noat nm f) ∈ fa) : ClsOk K mg nm fl :=
  ⟨He.cls_ok (c.fact i hi), fun f hm => by
    obtain ⟨k, hk⟩ := List.getElem?_of_mem (hf f hm)
    exact He.noat_ok (c.fact k hk), He.glo_ok X G (c.fact j hj)⟩
theorem atM_of {fa : List He.Fa} {fn : List He.DefD} {K : Fr} (c : He.SaysD fa fn K) (i j : Nat) {nm m q : PySem.Str} {st : PySem.Stmt} {ps : List PySem.Str}
    (hd : fn[i]? = some ⟨(nm, some m), m, q, defArgs st, defBody st, defScope st, [], []⟩) (hf : fa[j]? = some (.meth nm m))
    (hb : ∀ (kV doc pm : Value) (an : Option Addr) (cdv ct : Value) (us : List Value), us.length = ps.length → bindArgs (PySem.W.fnOf m q (defArgs st) (defBody st) (defScope st) .none kV doc pm an cdv ct) ⟨us, []⟩ = pure (ps.zip us)) : AtM K nm m q st ps := by
  obtain ⟨fd, F⟩ := c.def_ i hd
  exact ⟨_, fd, He.meth_ok (c.fact j hf), F, FunD.bindsN F hb⟩
theorem atI_of {fa : List He.Fa} {fn : List He.DefD} {K : Fr} (c : He.SaysD fa fn K) (i j : Nat) {nm q : PySem.Str} {st : PySem.Stmt} {ps : List PySem.Str}
    (hd : fn[i]? = some ⟨(nm, some "__init__"), "__init__", q, defArgs st, defBody st, defScope st, [], []⟩) (hf : fa[j]? = some (.mkr nm))
    (hb : ∀ (kV doc pm : Value) (an : Option Addr) (cdv ct : Value) (us : List Value), us.length = ps.length → bindArgs (PySem.W.fnOf "__init__" q (defArgs st) (defBody st) (defScope st) .none kV doc pm an cdv ct) ⟨us, []⟩ = pure (ps.zip us)) : AtI K nm q st ps := by
  obtain ⟨fd, F⟩ := c.def_ i hd
  exact ⟨_, fd, He.mkr_ok (c.fact j hf), F, FunD.bindsN F hb⟩
/-- the i-th statement of a class -/
def inCls (c : PySem.Stmt) (i : Nat) : PySem.Stmt := match c with
  | .ClassDef (body := b) .. => b.getD i (.Pass ⟨0, 0, 0, 0⟩)
  | _ => .Pass ⟨0, 0, 0, 0⟩
/-! ### o.f, o.f = v -/
def fldK (K : Fr) (f : PySem.Str) (Q : VK) (x : V) (H1 : Hp) : Prop := ∃ a C dx fs v, x = .ref a ∧ H1 a = some (.ins C dx fs) ∧ Cls K C ∧ NoAttr K C f ∧ fs.lookup f = some v ∧ Q v H1
def sfldK (K : Fr) (f : PySem.Str) (D : Ends) (σ : St) (y x : V) (H2 : Hp) : Prop := ∃ a C dx fs, x = .ref a ∧ H2 a = some (.ins C dx fs) ∧ Cls K C ∧ NoAttr K C f ∧ fs.length < 1000 ∧ D.nx σ (upd H2 a (.ins C dx (putF f y fs)))
section
variable {τ τ' γ : Type} {nm f : PySem.Str} {fl : List PySem.Str} {fs : τ → List (PySem.Str × V)} {fs' : τ' → List (PySem.Str × V)} {K : Fr} {mg : PySem.Str → Option Value} {S H S0 H0 : Hp} {L : List Addr} {a : Addr} {x : τ} {x' : τ'} {v y : V} {Q : VK} {σ : St} {ta tv : TE} {D : Ends}
theorem pe_fldK {X : Cx} {e : PySem.Expr} {pos : Pos} (he : PE X e ta) (hb : attributeBase e f X.env (eval e X.env) = eval e X.env := by rfl) (ek : X.K = K := by rfl) : PE X (.Attribute e f pos) (tFld K ta f) := ek ▸ pe_fld he hb
theorem ps_fldK {X : Cx} {o value : PySem.Expr} {pos pos' : Pos} (ha : PE X o ta) (hv : PE X value tv) (hs : swapsWith value (some (.Attribute o f pos')) pos.line X.env = pure false := by rfl) (ek : X.K = K := by rfl) : PS X (.Assign [.Attribute o f pos'] value pos) (sFld K ta tv f) := ek ▸ ps_fld ha hv hs
theorem i_fld (q : ta σ H fun x H1 => fldK K f Q x H1) : tFld K ta f σ H Q := q
theorem i_sfld (q : tv σ H fun y H1 => ta σ H1 fun x H2 => sfldK K f D σ y x H2) : sFld K ta tv f D σ H := q
theorem s_fld (o : OwnOb nm fs K S H a x) (c : ClsOk K mg nm fl) (hf : f ∈ fl) (l : (fs x).lookup f = some v) (q : Q v H) : fldK K f Q (.ref a) H := by
  obtain ⟨dx, w⟩ := o
  exact ⟨a, _, dx, _, v, rfl, w.at_, c.cls, c.no f hf, l, q⟩
theorem s_sfld (fs' : τ' → List (PySem.Str × V)) (x' : τ') (g : Gx L S0 H0 S H) (o : OwnOb nm fs K S H a x) (h0 : H0 a = none ∨ a ∈ L) (c : ClsOk K mg nm fl) (hf : f ∈ fl) (hl : (fs x).length < 1000) (e : putF f y (fs x) = fs' x')
    (q : ∀ H1, Gx L S0 H0 S H1 → OwnOb nm fs' K S H1 a x' → (∀ c, c ≠ a → H1 c = H c) → D.nx σ H1) : sfldK K f D σ y (.ref a) H := by
  obtain ⟨dx, w⟩ := o
  exact ⟨a, _, dx, _, rfl, w.at_, c.cls, c.no f hf, hl, q _ (g.put w h0) ⟨dx, e ▸ w.set⟩ fun b hb => upd_ne hb⟩
end
/-! ### o.m(..), within a try too -/
def methK (C : Addr) (m : PySem.Str) (sp : Sp) (E : XK) (t : TA) (σ : St) (Q : VK) (x : V) (H1 : Hp) : Prop := ∃ a dx fs, x = .ref a ∧ H1 a = some (.ins C dx fs) ∧ fs.lookup m = none ∧ t σ H1 fun vs H2 => sp (x :: (vs ++ [])) H2 Q E
def tMethT (C : Addr) (m : PySem.Str) (sp : Sp) (E : St → XK) (ta : TE) (t : TA) : TE := fun σ H Q => ta σ H fun x H1 => methK C m sp (E σ) t σ Q x H1
section
variable {X : Cx} {CX : CXT} {k : Nat} {f C : Addr} {fd : FuncData} {ps : List PySem.Str} {sp : Sp} {E : St → XK} {m : PySem.Str} {pos apos : Pos} {e o : PySem.Expr} {es : List PySem.Expr} {ta : TE} {t : TA}
theorem pe_methT {pl : Sem Bool} (he : PE X o ta) (c : Cls X.K C) (hm : Meth X.K C m f) (F : FnOk X.prog X.w X.K X.mg X.base CX k f fd ps sp) (room : Room k X.A) (bd : Binds X.K fd ps []) (out : ∀ σ, PassesAt CX X σ (E σ)) (args : PA X (e :: es) t)
    (st1 : starEach (e :: es) X.env = (false, eval e X.env) :: starEach es X.env := by rfl) (st2 : (backTo pos (starEach es X.env)).any (·.1) = false := by rfl)
    (tree : eval (.Call (.Attribute o m apos) (e :: es) [] pos) X.env = (do
      let self ← eval o X.env
      standAt apos.atName
      let (g, first) ← holding [self] (getMethod self m pl)
      callWith pos g first (backTo pos (starEach (e :: es) X.env)) (backToKw pos (keywordEach [] X.env))) := by rfl) : PE X (.Call (.Attribute o m apos) (e :: es) [] pos) (tMethT C m sp E ta t) := by
  constructor
  intro pins s σ H Q I told
  refine PySem.W.methodCall_KW (pl := pl) (thn (he.run pins s σ H _ I told) ?_) tree
  rintro u s1 ⟨x, H1, I1, rx, a, dx, fs, rfl, ea, no, told1⟩
  obtain rfl : u = Value.ref a := rx
  refine getmeth_ok I1 ea c hm no (PySem.W.callWith_K (first := [.ref a]) (h₀ := X.base) I1.ok.mod.kin hm.kp (thn (args.run pos pins s1 σ H1 _ I1 told1) ?_) st1 st2)
  rintro us s2 ⟨vs, H2, I2, rs, told2⟩
  rw [List.append_nil] at told2
  exact ⟨I2.kIn, run_fnS (us := .ref a :: us) (vs := .ref a :: vs) F room bd (out σ) I2 (.cons rfl rs) told2⟩
end
section
variable {τ : Type} {nm m : PySem.Str} {fs : τ → List (PySem.Str × V)} {K : Fr} {S H S0 H0 : Hp} {L : List Addr} {a : Addr} {x : τ} {Q : VK} {σ : St} {ta : TE} {t : TA} {sp : Sp} {E : XK} {ET : St → XK}
theorem i_meth {C : Addr} (q : ta σ H fun x H1 => methK C m sp E t σ Q x H1) : tMeth C m sp [] E ta t σ H Q := q
theorem i_methT {C : Addr} (q : ta σ H fun x H1 => methK C m sp (ET σ) t σ Q x H1) : tMethT C m sp ET ta t σ H Q := q
theorem s_meth (o : OwnOb nm fs K S H a x) (l : (fs x).lookup m = none) (q : t σ H fun vs H2 => sp (.ref a :: vs) H2 Q E) : methK (He.ga K nm) m sp E t σ Q (.ref a) H := by
  obtain ⟨dx, w⟩ := o
  refine ⟨a, dx, _, rfl, w.at_, l, ?_⟩
  simpa only [List.append_nil] using q
/-! ### making one -/
def makeK (C : Addr) (sp : Sp) (E : XK) (Q : VK) (vs : List V) (H1 : Hp) : Prop := ∀ x dx, H1 x = none → H1 dx = none → dx ≠ x → sp (.ref x :: (vs ++ [])) (upd (upd H1 dx (.own x)) x (.ins C dx [])) (fun v H2 => v = .non ∧ Q (.ref x) H2) E
theorem i_make {C : Addr} (q : t σ H fun vs H1 => makeK C sp E Q vs H1) : tMake C sp [] E t σ H Q := q
def noFs (_ : Unit) : List (PySem.Str × V) := []
theorem s_make {vs : List V} (g : Gx L S0 H0 S H) (q : ∀ p H1, Gx L S0 H0 S H1 → Gx [] S H S H1 → H p = none → OwnOb nm noFs K S H1 p () → sp (.ref p :: vs) H1 (fun v H2 => v = .non ∧ Q (.ref p) H2) E) : makeK (He.ga K nm) sp E Q vs H := by
  intro p dx hp hd hne
  rw [List.append_nil]
  have hp2 : upd H dx (.own p) p = none := by rw [upd_ne hne.symm]; exact hp
  exact q p _ ((g.newO hd).newO hp2) (((Gx.refl g.sh).newO hd).newO hp2) hp ⟨dx, upd_same, fresh_back g.sh hp⟩
end
/-! ### a dict's values as a list; its length; {k: v} -/
def rLVals (Q : VK) (x : V) (H1 : Hp) : Prop := ∃ d ws, x = .ref d ∧ H1 d = some (.dK ws) ∧ newK Q (.lst (ws.map (·.2))) H1
def tLVals (te : TE) : TE := fun σ H Q => te σ H fun x H1 => rLVals Q x H1
theorem vals_at {ws : List (Key × V)} {vs : List (Key × Value)} (rel : KV ws vs) : ∀ {us : List Value}, us.length = vs.length → (∀ (j : Nat) (v : Value), us[j]? = some v → ∃ k, vs[j]? = some (k, v)) → Vals (ws.map (·.2)) us := by
  unfold KV at rel
  induction rel with
  | nil =>
    intro us hl _
    rw [List.length_eq_zero_iff.mp hl]
    exact .nil
  | cons r t ih =>
    intro us hl h
    cases us with
    | nil => simp at hl
    | cons u us =>
      obtain ⟨k, hk⟩ := h 0 u rfl
      refine .cons ?_ (ih (by simpa using hl) fun j v e => ?_)
      · have e2 := congrArg Prod.snd (Option.some.inj hk)
        have e3 := r.2
        rw [e2] at e3
        exact e3
      · obtain ⟨k', hk'⟩ := h (j + 1) v (by simpa using e)
        exact ⟨k', by simpa using hk'⟩
theorem pe_lvals {X : Cx} {e : PySem.Expr} {te : TE} {p apos cpos pos : Pos} (hc : X.calm = true) (he : PE X e te) (gl : Gl X "list") (ml : X.mg "list" = none)
    (b1 : attributeBase e "values" X.env (eval e X.env) = eval e X.env := by rfl) (b2 : (apos.endLine == cpos.line) = true := by rfl)
    (b3 : starEach [.Call (.Attribute e "values" apos) [] [] cpos] X.env = (false, eval (.Call (.Attribute e "values" apos) [] [] cpos) X.env) :: starEach [] X.env := by rfl) :
    PE X (.Call (.Name "list" p) [.Call (.Attribute e "values" apos) [] [] cpos] [] pos) (tLVals te) := by
  constructor
  intro pins s σ H Q I told
  have look : bootBuiltins "list" = some (.type "list") := by first | rfl | decide +kernel
  apply wpAny_Call_Name_kw
  apply ld_blt I gl ml look
  apply PyProof.Rows.callWith_type1 _ b3 rfl
  rw [b3]
  apply Calls.spliced_cons
  apply wpAny_Call_method (T := "dict") (id := "dict.values") b1 rfl b2 F.plainAttrs_dict F.slot_dict_values F.type_dict_values
  refine thn (he.run pins s σ H _ I told) ?_
  rintro u s1 ⟨x, H1, I1, rx, d, ws, rfl, hd, q⟩
  obtain rfl : u = Value.ref d := rx
  obtain ⟨hz, big, vs, rel, dof⟩ := dk_of I1.hok hd
  obtain ⟨ep, dat⟩ := dof.dictAt
  refine ⟨dof.typeIs, dof.mapOf.noDict, ?_⟩
  refine method_meetsIn F.slot_dict_values F.entry_dict_values rfl (PySem.evalArgs_none ⟨rfl, dof.typeIs, F.args_dict_values_1 _, _, meets_dict_values (mixKind X.prog X.w) d big, ⟨vs, dof⟩, ?_⟩)
  apply Calls.spliced_nil
  have I2 : Inv X pins σ H1 { s1 with heap := s1.heap.push { cls := .type "dict_values", data := .fields #[.ref d] } } := I1.kept (t' := s1.toks) fun b o e => Heap.get?_push_of_some _ e
  refine PySem.W.kdl_call (PySem.W.kdl_values (knd := mixKind X.prog X.w) (kvs := vs) (ep := ep)) (I1.ok.hd hc) ⟨⟨_, Heap.get?_push_size _ rfl, rfl, rfl⟩, dat.push _⟩ (by rw [← rel.length]; exact hz) ?_
  intro h' tk acc c' hk hD hacc
  have hv : Vals (ws.map (·.2)) acc.toList := vals_at rel (by rw [Array.length_toList]; exact hacc.1) fun j v e => hacc.2 j v (by rw [← Array.getElem?_toList]; exact e)
  refine ⟨.ref _, _, I2.laid (t' := tk) hk (Nat.le_refl _) (show ObjOk X.prog X.w _ _ _ (.lst (ws.map (·.2))) from ⟨by rw [List.length_map]; exact hz, acc.toList, c', hv, by rw [Array.toArray_toList]; exact hD⟩), rfl, q _ (I2.hok.fresh (Nat.le_refl _))⟩
def dvals {α : Type} (kvs : List (Int × α)) : List α := kvs.map (·.2)
section
variable {α γ : Type} [Py α] {K : Fr} {P : γ → Prop} {E : XC → Prop} {S H S0 H0 S' H' : Hp} {L : List Addr} {a : Addr} {kvs : List (Int × α)} {Q : VK} {σ : St} {te tk tv : TE}
theorem vals_rel : ∀ {ws : List (Key × V)} {kvs : List (Int × α)}, All2 (RelD K S) ws kvs → Reps K S (ws.map (·.2)) (dvals kvs)
  | _, _, .nil => .nil
  | _, _, .cons h t => .cons h.2 (vals_rel t)
theorem i_lvals (q : te σ H fun x H1 => rLVals Q x H1) : tLVals te σ H Q := q
theorem s_lvalsS (g : Gx L S0 H0 S H) (o : OwnD K S H a kvs) (q : ∀ p S1 H1, Gx L S0 H0 S1 H1 → Gx [] S H S1 H1 → RepL K S1 p (dvals kvs) → Q (.ref p) H1) : rLVals Q (.ref a) H := by
  obtain ⟨ws, h1, h2⟩ := o
  exact ⟨a, ws, rfl, h1.at_, newL_S g (vals_rel h2) q⟩
theorem s_lvalsO (g : Gx L S0 H0 S H) (o : OwnD K S H a kvs) (q : ∀ p H1, Gx L S0 H0 S H1 → Gx [] S H S H1 → H p = none → OwnL K S H1 p (dvals kvs) → Q (.ref p) H1) : rLVals Q (.ref a) H := by
  obtain ⟨ws, h1, h2⟩ := o
  exact ⟨a, ws, rfl, h1.at_, newL_O g (vals_rel h2) q⟩
theorem call_lenDG {X : Cx} : CallR X (.builtin "len") rLenDG := call_lenD
theorem s_lenDO (o : OwnD K S H a kvs) (q : Q (.int (kvs.length : Int)) H) : rLenDG [.ref a] H Q := by
  obtain ⟨ws, h1, h2⟩ := o
  exact ⟨a, ws, rfl, h1.at_, by rw [h2.len]; exact q⟩
/-- {k: v} -/
theorem s_disp1O {k : Int} {v : V} {x : α} (hk : ∀ H N, N (.int k) H → tk σ H N) (hv : ∀ H N, N v H → tv σ H N) (g : Gx L S0 H0 S H) (r : Py.rep K S v x)
    (q : ∀ p H1, Gx L S0 H0 S H1 → Gx [] S H S H1 → H p = none → OwnD K S H1 p [(k, x)] → Q (.ref p) H1) : tDisp1 tk tv σ H Q :=
  s_disp1 (K := K) (S := S) hk hv r fun b ws hb hr => q b _ (g.newO hb) ((Gx.refl g.sh).newO hb) hb ⟨ws, ⟨upd_same, fresh_back g.sh hb⟩, hr⟩
end
/-- {k: v}, v laid anew -/
def dispEnd (p : Addr) (k : V) (Q : VK) (v : V) (H2 : Hp) : Prop := H2 p = some (.dK []) ∧ ∃ kvs : List (Key × V), [(k, v)] = kvs.map (fun kv => (kV kv.1, kv.2)) ∧ kvs.length ≤ 15 ∧ Q (.ref p) (upd H2 p (.dK (mergeK [] kvs)))
section
variable {α : Type} [Py α] {K : Fr} {S H S0 H0 : Hp} {L : List Addr} {p : Addr} {Q : VK} {σ : St} {tk tv : TE}
theorem s_disp1N {k : Int} (hk : ∀ H N, N (.int k) H → tk σ H N) (g : Gx L S0 H0 S H)
    (q : ∀ p H1, Gx L S0 H0 S H1 → Gx [] S H S H1 → H p = none → OwnD (α := α) K S H1 p [] → tv σ H1 (dispEnd p (.int k) Q)) : tDisp1 tk tv σ H Q := fun p hp =>
  hk _ _ (q p _ (g.newO hp) ((Gx.refl g.sh).newO hp) hp ⟨[], ⟨upd_same, fresh_back g.sh hp⟩, .nil⟩)
theorem s_dispEnd {k : Int} {v : V} {x : α} (g : Gx L S0 H0 S H) (o : OwnD (α := α) K S H p []) (h0 : H0 p = none ∨ p ∈ L) (r : Py.rep K S v x)
    (q : ∀ H1, Gx L S0 H0 S H1 → OwnD K S H1 p [(k, x)] → (∀ c, c ≠ p → H1 c = H c) → Q (.ref p) H1) : dispEnd p (.int k) Q v H := by
  obtain ⟨ws, w, r0⟩ := o
  cases r0
  exact ⟨w.at_, [(.inl k, v)], rfl, by simp, q _ (g.put w h0) ⟨_, w.set, .cons ⟨rfl, r⟩ .nil⟩ fun c hc => upd_ne hc⟩
end
/-! ### a list of two lists of one's own -/
structure LPairAt where
  a : Addr
  b : Addr
instance : Py LPairAt where
  rep := fun K S v x => ∃ p, v = .ref p ∧ S p = some (.lst [.ref x.a, .ref x.b])
  mono := fun e ⟨p, h1, h2⟩ => ⟨p, h1, e _ _ h2⟩
theorem lpair_sq {K : Fr} {S H : Hp} {p : Addr} {x : LPairAt} (h : Py.rep K S (.ref p) x) (e : Ex S H) : SqL K H p [.ref x.a, .ref x.b] := by
  obtain ⟨q, e1, h1⟩ := h
  cases e1
  exact sq_of (e _ _ h1)
theorem s_lpair {K : Fr} {S H S0 H0 : Hp} {L : List Addr} {Q : VK} {a b : Addr} (g : Gx L S0 H0 S H) (q : ∀ p S1 H1, Gx L S0 H0 S1 H1 → Gx [] S H S1 H1 → Py.rep K S1 (.ref p) (⟨a, b⟩ : LPairAt) → Q (.ref p) H1) : lstK Q [.ref a, .ref b] H := by
  refine ⟨by rw [sizeLine_eq]; exact (by decide : (2 : Nat) ≤ 16777216), fun p hp => ?_⟩
  exact q p (upd S p (.lst [.ref a, .ref b])) _ (g.newS hp) ((Gx.refl g.sh).newS hp) ⟨p, rfl, upd_same⟩
theorem lpair_dp {α β : Type} [PyD α] [PyD β] {K : Fr} {S S' : Hp} {p : Addr} {x : LPairAt} {xs : List α} {ys : List β} (h : Py.rep K S (.ref p) x) (e : Ex S S') (h1 : RepL K S' x.a xs) (h2 : RepL K S' x.b ys) :
    Dp K S' (.ref p) (PyData.list [PyD.toD xs, PyD.toD ys]) :=
  Dp.lst (lpair_sq h e) (.cons (PyD.dp (α := List α) ⟨_, rfl, h1⟩) (.cons (PyD.dp (α := List β) ⟨_, rfl, h2⟩) .nil))
theorem s_ixP {K : Fr} {H : Hp} {a : Addr} {vs : List V} {Q : VK} {i : Nat} {v : V} (hs : SqL K H a vs) (e : vs[i]? = some v) (q : Q v H) : rIxL K (.ref a) (.int ((i : Nat) : Int)) H Q := ⟨a, vs, _, v, rfl, rfl, hs, atI_nat e, q⟩
def rClearG : V → List V → Hp → VK → Prop := fun x vs H Q => ∃ l xs, x = .ref l ∧ vs = [] ∧ H l = some (.lst xs) ∧ Q .non (upd H l (.lst []))
theorem mt_clearG {X : Cx} : MtM X "list.clear" rClearG := mt_clear
theorem s_clear {α : Type} [Py α] {K : Fr} {S H S0 H0 : Hp} {L : List Addr} {a : Addr} {xs : List α} {Q : VK} (g : Gx L S0 H0 S H) (o : OwnL K S H a xs) (h0 : H0 a = none ∨ a ∈ L)
    (q : ∀ H1, Gx L S0 H0 S H1 → OwnL K S H1 a ([] : List α) → (∀ c, c ≠ a → H1 c = H c) → Q .non H1) : rClearG (.ref a) [] H Q := by
  obtain ⟨vs, w, r⟩ := o
  exact ⟨a, vs, rfl, rfl, w.at_, q _ (g.put w h0) ⟨[], w.set, .nil⟩ fun c hc => upd_ne hc⟩
/-! ### a dict that is only read, be it locked or not -/
structure DR (α : Type) where
  kvs : List (Int × α)
theorem rd_mono {S S' : Hp} {a : Addr} {u : HO} (e : Ex S S') (h : Rd S a u) : Rd S' a u := h.imp (fun h => e _ _ h) fun ⟨o, h⟩ => ⟨o, e _ _ h⟩
instance {α : Type} [Py α] : Py (DR α) where
  rep := fun K S v x => ∃ a ws, v = .ref a ∧ Rd S a (.dK ws) ∧ All2 (RelD K S) ws x.kvs
  mono := fun e ⟨a, ws, h1, h2, h3⟩ => ⟨a, ws, h1, rd_mono e h2, reld_mono e h3⟩
section
variable {α γ : Type} [Py α] {K : Fr} {P : γ → Prop} {E : XC → Prop} {S H S0 H0 : Hp} {L : List Addr} {a : Addr} {v : V} {x : DR α} {Q : VK}
theorem s_ditemDR {k : Int} {f : α → M γ} (e : Ex S H) (r : Py.rep K S v x) (h : wpm (ditem x.kvs k >>= f) P E) (q : ∀ y w, Py.rep K S w y → wpm (f y) P E → Q w H) : ditemK Q v (.int k) H := by
  obtain ⟨a, ws, rfl, h1, h2⟩ := r
  unfold ditem at h
  rcases valV_rel k h2 with ⟨e1, e2⟩ | ⟨w, y, e1, e2, e3⟩
  · rw [e1] at h; exact h.elim
  · rw [e1] at h; exact ⟨a, w, rfl, .inl ⟨ws, .inl k, rd_mono e h1, rfl, e2.symm⟩, q y w e3 h⟩
theorem s_dinDR {k : Int} (e : Ex S H) (r : Py.rep K S v x) (q : Q (.bl (dfind x.kvs k).isSome) H) : dinK false Q (.int k) v H := by
  obtain ⟨a, ws, rfl, h1, h2⟩ := r
  refine ⟨a, valV ws (.inl k), rfl, .inl ⟨ws, .inl k, rd_mono e h1, rfl, rfl⟩, ?_⟩
  show Q (.bl (valV ws (.inl k)).isSome) H
  rw [dfind_some h2]; exact q
theorem s_sortedDRS (g : Gx L S0 H0 S H) (r : Py.rep K S v x) (q : ∀ p S1 H1, Gx L S0 H0 S1 H1 → Gx [] S H S1 H1 → RepL K S1 p (srt (dkeys x.kvs)) → Q (.ref p) H1) : rSortedDK [v] H Q := by
  obtain ⟨a, ws, rfl, h1, h2⟩ := r
  exact ⟨a, ws, dkeys x.kvs, rfl, rd_mono g.sh h1, keys_rel h2, newL_S (α := Int) g (flat_reps (srt (dkeys x.kvs))) q⟩
theorem s_sortedDRO (g : Gx L S0 H0 S H) (r : Py.rep K S v x) (q : ∀ p H1, Gx L S0 H0 S H1 → Gx [] S H S H1 → H p = none → OwnL K S H1 p (srt (dkeys x.kvs)) → Q (.ref p) H1) : rSortedDK [v] H Q := by
  obtain ⟨a, ws, rfl, h1, h2⟩ := r
  exact ⟨a, ws, dkeys x.kvs, rfl, rd_mono g.sh h1, keys_rel h2, newL_O (α := Int) g (flat_reps (srt (dkeys x.kvs))) q⟩
end
/-! ### a dict that is just laid, walked by its items -/
def tLockV (te : TE) : TE := fun σ H Q => te σ H fun x H1 => ∃ a u, x = .ref a ∧ H1 a = some u ∧ Mut (some u) ∧ ∀ od, Q x (upd H1 a (.frz od u))
theorem pe_lockV {X : Cx} {e : PySem.Expr} {te : TE} (he : PE X e te) : PE X e (tLockV te) where
  run := fun pins s σ H Q I told => thn (he.run pins s σ H _ I told) fun v s1 ⟨x, H1, I1, r, a, u, ex, ha, mu, q⟩ => by
    obtain ⟨od, I2⟩ := I1.lock ha mu
    exact ⟨x, _, I2, r, q od⟩
def itemsK (R : It → Hp → Prop) (x : V) (H1 : Hp) : Prop := ∃ d o ws, x = .ref d ∧ H1 d = some (.frz o (.dK ws)) ∧ R (Iti d o ws) H1
def lockVK (N : VK) (x : V) (H1 : Hp) : Prop := ∃ a u, x = .ref a ∧ H1 a = some u ∧ Mut (some u) ∧ ∀ od, N x (upd H1 a (.frz od u))
section
variable {γ : Type} {K : Fr} {P : γ → Prop} {E : XC → Prop} {S H S0 H0 S' H' : Hp} {L : List Addr} {a : Addr} {od : Obj} {ws : List (Key × V)} {kvs : List (Int × Int)} {Q : VK} {σ : St} {te : TE} {R : It → Hp → Prop}
theorem i_lockV {N : VK} (q : te σ H fun x H1 => lockVK N x H1) : tLockV te σ H N := q
theorem i_items (q : te σ H fun x H1 => itemsK R x H1) : iItems te σ H R := q
theorem s_lockV {N : VK} (g : Gx L S0 H0 S H) (o : OwnD K S H a kvs) (h0 : H0 a = none ∨ a ∈ L)
    (q : ∀ od ws H1, Gx L S0 H0 S H1 → OwnF K S H1 a od ws kvs → (∀ c, c ≠ a → H1 c = H c) → N (.ref a) H1) : lockVK N (.ref a) H := by
  obtain ⟨ws, h1, h2⟩ := o
  exact ⟨a, _, rfl, h1.at_, True.intro, fun od => q od ws _ (g.put h1 h0) ⟨h1.set, h2⟩ fun c hc => upd_ne hc⟩
theorem relD_pair : ∀ {ws : List (Key × V)} {kvs : List (Int × Int)} {i : Nat} {k : Key} {v : V}, All2 (RelD K S) ws kvs → ws[i]? = some (k, v) → ∃ q, kvs[i]? = some q ∧ k = .inl q.1 ∧ v = .int q.2
  | _, _, 0, _, _, .cons h t, e => by
    rw [List.getElem?_cons_zero] at e
    have := Option.some.inj e
    subst this
    exact ⟨_, rfl, h.1, h.2⟩
  | _, _, i + 1, _, _, .cons h t, e => by
    rw [List.getElem?_cons_succ] at e
    obtain ⟨q, h1, h2⟩ := relD_pair t e
    exact ⟨q, by rw [List.getElem?_cons_succ]; exact h1, h2⟩
theorem wk_items {τ : Type} {R : τ → St → Hp → Hp → Prop} (hR : ∀ s σ S H, R s σ S H → Ex S H ∧ OwnF K S H a od ws kvs) : Wk K (Iti a od ws) (dpairs kvs) R where
  go i s σ S H h hi := by
    obtain ⟨e, o, h2⟩ := hR s σ S H h
    unfold dpairs at hi
    rw [List.length_map] at hi
    exact ⟨o.at_, by rw [h2.len]; exact hi⟩
  st s σ S H h := by
    obtain ⟨e, o, h2⟩ := hR s σ S H h
    unfold dpairs
    rw [List.length_map]
    exact ⟨o.at_, by rw [h2.len]; exact Nat.le_refl _⟩
  yl i y s σ S H v H' h hy hv := by
    obtain ⟨e, o, h2⟩ := hR s σ S H h
    obtain ⟨T, k, u, h3, rfl, hT, rfl⟩ := hv
    obtain ⟨q, h4, rfl, rfl⟩ := relD_pair h2 h3
    unfold dpairs at hy
    rw [List.getElem?_map, h4] at hy
    obtain rfl := Option.some.inj hy
    exact ⟨upd S T (.tup [kV (.inl q.1), .int q.2]), (Gx.refl e).newS hT, T, _, rfl, .inl (.inl upd_same), rept_cons rfl (rept_cons rfl rept_nil)⟩
theorem i_itemsA (o : OwnF K S H a od ws kvs) (q : R (Iti a od ws) H) : itemsK R (.ref a) H := ⟨a, od, ws, rfl, o.1.at_, q⟩
end
section
variable {τ ρ γ : Type} {K : Fr} {g : TG} {tb : TS} {D : Ends} {σ : St} {S H : Hp} {s0 : τ} {E : XC → Prop} {P : γ → Prop} {Lm as : List Addr} {a : Addr} {xss : List (List Int)}
/-- for pot in pots -/
theorem s_forNL {f : List Int → τ → M (ρ ⊕ τ)} {k : ρ ⊕ τ → M γ} (R : τ → St → Hp → Hp → Prop) (o : OwnN K S H a as xss) (ha : a ∉ Lm) (hR : ∀ s σ' S' H', R s σ' S' H' → Gx Lm S H S' H')
    (h0 : R s0 σ S H) (h : wpm (forR xss s0 f >>= k) P E)
    (hs : ∀ (y : List Int) b s σ1 S1 H1 (P' : ρ ⊕ τ → Prop), (∀ r, P' (.inl r) → wpm (k (.inl r)) P E) → R s σ1 S1 H1 → b ∈ as → OwnL K S1 H1 b y → wpm (f y s) P' E →
      g (.ref b) σ1 H1 fun σ2 H3 => tb { D with nx := fun σ' H' => ∃ s' S', P' (.inr s') ∧ R s' σ' S' H' ∧ Gx [b] S1 H1 S' H', ct := fun σ' H' => ∃ s' S', P' (.inr s') ∧ R s' σ' S' H' ∧ Gx [b] S1 H1 S' H', bk := D.nx } σ2 H3)
    (hd : ∀ s σ S H, R s σ S H → wpm (k (.inr s)) P E → D.nx σ H) : ForG (Itl K a) g tb D σ H := by
  have h := wb h
  have hla : as.length = xss.length := o.all.len
  refine ⟨fun i m σ' H' => i + m = xss.length ∧ ∃ s S', R s σ' S' H' ∧ wpm (forR (xss.drop i) s f) (fun z => wpm (k z) P E) E ∧ ∀ j xs, i ≤ j → xss[j]? = some xs → ∃ b, as[j]? = some b ∧ OwnL K S' H' b xs,
    ⟨xss.length, by omega, s0, S, h0, h, fun j xs _ hj => by obtain ⟨b, h1, _, h2⟩ := o.get hj; exact ⟨b, h1, h2⟩⟩, fun i m σ1 H1 hW => ?_⟩
  obtain ⟨e, s, S1, hr, hw, pots⟩ := hW
  have gx := hR s σ1 S1 H1 hr
  have hsq : SqL K H1 a (as.map V.ref) := sq_of (gx.h a _ ha o.own.at_)
  by_cases hi : i < xss.length
  · have hx : xss[i]? = some xss[i] := List.getElem?_eq_getElem hi
    obtain ⟨b, hb1, hb2⟩ := pots i _ (Nat.le_refl _) hx
    rw [drop_oneG hx] at hw
    refine .inr ⟨⟨as.map V.ref, .ref b, hsq, by rw [List.getElem?_map, hb1]; rfl⟩, fun σ' H' => ∃ s' S', wpm (forR (xss.drop (i + 1)) s' f) (fun z => wpm (k z) P E) E ∧ R s' σ' S' H' ∧ Gx [b] S1 H1 S' H', ?_, ?_⟩
    · rintro σ' H' ⟨s', S', q1, q2, q3⟩
      refine ⟨m - 1, by omega, by omega, s', S', q2, q1, fun j xs hj hjx => ?_⟩
      obtain ⟨c, c1, c2⟩ := pots j xs (by omega) hjx
      refine ⟨c, c1, c2.keep q3 fun hc => ?_⟩
      have same := List.mem_singleton.mp hc
      have e1 := (List.getElem?_eq_some_iff.mp c1).2
      have e2 := (List.getElem?_eq_some_iff.mp hb1).2
      have : j = i := (List.getElem_inj o.nd).mp (by rw [e1, e2, same])
      omega
    · rintro v H2 ⟨e2, h3⟩
      rw [e2]
      have hxv := h3 _ hsq
      rw [List.getElem?_map, hb1] at hxv
      obtain rfl : V.ref b = v := Option.some.inj hxv
      refine hs xss[i] b s σ1 S1 H1 (fun z => match z with
        | .inl r => wpm (k (.inl r)) P E
        | .inr s' => wpm (forR (xss.drop (i + 1)) s' f) (fun z => wpm (k z) P E) E) (fun r h => h) hr (List.mem_of_getElem? hb1) hb2 (wpm_imp (wb hw) fun z hz => ?_)
      cases z <;> exact hz
  · have hi' : i = xss.length := by omega
    subst hi'
    rw [List.drop_eq_nil_of_le (Nat.le_refl _)] at hw
    exact .inl ⟨⟨as.map V.ref, hsq, by rw [List.length_map, hla]; exact Nat.le_refl _⟩, hd s σ1 S1 H1 hr hw⟩
theorem i_listN {R : It → Hp → Prop} (o : OwnN K S H a as xss) (q : R (Itl K a) H) : listK K R (.ref a) H := ⟨a, rfl, ⟨as.map V.ref, sq_of o.own.at_⟩, q⟩
end
/-! ### what was frozen for a call, with things of one's own written by it -/
section
variable {K : Fr} {S H S0 H0 S1 H1 : Hp} {L : List Addr} {a : Addr}
theorem Gx.undoL (g : Gx L S0 H S1 H1) (e : Ex S H) (hf : ∀ x ∈ L, S x = none) : Gx L S H S H1 :=
  ⟨Ex.refl S, g.h, fun b o hb => g.h b o (fun hm => by rw [hf b hm] at hb; cases hb) (e b o hb), g.th, fun _ _ h => h⟩
theorem OwnL.nfree {α : Type} [Py α] {xs : List α} (o : OwnL K S H a xs) : S a = none := by
  obtain ⟨vs, h1, h2⟩ := o
  exact h1.free
theorem OwnD.nfree {α : Type} [Py α] {xs : List (Int × α)} (o : OwnD K S H a xs) : S a = none := by
  obtain ⟨vs, h1, h2⟩ := o
  exact h1.free
theorem OwnOb.nfree {τ : Type} {nm : PySem.Str} {fs : τ → List (PySem.Str × V)} {x : τ} (o : OwnOb nm fs K S H a x) : S a = none := by
  obtain ⟨vs, h1⟩ := o
  exact h1.free
theorem OwnL.backF {α : Type} [Flat α] {xs : List α} (o : OwnL K S1 H1 a xs) (h : S a = none) : OwnL K S H1 a xs := by
  obtain ⟨vs, h1, h2⟩ := o
  exact ⟨vs, ⟨h1.at_, h⟩, h2.imp fun _ _ h => Flat.is.2 (Flat.is.1 h)⟩
theorem OwnD.backF {α : Type} [Flat α] {xs : List (Int × α)} (o : OwnD K S1 H1 a xs) (h : S a = none) : OwnD K S H1 a xs := by
  obtain ⟨vs, h1, h2⟩ := o
  exact ⟨vs, ⟨h1.at_, h⟩, h2.imp fun _ _ h => ⟨h.1, Flat.is.2 (Flat.is.1 h.2)⟩⟩
theorem OwnOb.backF {τ : Type} {nm : PySem.Str} {fs : τ → List (PySem.Str × V)} {x : τ} (o : OwnOb nm fs K S1 H1 a x) (h : S a = none) : OwnOb nm fs K S H1 a x := by
  obtain ⟨vs, h1⟩ := o
  exact ⟨vs, h1.at_, h⟩
end
section
variable {γ τ : Type} {P : γ → Prop} {E : XC → Prop} {S H : Hp} {Lb : List Addr} {Q : VK} {a : Bool} {tb : TE} {σ : St}
theorem orV_z {mB : M (Bool × τ)} {s0 : τ} {k : Bool × τ → M γ} (R : τ → Hp → Hp → Prop) (h0 : R s0 S H) (h : wpm ((if a = true then .ok (true, s0) else mB) >>= k) P E) (e : Ex S H)
    (h1 : a = false → ∀ (PB : Bool × τ → Prop) (N : VK), wpm mB PB E → (∀ c s S1 H1, Gx Lb S H S1 H1 → R s S1 H1 → PB (c, s) → N (.bl c) H1) → tb σ H N)
    (h2 : ∀ c s S1 H1, Gx Lb S H S1 H1 → R s S1 H1 → wpm (k (c, s)) P E → Q (.bl c) H1) : orVK tb σ Q (.bl a) H := by
  refine ⟨a, rfl, ?_⟩
  cases a with
  | true => exact h2 _ _ _ _ (Gx.refl e) h0 h
  | false => exact h1 rfl _ _ (wb h) h2
end
/-! ### a dict of a nest written; a nest that stays as it is from here on -/
def pmput {α : Type} (xss : List (DV α)) (j : Nat) (k : Int) (x : α) : M (List (DV α)) := match xss[j]? with
  | some y => if y.kvs.length < line then .ok (xss.set j ⟨dput y.kvs k x⟩) else .stuck
  | none => .stuck
section
variable {α γ : Type} [Py α] {K : Fr} {P : γ → Prop} {E : XC → Prop} {S H S0 H0 S' : Hp} {L : List Addr} {a b p : Addr} {as : List Addr} {xss : List (DV α)} {D : Ends} {σ : St}
theorem s_mput {k : Int} {v : V} {x : α} {j : Nat} {f : List (DV α) → M γ} (g : Gx L S0 H0 S H) (o : OwnM K S H a as xss) (h0 : ∀ b ∈ as, H0 b = none ∨ b ∈ L) (hj : as[j]? = some b) (r : Py.rep K S v x) (h : wpm (pmput xss j k x >>= f) P E)
    (q : ∀ H1 yss, Gx L S0 H0 S H1 → OwnM K S H1 a as yss → (∀ d, d ∉ as → H1 d = H d) → wpm (f yss) P E → D.nx σ H1) : dputK D σ v (.ref b) (.int k) H := by
  unfold pmput at h
  cases e1 : xss[j]? with
  | none => rw [e1] at h; exact h.elim
  | some y =>
    rw [e1] at h
    dsimp only at h
    obtain ⟨hl, h⟩ := wpm_ite h
    obtain ⟨b', hb1, hb, ws, w1, w2⟩ := o.get e1
    rw [hj] at hb1
    cases hb1
    have hab : a ≠ b := fun z => o.out (z ▸ hb)
    refine ⟨b, _, rfl, DPut.k (k := Sum.inl k) w1.at_ (by rw [w2.len, line_eq]; exact hl), q _ _ (g.put w1 (h0 b hb)) ⟨o.own.put hab, ?_, o.nd, o.out⟩ (fun d hd => upd_ne fun z => hd (z ▸ hb)) h⟩
    exact all2_set o.all o.nd hj ⟨_, w1.set, put_rel k r w2⟩ fun d hd hne y r => OwnD.other r hne fun d hd => upd_ne hd
theorem ownm_frz2 {goal : Prop} (g : Gx L S0 H0 S H) (o : OwnM K S H p as xss) (h0 : H0 p = none) (h1 : ∀ b ∈ as, H0 b = none)
    (q : ∀ S2, Gx L S0 H0 S2 H → RepL K S2 p xss → Ex S S2 → (∀ b, b ∉ p :: as → S2 b = S b) → goal) : goal := by
  obtain ⟨S2, hS2⟩ : ∃ S2 : Hp, ∀ b, S2 b = if b ∈ p :: as then H b else S b := ⟨fun b => if b ∈ p :: as then H b else S b, fun b => rfl⟩
  have free : ∀ b ∈ p :: as, S b = none := by
    intro b hb
    rcases List.mem_cons.mp hb with z | z
    · rw [z]; exact o.own.free
    · obtain ⟨y, ws, w, _⟩ := all2_mem_l o.all b z
      exact w.free
  have ex : Ex S S2 := fun b u e => by
    rw [hS2, if_neg fun hb => by rw [free b hb] at e; cases e]
    exact e
  refine q S2 ⟨g.s.trans ex, g.h, fun b u e => ?_, g.th, fun b n0 n1 => ?_⟩ ⟨as.map V.ref, ?_, ?_⟩ ex fun b hb => by rw [hS2, if_neg hb]
  · rw [hS2] at e
    split at e
    · exact e
    · exact g.sh b u e
  · rw [hS2, if_neg, g.fr b n0 n1]
    intro hb
    rcases List.mem_cons.mp hb with z | z
    · exact n0 (z ▸ h0)
    · exact n0 (h1 b z)
  · rw [hS2, if_pos List.mem_cons_self]; exact o.own.at_
  · have key : ∀ {bs : List Addr} {yss : List (DV α)}, All2 (fun b (x : DV α) => OwnD K S H b x.kvs) bs yss → (∀ b ∈ bs, b ∈ as) → All2 (Py.rep K S2) (bs.map V.ref) yss := by
      intro bs yss h
      induction h with
      | nil => intro _; exact .nil
      | cons h _ ih =>
        intro hb
        obtain ⟨ws, w1, w2⟩ := h
        exact .cons ⟨_, rfl, ws, by rw [hS2, if_pos (List.mem_cons_of_mem _ (hb _ List.mem_cons_self))]; exact w1.at_, reld_mono ex w2⟩ (ih fun b hb' => hb b (List.mem_cons_of_mem _ hb'))
    exact key o.all fun b hb => hb
theorem OwnL.liftN {xs : List α} (o : OwnL K S H a xs) (hb : ∀ b, b ∉ p :: as → S' b = S b) (e : Ex S S') (h1 : a ≠ p) (h2 : a ∉ as) : OwnL K S' H a xs := by
  obtain ⟨vs, w1, w2⟩ := o
  exact ⟨vs, ⟨w1.at_, by rw [hb a (fun h => (List.mem_cons.mp h).elim h1 h2)]; exact w1.free⟩, w2.mono e⟩
theorem OwnD.liftN {xs : List (Int × α)} (o : OwnD K S H a xs) (hb : ∀ b, b ∉ p :: as → S' b = S b) (e : Ex S S') (h1 : a ≠ p) (h2 : a ∉ as) : OwnD K S' H a xs := by
  obtain ⟨vs, w1, w2⟩ := o
  exact ⟨vs, ⟨w1.at_, by rw [hb a (fun h => (List.mem_cons.mp h).elim h1 h2)]; exact w1.free⟩, reld_mono e w2⟩
end
/-! ### a tuple of any data -/
structure DTu where
  ds : List PyData
instance : PyT DTu where
  rept := fun K S vs x => DpAll K S vs x.ds
  monot := fun e h => dpa_mono e h
theorem s_tupDD {K : Fr} {S H S0 H0 : Hp} {L : List Addr} {Q : VK} {vs : List V} {ds : List PyData} (g : Gx L S0 H0 S H) (hr : DpAll K S vs ds) (hl : vs.length ≤ 16777216)
    (q : ∀ p S1 H1, Gx L S0 H0 S1 H1 → Gx [] S H S1 H1 → Py.rep (α := PyData) K S1 (.ref p) (.tuple ds) → Q (.ref p) H1) : tupK Q vs H :=
  ⟨by rw [sizeLine_eq]; exact hl, newT_S (τ := DTu) (t := ⟨ds⟩) g hr fun p S1 H1 g1 g2 h => q p S1 H1 g1 g2 (Dp.tup h.1 h.2)⟩
end G
/-! GRec: a dict of one's own under text keys, told by its fields as an object is. -/
namespace G
open PySem L2 Evl PySem.Spec PyProof.Rows
def recK (l : List (PySem.Str × V)) : List (Key × V) := l.map fun p => ((Sum.inr p.1 : Key), p.2)
def OwnRc {τ : Type} (fs : τ → List (PySem.Str × V)) (K : Fr) (S H : Hp) (a : Addr) (x : τ) : Prop := Own S H a (.dK (recK (fs x)))
section
variable {τ τ' : Type} {fs : τ → List (PySem.Str × V)} {K : Fr} {S H S' H' S0 H0 : Hp} {a b p : Addr} {x : τ} {L L' as : List Addr} {f : PySem.Str} {v : V} {Q : VK} {D : Ends} {σ : St}
theorem OwnRc.keep (o : OwnRc fs K S H a x) (g : Gx L' S H S' H') (h : a ∉ L') : OwnRc fs K S' H' a x := Own.keep o g h
theorem OwnRc.keep0 (o : OwnRc fs K S H a x) (g : Gx [] S H S' H') : OwnRc fs K S' H' a x := o.keep g (fun h => nomatch h)
theorem OwnRc.ne (o : OwnRc fs K S H a x) (h : H p = none) : a ≠ p := Own.ne o h
theorem OwnRc.there (o : OwnRc fs K S H a x) : H a ≠ none := by rw [Own.at_ o]; simp
theorem OwnRc.other (o : OwnRc fs K S H b x) (hne : b ≠ a) (e : ∀ c, c ≠ a → H' c = H c) : OwnRc fs K S H' b x := ⟨by rw [e b hne]; exact Own.at_ o, Own.free o⟩
theorem OwnRc.lift2 (o : OwnRc fs K S H a x) (hb : ∀ b, b ≠ p → S' b = S b) (e : Ex S S') (hne : a ≠ p) : OwnRc fs K S' H a x := ⟨Own.at_ o, by rw [hb a hne]; exact Own.free o⟩
theorem OwnRc.otherN (o : OwnRc fs K S H b x) (hne : b ∉ as) (e : ∀ d, d ∉ as → H' d = H d) : OwnRc fs K S H' b x := ⟨by rw [e b hne]; exact Own.at_ o, Own.free o⟩
theorem OwnRc.nfree (o : OwnRc fs K S H a x) : S a = none := Own.free o
theorem OwnRc.backF {S1 : Hp} (o : OwnRc fs K S1 H a x) (h : S a = none) : OwnRc fs K S H a x := ⟨Own.at_ o, h⟩
theorem val_rec (f : PySem.Str) : ∀ l : List (PySem.Str × V), valV (recK l) (Sum.inr f) = l.lookup f
  | [] => rfl
  | p :: l => by
    have ih := val_rec f l
    unfold recK valV at ih ⊢
    rw [List.map_cons, List.find?_cons, List.lookup_cons]
    by_cases e : p.1 = f
    · subst e
      simp
    · have h1 : (decide ((Sum.inr p.1 : Key) = Sum.inr f)) = false := by rw [key_rr]; exact decide_eq_false e
      have h2 : (f == p.1) = false := by rw [beq_eq_false_iff_ne]; exact fun z => e z.symm
      simp only [h1, h2]
      exact ih
/-- d['f'] -/
theorem s_recGet (o : OwnRc fs K S H a x) (l : (fs x).lookup f = some v) (q : Q v H) : ditemK Q (.ref a) (.str f) H :=
  ⟨a, v, rfl, by rw [← l, ← val_rec f (fs x)]; exact DGet.k (k := Sum.inr f) (Own.at_ o), q⟩
/-- d['f'] = y -/
theorem s_recPut {y : V} (fs' : τ' → List (PySem.Str × V)) (x' : τ') (g : Gx L S0 H0 S H) (o : OwnRc fs K S H a x) (h0 : H0 a = none ∨ a ∈ L) (hl : (fs x).length < 1000) (e : putK (recK (fs x)) (Sum.inr f) y = recK (fs' x'))
    (q : ∀ H1, Gx L S0 H0 S H1 → OwnRc fs' K S H1 a x' → (∀ c, c ≠ a → H1 c = H c) → D.nx σ H1) : dputK D σ y (.ref a) (.str f) H :=
  ⟨a, _, rfl, DPut.k (k := Sum.inr f) (Own.at_ o) (by unfold recK; rw [List.length_map, sizeLine_eq]; omega), by rw [e]; exact q _ (g.put o h0) (Own.set o) fun b hb => upd_ne hb⟩
/-- {'f': .., ..} -/
def recEnd (p : Addr) (Q : VK) (ps : List (V × V)) (H2 : Hp) : Prop := H2 p = some (.dK []) ∧ ∃ kvs : List (Key × V), ps = kvs.map (fun kv => (kV kv.1, kv.2)) ∧ kvs.length ≤ 15 ∧ Q (.ref p) (upd H2 p (.dK (mergeK [] kvs)))
theorem s_recNew {trs : List (TE × TE)} (g : Gx L S0 H0 S H) (q : ∀ p H1, Gx L S0 H0 S H1 → Gx [] S H S H1 → H p = none → OwnRc (fun (_ : Unit) => []) K S H1 p () → tPairs trs σ H1 (recEnd p Q)) : tDisp trs σ H Q :=
  fun p hp => q p _ (g.newO hp) ((Gx.refl g.sh).newO hp) hp ⟨upd_same, fresh_back g.sh hp⟩
theorem s_recEnd (fs' : τ' → List (PySem.Str × V)) (x' : τ') (g : Gx L S0 H0 S H) (o : OwnRc (fun (_ : Unit) => []) K S H p ()) (h0 : H0 p = none ∨ p ∈ L) {ps : List (V × V)} (e : ps = (fs' x').map fun z => (V.str z.1, z.2)) (hl : (fs' x').length ≤ 15) (em : mergeK [] (recK (fs' x')) = recK (fs' x'))
    (q : ∀ H1, Gx L S0 H0 S H1 → OwnRc fs' K S H1 p x' → (∀ c, c ≠ p → H1 c = H c) → Q (.ref p) H1) : recEnd p Q ps H :=
  ⟨Own.at_ o, recK (fs' x'), by rw [e]; unfold recK; rw [List.map_map]; rfl, by unfold recK; rw [List.length_map]; exact hl, by rw [em]; exact q _ (g.put o h0) (Own.set o) fun b hb => upd_ne hb⟩
end
theorem i_pair {tk tv : TE} {r : List (TE × TE)} {σ : St} {H : Hp} {Q : List (V × V) → Hp → Prop} (q : tk σ H fun x H1 => tv σ H1 fun y H2 => tPairs r σ H2 fun ps H3 => Q ((x, y) :: ps) H3) : tPairs ((tk, tv) :: r) σ H Q := q
theorem i_pnil {σ : St} {H : Hp} {Q : List (V × V) → Hp → Prop} (q : Q [] H) : tPairs [] σ H Q := q
end G
/-! GFrz: dicts of one's own that are locked for good: a nest of them, one of them. -/
namespace G
open PySem L2 Evl PySem.Spec PyProof.Rows
/-- a dict, locked for good -/
structure DF (α : Type) where
  kvs : List (Int × α)
instance {α : Type} [Py α] : Py (DF α) where
  rep := fun K S v x => ∃ a od ws, v = .ref a ∧ S a = some (.frz od (.dK ws)) ∧ All2 (RelD K S) ws x.kvs
  mono := fun e ⟨a, od, ws, h1, h2, h3⟩ => ⟨a, od, ws, h1, e _ _ h2, reld_mono e h3⟩
def frzM {α : Type} (xss : List (DV α)) : List (DF α) := xss.map fun x => ⟨x.kvs⟩
section
variable {α γ : Type} [Py α] {K : Fr} {P : γ → Prop} {E : XC → Prop} {S H S0 H0 : Hp} {L : List Addr} {a : Addr} {v : V} {x : DF α} {Q : VK}
theorem df_dr (r : Py.rep K S v x) : Py.rep K S v (⟨x.kvs⟩ : DR α) := by
  obtain ⟨a, od, ws, h1, h2, h3⟩ := r
  exact ⟨a, ws, h1, .inr ⟨od, h2⟩, h3⟩
theorem s_ditemDF {k : Int} {f : α → M γ} (e : Ex S H) (r : Py.rep K S v x) (h : wpm (ditem x.kvs k >>= f) P E) (q : ∀ y w, Py.rep K S w y → wpm (f y) P E → Q w H) : ditemK Q v (.int k) H :=
  s_ditemDR (x := (⟨x.kvs⟩ : DR α)) e (df_dr r) h q
theorem s_dinDF {k : Int} (e : Ex S H) (r : Py.rep K S v x) (q : Q (.bl (dfind x.kvs k).isSome) H) : dinK false Q (.int k) v H :=
  s_dinDR (x := (⟨x.kvs⟩ : DR α)) e (df_dr r) q
/-- d.get(k, z) -/
theorem s_dg2DF {σ : St} {ty tx : TE} (e : Ex S H) (r : Py.rep K S v x) (q : ∀ a, Py.rep K S (.ref a) x → ty σ H fun y H2 => tx σ H2 fun z H3 => dget2K a Q y z H3) : dg2K ty tx σ Q v H := by
  obtain ⟨a, od, ws, rfl, h2, h3⟩ := r
  exact ⟨a, rfl, .inl ⟨ws, .inr ⟨od, e _ _ h2⟩⟩, q a ⟨a, od, ws, rfl, h2, h3⟩⟩
theorem s_dget2DF {k : Int} {z : V} {y : α} (e : Ex S H) (r : Py.rep K S (.ref a) x) (rz : Py.rep K S z y) (q : ∀ v, Py.rep K S v ((dfind x.kvs k).getD y) → Q v H) : dget2K a Q (.int k) z H := by
  obtain ⟨b, od, ws, e1, h2, h3⟩ := r
  cases e1
  refine ⟨valV ws (.inl k), .inl ⟨ws, .inl k, .inr ⟨od, e _ _ h2⟩, rfl, rfl⟩, q _ ?_⟩
  rcases valV_rel k h3 with ⟨e1, e2⟩ | ⟨v, x, e1, e2, e3⟩
  · rw [e1, e2]; exact rz
  · rw [e1, e2]; exact e3
theorem s_dget2DFF {α : Type} [Flat α] {x : DF α} {k : Int} {y : α} (e : Ex S H) (r : Py.rep K S (.ref a) x) (q : Q (Flat.toV ((dfind x.kvs k).getD y)) H) : dget2K a Q (.int k) (Flat.toV y) H :=
  s_dget2DF e r (Flat.is.2 rfl) fun v r => by rw [Flat.is.1 r]; exact q
/-- its keys, one by one -/
theorem i_keysDF {R : It → Hp → Prop} (e : Ex S H) (r : Py.rep K S v x) (q : ∀ a od ws, S a = some (.frz od (.dK ws)) → All2 (RelD K S) ws x.kvs → R (Itk a od ws) H) : keysK R v H := by
  obtain ⟨a, od, ws, rfl, h2, h3⟩ := r
  exact ⟨a, od, rfl, .inl ⟨ws, e _ _ h2, q a od ws h2 h3⟩⟩
end
theorem wk_keysF {α : Type} [Py α] {K : Fr} {a : Addr} {od : Obj} {ws : List (Key × V)} {kvs : List (Int × α)} {τ : Type} {R : τ → St → Hp → Hp → Prop} (hR : ∀ s σ S H, R s σ S H → Ex S H ∧ S a = some (.frz od (.dK ws)) ∧ All2 (RelD K S) ws kvs) : Wk K (Itk a od ws) (dkeys kvs) R where
  go i s σ S H h hi := by
    obtain ⟨e, o, h2⟩ := hR s σ S H h
    unfold dkeys at hi
    rw [List.length_map] at hi
    exact ⟨e _ _ o, by rw [h2.len]; exact hi⟩
  st s σ S H h := by
    obtain ⟨e, o, h2⟩ := hR s σ S H h
    unfold dkeys
    rw [List.length_map]
    exact ⟨e _ _ o, by rw [h2.len]; exact Nat.le_refl _⟩
  yl i y s σ S H v H' h hy hv := by
    obtain ⟨e, o, h2⟩ := hR s σ S H h
    obtain ⟨rfl, k, u, h3, rfl⟩ := hv
    obtain ⟨q, h4, rfl⟩ := relD_get h2 h3
    unfold dkeys at hy
    rw [List.getElem?_map, h4] at hy
    obtain rfl := Option.some.inj hy
    exact ⟨S, Gx.refl e, rfl⟩
/-! ### list(d.values()), d locked or not -/
def rLValsR (Q : VK) (x : V) (H1 : Hp) : Prop := ∃ d ws, x = .ref d ∧ Rd H1 d (.dK ws) ∧ newK Q (.lst (ws.map (·.2))) H1
def tLValsR (te : TE) : TE := fun σ H Q => te σ H fun x H1 => rLValsR Q x H1
theorem pe_lvalsR {X : Cx} {e : PySem.Expr} {te : TE} {p apos cpos pos : Pos} (hc : X.calm = true) (he : PE X e te) (gl : Gl X "list") (ml : X.mg "list" = none)
    (b1 : attributeBase e "values" X.env (eval e X.env) = eval e X.env := by rfl) (b2 : (apos.endLine == cpos.line) = true := by rfl)
    (b3 : starEach [.Call (.Attribute e "values" apos) [] [] cpos] X.env = (false, eval (.Call (.Attribute e "values" apos) [] [] cpos) X.env) :: starEach [] X.env := by rfl) :
    PE X (.Call (.Name "list" p) [.Call (.Attribute e "values" apos) [] [] cpos] [] pos) (tLValsR te) := by
  constructor
  intro pins s σ H Q I told
  have look : bootBuiltins "list" = some (.type "list") := by first | rfl | decide +kernel
  apply wpAny_Call_Name_kw
  apply ld_blt I gl ml look
  apply PyProof.Rows.callWith_type1 _ b3 rfl
  rw [b3]
  apply Calls.spliced_cons
  apply wpAny_Call_method (T := "dict") (id := "dict.values") b1 rfl b2 F.plainAttrs_dict F.slot_dict_values F.type_dict_values
  refine thn (he.run pins s σ H _ I told) ?_
  rintro u s1 ⟨x, H1, I1, rx, d, ws, rfl, hd, q⟩
  obtain rfl : u = Value.ref d := rx
  obtain ⟨hz, big, vs, rel, dof⟩ := dk_rd I1.hok hd
  obtain ⟨ep, dat⟩ := dof.dictAt
  refine ⟨dof.typeIs, dof.mapOf.noDict, ?_⟩
  refine method_meetsIn F.slot_dict_values F.entry_dict_values rfl (PySem.evalArgs_none ⟨rfl, dof.typeIs, F.args_dict_values_1 _, _, meets_dict_values (mixKind X.prog X.w) d big, ⟨vs, dof⟩, ?_⟩)
  apply Calls.spliced_nil
  have I2 : Inv X pins σ H1 { s1 with heap := s1.heap.push { cls := .type "dict_values", data := .fields #[.ref d] } } := I1.kept (t' := s1.toks) fun b o e => Heap.get?_push_of_some _ e
  refine PySem.W.kdl_call (PySem.W.kdl_values (knd := mixKind X.prog X.w) (kvs := vs) (ep := ep)) (I1.ok.hd hc) ⟨⟨_, Heap.get?_push_size _ rfl, rfl, rfl⟩, dat.push _⟩ (by rw [← rel.length]; exact hz) ?_
  intro h' tk acc c' hk hD hacc
  have hv : Vals (ws.map (·.2)) acc.toList := vals_at rel (by rw [Array.length_toList]; exact hacc.1) fun j v e => hacc.2 j v (by rw [← Array.getElem?_toList]; exact e)
  refine ⟨.ref _, _, I2.laid (t' := tk) hk (Nat.le_refl _) (show ObjOk X.prog X.w _ _ _ (.lst (ws.map (·.2))) from ⟨by rw [List.length_map]; exact hz, acc.toList, c', hv, by rw [Array.toArray_toList]; exact hD⟩), rfl, q _ (I2.hok.fresh (Nat.le_refl _))⟩
section
variable {α γ : Type} [Py α] {K : Fr} {S H S0 H0 : Hp} {L : List Addr} {v : V} {x : DF α} {Q : VK} {σ : St} {te : TE}
theorem i_lvalsR (q : te σ H fun x H1 => rLValsR Q x H1) : tLValsR te σ H Q := q
theorem s_lvalsDFS (g : Gx L S0 H0 S H) (r : Py.rep K S v x) (q : ∀ p S1 H1, Gx L S0 H0 S1 H1 → Gx [] S H S1 H1 → RepL K S1 p (dvals x.kvs) → Q (.ref p) H1) : rLValsR Q v H := by
  obtain ⟨a, od, ws, rfl, h2, h3⟩ := r
  exact ⟨a, ws, rfl, .inr ⟨od, g.sh _ _ h2⟩, newL_S g (vals_rel h3) q⟩
theorem s_lvalsDFO (g : Gx L S0 H0 S H) (r : Py.rep K S v x) (q : ∀ p H1, Gx L S0 H0 S H1 → Gx [] S H S H1 → H p = none → OwnL K S H1 p (dvals x.kvs) → Q (.ref p) H1) : rLValsR Q v H := by
  obtain ⟨a, od, ws, rfl, h2, h3⟩ := r
  exact ⟨a, ws, rfl, .inr ⟨od, g.sh _ _ h2⟩, newL_O g (vals_rel h3) q⟩
end
/-! ### locked for good: one dict -/
section
variable {α : Type} [Py α] {K : Fr} {S H S0 H0 : Hp} {L : List Addr} {a : Addr} {kvs : List (Int × α)} {N : VK}
theorem s_lockDF (g : Gx L S0 H0 S H) (o : OwnD K S H a kvs) (h0 : H0 a = none)
    (q : ∀ S2 H2, Gx L S0 H0 S2 H2 → Py.rep K S2 (.ref a) (⟨kvs⟩ : DF α) → Ex S S2 → (∀ b, b ≠ a → S2 b = S b) → (∀ b, b ≠ a → H2 b = H b) → N (.ref a) H2) : lockVK N (.ref a) H := by
  obtain ⟨ws, h1, h2⟩ := o
  refine ⟨a, _, rfl, h1.at_, True.intro, fun od => ?_⟩
  have g1 : Gx L S0 H0 S (upd H a (.frz od (.dK ws))) := g.put h1 (.inl h0)
  have w1 : Own S (upd H a (.frz od (.dK ws))) a (.frz od (.dK ws)) := h1.set
  exact q _ _ (g1.frz w1 h0) ⟨a, od, ws, rfl, upd_same, reld_mono (Ex.new w1.free) h2⟩ (Ex.new w1.free) (fun b hb => upd_ne hb) (fun b hb => upd_ne hb)
end
/-! ### locked for good: a nest -/
def LkAll (bs : List Addr) (H H' : Hp) : Prop := (∀ c, c ∉ bs → H' c = H c) ∧ ∀ b ∈ bs, ∃ u od, H b = some u ∧ H' b = some (.frz od u)
def lockNK (N : VK) (x : V) (H1 : Hp) : Prop := ∃ bs : List Addr, bs.Nodup ∧ (∀ b ∈ bs, ∃ u, H1 b = some u ∧ Mut (some u)) ∧ ∀ H2, LkAll bs H1 H2 → N x H2
def tLockN (te : TE) : TE := fun σ H Q => te σ H fun x H1 => lockNK Q x H1
theorem lock_all {X : Cx} {pins : List (Addr × Obj)} {σ : St} {s : Shared} : ∀ {bs : List Addr} {H : Hp}, Inv X pins σ H s → bs.Nodup → (∀ b ∈ bs, ∃ u, H b = some u ∧ Mut (some u)) → ∃ H2, Inv X pins σ H2 s ∧ LkAll bs H H2
  | [], H, I, _, _ => ⟨H, I, fun _ _ => rfl, fun _ h => nomatch h⟩
  | b :: bs, H, I, nd, hm => by
    obtain ⟨u, hu, mu⟩ := hm b List.mem_cons_self
    obtain ⟨od, I2⟩ := I.lock hu mu
    have hb : b ∉ bs := (List.nodup_cons.mp nd).1
    have ne : ∀ c ∈ bs, c ≠ b := fun c hc e => hb (e ▸ hc)
    obtain ⟨H2, I3, l1, l2⟩ := lock_all I2 (List.nodup_cons.mp nd).2 fun c hc => by
      obtain ⟨w, hw, mw⟩ := hm c (List.mem_cons_of_mem _ hc)
      exact ⟨w, by rw [upd_ne (ne c hc)]; exact hw, mw⟩
    refine ⟨H2, I3, fun c hc => ?_, fun c hc => ?_⟩
    · have h1 : c ≠ b := fun e => hc (e ▸ List.mem_cons_self)
      rw [l1 c fun h => hc (List.mem_cons_of_mem _ h), upd_ne h1]
    · rcases List.mem_cons.mp hc with rfl | hc
      · exact ⟨u, od, hu, by rw [l1 c hb]; exact upd_same⟩
      · obtain ⟨w, od, h1, h2⟩ := l2 c hc
        rw [upd_ne (ne c hc)] at h1
        exact ⟨w, od, h1, h2⟩
theorem pe_lockN {X : Cx} {e : PySem.Expr} {te : TE} (he : PE X e te) : PE X e (tLockN te) where
  run := fun pins s σ H Q I told => thn (he.run pins s σ H _ I told) fun v s1 ⟨x, H1, I1, r, bs, nd, hm, q⟩ => by
    obtain ⟨H2, I2, lk⟩ := lock_all I1 nd hm
    exact ⟨x, _, I2, r, q H2 lk⟩
theorem i_lockN {σ : St} {H : Hp} {te : TE} {N : VK} (q : te σ H fun x H1 => lockNK N x H1) : tLockN te σ H N := q
section
variable {α : Type} [Py α] {K : Fr} {S H S0 H0 : Hp} {L : List Addr} {p : Addr} {as : List Addr} {xss : List (DV α)} {N : VK}
theorem s_lockM (g : Gx L S0 H0 S H) (o : OwnM K S H p as xss) (h0 : H0 p = none) (h1 : ∀ b ∈ as, H0 b = none)
    (q : ∀ S2 H2, Gx L S0 H0 S2 H2 → RepL K S2 p (frzM xss) → Ex S S2 → (∀ b, b ∉ p :: as → S2 b = S b) → (∀ b, b ∉ as → H2 b = H b) → N (.ref p) H2) : lockNK N (.ref p) H := by
  have hat : ∀ b ∈ as, ∃ ws, H b = some (.dK ws) ∧ S b = none := fun b hb => by
    obtain ⟨y, ws, w, _⟩ := all2_mem_l o.all b hb
    exact ⟨ws, w.at_, w.free⟩
  refine ⟨as, o.nd, fun b hb => by obtain ⟨ws, h, _⟩ := hat b hb; exact ⟨_, h, True.intro⟩, fun H2 lk => ?_⟩
  obtain ⟨l1, l2⟩ := lk
  obtain ⟨S2, hS2⟩ : ∃ S2 : Hp, ∀ b, S2 b = if b ∈ p :: as then H2 b else S b := ⟨fun b => if b ∈ p :: as then H2 b else S b, fun b => rfl⟩
  have free : ∀ b ∈ p :: as, S b = none := by
    intro b hb
    rcases List.mem_cons.mp hb with z | z
    · rw [z]; exact o.own.free
    · obtain ⟨ws, _, w⟩ := hat b z
      exact w
  have ex : Ex S S2 := fun b u e => by
    rw [hS2, if_neg fun hb => by rw [free b hb] at e; cases e]
    exact e
  have old : ∀ b, H0 b ≠ none → b ∉ p :: as := fun b hb hm => by
    rcases List.mem_cons.mp hm with z | z
    · exact hb (z ▸ h0)
    · exact hb (h1 b z)
  refine q S2 H2 ⟨g.s.trans ex, fun b u hb e => ?_, fun b u e => ?_, fun b hb => ?_, fun b n0 n1 => ?_⟩ ⟨as.map V.ref, ?_, ?_⟩ ex (fun b hb => by rw [hS2, if_neg hb]) l1
  · have n := old b (by rw [e]; simp)
    rw [l1 b fun h => n (List.mem_cons_of_mem _ h)]
    exact g.h b u hb e
  · rw [hS2] at e
    split at e
    · exact e
    · rename_i n
      rw [l1 b fun h => n (List.mem_cons_of_mem _ h)]
      exact g.sh b u e
  · have n := old b hb
    rw [l1 b fun h => n (List.mem_cons_of_mem _ h)]
    exact g.th b hb
  · rw [hS2, if_neg (old b n0), g.fr b n0 n1]
  · rw [hS2, if_pos List.mem_cons_self, l1 p o.out]; exact o.own.at_
  · have key : ∀ {bs : List Addr} {yss : List (DV α)}, All2 (fun b (x : DV α) => OwnD K S H b x.kvs) bs yss → (∀ b ∈ bs, b ∈ as) → All2 (Py.rep K S2) (bs.map V.ref) (frzM yss) := by
      intro bs yss h
      induction h with
      | nil => intro _; exact .nil
      | cons h _ ih =>
        intro hb
        obtain ⟨ws, w1, w2⟩ := h
        obtain ⟨u, od, e1, e2⟩ := l2 _ (hb _ List.mem_cons_self)
        rw [w1.at_] at e1
        cases e1
        exact .cons ⟨_, od, ws, rfl, by rw [hS2, if_pos (List.mem_cons_of_mem _ (hb _ List.mem_cons_self))]; exact e2, reld_mono ex w2⟩ (ih fun b hb' => hb b (List.mem_cons_of_mem _ hb'))
    exact key o.all fun b hb => hb
end
/-! ### a dict of a nest, by another name -/
def pmget {α : Type} (xss : List (DV α)) (j : Nat) (k : Int) (z : α) : M α := match xss[j]? with
  | some y => .ok ((dfind y.kvs k).getD z)
  | none => .stuck
section
variable {α γ : Type} [Py α] {K : Fr} {P : γ → Prop} {E : XC → Prop} {S H : Hp} {a b : Addr} {as : List Addr} {xss : List (DV α)} {Q : VK} {σ : St} {ty tx : TE}
theorem s_dg2M {j : Nat} (o : OwnM K S H a as xss) (hj : as[j]? = some b) (q : ty σ H fun y H2 => tx σ H2 fun z H3 => dget2K b Q y z H3) : dg2K ty tx σ Q (.ref b) H := by
  obtain ⟨y, r⟩ := all2_mem_l o.all b (List.mem_of_getElem? hj)
  exact s_dg2 r q
theorem s_mget2F {α : Type} [Flat α] {xss : List (DV α)} {j : Nat} {k : Int} {z : α} {f : α → M γ} (o : OwnM K S H a as xss) (hj : as[j]? = some b) (h : wpm (pmget xss j k z >>= f) P E)
    (q : ∀ x, wpm (f x) P E → Q (Flat.toV x) H) : dget2K b Q (.int k) (Flat.toV z) H := by
  unfold pmget at h
  cases e : xss[j]? with
  | none => rw [e] at h; exact h.elim
  | some y =>
    rw [e] at h
    obtain ⟨c, h1, h2, h3⟩ := o.get e
    rw [hj] at h1
    cases h1
    exact s_dget2F h3 (q _ h)
end
end G
/-! GNone: d.get(k) where k may be None; a list unpacked to five names. -/
namespace G
open PySem L2 Evl PySem.Spec PyProof.Rows
def dgetNK (a : Addr) (Q : VK) (y : V) (H2 : Hp) : Prop := (∃ o, DGet H2 a y o ∧ Q (o.getD .non) H2) ∨ ∃ kvs, y = .non ∧ Rd H2 a (.dK kvs) ∧ Q .non H2
def dgNK (ty : TE) (σ : St) (Q : VK) (x : V) (H1 : Hp) : Prop := ∃ a, x = .ref a ∧ IsD H1 a ∧ ty σ H1 fun y H2 => dgetNK a Q y H2
def tDGetN (td ty : TE) : TE := fun σ H Q => td σ H fun x H1 => dgNK ty σ Q x H1
theorem d_getN {X : Cx} {pins : List (Addr × Obj)} {σ : St} {H : Hp} {s : Shared} {a : Addr} {kvs : List (Key × V)} {A : Around} {E : Value → Shared → Prop} {Q : Value → Shared → Prop}
    (I : Inv X pins σ H s) (e : Rd H a (.dK kvs)) (h : ∀ s', Inv X pins σ H s' → Q .none s') : wpAny (model X.prog X.w) A (call (.builtin "dict.get") [.ref a, .none]) Q E s := by
  obtain ⟨_, hd, vs, _, dd⟩ := dk_rd I.hok e
  obtain ⟨f, hm, hf⟩ := none_map dd
  refine call_meetsIn PySem.F.slot_dict_get dd.typeIs PySem.F.entry_dict_get (PySem.F.args_dict_get_2 _ _) (meets_dict_get (noneKind X.prog X.w) a (show (noneKind X.prog X.w).is none .none = true from rfl) hd) ⟨f, hm, ?_⟩
  rw [hf]
  exact h _ (I.tok _)
theorem pe_dgetN {X : Cx} {o e : PySem.Expr} {apos cpos : Pos} {td ty : TE} (hu : X.A.units + 1 < cLine) (ho : PE X o td) (he : PE X e ty) (m : M1 X o "get" apos e cpos) : PE X (.Call (.Attribute o "get" apos) [e] [] cpos) (tDGetN td ty) := by
  refine ⟨fun pins s σ H Q I h => ?_⟩
  refine wpAny_Call_method m.base m.few m.line PySem.F.plainAttrs_dict PySem.F.slot_dict_get PySem.F.type_dict_get (thn (ho.run pins s σ H _ I h) fun u s1 ⟨x, H1, I1, rx, a, ex, d, q1⟩ => ?_)
  subst ex
  obtain rfl : u = Value.ref a := rx
  obtain ⟨t1, t2, _⟩ := isD_at I1 d
  refine ⟨t1, t2, ?_⟩
  rw [m.trees]
  refine Calls.callWith_builtin rfl (Calls.evalArgs_plain (Calls.spliced_cons (thn (he.run pins s1 σ H1 _ I1 q1) fun iv s2 ⟨y, H2, I2, ry, q2⟩ => Calls.spliced_nil ?_)))
  rcases q2 with ⟨ov, g, q2⟩ | ⟨kvs, ey, g, q2⟩
  · exact d_get1 hu I2 g ry fun w' s3 I3 rw' => ⟨_, H2, I3, rw', q2⟩
  · subst ey
    obtain rfl : iv = Value.none := ry
    exact d_getN I2 g fun s3 I3 => ⟨.non, H2, I3, rfl, q2⟩
section
variable {α γ : Type} {K : Fr} {P : γ → Prop} {E : XC → Prop} {S H : Hp} {a : Addr} {Q : VK} {σ : St} {td ty : TE} {gs : TGs} {Qs : St → Hp → Prop}
theorem i_dgetN (q : td σ H fun x H1 => dgNK ty σ Q x H1) : tDGetN td ty σ H Q := q
theorem s_dgN [Py α] {kvs : List (Int × α)} (o : OwnD K S H a kvs) (q : ty σ H fun y H2 => dgetNK a Q y H2) : dgNK ty σ Q (.ref a) H := ⟨a, rfl, o.isD, q⟩
theorem s_dgetNF [Flat α] {kvs : List (Int × α)} {k : Option Int} (o : OwnD K S H a kvs) (q : Q (optV (k.bind (dfind kvs))) H) : dgetNK a Q (optV k) H := by
  cases k with
  | none =>
    obtain ⟨ws, h1, h2⟩ := o
    exact .inr ⟨ws, rfl, .inl h1.at_, q⟩
  | some i =>
    exact .inl (s_dgetF o q)
/-! ### a, b, c, d, e = a list -/
def five : List Int → M (Int × Int × Int × Int × Int × Unit)
  | [a, b, c, d, e] => .ok (a, b, c, d, e, ())
  | _ => .stuck
theorem pg_unlK {X : Cx} {pos : Pos} {es : List PySem.Expr} {k : Nat} {t : TGs} {n : Nat} (hc : X.calm = true) (h : PGs X es t) (hn : (assignEach es X.env).length = n := by rfl) (hst : (assignEach es X.env).findIdx? (·.1) = none := by rfl) (e : X.K = K := by rfl) :
    PG X (.Tuple es k pos) (gUnl K n t) := e ▸ pg_unl hc h hn hst
theorem s_five {xs : List Int} {k : Int × Int × Int × Int × Int × Unit → M γ} (r : RepH K S H a xs) (h : wpm (five xs >>= k) P E)
    (q : ∀ z : Int × Int × Int × Int × Int × Unit, wpm (k z) P E → gs [.int z.1, .int z.2.1, .int z.2.2.1, .int z.2.2.2.1, .int z.2.2.2.2.1] σ H Qs) : gUnl K 5 gs (.ref a) σ H Qs := by
  obtain ⟨vs, h1, h2⟩ := r
  match xs, h2, h with
  | [x1, x2, x3, x4, x5], h2, h =>
    cases h2 with
    | cons r1 h2 => cases h2 with
      | cons r2 h2 => cases h2 with
        | cons r3 h2 => cases h2 with
          | cons r4 h2 => cases h2 with
            | cons r5 h2 =>
              cases h2
              cases r1; cases r2; cases r3; cases r4; cases r5
              exact ⟨a, _, rfl, h1, rfl, q (x1, x2, x3, x4, x5, ()) h⟩
  | [], _, h => exact h.elim
  | [_], _, h => exact h.elim
  | [_, _], _, h => exact h.elim
  | [_, _, _], _, h => exact h.elim
  | [_, _, _, _], _, h => exact h.elim
  | _ :: _ :: _ :: _ :: _ :: _ :: _, _, h => exact h.elim
end
end G
/-! GHot: a list comprehension over a range within an except suite. -/
namespace G
open PySem L2 Evl PySem.Spec PyProof.Rows
/-- the numbers from lo on, while the error at a is in hand -/
def Itx (a : Addr) (lo : Int) (n : Nat) : It := ⟨fun i _ => i < n, fun i H x H' => H' = H ∧ x = .int (lo + i), fun i H => n ≤ i ∧ ∃ cls, H a = some (ExV cls a)⟩
def iRngX (a : Addr) (ta : TA) : TI := fun σ H R => ta σ H fun vs H1 => ∃ j : Int, vs = [.int j] ∧ -(2 ^ 62) ≤ j ∧ j < 2 ^ 62 ∧ R (Itx a 0 j.toNat) H1
section
variable {X : Cx} {pins : List (Addr × Obj)} {σ : St} {H : Hp} {s : Shared}
theorem hot_at {a : Addr} {cls : Value} (I : Inv X pins σ H s) (e : H a = some (ExV cls a)) (hot : X.A.handled = some (.ref a)) : HotX.HotAt X.A a s.heap := by
  obtain ⟨⟨oe, vs, e1, e2, z⟩, _, _⟩ := I.hok a _ e
  exact ⟨hot, oe, vs, e1, e2, z.2.2 vs e2⟩
end
/-- what is known of the block's world ahead of a turn -/
structure BlkX (B : Cx) (τ : St) (W : Nat → Nat → Hp → Prop) (it : Addr) (n m : Nat) (s : Shared) (i : Nat) (H : Hp) : Prop where
  inv : Inv B [] τ H s
  itr : IsRangeIter s.heap it (0 + (i : Nat) * 1) ((n : Int) - (i : Nat)) 1
  off : H it = none
  word : W i m H
/-- a range's iterator has come, the error at a in hand -/
structure PIX (X : Cx) (a : Addr) (iter : PySem.Expr) (wi : TI) : Prop where
  run : ∀ (pins : List (Addr × Obj)) (s : Shared) (σ : St) (H : Hp) (R : It → Hp → Prop), Inv X pins σ H s → wi σ H R →
    wpAny (model X.prog X.w) X.A (eval iter X.env) (fun v s1 => wpAny (model X.prog X.w) X.A (pyIter v) (fun itv s2 =>
      ∃ (it : Addr) (n : Nat) (H1 : Hp), itv = .ref it ∧ Inv X pins σ H1 s2 ∧ IsRangeIter s2.heap it 0 n 1 ∧ FpOk X pins H1 it ∧ R (Itx a 0 n) H1) X.xe s1) X.xe s
theorem pi_range1X {X : Cx} {a : Addr} {e0 : PySem.Expr} {p pos1 : Pos} {ta : TA} (gl : Gl X "range") (ml : X.mg "range" = none) (args : PA X [e0] ta) (st1 : starEach [e0] X.env = [(false, eval e0 X.env)] := by rfl) :
    PIX X a (.Call (.Name "range" p) [e0] [] pos1) (iRngX a ta) := by
  constructor
  intro pins s σ H R I told
  refine Call_ (ld_blt I gl ml boot_range (PyProof.Rows.callWith_type1 (thn (args.run pos1 pins s σ H _ I told) ?_) st1 rfl))
  rintro us s1 ⟨vs, H1, I1, r1, j, rfl, lo, hi, q⟩
  cases r1 with
  | cons r rr =>
  cases rr
  obtain ⟨t, rfl⟩ := r
  apply call_range_1
  apply wpAny_pyIter_range (IsRange.new ..) (small_one (by omega) (by omega) lo hi)
  -- the range and its iterator stand
  generalize hr : ({ s1 with heap := s1.heap.push { cls := .type "range", data := .fields #[.int 0 s1.toks, .int j t, .int 1 (s1.toks + 1)] }, toks := s1.toks + 1 + 1 } : Shared) = sr
  have Ir : Inv X pins σ H1 sr := by
    rw [← hr]
    exact I1.kept fun b o e => Heap.get?_push_of_some _ e
  have size : Builtin.Range.rangeSize 0 j 1 = (j.toNat : Int) := by rw [rangeSize_one]; split <;> omega
  refine ⟨_, j.toNat, H1, rfl, Ir.kept (t' := sr.toks) fun b o e => Heap.get?_push_of_some _ e, ?_, Ir.fpOk (Nat.le_refl _) (Ir.hok.fresh (Nat.le_refl _)), q⟩
  rw [← size]
  exact Heap.get?_push_size _ rfl
theorem pe_lcX {X : Cx} {a : Addr} {elt tg iter : PySem.Expr} {scope : Scope} {own : List (PySem.Str × Nat)} {pos : Pos} {wi : TI} {g : TG} {te : TE}
    (nd : X.N.Nodup) (ok : BlkOk X.N X.env.scope scope own)
    (hg : ∀ (s : Shared) (H : Hp) (C : Addr) (cl : List (PySem.Str × Addr)) (fp : List Addr), PG (X.blk s H scope (compEnvC scope cl C X.env) fp) tg g)
    (he : ∀ (s : Shared) (H : Hp) (C : Addr) (cl : List (PySem.Str × Addr)) (fp : List Addr), PE (X.blk s H scope (compEnvC scope cl C X.env) fp) elt te)
    (it0 : PIX X a iter wi) (hot : X.A.handled = some (.ref a) := by rfl) (plain : ∀ x, foldedSetIterable iter X.env x = pure x := by intro _; rfl) :
    PE X (.ListComp elt [⟨tg, iter, [], 0⟩] scope pos) (tLc wi g tYes te (own.map (·.2))) := by
  constructor
  intro pins s σ H Q I told
  rw [eval_ListComp]
  have clos : ∀ y ∈ scope.names, y.2 = .free → ∃ c, X.env.cells.lookup y.1 = some c := by
    intro y hy e
    have := ok.free y hy e
    exact I.ok.has _ this
  apply wpAny_comprehension_free (use := none) rfl plain (closure_ok clos) ok.kind (fun y hy e => by rw [ok.uniq y hy, e])
  refine thn (it0.run pins s σ H _ I told) fun v s1 hv => thn hv ?_
  rintro _ u0 ⟨it, n, H1, rfl, Iu, itu, fpu, q⟩
  have szu : it < u0.heap.objs.size := Heap.lt_size itu
  refine wpAny_newObj_type (newEnv_comp ?_) (by show 0 ≤ sizeLine; decide)
  -- the new list stands at D
  generalize hD : u0.heap.objs.size = D
  have free : H1 D = none := Iu.hok.fresh (Nat.le_of_eq hD)
  obtain ⟨W, ⟨m0, w0⟩, turn⟩ := q D free
  have neD : it ≠ D := by rw [← hD]; exact Nat.ne_of_lt szu
  generalize hl : ({ u0 with heap := u0.heap.push { cls := .type "list", data := .seq ([] : List Value).toArray } } : Shared) = u1
  have I2 : Inv X pins σ (upd H1 D (.lst [])) u1 := by
    rw [← hl]
    refine Iu.laid (t' := u0.toks) (fun b o e => Heap.get?_push_of_some _ e) (Nat.le_of_eq hD) ⟨Nat.zero_le _, [], 0, .nil, ?_⟩
    rw [← hD]; exact Heap.get?_push_size _ rfl
  have it1 : IsRangeIter u1.heap it 0 n 1 := by rw [← hl]; exact Heap.get?_push_of_some _ itu
  have fp1 : ∀ b ∈ [it], FpOk X pins (upd H1 D (.lst [])) b ∧ b < u1.heap.objs.size := by
    intro b hb
    obtain rfl := List.mem_singleton.mp hb
    refine ⟨⟨?_, fpu.2⟩, Heap.lt_size it1⟩
    rw [upd_ne neD]; exact fpu.1
  have B0 := block_start I2 ok nd fp1
  have kg := hg u1 (upd H1 D (.lst [])) u1.heap.objs.size (cellsFrom (u1.heap.objs.size + 1) scope.names (cloFrom X.env.cells scope.names [])) [it]
  have ke := he u1 (upd H1 D (.lst [])) u1.heap.objs.size (cellsFrom (u1.heap.objs.size + 1) scope.names (cloFrom X.env.cells scope.names [])) [it]
  have noff : upd H1 D (.lst []) it = none := (fp1 it List.mem_cons_self).1.1
  show codeAny _ _ (.compStart (.ListComp elt [⟨tg, iter, [], 0⟩] scope pos) 0 (.ref it) (.ref D) (compEnvC scope (cellsFrom (u1.heap.objs.size + 1) scope.names (cloFrom X.env.cells scope.names [])) u1.heap.objs.size X.env)) (compPost (model X.prog X.w) X.A X.xe none (EP X pins σ Q) (.ref D) u1.heap.objs.size) { u1 with heap := pushCells (u1.heap.push { cls := .type "dict", data := .dict #[] }) scope.names }
  have outer := I2.fpOk (H' := upd H1 D (.lst [])) (Nat.le_refl _) (I2.hok.fresh (Nat.le_refl _))
  generalize hce : compEnvC scope (cellsFrom (u1.heap.objs.size + 1) scope.names (cloFrom X.env.cells scope.names [])) u1.heap.objs.size X.env = ce at B0 kg ke ⊢
  have local_ : ce.locals = u1.heap.objs.size := by rw [← hce]; rfl
  generalize hH : upd H1 D (.lst []) = H2 at I2 fp1 B0 kg ke noff w0 outer
  generalize hs : ({ u1 with heap := pushCells (u1.heap.push { cls := .type "dict", data := .dict #[] }) scope.names } : Shared) = u2 at B0 ⊢
  have it2 : IsRangeIter u2.heap it 0 n 1 := by rw [← hs]; exact pushCells_keeps _ _ _ _ (Heap.get?_push_of_some _ it1)
  -- the iterator's object, in the block's eyes
  have eye : ∀ {τ : St} {H' : Hp} {s' : Shared}, Inv (X.blk u1 H2 scope ce [it]) [] τ H' s' → H' it = none → FpOk (X.blk u1 H2 scope ce [it]) [] H' it := by
    intro τ H' s' J hn'
    have mem : it ∈ (X.blk u1 H2 scope ce [it]).ex := List.mem_singleton.mpr rfl
    exact ⟨hn', (J.ok.exf it mem).1, J.ok.exfs it mem, .inl mem, fun x c e => (J.ok.exf it mem).2 x c e, fun p hp => by cases hp⟩
  have first : BlkX (X.blk u1 H2 scope ce [it]) (wipe σ (own.map (·.2))) W it n m0 u2 0 H2 := ⟨B0, by simpa using it2, noff, w0⟩
  have loop : codeAny (model X.prog X.w) X.A (.compLoop (.ListComp elt [⟨tg, iter, [], 0⟩] scope pos) 0 (.ref it) (.ref D) ce) (compPost (model X.prog X.w) X.A X.xe none (EP X pins σ Q) (.ref D) u1.heap.objs.size) u2 := by
    refine compLoop_any (fun m s' => ∃ i H', BlkX (X.blk u1 H2 scope ce [it]) (wipe σ (own.map (·.2))) W it n m s' i H') ?_ m0 ⟨0, H2, first⟩
    rintro m s5 ⟨i, H5, b⟩
    rcases turn i m H5 b.word with ⟨⟨hle, cls, inh⟩, done⟩ | ⟨hlt, Nx, small, step⟩
    · -- the end: StopIteration is raised while the error is in hand
      have hat := hot_at b.inv inh hot
      refine HotX.pyNext_range_end_hot hat b.itr (by omega) fun h' keep => ?_
      have J : Inv (X.blk u1 H2 scope ce [it]) [] (wipe σ (own.map (·.2))) H5 { s5 with heap := h' } := b.inv.kept (t' := s5.toks) keep
      have out : Inv X pins σ H5 { s5 with heap := h' } := I2.call' (ch := [it]) J.os J.base J.hok J.bare (by
        intro c hc
        obtain ⟨q1, q2⟩ := fp1 c hc
        exact ⟨q1.2.2.2.1, q1.2.1, q1.2.2.2.2.1, q1.2.2.2.2.2⟩)
      obtain ⟨k, names, _⟩ := J.loc
      have names : ({ s5 with heap := h' } : Shared).heap.Ns ce.locals k := names
      have none_ : H5 u1.heap.objs.size = none := by
        have z : H5 ce.locals = none := J.free
        rwa [local_] at z
      rw [local_] at names
      refine ⟨k, names, fun h2 same => ⟨.ref D, H5, ?_, rfl, done⟩⟩
      have own1 := I2.fpOk (Nat.le_refl _) none_
      exact out.turned (t' := s5.toks) (fun c o hc e => (same.2 c hc).trans e) own1.1 own1.2.1 own1.2.2.2.1 own1.2.2.2.2.1 own1.2.2.2.2.2
    · -- a turn
      have hlt : i < n := hlt
      have f5 := eye b.inv b.off
      refine wpAny_pyNext_range_item b.itr (by omega) fun h' st' same => ?_
      have J : Inv (X.blk u1 H2 scope ce [it]) [] (wipe σ (own.map (·.2))) H5 { s5 with heap := h', toks := s5.toks + 1 } :=
        b.inv.turned (fun c o hc e => (same.2 c hc).trans e) f5.1 f5.2.1 f5.2.2.2.1 f5.2.2.2.2.1 f5.2.2.2.2.2
      have st6 : IsRangeIter h' it (0 + ((i + 1 : Nat) : Int) * 1) ((n : Int) - ((i + 1 : Nat) : Int)) 1 := by
        have e1 : (0 : Int) + (i : Nat) * 1 + 1 = 0 + ((i + 1 : Nat) : Int) * 1 := by omega
        have e2 : (n : Int) - (i : Nat) - 1 = (n : Int) - ((i + 1 : Nat) : Int) := by omega
        rw [e1, e2] at st'
        exact st'
      refine go_of (s := { s5 with heap := h', toks := s5.toks + 1 }) (n := "range_iterator") st6 rfl rfl (by decide) ?_
      have P := J.pinned (fp := [it]) (fun c hc => by obtain rfl := List.mem_singleton.mp hc; exact eye J b.off) (fun c hc => by
        obtain rfl := List.mem_singleton.mp hc
        exact ⟨_, st6, fun v z => by
          have z : Data.fields _ = Data.cell v := z
          cases z⟩)
      have value : RelV (.int (0 + (i : Int))) (.int (0 + (i : Nat) * 1) s5.toks) := ⟨s5.toks, by rw [Int.mul_one]⟩
      refine thnF (kg.run _ _ _ H5 _ _ _ P value (step _ H5 ⟨rfl, rfl⟩)) ?_
      rintro _ s7 ⟨σ7, H7, I7, same7, q7⟩
      refine wpAny_tests_nil ?_
      rw [if_pos rfl]
      have q7 : te σ7 H7 _ := q7
      refine thnF (ke.run _ s7 σ7 H7 _ I7 q7) ?_
      rintro z s8 ⟨y, H8, I8, r8, acc, at8, short, nx⟩
      refine app_ok (X := X.blk u1 H2 scope ce [it]) I8 at8 short r8 fun s9 I9 => ?_
      obtain ⟨m', lt, w'⟩ := small _ nx
      have pin : s9.heap.get? it = _ ∧ _ := I9.pin (it, _) (List.mem_append_right _ (List.mem_append_right _ (mem_pinsAt List.mem_cons_self st6)))
      have len9 : (wipe σ (own.map (·.2))).length = σ7.length := by rw [← same7, wipe_length]
      refine ⟨m', lt, i + 1, _, ?_, ?_, ?_, w'⟩
      · refine (I9.unpinned (pins := [])).weak len9 fun k v e => ?_
        rw [← same7] at e
        exact (wipe_some e).1
      · exact pin.1
      · exact pin.2.1
  exact codeAny_compStart_list loop (wpAny_pyIter_rangeiter it2 loop)
def rngXK (a : Addr) (R : It → Hp → Prop) (vs : List V) (H1 : Hp) : Prop := ∃ j : Int, vs = [.int j] ∧ -(2 ^ 62) ≤ j ∧ j < 2 ^ 62 ∧ R (Itx a 0 j.toNat) H1
section
variable {γ : Type} {P : γ → Prop} {E : XC → Prop} {K : Fr} {σ : St} {S H : Hp} {ta : TA} {R : It → Hp → Prop} {a : Addr}
theorem i_rngX (q : ta σ H fun vs H1 => rngXK a R vs H1) : iRngX a ta σ H R := q
theorem i_rngXA {hi : Int} {k : List Int → M γ} (h : wpm (prng 0 hi >>= k) P E) (q : wpm (k (rng 0 hi)) P E → R (Itx a 0 (hi - 0).toNat) H) : rngXK a R [.int hi] H := by
  unfold prng at h
  obtain ⟨⟨_, _, h3, h4⟩, h⟩ := wpm_ite h
  refine ⟨hi, rfl, h3, h4, ?_⟩
  have := q h
  rwa [Int.sub_zero] at this
theorem wk_rngX {τ : Type} {R : τ → St → Hp → Hp → Prop} {lo hi : Int} (hR : ∀ s σ S H, R s σ S H → Ex S H ∧ ∃ cls, S a = some (ExV cls a)) : Wk K (Itx a lo (hi - lo).toNat) (rng lo hi) R where
  go i s σ S H h hi := by rw [rng_len] at hi; exact hi
  st s σ S H h := by
    obtain ⟨e, cls, hx⟩ := hR s σ S H h
    exact ⟨by rw [rng_len]; exact Nat.le_refl _, cls, e _ _ hx⟩
  yl i y s σ S H v H' h hy hv := by
    obtain ⟨rfl, rfl⟩ := hv
    exact ⟨S, Gx.refl (hR s σ S _ h).1, by rw [rng_get hy]; rfl⟩
theorem exc_there {v : V} {x : XC} (r : Py.rep K S v x) : ∃ a cls, v = .ref a ∧ S a = some (ExV cls a) := by
  obtain ⟨a, h1, h2⟩ := r
  exact ⟨a, _, h1, h2⟩
theorem exc_at {x : XC} (r : Py.rep K S (.ref a) x) : ∃ cls, S a = some (ExV cls a) := by
  obtain ⟨b, cls, e, h⟩ := exc_there r
  cases e
  exact ⟨cls, h⟩
end
theorem passLN {X : Cx} : Passes (L2N.CX X.prog X.w) X E0 := by
  intro pins σ H s e s' I c
  obtain ⟨_, _, _, _, _, _, _, _, _, _, _, _, no⟩ := c
  exact no.elim
end G
namespace G
open PySem L2 Evl RZ
def m_walk_of (parents : List (Option Int)) : M (List Int) :=
  forM' (en 0 parents) (List.replicate parents.length ([] : List (Int))) (fun y6 st6 => if (!y6.2.1.isNone) = true then (unwrap y6.2.1 >>= fun t15 => pnapp st6 t15 y6.1 >>= fun t18 => .ok t18) else (.ok st6)) >>= fun st6 => pidx parents (none : Option Int) >>= fun t19 => whileM fuelW (([t19] : List Int), ([] : List (Int))) (fun st26 => .ok (!decide (st26.1 = ([] : List Int)))) (fun st26 => ppop st26.1 >>= fun t32 => papp st26.2 t32.1 >>= fun _ => idx st6 t32.1 >>= fun t36 => pcat t32.2 t36.reverse >>= fun _ => .ok ((t32.2 ++ t36.reverse), (st26.2 ++ [t32.1]))) >>= fun st26 => .ok st26.2

def m_need_tree (parents : List (Option Int)) : M Unit :=
  compM (β := Option Int) parents (fun y1 => (if (!y1.isNone) = true then (unwrap y1 >>= fun t7 => .ok (!(decide (0 ≤ t7) && decide (t7 < (parents.length : Int))))) else .ok false) >>= fun t4 => if t4 = true then (.ok (some y1)) else .ok none) >>= fun t10 => (if (!decide (t10 = ([] : List (Option Int)))) = true then .ok true else (compM (β := Option Int) parents (fun y22 => if (y22.isNone) = true then (.ok (some y22)) else .ok none) >>= fun t24 => .ok (!decide ((t24.length : Int) = 1)))) >>= fun t19 => if t19 = true then (.err .tree) else (m_walk_of parents >>= fun t29 => if (!decide ((t29.length : Int) = (parents.length : Int))) = true then (.err .tree) else (.ok ()))

def m_need (truth : Bool) : M Unit :=
  if (!truth) = true then (.err .text) else (.ok ())

def m_number_in (word : PySem.Str) : M Int :=
  guardM (decide (word.length ≤ line)) >>= fun _ => (if (decide (1 ≤ (word.length : Int)) && decide ((word.length : Int) ≤ 30)) = true then (guardM (decide (((signs word)).length ≤ line)) >>= fun _ => compM (β := PySem.Str) (signs word) (fun y6 => if (!PySem.Txt.contains (PySem.Str.ofString "0123456789") y6) = true then (.ok (some y6)) else .ok none) >>= fun t8 => .ok (decide (t8 = ([] : List (PySem.Str))))) else .ok false) >>= fun t3 => m_need t3 >>= fun t15 => (if (decide (word = (PySem.Str.ofString "0"))) = true then .ok true else (pfit word >>= fun _ => sitem word 0 >>= fun t23 => .ok (!decide (t23 = (PySem.Str.ofString "0"))))) >>= fun t20 => m_need t20 >>= fun t24 => pint word >>= fun t27 => .ok t27

def m_hue_in (word : PySem.Str) : M Int :=
  pfit word >>= fun _ => if (!decide ((cutS word none (some 1)) = (PySem.Str.ofString "-"))) = true then (m_number_in word >>= fun t2 => .ok t2) else (m_need (!decide (word = (PySem.Str.ofString "-0"))) >>= fun t5 => pfit word >>= fun _ => m_number_in (cutS word (some 1) none) >>= fun t8 => .ok (0 - t8))

def m_read_tree (text : PySem.Str) : M (List (Option Int) × List Int × Unit) :=
  psplit text (PySem.Str.ofString " ") >>= fun _ => forM' (PySem.Txt.split text (PySem.Str.ofString " ")) (([] : List (Option Int)), ([] : List Int)) (fun y7 st7 => ppart y7 (PySem.Str.ofString ":") >>= fun _ => m_need (!decide (((tpart y7 (PySem.Str.ofString ":")).2.1) = (PySem.Str.ofString ""))) >>= fun t22 => (if (decide (((tpart y7 (PySem.Str.ofString ":")).1) = (PySem.Str.ofString "-"))) = true then (.ok (none : Option Int)) else (m_number_in ((tpart y7 (PySem.Str.ofString ":")).1) >>= fun t26 => .ok (some t26))) >>= fun t29 => papp st7.1 t29 >>= fun _ => m_hue_in ((tpart y7 (PySem.Str.ofString ":")).2.2.1) >>= fun t36 => papp st7.2 t36 >>= fun _ => .ok ((st7.1 ++ [t29]), (st7.2 ++ [t36]))) >>= fun st7 => m_need_tree st7.1 >>= fun t43 => .ok (st7.1, st7.2, ())

def m_law_stir (cell : Int) (k : Int) : M Int :=
  if (decide (1000000000000000000 ≤ cell)) = true then (pshr (cell - 1000000000000000000) (16 * k) >>= fun _ => .ok (((cell - 1000000000000000000) / 2 ^ ((16 * k)).toNat) % 65536)) else (pmul (((((cell % 2147483629) + (1013 * k)) + 1) * 16807) % 2147483647) (((((cell % 2147483629) + (1013 * k)) + 1) * 16807) % 2147483647) >>= fun _ => .ok (((((((((((cell % 2147483629) + (1013 * k)) + 1) * 16807) % 2147483647) * (((((cell % 2147483629) + (1013 * k)) + 1) * 16807) % 2147483647)) % 2147483629) * 39373) % 2147483587) / 8) % 65536))

def m_law_cells (script : List Int) (many : Int) : M (List Int) :=
  pcat (cut script none (some many)) ([0] : List Int) >>= fun _ => .ok (cut ((cut script none (some many)) ++ ([0] : List Int)) none (some (max 1 (min many (script.length : Int)))))

def m_law_order (cell : Int) (base : Int) (many : Int) : M (List Int) :=
  prng 0 many >>= fun _ => forM' (rng 0 many) ([] : List (Int)) (fun y4 st4 => m_law_stir cell (base + y4) >>= fun t5 => pmod t5 (y4 + 1) >>= fun _ => pins st4 (t5 % (y4 + 1)) y4 >>= fun _ => .ok (st4.take ((t5 % (y4 + 1))).toNat ++ [y4] ++ st4.drop ((t5 % (y4 + 1))).toNat)) >>= fun st4 => .ok st4

def m_law_tree (cell : Int) (most : Int) : M (List (Option Int)) :=
  m_law_stir cell 0 >>= fun t1 => m_law_stir cell 1 >>= fun t7 => idx ([4, 12, 40, most] : List Int) (t7 % 4) >>= fun t10 => pmod t1 t10 >>= fun _ => m_law_stir cell 2 >>= fun t11 => plrg 0 (min most (1 + (t1 % t10))) >>= fun _ => (m_law_stir cell 4 >>= fun t18 => if (decide (0 < (t18 % 3))) = true then (m_law_order cell 220 (min most (1 + (t1 % t10))) >>= fun t22 => .ok t22) else (.ok (rng 0 (min most (1 + (t1 % t10))))) : M ((List Int))) >>=  fun st17 => prep ([(none : Option Int)] : List (Option Int)) (min most (1 + (t1 % t10))) >>= fun _ => prng 1 (min most (1 + (t1 % t10))) >>= fun _ => forM' (rng 1 (min most (1 + (t1 % t10)))) ((List.replicate ((min most (1 + (t1 % t10))) : Int).toNat ([(none : Option Int)] : List (Option Int))).flatten) (fun y34 st34 => m_law_stir cell (10 + y34) >>= fun t35 => pmod t35 y34 >>= fun _ => idx ([(y34 - 1), 0, (t35 % y34), (max 0 ((y34 - 1) - (t35 % 3))), ((y34 - 1) / 2), (max 0 (y34 - 2))] : List Int) (t11 % 6) >>= fun t41 => idx st17 t41 >>= fun t42 => idx st17 y34 >>= fun t43 => pset st34 t43 (some t42) >>= fun t44 => .ok t44) >>= fun st34 => .ok st34

def m_law_hues (cell : Int) (many : Int) : M (List Int) :=
  m_law_stir cell 3 >>= fun t1 => prng 0 many >>= fun _ => forM' (rng 0 many) ([] : List Int) (fun y7 st7 => m_law_stir cell (430 + y7) >>= fun t8 => pmul (t8 - 32768) 10000000000000000000000000 >>= fun _ => idx ([(t8 % 2), ((t8 % 9) - 4), ((t8 - 32768) * 10000000000000000000000000), ((7 * y7) - 50), (t8 % 60)] : List Int) (t1 % 5) >>= fun t14 => papp st7 t14 >>= fun _ => .ok (st7 ++ [t14])) >>= fun st7 => .ok st7

def m_law_same : Nat → PyData → PyData → M Bool
  | 0 => fun _ _ => .stuck
  | fuel + 1 => fun found due => if (dNone due) = true then (.ok (dNone found)) else (if (dIs "str" due) = true then ((if (dIs "str" found) = true then (deq found due >>= fun t8 => .ok t8) else .ok false) >>= fun t5 => .ok t5) else (if (dIs "list" due || dIs "tuple" due) = true then ((if (!decide ((dIs "list" found) = (dIs "list" due))) = true then .ok true else (.ok (!(dIs "list" found || dIs "tuple" found)))) >>= fun t14 => if t14 = true then (.ok false) else (dlen found >>= fun t20 => dlen due >>= fun t21 => if (!decide (t20 = t21)) = true then (.ok false) else (dzip found due >>= fun zs25 => guardM (decide ((zs25).length ≤ line)) >>= fun _ => compM (β := Int) zs25 (fun y23 => noerr (m_law_same fuel y23.1 y23.2.1) >>= fun t34 => if (!t34) = true then (.ok (some 1)) else .ok none) >>= fun t38 => .ok (decide (t38 = ([] : List Int)))))) else ((if (dIs "int" found) = true then ((if (!(dIs "bool" found)) = true then (deq found due >>= fun t55 => .ok t55) else .ok false) >>= fun t52 => .ok t52) else .ok false) >>= fun t47 => .ok t47)))

def m_law_flags (e : XC) : M (List Bool) :=
  pcat ([(xcSub e .tree), (xcSub e .hues), (xcSub e .place), (xcSub e .part)] : List Bool) ([(xcSub e .number), (xcSub e .leaf), (xcSub e .text), (xcSub e .form)] : List Bool) >>= fun _ => pcat (([(xcSub e .tree), (xcSub e .hues), (xcSub e .place), (xcSub e .part)] : List Bool) ++ ([(xcSub e .number), (xcSub e .leaf), (xcSub e .text), (xcSub e .form)] : List Bool)) ([(xcSub e .yet), (!true)] : List Bool) >>= fun _ => .ok ((([(xcSub e .tree), (xcSub e .hues), (xcSub e .place), (xcSub e .part)] : List Bool) ++ ([(xcSub e .number), (xcSub e .leaf), (xcSub e .text), (xcSub e .form)] : List Bool)) ++ ([(xcSub e .yet), (!true)] : List Bool))

def m_law_is_tree (parents : List (Option Int)) : M Bool :=
  compM (β := Int) parents (fun y1 => if (y1.isNone) = true then (.ok (some 1)) else .ok none) >>= fun t3 => if (!decide (t3 = ([1] : List Int))) = true then (.ok false) else (prng 0 (parents.length : Int) >>= fun _ => forR (ρ := Bool) (rng 0 (parents.length : Int)) () (fun y11 st11 => prng 0 (parents.length : Int) >>= fun _ => forM' (rng 0 (parents.length : Int)) (some y11) (fun y12 st12 => (if (!st12.isNone) = true then (unwrap st12 >>= fun t18 => (if (decide (0 ≤ t18) && decide (t18 < (parents.length : Int))) = true then (unwrap st12 >>= fun t25 => idx parents t25 >>= fun t27 => .ok (!t27.isNone)) else .ok false) >>= fun t22 => .ok t22) else .ok false) >>= fun t15 => if t15 = true then (unwrap st12 >>= fun t29 => idx parents t29 >>= fun t31 => .ok t31) else (.ok st12)) >>= fun st12 => unwrap st12 >>= fun t32 => (if (!(decide (0 ≤ t32) && decide (t32 < (parents.length : Int)))) = true then .ok true else (unwrap st12 >>= fun t39 => idx parents t39 >>= fun t41 => .ok (!t41.isNone))) >>= fun t36 => if t36 = true then (.ok (.inl false)) else (.ok (.inr ()))) >>= fun z11 => kR z11 fun st11 => .ok true)

def m_law_text (parents : List (Option Int)) (hues : List Int) : M (PySem.Str) :=
  forM' (zp parents hues) ([] : List (PySem.Str)) (fun y4 st4 => postr y4.1 >>= fun _ => idx ([PySem.Str.ofString "-", (ostr y4.1)] : List (PySem.Str)) (bint (!y4.1.isNone)) >>= fun t15 => pcats t15 (PySem.Str.ofString ":") >>= fun t16 => pistr y4.2.1 >>= fun _ => pcats t16 (istr y4.2.1) >>= fun t17 => papp st4 t17 >>= fun _ => .ok (st4 ++ [t17])) >>= fun st4 => pjoin (PySem.Str.ofString " ") st4 >>= fun _ => .ok (PySem.Txt.join (PySem.Str.ofString " ") st4)

def m_law_sign (cell : Int) (k : Int) : M (PySem.Str) :=
  pcats (PySem.Str.ofString " !\"#$&'()*+,-./0123456789:;<=>?@ABCDEFGHIJKLMNOP") (PySem.Str.ofString "QRSTUVWXYZ[\\]^_`abcdefghijklmnopqrstuvwxyz{|}~\n") >>= fun t1 => m_law_stir cell k >>= fun t5 => idx ([PySem.Str.ofString "0019 --::", t1] : List (PySem.Str)) (t5 % 2) >>= fun t8 => m_law_stir cell (k + 1) >>= fun t9 => guardM (decide (t8.length ≤ line)) >>= fun _ => pmod t9 (t8.length : Int) >>= fun _ => pfit t8 >>= fun _ => sitem t8 (t9 % (t8.length : Int)) >>= fun t12 => .ok t12

def m_law_spoilt (cell : Int) (k : Int) (text : PySem.Str) : M (PySem.Str) :=
  m_law_stir cell k >>= fun t1 => guardM (decide (text.length ≤ line)) >>= fun _ => pmod t1 ((text.length : Int) + 1) >>= fun _ => m_law_stir cell (k + 1) >>= fun t4 => psplit text (PySem.Str.ofString " ") >>= fun _ => m_law_stir cell (k + 2) >>= fun t10 => pmod t10 ((PySem.Txt.split text (PySem.Str.ofString " ")).length : Int) >>= fun _ => m_law_stir cell (k + 3) >>= fun t13 => pmod t13 ((PySem.Txt.split text (PySem.Str.ofString " ")).length : Int) >>= fun _ => pcat ([PySem.Str.ofString "-:0", PySem.Str.ofString "0:-0", PySem.Str.ofString "0:00", PySem.Str.ofString "00:0", PySem.Str.ofString "0:01", PySem.Str.ofString "01:0", PySem.Str.ofString "-1:0", PySem.Str.ofString "0:-1", PySem.Str.ofString "0:+1", PySem.Str.ofString "+0:1", PySem.Str.ofString "", PySem.Str.ofString ":", PySem.Str.ofString "0:", PySem.Str.ofString ":0", PySem.Str.ofString "-:"] : List (PySem.Str)) ([PySem.Str.ofString "--:0", PySem.Str.ofString "-:--1", PySem.Str.ofString "0", PySem.Str.ofString "0:1:2", PySem.Str.ofString "0:1_0", PySem.Str.ofString "0:1.", PySem.Str.ofString "x:0", PySem.Str.ofString "0:x", PySem.Str.ofString "none:0", PySem.Str.ofString "7:7", PySem.Str.ofString "999:1", PySem.Str.ofString "200:0"] : List (PySem.Str)) >>= fun _ => pmuls (PySem.Str.ofString "9") 30 >>= fun _ => pcats (PySem.Str.ofString "0:") (PySem.Txt.mul (PySem.Str.ofString "9") 30) >>= fun t26 => pmuls (PySem.Str.ofString "9") 31 >>= fun _ => pcats (PySem.Str.ofString "0:") (PySem.Txt.mul (PySem.Str.ofString "9") 31) >>= fun t27 => pmuls (PySem.Str.ofString "9") 30 >>= fun _ => pcats (PySem.Str.ofString "0:-") (PySem.Txt.mul (PySem.Str.ofString "9") 30) >>= fun t28 => pmuls (PySem.Str.ofString "9") 31 >>= fun _ => pcats (PySem.Str.ofString "0:-") (PySem.Txt.mul (PySem.Str.ofString "9") 31) >>= fun t29 => pcat (([PySem.Str.ofString "-:0", PySem.Str.ofString "0:-0", PySem.Str.ofString "0:00", PySem.Str.ofString "00:0", PySem.Str.ofString "0:01", PySem.Str.ofString "01:0", PySem.Str.ofString "-1:0", PySem.Str.ofString "0:-1", PySem.Str.ofString "0:+1", PySem.Str.ofString "+0:1", PySem.Str.ofString "", PySem.Str.ofString ":", PySem.Str.ofString "0:", PySem.Str.ofString ":0", PySem.Str.ofString "-:"] : List (PySem.Str)) ++ ([PySem.Str.ofString "--:0", PySem.Str.ofString "-:--1", PySem.Str.ofString "0", PySem.Str.ofString "0:1:2", PySem.Str.ofString "0:1_0", PySem.Str.ofString "0:1.", PySem.Str.ofString "x:0", PySem.Str.ofString "0:x", PySem.Str.ofString "none:0", PySem.Str.ofString "7:7", PySem.Str.ofString "999:1", PySem.Str.ofString "200:0"] : List (PySem.Str))) ([t26, t27, t28, t29] : List (PySem.Str)) >>= fun _ => pmuls (PySem.Str.ofString "9") 30 >>= fun _ => pcats (PySem.Txt.mul (PySem.Str.ofString "9") 30) (PySem.Str.ofString ":0") >>= fun t37 => pmuls (PySem.Str.ofString "9") 31 >>= fun _ => pcats (PySem.Txt.mul (PySem.Str.ofString "9") 31) (PySem.Str.ofString ":0") >>= fun t38 => pcat ((([PySem.Str.ofString "-:0", PySem.Str.ofString "0:-0", PySem.Str.ofString "0:00", PySem.Str.ofString "00:0", PySem.Str.ofString "0:01", PySem.Str.ofString "01:0", PySem.Str.ofString "-1:0", PySem.Str.ofString "0:-1", PySem.Str.ofString "0:+1", PySem.Str.ofString "+0:1", PySem.Str.ofString "", PySem.Str.ofString ":", PySem.Str.ofString "0:", PySem.Str.ofString ":0", PySem.Str.ofString "-:"] : List (PySem.Str)) ++ ([PySem.Str.ofString "--:0", PySem.Str.ofString "-:--1", PySem.Str.ofString "0", PySem.Str.ofString "0:1:2", PySem.Str.ofString "0:1_0", PySem.Str.ofString "0:1.", PySem.Str.ofString "x:0", PySem.Str.ofString "0:x", PySem.Str.ofString "none:0", PySem.Str.ofString "7:7", PySem.Str.ofString "999:1", PySem.Str.ofString "200:0"] : List (PySem.Str))) ++ ([t26, t27, t28, t29] : List (PySem.Str))) ([t37, t38] : List (PySem.Str)) >>= fun _ => if (decide ((t4 % 8) = 0)) = true then (pfit text >>= fun _ => pfit text >>= fun _ => pcats (cutS text none (some (t1 % ((text.length : Int) + 1)))) (cutS text (some ((t1 % ((text.length : Int) + 1)) + 1)) none) >>= fun t47 => .ok t47) else (if (decide ((t4 % 8) < 3)) = true then (pfit text >>= fun _ => m_law_sign cell (k + 4) >>= fun t49 => pcats (cutS text none (some (t1 % ((text.length : Int) + 1)))) t49 >>= fun t52 => pfit text >>= fun _ => pcats t52 (cutS text (some (((t1 % ((text.length : Int) + 1)) + (t4 % 8)) - 1)) none) >>= fun t53 => .ok t53) else ((if (decide ((t4 % 8) = 3)) = true then (ppopi (PySem.Txt.split text (PySem.Str.ofString " ")) (t10 % ((PySem.Txt.split text (PySem.Str.ofString " ")).length : Int)) >>= fun t57 => .ok t57.2) else (if (decide ((t4 % 8) = 4)) = true then (idx (PySem.Txt.split text (PySem.Str.ofString " ")) (t10 % ((PySem.Txt.split text (PySem.Str.ofString " ")).length : Int)) >>= fun t61 => pins (PySem.Txt.split text (PySem.Str.ofString " ")) (t13 % ((PySem.Txt.split text (PySem.Str.ofString " ")).length : Int)) t61 >>= fun _ => .ok ((PySem.Txt.split text (PySem.Str.ofString " ")).take ((t13 % ((PySem.Txt.split text (PySem.Str.ofString " ")).length : Int))).toNat ++ [t61] ++ (PySem.Txt.split text (PySem.Str.ofString " ")).drop ((t13 % ((PySem.Txt.split text (PySem.Str.ofString " ")).length : Int))).toNat)) else (if (decide ((t4 % 8) = 5)) = true then (m_law_stir cell (k + 6) >>= fun t64 => pmod t64 ((((([PySem.Str.ofString "-:0", PySem.Str.ofString "0:-0", PySem.Str.ofString "0:00", PySem.Str.ofString "00:0", PySem.Str.ofString "0:01", PySem.Str.ofString "01:0", PySem.Str.ofString "-1:0", PySem.Str.ofString "0:-1", PySem.Str.ofString "0:+1", PySem.Str.ofString "+0:1", PySem.Str.ofString "", PySem.Str.ofString ":", PySem.Str.ofString "0:", PySem.Str.ofString ":0", PySem.Str.ofString "-:"] : List (PySem.Str)) ++ ([PySem.Str.ofString "--:0", PySem.Str.ofString "-:--1", PySem.Str.ofString "0", PySem.Str.ofString "0:1:2", PySem.Str.ofString "0:1_0", PySem.Str.ofString "0:1.", PySem.Str.ofString "x:0", PySem.Str.ofString "0:x", PySem.Str.ofString "none:0", PySem.Str.ofString "7:7", PySem.Str.ofString "999:1", PySem.Str.ofString "200:0"] : List (PySem.Str))) ++ ([t26, t27, t28, t29] : List (PySem.Str))) ++ ([t37, t38] : List (PySem.Str))).length : Int) >>= fun _ => idx (((([PySem.Str.ofString "-:0", PySem.Str.ofString "0:-0", PySem.Str.ofString "0:00", PySem.Str.ofString "00:0", PySem.Str.ofString "0:01", PySem.Str.ofString "01:0", PySem.Str.ofString "-1:0", PySem.Str.ofString "0:-1", PySem.Str.ofString "0:+1", PySem.Str.ofString "+0:1", PySem.Str.ofString "", PySem.Str.ofString ":", PySem.Str.ofString "0:", PySem.Str.ofString ":0", PySem.Str.ofString "-:"] : List (PySem.Str)) ++ ([PySem.Str.ofString "--:0", PySem.Str.ofString "-:--1", PySem.Str.ofString "0", PySem.Str.ofString "0:1:2", PySem.Str.ofString "0:1_0", PySem.Str.ofString "0:1.", PySem.Str.ofString "x:0", PySem.Str.ofString "0:x", PySem.Str.ofString "none:0", PySem.Str.ofString "7:7", PySem.Str.ofString "999:1", PySem.Str.ofString "200:0"] : List (PySem.Str))) ++ ([t26, t27, t28, t29] : List (PySem.Str))) ++ ([t37, t38] : List (PySem.Str))) (t64 % ((((([PySem.Str.ofString "-:0", PySem.Str.ofString "0:-0", PySem.Str.ofString "0:00", PySem.Str.ofString "00:0", PySem.Str.ofString "0:01", PySem.Str.ofString "01:0", PySem.Str.ofString "-1:0", PySem.Str.ofString "0:-1", PySem.Str.ofString "0:+1", PySem.Str.ofString "+0:1", PySem.Str.ofString "", PySem.Str.ofString ":", PySem.Str.ofString "0:", PySem.Str.ofString ":0", PySem.Str.ofString "-:"] : List (PySem.Str)) ++ ([PySem.Str.ofString "--:0", PySem.Str.ofString "-:--1", PySem.Str.ofString "0", PySem.Str.ofString "0:1:2", PySem.Str.ofString "0:1_0", PySem.Str.ofString "0:1.", PySem.Str.ofString "x:0", PySem.Str.ofString "0:x", PySem.Str.ofString "none:0", PySem.Str.ofString "7:7", PySem.Str.ofString "999:1", PySem.Str.ofString "200:0"] : List (PySem.Str))) ++ ([t26, t27, t28, t29] : List (PySem.Str))) ++ ([t37, t38] : List (PySem.Str))).length : Int)) >>= fun t67 => pset (PySem.Txt.split text (PySem.Str.ofString " ")) (t10 % ((PySem.Txt.split text (PySem.Str.ofString " ")).length : Int)) t67 >>= fun t68 => .ok t68) else (if (decide ((t4 % 8) = 6)) = true then (m_law_stir cell (k + 6) >>= fun t71 => pmod t71 ((((([PySem.Str.ofString "-:0", PySem.Str.ofString "0:-0", PySem.Str.ofString "0:00", PySem.Str.ofString "00:0", PySem.Str.ofString "0:01", PySem.Str.ofString "01:0", PySem.Str.ofString "-1:0", PySem.Str.ofString "0:-1", PySem.Str.ofString "0:+1", PySem.Str.ofString "+0:1", PySem.Str.ofString "", PySem.Str.ofString ":", PySem.Str.ofString "0:", PySem.Str.ofString ":0", PySem.Str.ofString "-:"] : List (PySem.Str)) ++ ([PySem.Str.ofString "--:0", PySem.Str.ofString "-:--1", PySem.Str.ofString "0", PySem.Str.ofString "0:1:2", PySem.Str.ofString "0:1_0", PySem.Str.ofString "0:1.", PySem.Str.ofString "x:0", PySem.Str.ofString "0:x", PySem.Str.ofString "none:0", PySem.Str.ofString "7:7", PySem.Str.ofString "999:1", PySem.Str.ofString "200:0"] : List (PySem.Str))) ++ ([t26, t27, t28, t29] : List (PySem.Str))) ++ ([t37, t38] : List (PySem.Str))).length : Int) >>= fun _ => idx (((([PySem.Str.ofString "-:0", PySem.Str.ofString "0:-0", PySem.Str.ofString "0:00", PySem.Str.ofString "00:0", PySem.Str.ofString "0:01", PySem.Str.ofString "01:0", PySem.Str.ofString "-1:0", PySem.Str.ofString "0:-1", PySem.Str.ofString "0:+1", PySem.Str.ofString "+0:1", PySem.Str.ofString "", PySem.Str.ofString ":", PySem.Str.ofString "0:", PySem.Str.ofString ":0", PySem.Str.ofString "-:"] : List (PySem.Str)) ++ ([PySem.Str.ofString "--:0", PySem.Str.ofString "-:--1", PySem.Str.ofString "0", PySem.Str.ofString "0:1:2", PySem.Str.ofString "0:1_0", PySem.Str.ofString "0:1.", PySem.Str.ofString "x:0", PySem.Str.ofString "0:x", PySem.Str.ofString "none:0", PySem.Str.ofString "7:7", PySem.Str.ofString "999:1", PySem.Str.ofString "200:0"] : List (PySem.Str))) ++ ([t26, t27, t28, t29] : List (PySem.Str))) ++ ([t37, t38] : List (PySem.Str))) (t71 % ((((([PySem.Str.ofString "-:0", PySem.Str.ofString "0:-0", PySem.Str.ofString "0:00", PySem.Str.ofString "00:0", PySem.Str.ofString "0:01", PySem.Str.ofString "01:0", PySem.Str.ofString "-1:0", PySem.Str.ofString "0:-1", PySem.Str.ofString "0:+1", PySem.Str.ofString "+0:1", PySem.Str.ofString "", PySem.Str.ofString ":", PySem.Str.ofString "0:", PySem.Str.ofString ":0", PySem.Str.ofString "-:"] : List (PySem.Str)) ++ ([PySem.Str.ofString "--:0", PySem.Str.ofString "-:--1", PySem.Str.ofString "0", PySem.Str.ofString "0:1:2", PySem.Str.ofString "0:1_0", PySem.Str.ofString "0:1.", PySem.Str.ofString "x:0", PySem.Str.ofString "0:x", PySem.Str.ofString "none:0", PySem.Str.ofString "7:7", PySem.Str.ofString "999:1", PySem.Str.ofString "200:0"] : List (PySem.Str))) ++ ([t26, t27, t28, t29] : List (PySem.Str))) ++ ([t37, t38] : List (PySem.Str))).length : Int)) >>= fun t74 => pins (PySem.Txt.split text (PySem.Str.ofString " ")) (t10 % ((PySem.Txt.split text (PySem.Str.ofString " ")).length : Int)) t74 >>= fun _ => .ok ((PySem.Txt.split text (PySem.Str.ofString " ")).take ((t10 % ((PySem.Txt.split text (PySem.Str.ofString " ")).length : Int))).toNat ++ [t74] ++ (PySem.Txt.split text (PySem.Str.ofString " ")).drop ((t10 % ((PySem.Txt.split text (PySem.Str.ofString " ")).length : Int))).toNat)) else (idx (PySem.Txt.split text (PySem.Str.ofString " ")) (t13 % ((PySem.Txt.split text (PySem.Str.ofString " ")).length : Int)) >>= fun t76 => idx (PySem.Txt.split text (PySem.Str.ofString " ")) (t10 % ((PySem.Txt.split text (PySem.Str.ofString " ")).length : Int)) >>= fun t77 => pset (PySem.Txt.split text (PySem.Str.ofString " ")) (t10 % ((PySem.Txt.split text (PySem.Str.ofString " ")).length : Int)) ((t76, t77, ()).1) >>= fun t87 => pset t87 (t13 % ((PySem.Txt.split text (PySem.Str.ofString " ")).length : Int)) ((t76, t77, ()).2.1) >>= fun t89 => .ok t89)))) : M ((List (PySem.Str)))) >>=  fun st54 => pjoin (PySem.Str.ofString " ") st54 >>= fun _ => .ok (PySem.Txt.join (PySem.Str.ofString " ") st54)))

def m_law_number (word : PySem.Str) : M (Option Int) :=
  guardM (decide (word.length ≤ line)) >>= fun _ => (if (!(decide (1 ≤ (word.length : Int)) && decide ((word.length : Int) ≤ 30))) = true then .ok true else (guardM (decide (((signs word)).length ≤ line)) >>= fun _ => compM (β := PySem.Str) (signs word) (fun y6 => if (!PySem.Txt.contains (PySem.Str.ofString "0123456789") y6) = true then (.ok (some y6)) else .ok none) >>= fun t8 => .ok (!decide (t8 = ([] : List (PySem.Str)))))) >>= fun t3 => if t3 = true then (.ok (none : Option Int)) else (pfit word >>= fun _ => sitem word 0 >>= fun t16 => if ((decide (t16 = (PySem.Str.ofString "0"))) && (!decide (word = (PySem.Str.ofString "0")))) = true then (.ok (none : Option Int)) else (pint word >>= fun t18 => .ok (some t18)))

def m_law_hue (word : PySem.Str) : M (Option Int) :=
  pfit word >>= fun _ => if (!decide ((cutS word none (some 1)) = (PySem.Str.ofString "-"))) = true then (m_law_number word >>= fun t2 => .ok t2) else (pfit word >>= fun _ => m_law_number (cutS word (some 1) none) >>= fun t5 => if ((t5.isNone) || (decide (t5 = (some 0)))) = true then (.ok (none : Option Int)) else (unwrap t5 >>= fun t9 => .ok (some (0 - t9))))

def m_law_due (text : PySem.Str) : M PyData :=
  psplit text (PySem.Str.ofString " ") >>= fun _ => forR (ρ := PyData) (PySem.Txt.split text (PySem.Str.ofString " ")) (([] : List (Option Int)), ([] : List (Option Int))) (fun y7 st7 => ppart y7 (PySem.Str.ofString ":") >>= fun _ => m_law_number ((tpart y7 (PySem.Str.ofString ":")).1) >>= fun t22 => (if (decide (((tpart y7 (PySem.Str.ofString ":")).2.1) = (PySem.Str.ofString ""))) = true then .ok true else ((if ((t22.isNone) && (!decide (((tpart y7 (PySem.Str.ofString ":")).1) = (PySem.Str.ofString "-")))) = true then .ok true else (m_law_hue ((tpart y7 (PySem.Str.ofString ":")).2.2.1) >>= fun t35 => .ok (t35.isNone))) >>= fun t32 => .ok t32)) >>= fun t27 => if t27 = true then (.ok (.inl (PyData.str (PySem.Str.ofString "text")))) else (papp st7.1 t22 >>= fun _ => m_law_hue ((tpart y7 (PySem.Str.ofString ":")).2.2.1) >>= fun t40 => papp st7.2 t40 >>= fun _ => .ok (.inr ((st7.1 ++ [t22]), (st7.2 ++ [t40]))))) >>= fun z7 => kR z7 fun st7 => m_law_is_tree st7.1 >>= fun t47 => if (!t47) = true then (.ok (PyData.str (PySem.Str.ofString "tree"))) else (.ok (PyD.toD (α := (List (Option Int) × List (Option Int) × Unit)) (st7.1, st7.2, ())))

def m_law_told (text : PySem.Str) : M PyData :=
  tryM .hue (m_read_tree text >>= fun t2 => .ok (PyD.toD (α := (List (Option Int) × List Int × Unit)) t2) : M (PyData)) (fun xc1 => noerr (m_law_flags xc1) >>= fun t10 => prng 0 10 >>= fun _ => guardM (decide ((rng 0 10).length ≤ line)) >>= fun _ => compM (β := Bool) (rng 0 10) (fun y14 => .ok (some (decide (y14 = 0)))) >>= fun t15 => idx ([PySem.Str.ofString "other", PySem.Str.ofString "tree"] : List (PySem.Str)) (bint (decide (t10 = t15))) >>= fun t19 => noerr (m_law_flags xc1) >>= fun t20 => prng 0 10 >>= fun _ => guardM (decide ((rng 0 10).length ≤ line)) >>= fun _ => compM (β := Bool) (rng 0 10) (fun y24 => .ok (some (decide (y24 = 6)))) >>= fun t25 => if (decide (t20 = t25)) = true then (.ok (PyData.str (PySem.Str.ofString "text"))) else (.ok (PyData.str t19))) >>= fun st1 => .ok st1

def m_law_right (text : PySem.Str) : M Bool :=
  m_law_due text >>= fun t1 => m_law_told text >>= fun t5 => m_law_same 4 t5 t1 >>= fun t9 => (if t9 = true then (m_law_told text >>= fun t17 => m_law_same 4 t17 t1 >>= fun t21 => .ok t21) else .ok false) >>= fun t14 => .ok t14

def m_law_free (cell : Int) : M (PySem.Str) :=
  m_law_stir cell 760 >>= fun t1 => prng 0 (1 + (t1 % 12)) >>= fun _ => forM' (rng 0 (1 + (t1 % 12))) ([] : List (PySem.Str)) (fun y7 st7 => m_law_stir cell (770 + y7) >>= fun t8 => m_law_stir cell 761 >>= fun t11 => pmod t8 ((1 + (t1 % 12)) + (bint (decide ((t11 % 4) = 0)))) >>= fun _ => pistr (t8 % ((1 + (t1 % 12)) + (bint (decide ((t11 % 4) = 0))))) >>= fun _ => (m_law_stir cell 762 >>= fun t15 => pmod t15 (1 + (t1 % 12)) >>= fun _ => (if (decide (y7 = (t15 % (1 + (t1 % 12))))) = true then .ok true else (m_law_stir cell (784 + y7) >>= fun t23 => .ok (decide ((t23 % 16) = 0)))) >>= fun t20 => if t20 = true then (.ok (PySem.Str.ofString "-")) else (.ok (istr (t8 % ((1 + (t1 % 12)) + (bint (decide ((t11 % 4) = 0))))))) : M ((PySem.Str))) >>=  fun st14 => pcats st14 (PySem.Str.ofString ":") >>= fun t27 => m_law_stir cell (798 + y7) >>= fun t28 => pistr ((t28 % 9) - 4) >>= fun _ => pcats t27 (istr ((t28 % 9) - 4)) >>= fun t31 => papp st7 t31 >>= fun _ => .ok (st7 ++ [t31])) >>= fun st7 => pjoin (PySem.Str.ofString " ") st7 >>= fun _ => .ok (PySem.Txt.join (PySem.Str.ofString " ") st7)

def m_law (script : List Int) : M Bool :=
  m_law_cells script 5 >>= fun t2 => forR (ρ := Bool) t2 () (fun y1 st1 => m_law_tree y1 40 >>= fun t7 => m_law_hues y1 (t7.length : Int) >>= fun t12 => m_law_text t7 t12 >>= fun t17 => m_law_free y1 >>= fun t20 => m_law_right t20 >>= fun t23 => if (!t23) = true then (.ok (.inl false)) else (prng 0 5 >>= fun _ => forR (ρ := Bool) (rng 0 5) () (fun y27 st27 => m_law_spoilt y1 (640 + (20 * y27)) t17 >>= fun t28 => m_law_right t28 >>= fun t31 => (if (!t31) = true then .ok true else (m_law_spoilt y1 (650 + (20 * y27)) t28 >>= fun t39 => m_law_right t39 >>= fun t42 => .ok (!t42))) >>= fun t36 => if t36 = true then (.ok (.inl false)) else (.ok (.inr ()))) >>= fun z27 => kRR z27 fun st27 => .ok (.inr ()))) >>= fun z1 => kR z1 fun st1 => pcat ([PySem.Str.ofString "", PySem.Str.ofString " ", PySem.Str.ofString "-", PySem.Str.ofString ":", PySem.Str.ofString "-:", PySem.Str.ofString "-:0 ", PySem.Str.ofString " -:0", PySem.Str.ofString "-:0  0:0", PySem.Str.ofString "-:0\n", PySem.Str.ofString "-:0 -:0", PySem.Str.ofString "0:0", PySem.Str.ofString "-:0 1:0"] : List (PySem.Str)) ([PySem.Str.ofString "-:0 2:0", PySem.Str.ofString "1:0 0:0", PySem.Str.ofString "-:0 0:0 3:0 2:0", PySem.Str.ofString "-:-0", PySem.Str.ofString "-:0:0", PySem.Str.ofString "none", PySem.Str.ofString "-:0 0:0"] : List (PySem.Str)) >>= fun _ => pcat (([PySem.Str.ofString "", PySem.Str.ofString " ", PySem.Str.ofString "-", PySem.Str.ofString ":", PySem.Str.ofString "-:", PySem.Str.ofString "-:0 ", PySem.Str.ofString " -:0", PySem.Str.ofString "-:0  0:0", PySem.Str.ofString "-:0\n", PySem.Str.ofString "-:0 -:0", PySem.Str.ofString "0:0", PySem.Str.ofString "-:0 1:0"] : List (PySem.Str)) ++ ([PySem.Str.ofString "-:0 2:0", PySem.Str.ofString "1:0 0:0", PySem.Str.ofString "-:0 0:0 3:0 2:0", PySem.Str.ofString "-:-0", PySem.Str.ofString "-:0:0", PySem.Str.ofString "none", PySem.Str.ofString "-:0 0:0"] : List (PySem.Str))) ([PySem.Str.ofString "1:0 2:0 -:0", PySem.Str.ofString "-:0 -1:0", PySem.Str.ofString "-:0 0:0 0:0"] : List (PySem.Str)) >>= fun _ => compM (β := PySem.Str) ((([PySem.Str.ofString "", PySem.Str.ofString " ", PySem.Str.ofString "-", PySem.Str.ofString ":", PySem.Str.ofString "-:", PySem.Str.ofString "-:0 ", PySem.Str.ofString " -:0", PySem.Str.ofString "-:0  0:0", PySem.Str.ofString "-:0\n", PySem.Str.ofString "-:0 -:0", PySem.Str.ofString "0:0", PySem.Str.ofString "-:0 1:0"] : List (PySem.Str)) ++ ([PySem.Str.ofString "-:0 2:0", PySem.Str.ofString "1:0 0:0", PySem.Str.ofString "-:0 0:0 3:0 2:0", PySem.Str.ofString "-:-0", PySem.Str.ofString "-:0:0", PySem.Str.ofString "none", PySem.Str.ofString "-:0 0:0"] : List (PySem.Str))) ++ ([PySem.Str.ofString "1:0 2:0 -:0", PySem.Str.ofString "-:0 -1:0", PySem.Str.ofString "-:0 0:0 0:0"] : List (PySem.Str))) (fun y63 => noerr (m_law_right y63) >>= fun t64 => if (!t64) = true then (.ok (some y63)) else .ok none) >>= fun t68 => .ok (decide (t68 = ([] : List (PySem.Str))))

end G
/-! PLib: what mirrors give, in plain Lean. -/
namespace G
open PySem L2
section
variable {α β γ τ ρ : Type} {P : α → Prop} {E : XC → Prop}
theorem w_guard {b : Bool} {Q : Unit → Prop} (h : b = true) (q : Q ()) : wpm (guardM b) Q E := by subst h; exact q
theorem w_ite {c : Prop} [Decidable c] {a : α} (h : c) (q : P a) : wpm (if c then M.ok a else .stuck) P E := by rw [if_pos h]; exact q
theorem w_pmod {x y : Int} {Q : Int → Prop} (h : 0 < y) (q : Q (x % y)) : wpm (pmod x y) Q E := w_ite h q
theorem w_pdiv {x y : Int} {Q : Int → Prop} (h : 0 < y ∧ y < 1073741824) (q : Q (x / y)) : wpm (pdiv x y) Q E := by unfold pdiv; exact w_ite h q
theorem w_pmul {x y : Int} {Q : Int → Prop} (h : (-(2 ^ 64) < x ∧ x < 2 ^ 64) ∨ (-(2 ^ 64) < y ∧ y < 2 ^ 64)) (q : Q (x * y)) : wpm (pmul x y) Q E := by unfold pmul; exact w_ite h q
theorem w_pshr {x y : Int} {Q : Int → Prop} (h : 0 ≤ y) (q : Q (x / 2 ^ y.toNat)) : wpm (pshr x y) Q E := w_ite h q
theorem w_pcat {xs ys : List α} {Q : List α → Prop} (h : xs.length + ys.length ≤ line) (q : Q (xs ++ ys)) : wpm (pcat xs ys) Q E := w_ite h q
theorem w_papp {xs : List α} {x : α} {Q : List α → Prop} (h : xs.length < line) (q : Q (xs ++ [x])) : wpm (papp xs x) Q E := w_ite h q
theorem w_prng {a b : Int} {Q : List Int → Prop} (h : -(2 ^ 62) ≤ a ∧ a < 2 ^ 62 ∧ -(2 ^ 62) ≤ b ∧ b < 2 ^ 62) (q : Q (rng a b)) : wpm (prng a b) Q E := by unfold prng; exact w_ite h q
theorem w_pdput {kvs : List (Int × α)} {k : Int} {v : α} {Q : List (Int × α) → Prop} (h : kvs.length < line) (q : Q (dput kvs k v)) : wpm (pdput kvs k v) Q E := w_ite h q
theorem w_idx {xs : List α} {i : Int} {x : α} (h : atI xs i = some x) (q : P x) : wpm (idx xs i) P E := by unfold idx; rw [h]; exact q
theorem w_idxN {xs : List α} {i : Nat} {x : α} (h : xs[i]? = some x) (q : P x) : wpm (idx xs (i : Int)) P E := w_idx (atI_nat h) q
theorem w_unwrap {o : Option α} {x : α} (h : o = some x) (q : P x) : wpm (unwrap o) P E := by subst h; exact q
theorem w_ok {a : α} (q : P a) : wpm (M.ok a) P E := q
/-- a loop, by what holds behind the items gone through -/
theorem w_for {xs : List α} {s0 : τ} {f : α → τ → M τ} {Q : τ → Prop} (I : List α → τ → Prop) (h0 : I [] s0)
    (hs : ∀ pre x post s, xs = pre ++ x :: post → I pre s → wpm (f x s) (I (pre ++ [x])) E) (hd : ∀ s, I xs s → Q s) : wpm (forM' xs s0 f) Q E := by
  suffices H : ∀ post pre s, xs = pre ++ post → I pre s → wpm (forM' post s f) Q E from H xs [] s0 rfl h0
  intro post
  induction post with
  | nil => intro pre s e h; rw [List.append_nil] at e; subst e; exact hd s h
  | cons x post ih =>
    intro pre s e h
    exact bw (wpm_imp (hs pre x post s e h) fun s' h' => ih (pre ++ [x]) s' (by rw [e]; simp) h')
theorem w_forR {xs : List α} {s0 : τ} {f : α → τ → M (ρ ⊕ τ)} {Q : ρ ⊕ τ → Prop} (I : List α → τ → Prop) (h0 : I [] s0)
    (hs : ∀ pre x post s, xs = pre ++ x :: post → I pre s → wpm (f x s) (fun z => match z with
      | .inl r => Q (.inl r)
      | .inr s' => I (pre ++ [x]) s') E) (hd : ∀ s, I xs s → Q (.inr s)) : wpm (forR xs s0 f) Q E := by
  suffices H : ∀ post pre s, xs = pre ++ post → I pre s → wpm (forR post s f) Q E from H xs [] s0 rfl h0
  intro post
  induction post with
  | nil => intro pre s e h; rw [List.append_nil] at e; subst e; exact hd s h
  | cons x post ih =>
    intro pre s e h
    refine bw (wpm_imp (hs pre x post s e h) fun z hz => ?_)
    cases z with
    | inl r => exact hz
    | inr s' => exact ih (pre ++ [x]) s' (by rw [e]; simp) hz
/-- a loop over a, a + 1, .. below b -/
theorem rng_nil {a b : Int} (h : b ≤ a) : rng a b = [] := by
  unfold rng
  rw [show (b - a).toNat = 0 by omega]; rfl
theorem rng_succ {a b : Int} (h : a < b) : rng a b = a :: rng (a + 1) b := by
  unfold rng
  rw [show (b - a).toNat = (b - (a + 1)).toNat + 1 by omega, List.range_succ_eq_map, List.map_cons, List.map_map]
  congr 1
  · simp
  · refine List.map_congr_left fun k _ => ?_
    show a + ((k + 1 : Nat) : Int) = a + 1 + (k : Int)
    omega
theorem mem_rng {a b k : Int} : k ∈ rng a b ↔ a ≤ k ∧ k < b := by
  unfold rng
  rw [List.mem_map]
  constructor
  · rintro ⟨i, hi, rfl⟩
    rw [List.mem_range] at hi
    omega
  · rintro ⟨h1, h2⟩
    exact ⟨(k - a).toNat, by rw [List.mem_range]; omega, by omega⟩
theorem w_forRng {a b : Int} {s0 : τ} {f : Int → τ → M τ} {Q : τ → Prop} (I : Int → τ → Prop) (hab : a ≤ b) (h0 : I a s0)
    (hs : ∀ k s, a ≤ k → k < b → I k s → wpm (f k s) (I (k + 1)) E) (hd : ∀ s, I b s → Q s) : wpm (forM' (rng a b) s0 f) Q E := by
  obtain ⟨n, hn⟩ : ∃ n : Nat, b - a = n := ⟨(b - a).toNat, by omega⟩
  induction n generalizing a s0 with
  | zero =>
    have : a = b := by omega
    subst this
    rw [rng_nil (Int.le_refl _)]
    exact hd s0 h0
  | succ n ih =>
    rw [rng_succ (by omega)]
    exact bw (wpm_imp (hs a s0 (Int.le_refl _) (by omega) h0) fun s' h' => ih (by omega) h' (fun k s h1 h2 h3 => hs k s (by omega) h2 h3) (by omega))
theorem w_forRRng {a b : Int} {s0 : τ} {f : Int → τ → M (ρ ⊕ τ)} {Q : ρ ⊕ τ → Prop} (I : Int → τ → Prop) (hab : a ≤ b) (h0 : I a s0)
    (hs : ∀ k s, a ≤ k → k < b → I k s → wpm (f k s) (fun z => match z with
      | .inl r => Q (.inl r)
      | .inr s' => I (k + 1) s') E) (hd : ∀ s, I b s → Q (.inr s)) : wpm (forR (rng a b) s0 f) Q E := by
  obtain ⟨n, hn⟩ : ∃ n : Nat, b - a = n := ⟨(b - a).toNat, by omega⟩
  induction n generalizing a s0 with
  | zero =>
    have : a = b := by omega
    subst this
    rw [rng_nil (Int.le_refl _)]
    exact hd s0 h0
  | succ n ih =>
    rw [rng_succ (by omega)]
    refine bw (wpm_imp (hs a s0 (Int.le_refl _) (by omega) h0) fun z hz => ?_)
    cases z with
    | inl r => exact hz
    | inr s' => exact ih (by omega) hz (fun k s h1 h2 h3 => hs k s (by omega) h2 h3) (by omega)
/-- a comprehension whose turns are known -/
theorem compM_eq {xs : List α} {f : α → M (Option β)} {g : α → Option β} (h : ∀ x ∈ xs, f x = .ok (g x)) : compM xs f = .ok (xs.filterMap g) := by
  induction xs with
  | nil => rfl
  | cons x xs ih =>
    have h1 := h x List.mem_cons_self
    have h2 := ih fun y hy => h y (List.mem_cons_of_mem _ hy)
    unfold compM
    rw [h1, ok_bind, h2]
    cases e : g x with
    | none => simp [e]
    | some y => simp [e]
theorem w_comp {xs : List α} {f : α → M (Option β)} {g : α → Option β} {Q : List β → Prop} (h : ∀ x ∈ xs, f x = .ok (g x)) (q : Q (xs.filterMap g)) : wpm (compM xs f) Q E := wpm_of (compM_eq h) q
/-- .. of which something is known -/
theorem w_compP {xs : List α} {f : α → M (Option β)} {Q : List β → Prop} (R : α → Option β → Prop) (h : ∀ x ∈ xs, wpm (f x) (R x) E) (q : ∀ os : List (Option β), All2 R xs os → Q (os.filterMap id)) : wpm (compM xs f) Q E := by
  induction xs generalizing Q with
  | nil => exact q [] .nil
  | cons x xs ih =>
    unfold compM
    refine bw (wpm_imp (h x List.mem_cons_self) fun o ho => ?_)
    cases o with
    | none => exact ih (fun y hy => h y (List.mem_cons_of_mem _ hy)) fun os hos => q (none :: os) (.cons ho hos)
    | some y => exact bw (ih (fun y hy => h y (List.mem_cons_of_mem _ hy)) fun os hos => q (some y :: os) (.cons ho hos))
end
theorem atI_some {α : Type} {xs : List α} {i : Int} (h0 : 0 ≤ i) (h1 : i < xs.length) : atI xs i = some xs[i.toNat] := by
  unfold L2.atI ixN
  rw [if_pos h0, if_pos h1]
  show xs[i.toNat]? = _
  exact List.getElem?_eq_getElem (by omega)
theorem en_eq {α : Type} (j : Int) (xs : List α) : ∀ y ∈ en j xs, j ≤ y.1 ∧ y.1 < j + xs.length ∧ xs[(y.1 - j).toNat]? = some y.2.1 := by
  intro y hy
  obtain ⟨i, hi⟩ := List.getElem?_of_mem hy
  obtain ⟨x, h1, h2⟩ := en_get j xs i y hi
  subst h2
  have := (List.getElem?_eq_some_iff.mp h1).1
  refine ⟨by simp; omega, by simp; omega, ?_⟩
  simp only
  rw [show (j + (i : Int) - j).toNat = i by omega]
  exact h1
end G
namespace G
open PySem L2
section
variable {α : Type}
theorem dfind_nil (k : Int) : dfind ([] : List (Int × α)) k = none := rfl
theorem dfind_cons (p : Int × α) (r : List (Int × α)) (k : Int) : dfind (p :: r) k = if p.1 = k then some p.2 else dfind r k := by
  unfold dfind
  by_cases h : p.1 = k <;> simp [h]
theorem dfind_snoc (r : List (Int × α)) (k j : Int) (v : α) (h : dfind r k = none) : dfind (r ++ [(k, v)]) j = if j = k then some v else dfind r j := by
  induction r with
  | nil =>
    rw [List.nil_append, dfind_cons]
    by_cases e : j = k
    · subst e; simp
    · rw [if_neg (fun z => e z.symm), if_neg e]
  | cons p r ih =>
    rw [dfind_cons] at h
    rw [List.cons_append, dfind_cons, dfind_cons]
    by_cases e : p.1 = k
    · rw [if_pos e] at h; cases h
    · rw [if_neg e] at h
      rw [ih h]
      by_cases e2 : p.1 = j
      · rw [if_pos e2, if_pos e2, if_neg (fun z => e (e2.trans z))]
      · rw [if_neg e2, if_neg e2]
theorem dfind_map (r : List (Int × α)) (k j : Int) (v : α) : dfind (r.map fun p => if p.1 = k then (p.1, v) else p) j = if j = k then (dfind r j).map (fun _ => v) else dfind r j := by
  induction r with
  | nil => by_cases e : j = k <;> simp [e, dfind_nil]
  | cons p r ih =>
    rw [List.map_cons, dfind_cons, dfind_cons, ih]
    by_cases e : p.1 = k
    · rw [if_pos e]
      by_cases e2 : p.1 = j
      · simp [e2, e2.symm.trans e]
      · simp [e2]
    · rw [if_neg e]
      by_cases e2 : p.1 = j
      · have : ¬ j = k := fun z => e (e2.trans z)
        rw [if_pos e2, if_neg this, if_pos e2]
      · rw [if_neg e2, if_neg e2]
theorem any_dfind (r : List (Int × α)) (k : Int) : (r.any fun p => decide (p.1 = k)) = (dfind r k).isSome := by
  induction r with
  | nil => rfl
  | cons p r ih =>
    rw [List.any_cons, dfind_cons, ih]
    by_cases e : p.1 = k <;> simp [e]
theorem dfind_dput (r : List (Int × α)) (k j : Int) (v : α) : dfind (dput r k v) j = if j = k then some v else dfind r j := by
  unfold dput
  rw [any_dfind]
  cases h : dfind r k with
  | none => rw [if_neg (by simp)]; exact dfind_snoc r k j v h
  | some x =>
    rw [if_pos (show (some x).isSome = true from rfl), dfind_map]
    by_cases e : j = k
    · subst e; rw [if_pos rfl, if_pos rfl, h]; rfl
    · rw [if_neg e, if_neg e]
theorem length_dput (r : List (Int × α)) (k : Int) (v : α) : (dput r k v).length ≤ r.length + 1 := by
  unfold dput; split <;> simp
theorem snoc_ind {P : List α → Prop} (h0 : P []) (h1 : ∀ xs x, P xs → P (xs ++ [x])) (xs : List α) : P xs := by
  have H : ∀ n (xs : List α), xs.length = n → P xs := by
    intro n
    induction n with
    | zero => intro xs h; rw [List.length_eq_zero_iff.mp h]; exact h0
    | succ n ih =>
      intro xs h
      have hne : xs ≠ [] := fun z => by rw [z] at h; cases h
      rw [← List.dropLast_concat_getLast hne]
      exact h1 _ _ (ih _ (by rw [List.length_dropLast, h]; rfl))
  exact H _ xs rfl
theorem cut_nat (xs : List α) (f b : Nat) : cut xs (some (f : Int)) (some (b : Int)) = (xs.drop (min f xs.length)).take (min b xs.length - min f xs.length) := by
  unfold cut; rw [HT.sIx_nat, HT.sIx_nat]
theorem cut_in (xs : List α) {f b : Nat} (h1 : f ≤ b) (h2 : b ≤ xs.length) : cut xs (some (f : Int)) (some (b : Int)) = (xs.drop f).take (b - f) := by
  rw [cut_nat, Nat.min_eq_left h2, Nat.min_eq_left (Nat.le_trans h1 h2)]
theorem cut_to (xs : List α) (b : Nat) : cut xs none (some (b : Int)) = xs.take b := by
  unfold cut
  rw [HT.sIx_nat, HT.sIx_none, List.drop_zero, Nat.sub_zero]
  by_cases h : b ≤ xs.length
  · rw [Nat.min_eq_left h]
  · rw [Nat.min_eq_right (by omega), List.take_length, List.take_of_length_le (by omega)]
end
end G
/-! texts, plainly: numbers as texts, and back; cutting, gluing -/
namespace G
open PySem L2 TL
section
variable {E : XC → Prop} {a b : PySem.Str}
theorem w_psplit {Q : Unit → Prop} (h1 : (b.length == 0) = false) (h2 : a.length ≤ 1000000) (q : Q ()) : wpm (psplit a b) Q E := by
  unfold psplit; exact w_ite ⟨h1, by rw [sizeLine_eq]; omega⟩ q
theorem w_ppart {Q : Unit → Prop} (h1 : (b.length == 0) = false) (h2 : a.length ≤ 1000000) (q : Q ()) : wpm (ppart a b) Q E := by
  unfold ppart; exact w_ite ⟨h1, by rw [sizeLine_eq]; omega⟩ q
theorem w_pjoin {ys : List PySem.Str} {Q : Unit → Prop} (h : (ys.map (·.length)).sum + ys.length * a.length ≤ 1000000) (q : Q ()) : wpm (pjoin a ys) Q E := by
  unfold pjoin; exact w_ite (by omega) q
theorem w_pfit {Q : Unit → Prop} (h2 : a.length ≤ 1000000) (q : Q ()) : wpm (pfit a) Q E := by
  unfold pfit; exact w_ite (by rw [sizeLine_eq]; omega) q
theorem w_pcats {Q : PySem.Str → Prop} (h2 : a.length + b.length ≤ 1000000) (q : Q (a ++ b)) : wpm (pcats a b) Q E := by
  unfold pcats; exact w_ite (by rw [sizeLine_eq]; omega) q
theorem log2_lt {n : Nat} (h : n < 2 ^ 100) : n.log2 < 1920 := by
  by_cases h0 : n = 0
  · subst h0; decide
  · have := (Nat.log2_lt h0 (k := 100)).2 h
    omega
theorem ten30 : (10 : Nat) ^ 30 < 2 ^ 100 := by decide
theorem w_pistr {i : Int} {Q : Unit → Prop} (h1 : -(10 ^ 30) < i) (h2 : i < 10 ^ 30) (q : Q ()) : wpm (pistr i) Q E := by
  unfold pistr
  refine w_ite (log2_lt ?_) q
  have := ten30
  omega
end
/-! ### numbers as texts -/
theorem tl_istr (n : Nat) : tl (istr (n : Int)) = numL n := tl_num n
theorem tl_istr_neg {i : Int} (h : i < 0) : tl (istr i) = 45 :: numL i.natAbs := by
  cases i with
  | ofNat n => exact absurd h (by have : (0 : Int) ≤ Int.ofNat n := Int.natCast_nonneg n; omega)
  | negSucc n =>
    have e := tl_num (n + 1)
    rw [tl_ofString] at e
    unfold istr
    rw [tl_ofString]
    have e2 : toString (Int.negSucc n) = "-" ++ toString (((n + 1 : Nat)) : Int) := rfl
    rw [e2, String.toList_append, List.map_append, e]
    rfl
theorem tl_istr_pos {i : Int} (h : 0 ≤ i) : tl (istr i) = numL i.toNat := by
  obtain ⟨n, rfl⟩ := Int.eq_ofNat_of_zero_le h
  rw [Int.toNat_natCast]; exact tl_istr n
theorem numL_zero : numL 0 = [48] := numL_lt (by omega)
theorem numL_head : ∀ (n : Nat), n ≠ 0 → ∃ c r, numL n = c :: r ∧ 49 ≤ c ∧ c ≤ 57 := by
  intro n
  induction n using Nat.strongRecOn with
  | _ n ih =>
    intro h
    by_cases h1 : n < 10
    · exact ⟨48 + n, [], numL_lt h1, by omega, by omega⟩
    · obtain ⟨c, r, e, hc⟩ := ih (n / 10) (by omega) (by omega)
      exact ⟨c, r ++ [48 + n % 10], by rw [numL_step (by omega), e]; rfl, hc⟩
theorem istr_mem {i : Int} {c : Nat} (h : c ∈ tl (istr i)) : c = 45 ∨ (48 ≤ c ∧ c ≤ 57) := by
  by_cases h0 : i < 0
  · rw [tl_istr_neg h0] at h
    rcases List.mem_cons.mp h with h | h
    · exact .inl h
    · exact .inr (numL_digits _ c h)
  · rw [tl_istr_pos (by omega)] at h
    exact .inr (numL_digits _ c h)
theorem istr_len {i : Int} (h1 : -(10 ^ 30) < i) (h2 : i < 10 ^ 30) : (istr i).length ≤ 31 := by
  rw [len_tl]
  by_cases h0 : i < 0
  · rw [tl_istr_neg h0, List.length_cons]
    exact Nat.succ_le_succ (numL_len (by omega) (by omega))
  · rw [tl_istr_pos (by omega)]
    exact Nat.le_trans (numL_len (k := 30) (by omega) (by omega)) (by omega)
theorem istr_inj {i j : Int} (h : istr i = istr j) : i = j := by
  have e : tl (istr i) = tl (istr j) := by rw [h]
  by_cases hi : i < 0 <;> by_cases hj : j < 0
  · rw [tl_istr_neg hi, tl_istr_neg hj, List.cons.injEq] at e
    have := numL_inj e.2
    omega
  · rw [tl_istr_neg hi, tl_istr_pos (by omega)] at e
    have := numL_free (n := j.toNat) (s := 45) (by omega)
    rw [← e] at this
    simp at this
  · rw [tl_istr_neg hj, tl_istr_pos (by omega)] at e
    have := numL_free (n := i.toNat) (s := 45) (by omega)
    rw [e] at this
    simp at this
  · rw [tl_istr_pos (by omega), tl_istr_pos (by omega)] at e
    have := numL_inj e
    omega
theorem contains_sign (z : PySem.Str) (c : Nat) : Txt.contains z ⟨#[c]⟩ = decide (c ∈ tl z) := PySem.StrLaws.found_one z c
/-! ### slices -/
theorem tl_cut1 (w : PySem.Str) : tl (cutS w none (some 1)) = (tl w).take 1 := by
  unfold cutS
  rw [tl_mk, HT.sIx_none, List.drop_zero, show (some (1 : Int)) = some ((1 : Nat) : Int) by rfl, HT.sIx_nat, Nat.sub_zero, len_tl]
  show (tl w).take (min 1 (tl w).length) = (tl w).take 1
  generalize tl w = l
  cases l with
  | nil => rfl
  | cons x r => rw [List.length_cons, Nat.min_eq_left (by omega)]
theorem tl_cut_from (w : PySem.Str) (k : Nat) : tl (cutS w (some (k : Int)) none) = (tl w).drop k := by
  unfold cutS
  rw [tl_mk, HT.sIx_none, HT.sIx_nat, len_tl]
  show ((tl w).drop (min k (tl w).length)).take ((tl w).length - min k (tl w).length) = _
  by_cases h : k ≤ (tl w).length
  · rw [Nat.min_eq_left h]
    exact List.take_of_length_le (by rw [List.length_drop] <;> omega)
  · rw [Nat.min_eq_right (by omega), List.drop_length, List.drop_of_length_le (by omega), List.take_nil]
/-! ### the words of a tree's text -/
def colon : PySem.Str := PySem.Str.ofString ":"
def blank1 : PySem.Str := PySem.Str.ofString " "
theorem tl_colon : tl colon = [58] := by unfold colon; rw [tl_ofString]; rfl
theorem tl_blank1 : tl blank1 = [32] := by unfold blank1; rw [tl_ofString]; rfl
theorem tl_dash : tl (PySem.Str.ofString "-") = [45] := by rw [tl_ofString]; rfl
theorem tl_nought : tl (PySem.Str.ofString "0") = [48] := by rw [tl_ofString]; rfl
theorem tl_dash0 : tl (PySem.Str.ofString "-0") = [45, 48] := by rw [tl_ofString]; rfl
theorem tl_empty : tl (PySem.Str.ofString "") = [] := by rw [tl_ofString]; rfl
theorem tl_figures : tl (PySem.Str.ofString "0123456789") = [48, 49, 50, 51, 52, 53, 54, 55, 56, 57] := by rw [tl_ofString]; rfl
theorem str_ne {x y : PySem.Str} (h : tl x ≠ tl y) : x ≠ y := fun e => h (by rw [e])
def ptext : Option Int → PySem.Str
  | none => PySem.Str.ofString "-"
  | some p => istr p
def wordOf (y : Option Int × Int × Unit) : PySem.Str := ptext y.1 ++ colon ++ istr y.2.1
structure OkW (y : Option Int × Int × Unit) : Prop where
  p : ∀ q, y.1 = some q → 0 ≤ q ∧ q < 10 ^ 30
  lo : -(10 ^ 30) < y.2.1
  hi : y.2.1 < 10 ^ 30
theorem ptext_mem {p : Option Int} {c : Nat} (h : c ∈ tl (ptext p)) : c = 45 ∨ (48 ≤ c ∧ c ≤ 57) := by
  cases p with
  | none => exact .inl (by have h' : c ∈ tl (PySem.Str.ofString "-") := h; rw [tl_dash] at h'; exact List.mem_singleton.mp h')
  | some p => exact istr_mem h
theorem ptext_len {p : Option Int} (h : ∀ q, p = some q → 0 ≤ q ∧ q < 10 ^ 30) : (ptext p).length ≤ 31 := by
  cases p with
  | none => show (PySem.Str.ofString "-").length ≤ 31; rw [len_tl, tl_dash]; decide
  | some p => have := h p rfl; exact istr_len (by omega) this.2
theorem colon_len : colon.length = 1 := by rw [len_tl, tl_colon]; rfl
theorem blank_len : blank1.length = 1 := by rw [len_tl, tl_blank1]; rfl
theorem wordOf_len {y : Option Int × Int × Unit} (h : OkW y) : (wordOf y).length ≤ 100 := by
  have h1 := ptext_len h.p
  have h2 := istr_len h.lo h.hi
  unfold wordOf
  rw [PySem.Str.length_append, PySem.Str.length_append, colon_len]
  omega
theorem tl_wordOf (y : Option Int × Int × Unit) : tl (wordOf y) = tl (ptext y.1) ++ 58 :: tl (istr y.2.1) := by
  unfold wordOf
  rw [tl_append, tl_append, tl_colon]
  simp
theorem wordOf_free (y : Option Int × Int × Unit) : 32 ∉ tl (wordOf y) := by
  rw [tl_wordOf]
  intro h
  rcases List.mem_append.mp h with h | h
  · rcases ptext_mem h with h | h <;> omega
  · rcases List.mem_cons.mp h with h | h
    · omega
    · rcases istr_mem h with h | h <;> omega
theorem wordOf_part (y : Option Int × Int × Unit) : Txt.partition (wordOf y) colon = (ptext y.1, colon, istr y.2.1) := by
  unfold wordOf
  exact partition_app (s := 58) (S := []) tl_colon fun h => by rcases ptext_mem h with h | h <;> omega
theorem words_split {ys : List PySem.Str} (hne : ys ≠ []) (h : ∀ y ∈ ys, 32 ∉ tl y) : Txt.split (Txt.join blank1 ys) blank1 = ys :=
  split_join (s := 32) (S := []) tl_blank1 (by decide +kernel) hne h
theorem sum_le {α : Type} {f : α → Nat} {k : Nat} : ∀ {ys : List α}, (∀ y ∈ ys, f y ≤ k) → (ys.map f).sum ≤ ys.length * k
  | [], _ => by simp
  | y :: ys, h => by
    have h1 := h y (by simp)
    have h2 := sum_le (ys := ys) fun z hz => h z (by simp [hz])
    rw [List.map_cons, List.sum_cons, List.length_cons, Nat.succ_mul]
    omega
theorem join_len {ys : List PySem.Str} {k : Nat} (h : ∀ y ∈ ys, y.length ≤ k) : (Txt.join blank1 ys).length ≤ ys.length * (k + 1) := by
  rw [join_eq]
  have h1 := PySem.StrLaws.join_length_le blank1 ys
  have h2 := sum_le (f := fun y : PySem.Str => y.length) h
  rw [blank_len] at h1
  rw [Nat.mul_succ]
  omega
end G
namespace G
open PySem L2 TL
/-- the text of a tree, word by word -/
def treeText (par : List (Option Int)) (hues : List Int) : PySem.Str := Txt.join blank1 ((zp par hues).map wordOf)
end G
/-! what the texts' module does, plainly: a tree's text, word by word -/
namespace G
open PySem L2 TL
section
variable {E : XC → Prop}
theorem need_true : m_need true = .ok () := by unfold m_need; rfl
theorem sitem0 {w : PySem.Str} {c : Nat} {r : List Nat} (h : tl w = c :: r) : sitem w 0 = .ok ⟨#[c]⟩ := by
  unfold sitem
  have : atI w.cps.toList 0 = some c := by
    have e : w.cps.toList = c :: r := h
    rw [e]
    exact atI_nat (j := 0) rfl
  rw [this]
theorem w_number_in {n : Nat} {Q : Int → Prop} (hn : n < 10 ^ 30) (q : Q (n : Int)) : wpm (m_number_in (istr (n : Int))) Q E := by
  have hl : (istr (n : Int)).length = (numL n).length := by rw [len_tl, tl_istr]
  have h1 : 1 ≤ (numL n).length := List.length_pos_iff.mpr (numL_ne n)
  have h30 : (numL n).length ≤ 30 := numL_len (by omega) hn
  have hs : (signs (istr (n : Int))).length = (numL n).length := by rw [signs_len, ← hl]; rfl
  unfold m_number_in
  refine bw (w_guard (decide_eq_true (by rw [hl]; unfold line; omega)) ?_)
  rw [if_pos (by rw [hl, Bool.and_eq_true, decide_eq_true_eq, decide_eq_true_eq]; omega)]
  refine bw (bw (w_guard (decide_eq_true (by rw [hs]; unfold line; omega)) ?_))
  refine bw (w_comp (g := fun _ => none) ?_ ?_)
  · intro y hy
    unfold signs at hy
    obtain ⟨c, hc, rfl⟩ := List.mem_map.mp hy
    have hd := numL_digits n c (by rw [← tl_istr n]; exact hc)
    rw [contains_sign, decide_eq_true (show c ∈ tl (PySem.Str.ofString "0123456789") by
      rw [tl_figures]
      simp only [List.mem_cons, List.not_mem_nil, or_false]
      omega)]
    rfl
  · have e : ∀ l : List PySem.Str, (l.filterMap fun _ => (none : Option PySem.Str)) = [] := fun l => by
      induction l with
      | nil => rfl
      | cons x l ih => exact ih
    rw [e]
    show wpm (m_need true >>= _) _ _
    rw [need_true, ok_bind]
    refine bw (wpm_imp (P := fun b => b = true) ?_ ?_)
    · by_cases h0 : n = 0
      · subst h0
        rw [if_pos (decide_eq_true (ext_tl (by rw [tl_nought, show ((0 : Nat) : Int) = ((0 : Nat) : Int) by rfl, tl_istr, numL_zero])))]
        rfl
      · obtain ⟨c, r, e1, e2, e3⟩ := numL_head n h0
        rw [if_neg (by
          rw [decide_eq_true_eq]
          exact str_ne (by rw [tl_istr, e1, tl_nought]; simp; omega))]
        refine bw (w_pfit (by rw [hl]; omega) ?_)
        rw [sitem0 (c := c) (r := r) (by rw [tl_istr, e1]), ok_bind]
        show (!decide _) = true
        rw [decide_eq_false (str_ne (by
          rw [tl_nought]
          show [c] ≠ [48]
          simp; omega))]
        rfl
    · intro b hb
      subst hb
      rw [need_true, ok_bind]
      have hi : pint (istr (n : Int)) = .ok (n : Int) := by
        unfold pint
        rw [show PySem.intText? (istr (n : Int)) = some (n : Int) from int_num (by omega)]
        show (if (istr (n : Int)).length ≤ 640 then M.ok (n : Int) else .stuck) = _
        rw [if_pos (by omega)]
      rw [hi, ok_bind]
      exact q
theorem w_hue_in {i : Int} {Q : Int → Prop} (h1 : -(10 ^ 30) < i) (h2 : i < 10 ^ 30) (q : Q i) : wpm (m_hue_in (istr i)) Q E := by
  have hl := istr_len h1 h2
  unfold m_hue_in
  refine bw (w_pfit (by omega) ?_)
  by_cases h0 : i < 0
  · have hc : cutS (istr i) none (some 1) = PySem.Str.ofString "-" := ext_tl (by rw [tl_cut1, tl_istr_neg h0, tl_dash]; rfl)
    rw [if_neg (by rw [hc]; simp)]
    have hne : istr i ≠ PySem.Str.ofString "-0" := str_ne (by
      rw [tl_istr_neg h0, tl_dash0]
      intro e
      rw [List.cons.injEq] at e
      have := numL_inj (e.2.trans numL_zero.symm)
      omega)
    rw [decide_eq_false hne]
    show wpm (m_need true >>= _) _ _
    rw [need_true, ok_bind]
    refine bw (w_pfit (by omega) ?_)
    have ht : cutS (istr i) (some 1) none = istr ((i.natAbs : Nat) : Int) := ext_tl (by
      rw [show (some (1 : Int)) = some ((1 : Nat) : Int) by rfl, tl_cut_from, tl_istr_neg h0, tl_istr]; rfl)
    rw [ht]
    refine bw (w_number_in (by omega) ?_)
    show Q _
    rw [show (0 : Int) - ((i.natAbs : Nat) : Int) = i by omega]
    exact q
  · obtain ⟨n, rfl⟩ := Int.eq_ofNat_of_zero_le (show 0 ≤ i by omega)
    have hc : cutS (istr (n : Int)) none (some 1) ≠ PySem.Str.ofString "-" := str_ne (by
      rw [tl_cut1, tl_istr, tl_dash]
      cases e : numL n with
      | nil => exact absurd e (numL_ne n)
      | cons c r =>
        have := numL_digits n c (by rw [e]; simp)
        simp; omega)
    rw [if_pos (by rw [decide_eq_false hc]; rfl)]
    exact bw (w_number_in (by omega) q)
theorem zp_take {α β : Type} {xs : List α} {ys : List β} (hl : ys.length = xs.length) {pre post : List (α × β × Unit)} {y : α × β × Unit} (e : zp xs ys = pre ++ y :: post) : pre.map (·.1) ++ [y.1] = (pre ++ [y]).map (·.1) := by
  rw [List.map_append]; rfl
theorem zp_fst {α β : Type} : ∀ {xs : List α} {ys : List β}, ys.length = xs.length → (zp xs ys).map (·.1) = xs
  | [], _, _ => rfl
  | x :: xs, [], h => by simp at h
  | x :: xs, y :: ys, h => by
    show x :: (zp xs ys).map (·.1) = _
    rw [zp_fst (by simpa using h)]
theorem zp_snd {α β : Type} : ∀ {xs : List α} {ys : List β}, ys.length = xs.length → (zp xs ys).map (·.2.1) = ys
  | [], [], _ => rfl
  | [], y :: ys, h => by simp at h
  | x :: xs, [], h => by simp at h
  | x :: xs, y :: ys, h => by
    show y :: (zp xs ys).map (·.2.1) = _
    rw [zp_snd (by simpa using h)]
theorem w_read_tree {par : List (Option Int)} {hues : List Int} {Q : List (Option Int) × List Int × Unit → Prop} (hh : hues.length = par.length) (h0 : 0 < par.length) (hl : par.length ≤ 1000) (hw : ∀ y ∈ zp par hues, OkW y)
    (ht : m_need_tree par = .ok ()) (q : Q (par, hues, ())) : wpm (m_read_tree (treeText par hues)) Q E := by
  have hz : (zp par hues).length = par.length := by rw [zp_len]; omega
  have hfree : ∀ x ∈ (zp par hues).map wordOf, 32 ∉ tl x := by
    intro x hx
    obtain ⟨y, _, rfl⟩ := List.mem_map.mp hx
    exact wordOf_free y
  have hne : (zp par hues).map wordOf ≠ [] := by
    intro e
    have := congrArg List.length e
    rw [List.length_map, hz] at this
    have this' : par.length = 0 := this
    omega
  have hsp : Txt.split (treeText par hues) (PySem.Str.ofString " ") = (zp par hues).map wordOf := words_split hne hfree
  have hlen : (treeText par hues).length ≤ 1000000 := by
    have := join_len (ys := (zp par hues).map wordOf) (k := 100) (by
      intro x hx
      obtain ⟨y, hy, rfl⟩ := List.mem_map.mp hx
      exact wordOf_len (hw y hy))
    rw [List.length_map, hz] at this
    unfold treeText
    omega
  unfold m_read_tree
  refine bw (w_psplit (by rw [show (PySem.Str.ofString " ").length = 1 from blank_len]; rfl) hlen ?_)
  rw [hsp]
  refine bw (w_for (I := fun pre st => ∃ zs post, zp par hues = zs ++ post ∧ pre = zs.map wordOf ∧ st = (zs.map (·.1), zs.map (·.2.1))) ⟨[], zp par hues, rfl, rfl, rfl⟩ ?_ ?_)
  · rintro pre x post st e ⟨zs, ps, e1, rfl, rfl⟩
    rw [e1, List.map_append] at e
    have e2 := List.append_cancel_left e
    cases ps with
    | nil => simp at e2
    | cons y ps =>
      rw [List.map_cons, List.cons.injEq] at e2
      obtain ⟨rfl, -⟩ := e2
      have hy := hw y (by rw [e1]; simp)
      have hzs : zs.length < 1000 := by
        have := congrArg List.length e1
        rw [hz, List.length_append, List.length_cons] at this
        omega
      have hwl := wordOf_len hy
      refine bw (w_ppart (by rw [show (PySem.Str.ofString ":").length = 1 from colon_len]; rfl) (by omega) ?_)
      have hp : tpart (wordOf y) (PySem.Str.ofString ":") = (ptext y.1, colon, istr y.2.1, ()) := by
        unfold tpart
        rw [show Txt.partition (wordOf y) (PySem.Str.ofString ":") = _ from wordOf_part y]
      rw [hp]
      rw [decide_eq_false (show ¬ (ptext y.1, colon, istr y.2.1, ()).2.1 = PySem.Str.ofString "" from str_ne (by show tl colon ≠ _; rw [tl_colon, tl_empty]; simp))]
      show wpm (m_need true >>= _) _ _
      rw [need_true, ok_bind]
      refine bw (wpm_imp (P := fun o => o = y.1) ?_ ?_)
      · cases e3 : y.1 with
        | none => rw [if_pos (decide_eq_true (show (ptext none, colon, istr y.2.1, ()).1 = PySem.Str.ofString "-" from rfl))]; rfl
        | some p =>
          obtain ⟨n, rfl⟩ := Int.eq_ofNat_of_zero_le (hy.p p e3).1
          have := (hy.p _ e3).2
          rw [if_neg (by
            rw [decide_eq_true_eq]
            refine str_ne ?_
            show tl (istr (n : Int)) ≠ _
            rw [tl_istr, tl_dash]
            intro e5
            have := numL_digits n 45 (by rw [e5]; simp)
            omega)]
          exact bw (w_number_in (by omega) rfl)
      · intro o ho
        subst ho
        refine bw (w_papp (by rw [List.length_map]; unfold line; omega) ?_)
        refine bw (w_hue_in hy.lo hy.hi ?_)
        refine bw (w_papp (by rw [List.length_map]; unfold line; omega) ?_)
        refine ⟨zs ++ [y], ps, by rw [e1]; simp, by rw [List.map_append]; rfl, ?_⟩
        rw [List.map_append, List.map_append]; rfl
  · rintro st ⟨zs, ps, e1, e2, rfl⟩
    have hps : ps = [] := by
      have := congrArg List.length e2
      rw [e1, List.length_map, List.length_map, List.length_append] at this
      exact List.length_eq_zero_iff.mp (by omega)
    subst hps
    rw [List.append_nil] at e1
    rw [← e1, zp_fst hh, zp_snd hh]
    show wpm (m_need_tree par >>= _) _ _
    rw [ht, ok_bind]
    exact q
end
end G
/-! any text: what its words write -/
namespace G
open PySem L2 TL
/-- figures of a number of one to thirty, none of nought ahead -/
def okB (cs : List Nat) : Bool := (decide (1 ≤ cs.length) && decide (cs.length ≤ 30)) && cs.all fun c => decide (48 ≤ c) && decide (c ≤ 57)
def okZ (cs : List Nat) : Bool := decide (cs = [48]) || !decide (cs.head? = some 48)
def numO (cs : List Nat) : Option Int := if (okB cs && okZ cs) = true then some ((NumText.digitsVal cs : Nat) : Int) else none
def hueO (cs : List Nat) : Option Int := if cs.take 1 ≠ [45] then numO cs else match numO (cs.drop 1) with
  | none => none
  | some v => if v = 0 then none else some (0 - v)
theorem fold_le : ∀ (cs : List Nat) (a : Nat), a ≤ cs.foldl (fun acc c => acc * 10 + (c - 48)) a
  | [], a => Nat.le_refl _
  | c :: cs, a => by
    rw [List.foldl_cons]
    refine Nat.le_trans ?_ (fold_le cs _)
    omega
theorem num_pos {cs : List Nat} (h : (okB cs && okZ cs) = true) (h0 : cs ≠ [48]) : NumText.digitsVal cs ≠ 0 := by
  rw [Bool.and_eq_true] at h
  obtain ⟨h1, h2⟩ := h
  unfold okB at h1
  rw [Bool.and_eq_true, Bool.and_eq_true, decide_eq_true_eq, decide_eq_true_eq, List.all_eq_true] at h1
  unfold okZ at h2
  rw [Bool.or_eq_true, decide_eq_true_eq] at h2
  cases cs with
  | nil => simp at h1
  | cons c r =>
    have hc := h1.2 c List.mem_cons_self
    rw [Bool.and_eq_true, decide_eq_true_eq, decide_eq_true_eq] at hc
    have hne : c ≠ 48 := by
      intro e
      subst e
      rcases h2 with h2 | h2
      · exact h0 h2
      · simp at h2
    unfold NumText.digitsVal
    rw [List.foldl_cons]
    have := fold_le r (0 * 10 + (c - 48))
    omega
theorem figs (c : Nat) : Txt.contains (PySem.Str.ofString "0123456789") ⟨#[c]⟩ = (decide (48 ≤ c) && decide (c ≤ 57)) := by
  rw [contains_sign, tl_figures, Bool.eq_iff_iff, Bool.and_eq_true, decide_eq_true_eq, decide_eq_true_eq, decide_eq_true_eq]
  simp only [List.mem_cons, List.not_mem_nil, or_false]
  omega
theorem figs_comp (x : PySem.Str) : ∃ l : List PySem.Str, compM (β := PySem.Str) (signs x) (fun y6 => if (!PySem.Txt.contains (PySem.Str.ofString "0123456789") y6) = true then (.ok (some y6)) else .ok none) = .ok l ∧ decide (l = []) = (tl x).all fun c => decide (48 ≤ c) && decide (c ≤ 57) := by
  refine ⟨_, compM_eq (g := fun y6 => if (!PySem.Txt.contains (PySem.Str.ofString "0123456789") y6) = true then some y6 else none) fun y _ => by split <;> rfl, ?_⟩
  rw [Bool.eq_iff_iff, decide_eq_true_eq, List.filterMap_eq_nil_iff, List.all_eq_true]
  unfold signs
  constructor
  · intro h c hc
    have := h _ (List.mem_map.mpr ⟨c, hc, rfl⟩)
    rw [figs] at this
    by_cases z : (decide (48 ≤ c) && decide (c ≤ 57)) = true
    · exact z
    · rw [Bool.not_eq_true] at z
      rw [z] at this
      cases this
  · intro h y hy
    obtain ⟨c, hc, rfl⟩ := List.mem_map.mp hy
    rw [figs, h c hc]
    rfl
theorem need_false : m_need false = .err .text := by unfold m_need; rfl
theorem need_true38 : m_need true = .ok () := by unfold m_need; rfl
theorem nought_iff (x : PySem.Str) : decide (x = PySem.Str.ofString "0") = decide (tl x = [48]) := by
  rw [Bool.eq_iff_iff, decide_eq_true_eq, decide_eq_true_eq]
  constructor
  · intro e; rw [e, tl_nought]
  · intro e; exact ext_tl (by rw [e, tl_nought])
theorem sign_nought (c : Nat) : decide ((⟨#[c]⟩ : PySem.Str) = PySem.Str.ofString "0") = decide (c = 48) := by
  rw [nought_iff, Bool.eq_iff_iff, decide_eq_true_eq, decide_eq_true_eq]
  show [c] = [48] ↔ _
  simp
theorem pint_figs {x : PySem.Str} (h : okB (tl x) = true) : pint x = .ok ((NumText.digitsVal (tl x) : Nat) : Int) := by
  unfold okB at h
  rw [Bool.and_eq_true, Bool.and_eq_true, decide_eq_true_eq, decide_eq_true_eq, List.all_eq_true] at h
  obtain ⟨⟨h1, h2⟩, h3⟩ := h
  have hl := len_tl x
  unfold pint
  rw [show PySem.intText? x = some ((NumText.digitsVal (tl x) : Nat) : Int) from PySem.intText_digits (fun c hc => by
    have := h3 c hc
    rw [Bool.and_eq_true, decide_eq_true_eq, decide_eq_true_eq] at this
    exact this) (fun e => by
      have e : tl x = [] := e
      rw [e] at h1; simp at h1) (by omega)]
  show (if x.length ≤ 640 then M.ok _ else .stuck) = _
  rw [if_pos (by omega)]
theorem guard_len {x : PySem.Str} (hl : x.length ≤ 1000000) : guardM (decide (x.length ≤ line)) = .ok () := by
  rw [decide_eq_true (by unfold line; omega)]; rfl
theorem guard_signs {x : PySem.Str} (hl : x.length ≤ 1000000) : guardM (decide ((signs x).length ≤ line)) = .ok () := by
  have : (signs x).length = x.length := signs_len
  rw [this]; exact guard_len hl
theorem pfit_ok {x : PySem.Str} (hl : x.length ≤ 1000000) : pfit x = .ok () := by
  unfold pfit
  rw [if_pos (by rw [sizeLine_eq]; omega)]
theorem span_eq (x : PySem.Str) : (decide (1 ≤ (x.length : Int)) && decide ((x.length : Int) ≤ 30)) = (decide (1 ≤ (tl x).length) && decide ((tl x).length ≤ 30)) := by
  rw [← len_tl]
  congr 1 <;> rw [Bool.eq_iff_iff, decide_eq_true_eq, decide_eq_true_eq] <;> omega
theorem number_in_eq {x : PySem.Str} (hl : x.length ≤ 1000000) : m_number_in x = match numO (tl x) with
    | some v => .ok v
    | none => .err .text := by
  obtain ⟨l, c1, c2⟩ := figs_comp x
  unfold m_number_in
  rw [guard_len hl, ok_bind, span_eq]
  have e3 : (if (decide (1 ≤ (tl x).length) && decide ((tl x).length ≤ 30)) = true then (guardM (decide (((signs x)).length ≤ line)) >>= fun _ => compM (β := PySem.Str) (signs x) (fun y6 => if (!PySem.Txt.contains (PySem.Str.ofString "0123456789") y6) = true then (.ok (some y6)) else .ok none) >>= fun t8 => .ok (decide (t8 = ([] : List (PySem.Str))))) else .ok false) = M.ok (okB (tl x)) := by
    unfold okB
    by_cases c : (decide (1 ≤ (tl x).length) && decide ((tl x).length ≤ 30)) = true
    · rw [if_pos c, guard_signs hl, ok_bind, c1, ok_bind, c2, c, Bool.true_and]
    · rw [if_neg c]
      rw [Bool.not_eq_true] at c
      rw [c, Bool.false_and]
  rw [e3, ok_bind]
  cases hb : okB (tl x) with
  | false =>
    unfold numO
    rw [need_false]
    show M.err .text = _
    rw [hb, Bool.false_and]
    rfl
  | true =>
    rw [need_true38, ok_bind]
    have e4 : (if (decide (x = (PySem.Str.ofString "0"))) = true then .ok true else (pfit x >>= fun _ => sitem x 0 >>= fun t23 => .ok (!decide (t23 = (PySem.Str.ofString "0"))))) = M.ok (okZ (tl x)) := by
      unfold okZ
      rw [nought_iff]
      by_cases c : decide (tl x = [48]) = true
      · rw [if_pos c, c, Bool.true_or]
      · rw [if_neg c, pfit_ok hl, ok_bind]
        rw [Bool.not_eq_true] at c
        cases ht : tl x with
        | nil => unfold okB at hb; rw [ht] at hb; simp at hb
        | cons d r =>
          rw [sitem0 ht, ok_bind, sign_nought]
          rw [ht] at c
          rw [c, Bool.false_or]
          simp
    rw [e4, ok_bind]
    unfold numO
    rw [hb, Bool.true_and]
    cases hz : okZ (tl x) with
    | false => rw [need_false, if_neg (by simp)]; rfl
    | true => rw [need_true38, ok_bind, pint_figs hb, ok_bind, if_pos rfl]
theorem law_number_eq {x : PySem.Str} (hl : x.length ≤ 1000000) : m_law_number x = .ok (numO (tl x)) := by
  obtain ⟨l, c1, c2⟩ := figs_comp x
  unfold m_law_number
  rw [guard_len hl, ok_bind, span_eq]
  have e3 : (if (!(decide (1 ≤ (tl x).length) && decide ((tl x).length ≤ 30))) = true then .ok true else (guardM (decide (((signs x)).length ≤ line)) >>= fun _ => compM (β := PySem.Str) (signs x) (fun y6 => if (!PySem.Txt.contains (PySem.Str.ofString "0123456789") y6) = true then (.ok (some y6)) else .ok none) >>= fun t8 => .ok (!decide (t8 = ([] : List (PySem.Str)))))) = M.ok (!okB (tl x)) := by
    unfold okB
    by_cases c : (decide (1 ≤ (tl x).length) && decide ((tl x).length ≤ 30)) = true
    · rw [c, if_neg (by simp), guard_signs hl, ok_bind, c1, ok_bind, c2, Bool.true_and]
    · rw [Bool.not_eq_true] at c
      rw [c, if_pos (show (!false) = true from rfl), Bool.false_and]; rfl
  rw [e3, ok_bind]
  unfold numO
  cases hb : okB (tl x) with
  | false => rw [if_pos (show (!false) = true from rfl), Bool.false_and, if_neg (by simp)]
  | true =>
    rw [if_neg (by simp), pfit_ok hl, ok_bind, Bool.true_and]
    cases ht : tl x with
    | nil => unfold okB at hb; rw [ht] at hb; simp at hb
    | cons d r =>
      rw [sitem0 ht, ok_bind, sign_nought, nought_iff, ht]
      have ez : okZ (d :: r) = !((decide (d = 48)) && (!decide (d :: r = [48]))) := by
        unfold okZ
        rw [List.head?_cons]
        have : decide (some d = some 48) = decide (d = 48) := by
          rw [Bool.eq_iff_iff, decide_eq_true_eq, decide_eq_true_eq, Option.some.injEq]
        rw [this]
        cases decide (d :: r = [48]) <;> cases decide (d = 48) <;> rfl
      rw [ez]
      cases hz : ((decide (d = 48)) && (!decide (d :: r = [48]))) with
      | true => rw [if_pos rfl, if_neg (by simp)]
      | false => rw [if_neg (by simp), if_pos (show (!false) = true from rfl), pint_figs hb, ok_bind, ht]
theorem cut_dash (x : PySem.Str) : decide ((cutS x none (some 1)) = (PySem.Str.ofString "-")) = decide ((tl x).take 1 = [45]) := by
  rw [Bool.eq_iff_iff, decide_eq_true_eq, decide_eq_true_eq]
  constructor
  · intro e; rw [← tl_cut1, e, tl_dash]
  · intro e; exact ext_tl (by rw [tl_cut1, e, tl_dash])
theorem cut_rest (x : PySem.Str) : tl (cutS x (some 1) none) = (tl x).drop 1 := by
  rw [show (some (1 : Int)) = some ((1 : Nat) : Int) by rfl, tl_cut_from]
theorem cut_rest_len {x : PySem.Str} (hl : x.length ≤ 1000000) : (cutS x (some 1) none).length ≤ 1000000 := by
  rw [len_tl, cut_rest, List.length_drop, ← len_tl]; omega
theorem hue_in_eq {x : PySem.Str} (hl : x.length ≤ 1000000) : m_hue_in x = match hueO (tl x) with
    | some v => .ok v
    | none => .err .text := by
  unfold m_hue_in hueO
  rw [pfit_ok hl, ok_bind, cut_dash]
  by_cases c : (tl x).take 1 = [45]
  · rw [if_neg (by simp [c]), if_neg (by simp [c])]
    have hx : tl x = 45 :: (tl x).drop 1 := by
      cases ht : tl x with
      | nil => rw [ht] at c; simp at c
      | cons d r =>
        rw [ht] at c
        have : d = 45 := by simpa using c
        rw [this]; rfl
    have e0 : decide (x = PySem.Str.ofString "-0") = decide ((tl x).drop 1 = [48]) := by
      rw [Bool.eq_iff_iff, decide_eq_true_eq, decide_eq_true_eq]
      constructor
      · intro e; rw [e, tl_dash0]; rfl
      · intro e; exact ext_tl (by rw [hx, e, tl_dash0])
    rw [e0]
    by_cases z : (tl x).drop 1 = [48]
    · rw [decide_eq_true z, show (!true) = false from rfl, need_false, z]
      have : numO [48] = some 0 := by decide
      rw [this]
      rfl
    · rw [decide_eq_false z, show (!false) = true from rfl, need_true38, ok_bind, ok_bind, number_in_eq (cut_rest_len hl), cut_rest]
      have hv : ∀ v, numO ((tl x).drop 1) = some v → v ≠ 0 := by
        intro v hv
        unfold numO at hv
        split at hv
        · rename_i ok
          have := num_pos ok z
          cases hv
          omega
        · cases hv
      cases en : numO ((tl x).drop 1) with
      | none => rfl
      | some v =>
        have := hv v en
        show (M.ok v >>= _) = _
        rw [ok_bind]
        dsimp only
        rw [if_neg this]
  · rw [if_pos (by simp [c]), if_pos c, number_in_eq hl]
    cases numO (tl x) <;> rfl
theorem law_hue_eq {x : PySem.Str} (hl : x.length ≤ 1000000) : m_law_hue x = .ok (hueO (tl x)) := by
  unfold m_law_hue hueO
  rw [pfit_ok hl, ok_bind, cut_dash]
  by_cases c : (tl x).take 1 = [45]
  · rw [if_neg (by simp [c]), if_neg (by simp [c]), ok_bind, law_number_eq (cut_rest_len hl), ok_bind, cut_rest]
    cases en : numO ((tl x).drop 1) with
    | none => rfl
    | some v =>
      by_cases z : v = 0
      · subst z; rw [if_pos (by simp)]; rfl
      · rw [if_neg (by simp [z])]
        show M.ok _ = _
        dsimp only
        rw [if_neg z]
  · rw [if_pos (by simp [c]), if_pos c, law_number_eq hl, ok_bind]
/-! splitting -/
theorem spl_sum (s : Nat) : ∀ (cs acc : List Nat), ((spl [s] 0 acc cs).map List.length).sum + (spl [s] 0 acc cs).length = acc.length + cs.length + 1
  | [], acc => by rw [spl_nil]; simp
  | c :: cs, acc => by
    cases h : pre [s] (c :: cs) with
    | true =>
      rw [spl_hit h]
      have := spl_sum s cs []
      show ((acc :: spl [s] 0 [] cs).map List.length).sum + (acc :: spl [s] 0 [] cs).length = _
      rw [List.map_cons, List.sum_cons, List.length_cons, List.length_cons]
      simp only [List.length_nil] at this
      omega
    | false =>
      rw [spl_miss h]
      have := spl_sum s cs (acc ++ [c])
      rw [List.length_append, List.length_singleton] at this
      rw [List.length_cons]
      omega
theorem sum_mem : ∀ (l : List (List Nat)) (x : List Nat), x ∈ l → x.length ≤ (l.map List.length).sum
  | y :: l, x, h => by
    rw [List.map_cons, List.sum_cons]
    rcases List.mem_cons.mp h with rfl | h
    · omega
    · have := sum_mem l x h; omega
theorem split_small (z : PySem.Str) : (∀ w ∈ Txt.split z (PySem.Str.ofString " "), w.length ≤ z.length) ∧ (Txt.split z (PySem.Str.ofString " ")).length ≤ z.length + 1 ∧ 1 ≤ (Txt.split z (PySem.Str.ofString " ")).length := by
  have e : tl (PySem.Str.ofString " ") = [32] := tl_blank1
  have h := split_spl z (PySem.Str.ofString " ") (by rw [e]; simp) (kind_ok (by decide +kernel))
  rw [e] at h
  have s := spl_sum 32 (tl z) []
  rw [← h] at s
  simp only [List.length_map, List.map_map, List.length_nil] at s
  have hz := len_tl z
  have hs : ∀ w ∈ Txt.split z (PySem.Str.ofString " "), w.length ≤ (((Txt.split z (PySem.Str.ofString " ")).map tl).map List.length).sum := fun w hw => by
    rw [len_tl]
    exact sum_mem _ _ (List.mem_map.mpr ⟨w, hw, rfl⟩)
  have hp : 1 ≤ (Txt.split z (PySem.Str.ofString " ")).length := by
    have : ((Txt.split z (PySem.Str.ofString " ")).map tl).length = (spl [32] 0 [] (tl z)).length := by rw [h]
    rw [List.length_map] at this
    rw [this]
    have key : ∀ (cs acc : List Nat), 1 ≤ (spl [32] 0 acc cs).length := by
      intro cs
      induction cs with
      | nil => intro acc; rw [spl_nil]; exact Nat.le_refl _
      | cons c cs ih =>
        intro acc
        cases h : pre [32] (c :: cs) with
        | true => rw [spl_hit h, List.length_cons]; omega
        | false => rw [spl_miss h]; exact ih _
    exact key _ _
  rw [List.map_map] at hs
  refine ⟨fun w hw => ?_, by omega, hp⟩
  have := hs w hw
  omega
theorem part_small (w : PySem.Str) : (tpart w (PySem.Str.ofString ":")).1.length ≤ w.length ∧ (tpart w (PySem.Str.ofString ":")).2.2.1.length ≤ w.length := by
  unfold tpart
  have key : ∀ (i j : Nat), (PySem.Builtin.Str.strSub w i j).length ≤ w.length := fun i j => by
    rw [len_tl, tl_strSub, List.length_take, List.length_drop, ← len_tl]; omega
  unfold Txt.partition
  split
  · exact ⟨key _ _, key _ _⟩
  · exact ⟨Nat.le_refl _, Nat.zero_le _⟩
end G
/-! trees by parents: children, the walk -/
namespace G
open PySem L2
theorem nodup_sub_len {l m : List Int} (h : l.Nodup) (hs : ∀ x ∈ l, x ∈ m) : l.length ≤ m.length := by
  induction l generalizing m with
  | nil => exact Nat.zero_le _
  | cons x l ih =>
    have h' := List.nodup_cons.mp h
    have hx := hs x List.mem_cons_self
    have := ih h'.2 (m := m.erase x) fun y hy => (List.mem_erase_of_ne (fun e => h'.1 (by rw [← e]; exact hy))).2 (hs y (List.mem_cons_of_mem _ hy))
    rw [List.length_erase_of_mem hx] at this
    have hp := List.length_pos_of_mem hx
    rw [List.length_cons]; omega
def numsTo (n : Nat) : List Int := (List.range n).map fun (i : Nat) => (i : Int)
theorem nums_len (n : Nat) : (numsTo n).length = n := by simp [numsTo]
theorem mem_nums {n : Nat} {x : Int} : x ∈ numsTo n ↔ 0 ≤ x ∧ x < n := by
  unfold numsTo
  rw [List.mem_map]
  constructor
  · rintro ⟨i, hi, rfl⟩
    rw [List.mem_range] at hi; omega
  · rintro ⟨h1, h2⟩
    exact ⟨x.toNat, by rw [List.mem_range]; omega, by omega⟩
theorem rng_nums (n : Nat) : rng 0 (n : Int) = numsTo n := by unfold rng numsTo; simp
theorem nodup_nums (n : Nat) : (numsTo n).Nodup := by
  unfold numsTo
  refine List.Pairwise.map _ (R := fun a b => a ≠ b) (fun a b h e => h (by omega)) List.nodup_range
abbrev Par := List (Option Int)
/-- the places below, upto m -/
def kidsTo (par : Par) (p : Int) (m : Nat) : List Int := (List.range m).filterMap fun (j : Nat) => if par[j]? = some (some p) then some (j : Int) else none
def kidsOf (par : Par) (p : Int) : List Int := kidsTo par p par.length
theorem kidsTo_succ (par : Par) (p : Int) (m : Nat) : kidsTo par p (m + 1) = kidsTo par p m ++ (if par[m]? = some (some p) then [(m : Int)] else []) := by
  unfold kidsTo
  rw [List.range_succ, List.filterMap_append]
  by_cases h : par[m]? = some (some p) <;> simp [h]
theorem mem_kidsTo {par : Par} {p : Int} {m : Nat} {x : Int} : x ∈ kidsTo par p m ↔ ∃ j : Nat, j < m ∧ par[j]? = some (some p) ∧ x = j := by
  unfold kidsTo
  rw [List.mem_filterMap]
  constructor
  · rintro ⟨j, hj, e⟩
    rw [List.mem_range] at hj
    by_cases h : par[j]? = some (some p)
    · rw [if_pos h] at e; exact ⟨j, hj, h, (Option.some.inj e).symm⟩
    · rw [if_neg h] at e; cases e
  · rintro ⟨j, hj, h, rfl⟩
    exact ⟨j, List.mem_range.2 hj, by rw [if_pos h]⟩
theorem mem_kidsOf {par : Par} {p x : Int} : x ∈ kidsOf par p ↔ ∃ j : Nat, par[j]? = some (some p) ∧ x = j := by
  unfold kidsOf
  rw [mem_kidsTo]
  constructor
  · rintro ⟨j, _, h1, h2⟩; exact ⟨j, h1, h2⟩
  · rintro ⟨j, h1, h2⟩; exact ⟨j, (List.getElem?_eq_some_iff.mp h1).1, h1, h2⟩
theorem nodup_kidsTo (par : Par) (p : Int) (m : Nat) : (kidsTo par p m).Nodup := by
  induction m with
  | zero => exact List.nodup_nil
  | succ m ih =>
    rw [kidsTo_succ, List.nodup_append]
    refine ⟨ih, by split <;> simp, fun a ha b hb e => ?_⟩
    obtain ⟨j, hj, _, rfl⟩ := mem_kidsTo.mp ha
    split at hb
    · have := List.mem_singleton.mp hb; omega
    · cases hb
theorem len_kidsTo (par : Par) (p : Int) (m : Nat) : (kidsTo par p m).length ≤ m := by
  unfold kidsTo
  have := List.length_filterMap_le (fun (j : Nat) => if par[j]? = some (some p) then some (j : Int) else none) (List.range m)
  rw [List.length_range] at this
  exact this
theorem filterMap_congrG {α β : Type} {f g : α → Option β} : ∀ {l : List α}, (∀ x ∈ l, f x = g x) → l.filterMap f = l.filterMap g
  | [], _ => rfl
  | x :: l, h => by
    rw [List.filterMap_cons, List.filterMap_cons, h x List.mem_cons_self, filterMap_congrG fun y hy => h y (List.mem_cons_of_mem _ hy)]
theorem en_filterMap {α β : Type} (g : Int × α × Unit → Option β) : ∀ (j : Int) (xs : List α), (en j xs).filterMap g = (List.range xs.length).filterMap fun (i : Nat) => (xs[i]?).bind fun x => g (j + (i : Int), x, ())
  | _, [] => rfl
  | j, x :: xs => by
    have ih := en_filterMap g (j + 1) xs
    rw [List.length_cons, List.range_succ_eq_map, List.filterMap_cons, List.filterMap_map]
    show ((j, x, ()) :: en (j + 1) xs).filterMap g = _
    rw [List.filterMap_cons, ih]
    have e : (fun (i : Nat) => (xs[i]?).bind fun y => g (j + 1 + (i : Int), y, ())) = (fun (i : Nat) => ((x :: xs)[i]?).bind fun y => g (j + (i : Int), y, ())) ∘ Nat.succ := by
      funext i
      show _ = ((x :: xs)[i + 1]?).bind _
      rw [List.getElem?_cons_succ]
      congr 1
      funext y
      congr 2
      omega
    rw [e]
    show (match g (j, x, ()) with
      | none => _
      | some b => _) = (match ((x :: xs)[0]?).bind (fun y => g (j + ((0 : Nat) : Int), y, ())) with
      | none => _
      | some b => _)
    rw [List.getElem?_cons_zero]
    show _ = (match g (j + ((0 : Nat) : Int), x, ()) with
      | none => _
      | some b => _)
    rw [show j + ((0 : Nat) : Int) = j by omega]
/-! ### trees -/
structure Tree (par : Par) (root : Nat) (rank : Nat → Nat) : Prop where
  lt : root < par.length
  no : par[root]? = some none
  uniq : ∀ j : Nat, par[j]? = some none → j = root
  inr : ∀ (j : Nat) (p : Int), par[j]? = some (some p) → 0 ≤ p ∧ p < par.length
  up : ∀ (j : Nat) (p : Int), par[j]? = some (some p) → rank p.toNat < rank j
structure Inv (par : Par) (root : Nat) (F R : List Int) : Prop where
  nd : (F ++ R).Nodup
  inr : ∀ x ∈ F ++ R, 0 ≤ x ∧ x < par.length
  root : (root : Int) ∈ F ++ R
  up : ∀ (j : Nat) (p : Int), par[j]? = some (some p) → ((j : Int) ∈ F ++ R ↔ p ∈ F)
section
variable {par : Par} {root : Nat} {rank : Nat → Nat} {F R : List Int}
theorem Inv.len (i : Inv par root F R) : (F ++ R).length ≤ par.length := by
  have := nodup_sub_len i.nd (m := numsTo par.length) fun x hx => mem_nums.2 (i.inr x hx)
  rw [nums_len] at this
  exact this
theorem Inv.start0 (lt : root < par.length) (no : par[root]? = some none) : Inv par root [] [(root : Int)] where
  nd := by simp
  inr := fun x hx => by
    rw [List.nil_append, List.mem_singleton] at hx
    omega
  root := by simp
  up := fun j p h => by
    rw [List.nil_append, List.mem_singleton]
    constructor
    · intro e
      have : j = root := by omega
      subst this
      rw [no] at h; cases h
    · intro h; cases h
theorem Inv.start (t : Tree par root rank) : Inv par root [] [(root : Int)] := Inv.start0 t.lt t.no
theorem Inv.step0 {p : Int} (i : Inv par root F (p :: R)) : Inv par root (F ++ [p]) (kidsOf par p ++ R) := by
  have hnd := List.nodup_append.mp i.nd
  have hpF : p ∉ F := fun h => hnd.2.2 p h p List.mem_cons_self rfl
  have pm : ((F ++ [p]) ++ (kidsOf par p ++ R)).Perm (kidsOf par p ++ (F ++ p :: R)) := by
    have e1 : (F ++ [p]) ++ (kidsOf par p ++ R) = ((F ++ [p]) ++ kidsOf par p) ++ R := by rw [List.append_assoc (F ++ [p])]
    have e2 : kidsOf par p ++ (F ++ p :: R) = (kidsOf par p ++ (F ++ [p])) ++ R := by simp
    rw [e1, e2]
    exact List.Perm.append_right _ List.perm_append_comm
  have hk : ∀ x ∈ kidsOf par p, x ∉ F ++ p :: R := fun x hx hm => by
    obtain ⟨j, h, rfl⟩ := mem_kidsOf.mp hx
    exact hpF ((i.up j p h).1 hm)
  refine ⟨?_, ?_, ?_, ?_⟩
  · rw [pm.nodup_iff, List.nodup_append]
    exact ⟨nodup_kidsTo _ _ _, i.nd, fun a ha b hb e => hk a ha (e ▸ hb)⟩
  · intro x hx
    rcases List.mem_append.mp (pm.mem_iff.mp hx) with h | h
    · obtain ⟨j, hj, rfl⟩ := mem_kidsOf.mp h
      have := (List.getElem?_eq_some_iff.mp hj).1
      omega
    · exact i.inr x h
  · exact pm.mem_iff.mpr (List.mem_append.mpr (.inr i.root))
  · intro j q h
    rw [pm.mem_iff, List.mem_append, i.up j q h, List.mem_append (s := F), List.mem_singleton]
    constructor
    · rintro (h1 | h1)
      · obtain ⟨j', hj', e⟩ := mem_kidsOf.mp h1
        have : j = j' := by omega
        subst this
        rw [h] at hj'
        exact .inr (Option.some.inj (Option.some.inj hj'))
      · exact .inl h1
    · rintro (h1 | h1)
      · exact .inr h1
      · subst h1
        exact .inl (mem_kidsOf.2 ⟨j, h, rfl⟩)
theorem Inv.step {p : Int} (t : Tree par root rank) (i : Inv par root F (p :: R)) : Inv par root (F ++ [p]) (kidsOf par p ++ R) := i.step0
theorem Inv.all (t : Tree par root rank) (i : Inv par root F []) : ∀ j : Nat, j < par.length → (j : Int) ∈ F := by
  have H : ∀ k j : Nat, rank j < k → j < par.length → (j : Int) ∈ F := by
    intro k
    induction k with
    | zero => intro j h; omega
    | succ k ih =>
      intro j hk hj
      have hF : ∀ x : Int, x ∈ F ++ [] ↔ x ∈ F := fun x => by rw [List.append_nil]
      cases e : par[j] with
      | none =>
        have := t.uniq j (by rw [List.getElem?_eq_getElem hj, e])
        subst this
        exact (hF _).1 i.root
      | some p =>
        have h : par[j]? = some (some p) := by rw [List.getElem?_eq_getElem hj, e]
        obtain ⟨h1, h2⟩ := t.inr j p h
        have h3 := t.up j p h
        have := ih p.toNat (by omega) (by omega)
        rw [Int.toNat_of_nonneg h1] at this
        exact (hF _).1 ((i.up j p h).2 this)
  exact fun j hj => H (rank j + 1) j (Nat.lt_succ_self _) hj
theorem Inv.full (t : Tree par root rank) (i : Inv par root F []) : F.length = par.length := by
  have h1 := i.len
  rw [List.append_nil] at h1
  have h2 := nodup_sub_len (nodup_nums par.length) (m := F) fun x hx => by
    obtain ⟨a, b⟩ := mem_nums.mp hx
    have := i.all t x.toNat (by omega)
    rw [Int.toNat_of_nonneg a] at this
    exact this
  rw [nums_len] at h2
  omega
theorem Inv.more (t : Tree par root rank) (i : Inv par root F R) (h : F.length < par.length) : ∃ p R', R = p :: R' := by
  cases R with
  | nil => have := i.full t; omega
  | cons p R' => exact ⟨p, R', rfl⟩
theorem Inv.done (i : Inv par root F R) (h : F.length = par.length) : R = [] := by
  have := i.len
  rw [List.length_append] at this
  exact List.length_eq_zero_iff.mp (by omega)
end
/-- the walk, so many turns -/
def twalk (par : Par) : Nat → List Int → List Int → List Int
  | 0, F, _ => F
  | _ + 1, F, [] => F
  | k + 1, F, p :: R => twalk par k (F ++ [p]) (kidsOf par p ++ R)
def walkT (par : Par) (root : Nat) : List Int := twalk par par.length [] [(root : Int)]
theorem walkT_inv {par : Par} {root : Nat} {rank : Nat → Nat} (t : Tree par root rank) : Inv par root (walkT par root) [] := by
  have H : ∀ k F R, Inv par root F R → F.length + k = par.length → Inv par root (twalk par k F R) [] := by
    intro k
    induction k with
    | zero =>
      intro F R i h
      have := i.done (by omega)
      subst this
      exact i
    | succ k ih =>
      intro F R i h
      obtain ⟨p, R', rfl⟩ := i.more t (by omega)
      exact ih _ _ (i.step t) (by simp; omega)
  exact H _ _ _ (Inv.start t) (by simp)
end G
/-! trees: what the mirrors give -/
namespace G
open PySem L2
theorem ixN_in {n : Nat} {i : Int} (h0 : 0 ≤ i) (h1 : i < n) : ixN n i = some i.toNat := by
  unfold ixN; rw [if_pos h0, if_pos h1]
theorem pidx_none {par : Par} {root : Nat} {rank : Nat → Nat} (t : Tree par root rank) : pidx par (none : Option Int) = .ok (root : Int) := by
  unfold pidx
  cases e : par.findIdx? (fun y => decide (y = none)) with
  | none =>
    have := List.findIdx?_eq_none_iff.mp e
    have h := t.no
    have hm := List.mem_of_getElem? h
    have := this _ hm
    simp at this
  | some j =>
    obtain ⟨hj, hx, _⟩ := List.findIdx?_eq_some_iff_getElem.mp e
    have hx' : par[j] = none := of_decide_eq_true hx
    have := t.uniq j (by rw [List.getElem?_eq_getElem hj, hx'])
    subst this
    rfl
/-- children by their parents -/
theorem kids_loop (par : Par) (hl : par.length ≤ 1000000) (hin : ∀ (j : Nat) (p : Int), par[j]? = some (some p) → 0 ≤ p ∧ p < par.length) {E : XC → Prop} {Q : List (List Int) → Prop}
    (q : ∀ st : List (List Int), st.length = par.length → (∀ p : Nat, p < par.length → st[p]? = some (kidsOf par p)) → Q st) :
    wpm (forM' (en 0 par) (List.replicate par.length ([] : List (Int))) (fun y6 st6 => if (!y6.2.1.isNone) = true then (unwrap y6.2.1 >>= fun t15 => pnapp st6 t15 y6.1 >>= fun t18 => .ok t18) else (.ok st6))) Q E := by
  refine w_for (I := fun pre st => st.length = par.length ∧ ∀ p : Nat, p < par.length → st[p]? = some (kidsTo par p pre.length)) ?_ ?_ ?_
  · refine ⟨by simp, fun p hp => ?_⟩
    rw [List.getElem?_replicate, if_pos hp]; rfl
  · intro pre y post st e ⟨h1, h2⟩
    have hlen : pre.length < par.length := by
      have := congrArg List.length e
      rw [en_len, List.length_append, List.length_cons] at this
      omega
    have hy : (en 0 par)[pre.length]? = some y := by rw [e]; simp
    obtain ⟨x, hx, rfl⟩ := en_get 0 par _ _ hy
    simp only [Int.zero_add, List.length_append, List.length_cons, List.length_nil]
    cases x with
    | none =>
      rw [if_neg (by simp)]
      refine ⟨h1, fun p hp => ?_⟩
      rw [h2 p hp, kidsTo_succ, hx, if_neg (by simp), List.append_nil]
    | some r =>
      obtain ⟨r0, r1⟩ := hin _ _ hx
      rw [if_pos (by simp)]
      show wpm (M.ok r >>= _) _ _
      rw [ok_bind]
      have hrn : r.toNat < par.length := by omega
      have e1 : ixN st.length r = some r.toNat := ixN_in r0 (by rw [h1]; exact r1)
      have e2 := h2 r.toNat hrn
      have e3 : pnapp st r (pre.length : Int) = .ok (st.set r.toNat (kidsTo par (r.toNat : Nat) pre.length ++ [(pre.length : Int)])) := by
        unfold pnapp
        rw [e1]
        dsimp only
        rw [e2]
        dsimp only
        rw [if_pos (by have := len_kidsTo par (r.toNat : Nat) pre.length; unfold line; omega)]
      rw [e3, ok_bind]
      refine ⟨by rw [List.length_set]; exact h1, fun p hp => ?_⟩
      rw [List.getElem?_set, kidsTo_succ, hx]
      by_cases c : r.toNat = p
      · have : r = (p : Int) := by omega
        subst this
        rw [if_pos (by omega), if_pos (by omega), if_pos rfl]
        simp
      · have : ¬ some (some r) = some (some (p : Int)) := fun z => c (by have := Option.some.inj (Option.some.inj z); omega)
        rw [if_neg c, if_neg this, List.append_nil]
        exact h2 p hp
  · intro st ⟨h1, h2⟩
    rw [en_len] at h2
    exact q st h1 h2
theorem walk_loop {par : Par} {root : Nat} {rank : Nat → Nat} (t : Tree par root rank) (hl : par.length ≤ 1000000) {ks : List (List Int)} (hk : ∀ p : Nat, p < par.length → ks[p]? = some (kidsOf par p)) :
    ∀ (k : Nat) (F R : List Int), Inv par root F R → F.length + k = par.length → ∀ m, k < m →
      whileM m ((R.reverse, F) : List Int × List Int) (fun st26 => .ok (!decide (st26.1 = ([] : List Int)))) (fun st26 => ppop st26.1 >>= fun t32 => papp st26.2 t32.1 >>= fun _ => idx ks t32.1 >>= fun t36 => pcat t32.2 t36.reverse >>= fun _ => .ok ((t32.2 ++ t36.reverse), (st26.2 ++ [t32.1]))) = .ok (([] : List Int), twalk par k F R) := by
  intro k
  induction k with
  | zero =>
    intro F R i h m hm
    have := i.done (by omega)
    subst this
    obtain ⟨m, rfl⟩ : ∃ m', m = m' + 1 := ⟨m - 1, by omega⟩
    rfl
  | succ k ih =>
    intro F R i h m hm
    obtain ⟨p, R', rfl⟩ := i.more t (by omega)
    obtain ⟨m, rfl⟩ : ∃ m', m = m' + 1 := ⟨m - 1, by omega⟩
    obtain ⟨p0, p1⟩ := i.inr p (by simp)
    have hlen := i.len
    rw [List.length_append, List.length_cons] at hlen
    have e0 : ppop (p :: R').reverse = .ok (p, R'.reverse) := by
      unfold ppop
      have : (p :: R').reverse[(p :: R').reverse.length - 1]? = some p := by
        rw [List.reverse_cons]; simp
      rw [this]
      simp
    have e1 : papp F p = .ok (F ++ [p]) := by
      unfold papp; rw [if_pos (by unfold line; omega)]
    have e2 : idx ks p = .ok (kidsOf par p) := by
      have := hk p.toNat (by omega)
      rw [Int.toNat_of_nonneg p0] at this
      unfold idx
      have ha : atI ks p = some (kidsOf par p) := by
        have := atI_nat this
        rw [Int.toNat_of_nonneg p0] at this
        exact this
      rw [ha]
    have hkl := len_kidsTo par p par.length
    have e3 : pcat R'.reverse (kidsOf par p).reverse = .ok (R'.reverse ++ (kidsOf par p).reverse) := by
      unfold pcat; rw [if_pos (by rw [List.length_reverse, List.length_reverse]; unfold kidsOf line; omega)]
    have c : (!decide ((p :: R').reverse = ([] : List Int))) = true := by simp
    show (M.ok (!decide ((p :: R').reverse = ([] : List Int))) >>= _) = _
    rw [ok_bind, if_pos c]
    dsimp only
    rw [e0, ok_bind]
    dsimp only
    rw [e1, ok_bind, e2, ok_bind, e3, ok_bind, ok_bind]
    have := ih (F ++ [p]) (kidsOf par p ++ R') (i.step t) (by simp; omega) m (by omega)
    rw [List.reverse_append] at this
    exact this
theorem walk_of_eq {par : Par} {root : Nat} {rank : Nat → Nat} (t : Tree par root rank) (hl : par.length ≤ 900000) : m_walk_of par = .ok (walkT par root) := by
  have H : wpm (m_walk_of par) (fun r => r = walkT par root) (fun _ => False) := by
    unfold m_walk_of
    refine bw (kids_loop par (by omega) t.inr fun ks hk1 hk2 => ?_)
    rw [pidx_none t, ok_bind]
    have := walk_loop t (by omega) hk2 par.length [] [(root : Int)] (Inv.start t) (by simp) fuelW (by unfold fuelW; omega)
    rw [List.reverse_singleton] at this
    rw [this, ok_bind]
    rfl
  obtain ⟨a, h1, h2⟩ := ok_of H
  rw [h1, h2]
/-! need_tree -/
theorem nones {par : Par} {root : Nat} {rank : Nat → Nat} (t : Tree par root rank) : (par.filterMap fun y => if y.isNone = true then some y else none).length = 1 := by
  have e : par = par.take root ++ none :: par.drop (root + 1) := by
    have h := t.no
    have h1 : par[root]'t.lt = none := by
      rw [List.getElem?_eq_getElem t.lt] at h
      exact Option.some.inj h
    rw [← h1]
    rw [List.getElem_cons_drop, List.take_append_drop]
  have z : ∀ l : Par, (∀ x ∈ l, x.isNone = false) → (l.filterMap fun y => if y.isNone = true then some y else none) = [] := by
    intro l hl
    induction l with
    | nil => rfl
    | cons x l ih =>
      rw [List.filterMap_cons, hl x List.mem_cons_self]
      exact ih fun y hy => hl y (List.mem_cons_of_mem _ hy)
  have nn : ∀ (j : Nat) (x : Option Int), j ≠ root → par[j]? = some x → x.isNone = false := fun j x hj hx => by
    cases x with
    | none => exact absurd (t.uniq j hx) hj
    | some p => rfl
  rw [e, List.filterMap_append, List.filterMap_cons, z, z]
  · rfl
  · intro x hx
    obtain ⟨i, hi⟩ := List.getElem?_of_mem hx
    rw [List.getElem?_drop] at hi
    exact nn _ _ (by omega) hi
  · intro x hx
    obtain ⟨i, hi⟩ := List.getElem?_of_mem hx
    rw [List.getElem?_take] at hi
    split at hi
    · exact nn _ _ (by omega) hi
    · cases hi
theorem need_tree_eq {par : Par} {root : Nat} {rank : Nat → Nat} (t : Tree par root rank) (hl : par.length ≤ 900000) : m_need_tree par = .ok () := by
  unfold m_need_tree
  rw [compM_eq (g := fun _ => none), ok_bind]
  · have e : (par.filterMap fun _ => (none : Option (Option Int))) = [] := by
      have : ∀ l : Par, (l.filterMap fun _ => (none : Option (Option Int))) = [] := fun l => by
        induction l with
        | nil => rfl
        | cons x l ih => exact ih
      exact this par
    rw [e, if_neg (by simp)]
    rw [compM_eq (g := fun y => if y.isNone = true then some y else none), ok_bind, nones t]
    · rw [ok_bind, if_neg (by simp), walk_of_eq t hl, ok_bind]
      have := (walkT_inv t).full t
      rw [if_neg (by rw [this]; simp)]
    · intro y _
      by_cases c : y.isNone = true
      · rw [if_pos c, if_pos c]
      · rw [if_neg c, if_neg c]
  · intro y hy
    cases y with
    | none => rfl
    | some p =>
      obtain ⟨j, hj⟩ := List.getElem?_of_mem hy
      obtain ⟨h1, h2⟩ := t.inr j p hj
      show (M.ok (!(decide (0 ≤ p) && decide (p < (par.length : Int)))) >>= _) = _
      rw [ok_bind, decide_eq_true h1, decide_eq_true h2]
      rfl
end G
/-! what the law's own helpers give -/
namespace G
open PySem L2
section
variable {α : Type} {P : α → Prop} {E : XC → Prop}
theorem w_idxAll {xs : List α} {i : Int} (h0 : 0 ≤ i) (h1 : i < xs.length) (h : ∀ x ∈ xs, P x) : wpm (idx xs i) P E := w_idx (atI_some h0 h1) (h _ (List.getElem_mem _))
theorem w_pins {xs : List α} {i : Int} {x : α} {Q : List α → Prop} (h : xs.length < 1000000) (h0 : 0 ≤ i) (h1 : i < 1000000) (q : Q (xs.take i.toNat ++ [x] ++ xs.drop i.toNat)) : wpm (pins xs i x) Q E := by
  unfold pins
  refine w_ite ⟨by unfold line; omega, h0, ?_⟩ q
  have : (2 : Int) ^ 63 = 9223372036854775808 := by decide +kernel
  rw [this]; omega
theorem w_prep {xs : List α} {n : Int} {Q : List α → Prop} (h : xs.length * n.toNat ≤ 1000000) (h0 : 0 ≤ n) (h1 : n < 1000000) (q : Q (List.replicate n.toNat xs).flatten) : wpm (prep xs n) Q E := by
  unfold prep
  have : (2 : Int) ^ 63 = 9223372036854775808 := by decide +kernel
  refine w_ite ⟨by rw [this]; omega, by rw [this]; omega, by unfold line; omega⟩ q
theorem w_plrg {b : Int} {Q : List Int → Prop} (h0 : 0 ≤ b) (h1 : b < 1000000) (q : Q (rng 0 b)) : wpm (plrg 0 b) Q E := by
  unfold plrg
  have : (2 : Int) ^ 62 = 4611686018427387904 := by decide +kernel
  have h2 : (2 : Nat) ^ 24 = 16777216 := by decide +kernel
  refine w_ite ⟨by rw [this]; omega, by rw [this]; omega, by rw [this]; omega, by rw [this]; omega, by rw [h2]; omega⟩ q
theorem w_pset {xs : List α} {i : Int} {x : α} {Q : List α → Prop} (h0 : 0 ≤ i) (h1 : i < xs.length) (q : Q (xs.set i.toNat x)) : wpm (pset xs i x) Q E := by
  unfold pset; rw [ixN_in h0 h1]; exact q
end
theorem small_prng {a k : Int} (h0 : -1000000 ≤ a) (h2 : a ≤ 1000000) (h3 : -1000000 ≤ k) (h1 : k ≤ 1000000) : -(2 ^ 62) ≤ a ∧ a < 2 ^ 62 ∧ -(2 ^ 62) ≤ k ∧ k < 2 ^ 62 := by
  have : (2 : Int) ^ 62 = 4611686018427387904 := by decide +kernel
  rw [this]; omega
theorem flat_one {α : Type} (x : α) (n : Nat) : (List.replicate n [x]).flatten = List.replicate n x := by
  induction n with
  | zero => rfl
  | succ n ih => rw [List.replicate_succ, List.flatten_cons, ih]; rfl
theorem idxOf_at {C : List Int} (nd : C.Nodup) {i : Nat} {c : Int} (h : C[i]? = some c) : C.idxOf c = i := by
  obtain ⟨hi, rfl⟩ := List.getElem?_eq_some_iff.mp h
  exact nd.idxOf_getElem i hi
/-- parents laid along an order of the places, each ahead of those below it -/
structure Laid (C : List Int) (k : Nat) (st : Par) : Prop where
  len : st.length = C.length
  no : ∀ (i : Nat) (c : Int), C[i]? = some c → (i = 0 ∨ k ≤ i) → st[c.toNat]? = some none
  yes : ∀ (i : Nat) (c : Int), C[i]? = some c → 0 < i → i < k → ∃ (j : Nat) (d : Int), j < i ∧ C[j]? = some d ∧ st[c.toNat]? = some (some d)
theorem Laid.tree {C : List Int} {st : Par} (n : Nat) (h0 : 0 < n) (hp : C.Perm (numsTo n)) (l : Laid C n st) : ∃ root, Tree st root (fun j => C.idxOf (j : Int)) := by
  have hlen : C.length = n := by rw [hp.length_eq, nums_len]
  have nd : C.Nodup := hp.nodup_iff.2 (nodup_nums n)
  have hin : ∀ c ∈ C, 0 ≤ c ∧ c < n := fun c hc => mem_nums.1 (hp.mem_iff.1 hc)
  have hat : ∀ j : Nat, j < n → ∃ i : Nat, i < n ∧ C[i]? = some (j : Int) := fun j hj => by
    have : (j : Int) ∈ C := hp.mem_iff.2 (mem_nums.2 ⟨by omega, by omega⟩)
    obtain ⟨i, hi⟩ := List.getElem?_of_mem this
    exact ⟨i, by have := (List.getElem?_eq_some_iff.mp hi).1; omega, hi⟩
  have hc0 : C[0]? = some C[0] := List.getElem?_eq_getElem (by omega)
  have hr := hin _ (List.mem_of_getElem? hc0)
  refine ⟨C[0].toNat, ⟨?_, ?_, ?_, ?_, ?_⟩⟩
  · rw [l.len]; omega
  · exact l.no 0 _ hc0 (.inl rfl)
  · intro j hj
    have hjl := (List.getElem?_eq_some_iff.mp hj).1
    rw [l.len, hlen] at hjl
    obtain ⟨i, hi, e⟩ := hat j hjl
    by_cases c : i = 0
    · subst c
      rw [hc0] at e
      have := Option.some.inj e
      omega
    · obtain ⟨i', d, _, _, h3⟩ := l.yes i _ e (by omega) hi
      rw [Int.toNat_natCast, hj] at h3
      cases h3
  · intro j p hj
    have hjl := (List.getElem?_eq_some_iff.mp hj).1
    rw [l.len, hlen] at hjl
    obtain ⟨i, hi, e⟩ := hat j hjl
    by_cases c : i = 0
    · have := l.no i _ e (.inl c)
      rw [Int.toNat_natCast, hj] at this
      cases this
    · obtain ⟨i', d, _, h2, h3⟩ := l.yes i _ e (by omega) hi
      rw [Int.toNat_natCast, hj] at h3
      have := Option.some.inj (Option.some.inj h3)
      subst this
      have := hin _ (List.mem_of_getElem? h2)
      rw [l.len, hlen]
      exact this
  · intro j p hj
    have hjl := (List.getElem?_eq_some_iff.mp hj).1
    rw [l.len, hlen] at hjl
    obtain ⟨i, hi, e⟩ := hat j hjl
    by_cases c : i = 0
    · have := l.no i _ e (.inl c)
      rw [Int.toNat_natCast, hj] at this
      cases this
    · obtain ⟨i', d, h1, h2, h3⟩ := l.yes i _ e (by omega) hi
      rw [Int.toNat_natCast, hj] at h3
      have := Option.some.inj (Option.some.inj h3)
      subst this
      have hd := hin _ (List.mem_of_getElem? h2)
      show C.idxOf ((p.toNat : Nat) : Int) < C.idxOf (j : Int)
      rw [Int.toNat_of_nonneg hd.1, idxOf_at nd h2, idxOf_at nd e]
      exact h1
end G
/-! what the law's own helpers give -/
namespace G
open PySem L2
theorem w_stir {E : XC → Prop} {Q : Int → Prop} {cell k : Int} (h : 0 ≤ k) (q : ∀ v, 0 ≤ v → v < 65536 → Q v) : wpm (m_law_stir cell k) Q E := by
  unfold m_law_stir
  by_cases c : decide (1000000000000000000 ≤ cell) = true
  · rw [if_pos c]
    exact bw (w_pshr (by omega) (q _ (Int.emod_nonneg _ (by omega)) (Int.emod_lt_of_pos _ (by omega))))
  · rw [if_neg c]
    generalize hv : ((((cell % 2147483629) + (1013 * k)) + 1) * 16807) % 2147483647 = v
    have hv0 : 0 ≤ v := by rw [← hv]; exact Int.emod_nonneg _ (by omega)
    have hv1 : v < 2147483647 := by rw [← hv]; exact Int.emod_lt_of_pos _ (by omega)
    have : (2 : Int) ^ 64 = 18446744073709551616 := by decide +kernel
    refine bw (w_pmul (.inl ⟨by rw [this]; omega, by rw [this]; omega⟩) (q _ (Int.emod_nonneg _ (by omega)) (Int.emod_lt_of_pos _ (by omega))))
theorem w_order {E : XC → Prop} {Q : List Int → Prop} {cell base : Int} {n : Nat} (hb : 0 ≤ base) (hn : n < 900000) (q : ∀ xs : List Int, xs.Perm (numsTo n) → Q xs) : wpm (m_law_order cell base (n : Int)) Q E := by
  unfold m_law_order
  refine bw (w_prng (small_prng (by omega) (by omega) (by omega) (by omega)) (bw (w_forRng (I := fun k st => ∃ m : Nat, k = m ∧ m ≤ n ∧ st.Perm (numsTo m)) (by omega) ⟨0, rfl, Nat.zero_le _, List.Perm.nil⟩ ?_ ?_)))
  · rintro k st k0 k1 ⟨m, rfl, hm, hp⟩
    refine bw (w_stir (by omega) fun v v0 v1 => bw (w_pmod (by omega) ?_))
    have hlen : st.length = m := by rw [hp.length_eq, nums_len]
    have a0 := Int.emod_nonneg v (b := (m : Int) + 1) (by omega)
    have a1 := Int.emod_lt_of_pos v (b := (m : Int) + 1) (by omega)
    refine bw (w_pins (by omega) a0 (by omega) ?_)
    refine ⟨m + 1, rfl, by omega, ?_⟩
    generalize ((v % ((m : Int) + 1))).toNat = i
    have e : numsTo (m + 1) = numsTo m ++ [(m : Int)] := by unfold numsTo; rw [List.range_succ, List.map_append]; rfl
    rw [e]
    have p1 : (st.take i ++ [(m : Int)] ++ st.drop i).Perm ((m : Int) :: (st.take i ++ st.drop i)) := by
      rw [List.append_assoc]; exact List.perm_middle
    rw [List.take_append_drop] at p1
    exact p1.trans ((List.Perm.cons _ hp).trans (List.perm_append_comm (l₁ := [(m : Int)])))
  · rintro st ⟨m, e, _, hp⟩
    have : m = n := by omega
    subst this
    exact q st hp
theorem w_tree {E : XC → Prop} {Q : Par → Prop} {cell most : Int} (h0 : 1 ≤ most) (h1 : most ≤ 100000) (q : ∀ par root rank, Tree par root rank → (par.length : Int) ≤ most → Q par) : wpm (m_law_tree cell most) Q E := by
  unfold m_law_tree
  refine bw (w_stir (by omega) fun t1 a1 b1 => bw (w_stir (by omega) fun t7 a7 b7 => ?_))
  refine bw (wpm_imp (P := fun x => 1 ≤ x) (w_idxAll (Int.emod_nonneg _ (by omega)) (by have := Int.emod_lt_of_pos t7 (b := 4) (by omega); simpa using this) ?_) fun t10 h10 => ?_)
  · intro x hx
    simp only [List.mem_cons, List.not_mem_nil, or_false] at hx
    omega
  refine bw (w_pmod (by omega) (bw (w_stir (by omega) fun t11 a11 b11 => ?_)))
  have e0 := Int.emod_nonneg t1 (b := t10) (by omega)
  obtain ⟨n, hn⟩ : ∃ n : Nat, min most (1 + t1 % t10) = n := ⟨(min most (1 + t1 % t10)).toNat, by omega⟩
  have hn0 : 0 < n := by omega
  have hn1 : (n : Int) ≤ most := by omega
  rw [hn]
  refine bw (w_plrg (by omega) (by omega) ?_)
  refine bw (wpm_imp (P := fun C : List Int => C.Perm (numsTo n)) ?_ fun C hp => ?_)
  · refine bw (w_stir (by omega) fun t18 _ _ => ?_)
    by_cases c : decide (0 < t18 % 3) = true
    · rw [if_pos c]
      exact bw (w_order (by omega) (by omega) fun xs h => h)
    · rw [if_neg c, rng_nums]
      exact List.Perm.refl _
  have hlen : C.length = n := by rw [hp.length_eq, nums_len]
  have nd : C.Nodup := hp.nodup_iff.2 (nodup_nums n)
  have hin : ∀ c ∈ C, 0 ≤ c ∧ c < n := fun c hc => mem_nums.1 (hp.mem_iff.1 hc)
  refine bw (w_prep (by simp; omega) (by omega) (by omega) ?_)
  rw [flat_one, Int.toNat_natCast]
  refine bw (w_prng (small_prng (by omega) (by omega) (by omega) (by omega)) (bw (w_forRng (I := fun k st => ∃ m : Nat, k = m ∧ 1 ≤ m ∧ m ≤ n ∧ Laid C m st) (by omega) ⟨1, rfl, Nat.le_refl _, hn0, ?_, ?_, ?_⟩ ?_ ?_)))
  · simp [hlen]
  · intro i c hi _
    have := hin c (List.mem_of_getElem? hi)
    rw [List.getElem?_replicate, if_pos (by omega)]
  · intro i c _ h2 h3; omega
  · rintro k st k0 k1 ⟨m, rfl, hm0, hm1, l⟩
    refine bw (w_stir (by omega) fun t35 a35 b35 => bw (w_pmod (by omega) ?_))
    have c0 := Int.emod_nonneg t35 (b := (m : Int)) (by omega)
    have c1 := Int.emod_lt_of_pos t35 (b := (m : Int)) (by omega)
    have s0 : 0 ≤ t11 % 6 := Int.emod_nonneg _ (by decide)
    have s1 : t11 % 6 < 6 := Int.emod_lt_of_pos _ (by decide)
    refine bw (wpm_imp (P := fun x : Int => 0 ≤ x ∧ x < (m : Int)) (w_idxAll s0 (by simpa using s1) ?_) fun t41 h41 => ?_)
    · intro x hx
      simp only [List.mem_cons, List.not_mem_nil, or_false] at hx
      rcases hx with rfl | rfl | rfl | rfl | rfl | rfl <;> omega
    have g1 : C[t41.toNat]? = some (C[t41.toNat]'(by omega)) := List.getElem?_eq_getElem _
    have g2 : C[m]? = some (C[m]'(by omega)) := List.getElem?_eq_getElem _
    generalize C[t41.toNat]'(by omega) = d at g1
    generalize C[m]'(by omega) = c at g2
    have hc := hin c (List.mem_of_getElem? g2)
    refine bw (w_idx (x := d) (by have := atI_nat g1; rw [Int.toNat_of_nonneg h41.1] at this; exact this) (bw (w_idxN g2 (bw (w_pset hc.1 (by rw [l.len, hlen]; exact hc.2) ?_)))))
    refine ⟨m + 1, rfl, by omega, by omega, ⟨by rw [List.length_set]; exact l.len, ?_, ?_⟩⟩
    · intro i c' hi hz
      have hc' := hin c' (List.mem_of_getElem? hi)
      have hne : i ≠ m := by omega
      have : c.toNat ≠ c'.toNat := fun e => hne (by
        have e' : c = c' := by omega
        subst e'
        have x1 := idxOf_at nd hi
        have x2 := idxOf_at nd g2
        omega)
      rw [List.getElem?_set_ne this]
      exact l.no i c' hi (by omega)
    · intro i c' hi i0 i1
      have hc' := hin c' (List.mem_of_getElem? hi)
      by_cases e : i = m
      · subst e
        rw [g2] at hi
        have := Option.some.inj hi
        subst this
        refine ⟨t41.toNat, d, by omega, g1, ?_⟩
        rw [List.getElem?_set_self (by rw [l.len, hlen]; omega)]
      · have : c.toNat ≠ c'.toNat := fun e' => e (by
          have e2 : c = c' := by omega
          subst e2
          have x1 := idxOf_at nd hi
          have x2 := idxOf_at nd g2
          omega)
        obtain ⟨j, d', j1, j2, j3⟩ := l.yes i c' hi i0 (by omega)
        exact ⟨j, d', j1, j2, by rw [List.getElem?_set_ne this]; exact j3⟩
  · rintro st ⟨m, e, _, _, l⟩
    have : m = n := by omega
    subst this
    obtain ⟨root, t⟩ := l.tree m hn0 hp
    exact q st root _ t (by rw [l.len, hlen]; exact hn1)
end G
/-! same: the same data are -/
namespace G
open PySem L2
inductive Plain : Nat → PyData → Prop
  | none {n : Nat} : Plain (n + 1) .none
  | int {n : Nat} (i : Int) : Plain (n + 1) (.int i)
  | list {n : Nat} {xs : List PyData} (hl : xs.length ≤ 1000000) (h : ∀ x ∈ xs, Plain n x) : Plain (n + 1) (.list xs)
  | tuple {n : Nat} {xs : List PyData} (hl : xs.length ≤ 1000000) (h : ∀ x ∈ xs, Plain n x) : Plain (n + 1) (.tuple xs)
theorem tIs_int_str : tIs "int" "str" = false := by decide +kernel
theorem tIs_int_list : tIs "int" "list" = false := by decide +kernel
theorem tIs_int_tuple : tIs "int" "tuple" = false := by decide +kernel
theorem tIs_int_int : tIs "int" "int" = true := by decide +kernel
theorem tIs_int_bool : tIs "int" "bool" = false := by decide +kernel
theorem tIs_list_str : tIs "list" "str" = false := by decide +kernel
theorem tIs_list_list : tIs "list" "list" = true := by decide +kernel
theorem tIs_list_tuple : tIs "list" "tuple" = false := by decide +kernel
theorem tIs_tuple_str : tIs "tuple" "str" = false := by decide +kernel
theorem tIs_tuple_list : tIs "tuple" "list" = false := by decide +kernel
theorem tIs_tuple_tuple : tIs "tuple" "tuple" = true := by decide +kernel
theorem zp_self (xs : List PyData) : ∀ y ∈ zp xs xs, ∃ x ∈ xs, y = (x, x, ()) := by
  intro y hy
  obtain ⟨i, hi⟩ := List.getElem?_of_mem hy
  obtain ⟨a, b, h1, h2, h3⟩ := zp_get xs xs i y hi
  rw [h1] at h2
  have := Option.some.inj h2
  subst this
  exact ⟨a, List.mem_of_getElem? h1, h3⟩
theorem same_items {n : Nat} {xs : List PyData} (hl : xs.length ≤ 1000000) (ih : ∀ x ∈ xs, m_law_same n x x = .ok true) :
    (guardM (decide ((zp xs xs).length ≤ line)) >>= fun _ => compM (β := Int) (zp xs xs) (fun y23 => noerr (m_law_same n y23.1 y23.2.1) >>= fun t34 => if (!t34) = true then (.ok (some 1)) else .ok none) >>= fun t38 => (.ok (decide (t38 = ([] : List Int))) : M Bool)) = .ok true := by
  have hz : (zp xs xs).length = xs.length := by rw [zp_len]; exact Nat.min_self _
  have hg : guardM (decide ((zp xs xs).length ≤ line)) = .ok () := by
    rw [hz, decide_eq_true (by unfold line; omega)]; rfl
  rw [hg, ok_bind, compM_eq (g := fun _ => none), ok_bind]
  · have e : ∀ l : List (PyData × PyData × Unit), (l.filterMap fun _ => (none : Option Int)) = [] := fun l => by
      induction l with
      | nil => rfl
      | cons x l ih => exact ih
    rw [e]; rfl
  · intro y hy
    obtain ⟨x, hx, rfl⟩ := zp_self xs y hy
    dsimp only
    rw [ih x hx]; rfl
theorem same_list {n : Nat} {xs : List PyData} (k : Int) (hk : dlen (.list xs) = .ok k) (hl : xs.length ≤ 1000000) (ih : ∀ x ∈ xs, m_law_same n x x = .ok true) : m_law_same (n + 1) (.list xs) (.list xs) = .ok true := by
  have H := same_items hl ih
  unfold m_law_same
  simp only [dNone, dIs, tyD, tIs_list_str, tIs_list_list, tIs_list_tuple, Bool.or_false, Bool.false_eq_true, if_false, if_true, decide_true, Bool.not_true]
  rw [ok_bind, if_neg (by simp), hk, ok_bind, ok_bind, if_neg (by simp)]
  exact H
theorem same_tuple {n : Nat} {xs : List PyData} (k : Int) (hk : dlen (.tuple xs) = .ok k) (hl : xs.length ≤ 1000000) (ih : ∀ x ∈ xs, m_law_same n x x = .ok true) : m_law_same (n + 1) (.tuple xs) (.tuple xs) = .ok true := by
  have H := same_items hl ih
  unfold m_law_same
  simp only [dNone, dIs, tyD, tIs_tuple_str, tIs_tuple_list, tIs_tuple_tuple, Bool.false_or, Bool.false_eq_true, if_false, if_true, decide_true, Bool.not_true]
  rw [ok_bind, if_neg (by simp), hk, ok_bind, ok_bind, if_neg (by simp)]
  exact H
theorem same_int (n : Nat) (i : Int) : m_law_same (n + 1) (.int i) (.int i) = .ok true := by
  unfold m_law_same
  have e : deq (.int i) (.int i) = .ok true := by
    have : PyData.eqv (.int i) (.int i) = true := by show (i == i) = true; simp
    show M.ok (PyData.eqv (.int i) (.int i)) = _
    rw [this]
  simp only [dNone, dIs, tyD, tIs_int_str, tIs_int_list, tIs_int_tuple, tIs_int_int, tIs_int_bool, Bool.or_self, Bool.not_false, if_true, Bool.false_eq_true, if_false, e, ok_bind]
theorem same_none (n : Nat) : m_law_same (n + 1) .none .none = .ok true := by
  unfold m_law_same; simp only [dNone, if_true]
theorem same_refl {n : Nat} {d : PyData} (h : Plain n d) : m_law_same n d d = .ok true := by
  induction h with
  | none => exact same_none _
  | int i => exact same_int _ i
  | list hl _ ih => exact same_list _ rfl hl ih
  | tuple hl _ ih => exact same_tuple _ rfl hl ih
theorem plain_int {n : Nat} (i : Int) : Plain (n + 1) (PyD.toD i) := .int i
theorem plain_list {α : Type} [PyD α] {n : Nat} {xs : List α} (hl : xs.length ≤ 1000000) (h : ∀ x : α, Plain n (PyD.toD x)) : Plain (n + 1) (PyD.toD xs) := by
  refine .list (by simpa using hl) fun d hd => ?_
  obtain ⟨x, _, rfl⟩ := List.mem_map.mp hd
  exact h x
theorem kR_go {ρ τ : Type} (s : τ) (k : τ → M ρ) : kR (.inr s) k = k s := rfl
theorem kRR_go {ρ τ υ : Type} (s : τ) (k : τ → M (ρ ⊕ υ)) : kRR (.inr s) k = k s := rfl
theorem w_cells {E : XC → Prop} {Q : List Int → Prop} {script : List Int} {many : Int} (h : script.length ≤ 63) (q : ∀ xs, Q xs) : wpm (m_law_cells script many) Q E := by
  unfold m_law_cells
  refine bw (w_pcat ?_ (q _))
  have : (cut script none (some many)).length ≤ script.length := by
    unfold cut
    rw [List.length_take, List.length_drop]; omega
  simp only [List.length_cons, List.length_nil]
  unfold line; omega
end G
/-! the law's own text of a tree -/
namespace G
open PySem L2 TL
section
variable {E : XC → Prop}
theorem w_law_text {par : List (Option Int)} {hues : List Int} {Q : PySem.Str → Prop} (hl : par.length ≤ 1000) (hw : ∀ y ∈ zp par hues, OkW y) (q : Q (treeText par hues)) : wpm (m_law_text par hues) Q E := by
  have hz : (zp par hues).length ≤ 1000 := by rw [zp_len]; omega
  unfold m_law_text
  refine bw (w_for (I := fun pre st => st = pre.map wordOf) rfl ?_ ?_)
  · intro pre y post st e he
    subst he
    have hy := hw y (by rw [e]; simp)
    have hpre : pre.length ≤ 1000 := by rw [e] at hz; simp at hz; omega
    have hp : wpm (postr y.1) (fun _ => True) E := by
      cases e1 : y.1 with
      | none => exact trivial
      | some p => have := hy.p p e1; exact w_pistr (by omega) this.2 trivial
    refine bw (wpm_imp hp fun _ _ => ?_)
    have hi : idx ([PySem.Str.ofString "-", (ostr y.1)] : List (PySem.Str)) (bint (!y.1.isNone)) = .ok (ptext y.1) := by
      cases e1 : y.1 with
      | none => rfl
      | some p => rfl
    rw [hi, ok_bind]
    have hpl := ptext_len hy.p
    have hil := istr_len hy.lo hy.hi
    have hcl := colon_len
    refine bw (w_pcats (b := colon) (by omega) ?_)
    refine bw (w_pistr hy.lo hy.hi ?_)
    refine bw (w_pcats (a := ptext y.1 ++ colon) (by rw [PySem.Str.length_append]; omega) ?_)
    refine bw (w_papp (by rw [List.length_map]; unfold line; omega) ?_)
    show List.map wordOf pre ++ [wordOf y] = _
    rw [List.map_append]; rfl
  · intro st he
    subst he
    refine bw (w_pjoin (a := blank1) ?_ q)
    have := sum_le (f := fun y : PySem.Str => y.length) (k := 100) (ys := (zp par hues).map wordOf) (by
      intro x hx
      obtain ⟨y, hy, rfl⟩ := List.mem_map.mp hx
      exact wordOf_len (hw y hy))
    rw [List.length_map] at this
    show (((zp par hues).map wordOf).map fun y : PySem.Str => y.length).sum + ((zp par hues).map wordOf).length * blank1.length ≤ 1000000
    rw [blank_len, List.length_map]
    refine Nat.le_trans (Nat.add_le_add_right this _) ?_
    omega
end
end G
/-! trees: ways up, sizes -/
namespace G
open PySem L2
/-- a place, its parent, and so on, so many at most -/
def upF (par : Par) : Nat → Nat → List Int
  | 0, p => [(p : Int)]
  | k + 1, p => (p : Int) :: (match par[p]? with
    | some (some q) => upF par k q.toNat
    | _ => [])
section
variable {par : Par} {root : Nat} {rank : Nat → Nat}
theorem upF_more (t : Tree par root rank) : ∀ (k p : Nat), rank p ≤ k → ∀ m, rank p ≤ m → upF par k p = upF par m p := by
  have H : ∀ r p : Nat, rank p ≤ r → ∀ k m, rank p ≤ k → rank p ≤ m → upF par k p = upF par m p := by
    intro r
    induction r with
    | zero =>
      intro p hp k m hk hm
      have hn : ∀ q : Int, par[p]? ≠ some (some q) := fun q e => by have := t.up p q e; omega
      cases k <;> cases m <;> unfold upF <;> (first | rfl | skip)
      all_goals
        split
        · rename_i q e; exact absurd e (hn q)
        · first
          | rfl
          | (split
             · rename_i q e; exact absurd e (hn q)
             · rfl)
    | succ r ih =>
      intro p hp k m hk hm
      cases e : par[p]? with
      | none => cases k <;> cases m <;> unfold upF <;> simp [e]
      | some o =>
        cases o with
        | none => cases k <;> cases m <;> unfold upF <;> simp [e]
        | some q =>
          have h1 := t.up p q e
          cases k with
          | zero => omega
          | succ k =>
            cases m with
            | zero => omega
            | succ m =>
              unfold upF
              simp only [e]
              rw [ih q.toNat (by omega) k m (by omega) (by omega)]
  exact fun k p hk m hm => H (rank p) p (Nat.le_refl _) k m hk hm
/-- the way up -/
def upP (rank : Nat → Nat) (par : Par) (p : Nat) : List Int := upF par (rank p) p
theorem up_root (t : Tree par root rank) {p : Nat} (h : ∀ q : Int, par[p]? ≠ some (some q)) : upP rank par p = [(p : Int)] := by
  unfold upP
  cases rank p with
  | zero => rfl
  | succ k =>
    unfold upF
    split
    · rename_i q e; exact absurd e (h q)
    · rfl
theorem up_step (t : Tree par root rank) {p : Nat} {q : Int} (h : par[p]? = some (some q)) : upP rank par p = (p : Int) :: upP rank par q.toNat := by
  have h1 := t.up p q h
  unfold upP
  obtain ⟨k, hk⟩ : ∃ k, rank p = k + 1 := ⟨rank p - 1, by omega⟩
  rw [hk]
  show (p : Int) :: (match par[p]? with
    | some (some q) => upF par k q.toNat
    | _ => []) = _
  rw [h]
  dsimp only
  rw [upF_more t k q.toNat (by omega) (rank q.toNat) (Nat.le_refl _)]
/-- a property of ways up, by the parents -/
theorem up_ind (t : Tree par root rank) {C : Nat → Prop} (h0 : ∀ p, (∀ q : Int, par[p]? ≠ some (some q)) → C p) (h1 : ∀ (p : Nat) (q : Int), par[p]? = some (some q) → C q.toNat → C p) (p : Nat) : C p := by
  have H : ∀ r p : Nat, rank p < r → C p := by
    intro r
    induction r with
    | zero => intro p h; omega
    | succ r ih =>
      intro p hp
      by_cases e : ∃ q : Int, par[p]? = some (some q)
      · obtain ⟨q, e⟩ := e
        exact h1 p q e (ih _ (by have := t.up p q e; omega))
      · exact h0 p fun q z => e ⟨q, z⟩
  exact H _ p (Nat.lt_succ_self _)
def sumL (l : List Int) (f : Int → Nat) : Nat := (l.map f).sum
theorem sumL_nil (f : Int → Nat) : sumL [] f = 0 := rfl
theorem sumL_cons (x : Int) (l : List Int) (f : Int → Nat) : sumL (x :: l) f = f x + sumL l f := by simp [sumL]
theorem sumL_add (l : List Int) (f g : Int → Nat) : sumL l (fun x => f x + g x) = sumL l f + sumL l g := by
  induction l with
  | nil => rfl
  | cons x l ih => rw [sumL_cons, sumL_cons, sumL_cons, ih]; omega
theorem sumL_zero (l : List Int) : sumL l (fun _ => 0) = 0 := by
  induction l with
  | nil => rfl
  | cons x l ih => rw [sumL_cons, ih]
theorem sumL_congr {l : List Int} {f g : Int → Nat} (h : ∀ x ∈ l, f x = g x) : sumL l f = sumL l g := by
  induction l with
  | nil => rfl
  | cons x l ih => rw [sumL_cons, sumL_cons, h x List.mem_cons_self, ih fun y hy => h y (List.mem_cons_of_mem _ hy)]
theorem sumL_swap (l m : List Int) (f : Int → Int → Nat) : sumL l (fun x => sumL m (f x)) = sumL m (fun y => sumL l (fun x => f x y)) := by
  induction l with
  | nil => simp [sumL_nil, sumL_zero]
  | cons x l ih =>
    rw [sumL_cons, ih, ← sumL_add]
    exact sumL_congr fun y _ => (sumL_cons x l fun x => f x y).symm
/-- how often x stands in l -/
theorem sumL_one (l : List Int) (x : Int) : sumL l (fun c => if c = x then 1 else 0) = l.count x := by
  induction l with
  | nil => rfl
  | cons c l ih =>
    rw [sumL_cons, ih, List.count_cons]
    by_cases h : c = x
    · subst h; simp; omega
    · simp [h]
theorem count_nodup {l : List Int} (h : l.Nodup) (x : Int) : l.count x = if x ∈ l then 1 else 0 := by
  by_cases c : x ∈ l
  · rw [if_pos c]
    have h1 := List.nodup_iff_count.mp h x
    have h2 := List.count_pos_iff.mpr c
    omega
  · rw [if_neg c]; exact List.count_eq_zero.mpr c
theorem kid_one (t : Tree par root rank) (a : Int) (p : Nat) : (kidsOf par a).count (p : Int) = if par[p]? = some (some a) then 1 else 0 := by
  rw [count_nodup (l := kidsOf par a) (nodup_kidsTo par a _)]
  by_cases c : par[p]? = some (some a)
  · rw [if_pos c, if_pos (mem_kidsOf.2 ⟨p, c, rfl⟩)]
  · rw [if_neg c, if_neg]
    intro h
    obtain ⟨j, h1, h2⟩ := mem_kidsOf.1 h
    have : p = j := by omega
    subst this
    exact c h1
theorem count_up (t : Tree par root rank) (a : Int) (p : Nat) : (upP rank par p).count a = (if (p : Int) = a then 1 else 0) + sumL (kidsOf par a) (fun c => (upP rank par p).count c) := by
  refine up_ind t (C := fun p => (upP rank par p).count a = (if (p : Int) = a then 1 else 0) + sumL (kidsOf par a) (fun c => (upP rank par p).count c)) ?_ ?_ p
  · intro p h
    rw [up_root t h]
    have z : sumL (kidsOf par a) (fun c => List.count c [(p : Int)]) = 0 := by
      rw [sumL_congr (g := fun c => if c = (p : Int) then 1 else 0) fun c _ => by
        rw [List.count_cons, List.count_nil]
        by_cases e : (p : Int) = c
        · subst e; simp
        · have e' : ¬ c = (p : Int) := fun z => e z.symm
          simp [e, e']]
      rw [sumL_one, kid_one t, if_neg (h a)]
    rw [z, List.count_cons, List.count_nil]
    by_cases e : (p : Int) = a <;> simp [e]
  · intro p q h ih
    rw [up_step t h]
    have e1 : ∀ c : Int, List.count c ((p : Int) :: upP rank par q.toNat) = (if c = (p : Int) then 1 else 0) + List.count c (upP rank par q.toNat) := fun c => by
      rw [List.count_cons]
      by_cases e : (p : Int) = c
      · subst e; simp; omega
      · have : ¬ c = (p : Int) := fun z => e z.symm
        simp [e, this]
    have q0 := (t.inr p q h).1
    rw [e1, ih, sumL_congr (fun c _ => e1 c), sumL_add, sumL_one, kid_one t, h, Int.toNat_of_nonneg q0]
    by_cases e : q = a
    · subst e
      by_cases e2 : q = (p : Int)
      · simp [e2]
      · have : ¬ (p : Int) = q := fun z => e2 z.symm
        simp [e2, this]
    · have : ¬ some (some q) = some (some a) := fun z => e (Option.some.inj (Option.some.inj z))
      by_cases e2 : a = (p : Int)
      · simp [e, this, e2]
      · have e3 : ¬ (p : Int) = a := fun z => e2 z.symm
        simp [e, this, e2, e3]
theorem up_lt (t : Tree par root rank) (p : Nat) : ∀ x ∈ upP rank par p, x = (p : Int) ∨ rank x.toNat < rank p := by
  refine up_ind t (C := fun p => ∀ x ∈ upP rank par p, x = (p : Int) ∨ rank x.toNat < rank p) ?_ ?_ p
  · intro p h x hx
    rw [up_root t h] at hx
    exact .inl (List.mem_singleton.mp hx)
  · intro p q h ih x hx
    rw [up_step t h] at hx
    have h1 := t.up p q h
    have q0 := (t.inr p q h).1
    rcases List.mem_cons.mp hx with hx | hx
    · exact .inl hx
    · rcases ih x hx with e | e
      · right; rw [e, Int.toNat_natCast]; exact h1
      · right; omega
theorem nodup_up (t : Tree par root rank) (p : Nat) : (upP rank par p).Nodup := by
  refine up_ind t (C := fun p => (upP rank par p).Nodup) ?_ ?_ p
  · intro p h; rw [up_root t h]; simp
  · intro p q h ih
    rw [up_step t h, List.nodup_cons]
    refine ⟨fun hm => ?_, ih⟩
    have h1 := t.up p q h
    rcases up_lt t q.toNat _ hm with e | e
    · have e' : p = q.toNat := by omega
      rw [← e'] at h1; omega
    · rw [Int.toNat_natCast] at e; omega
/-- how many stand below a place, itself among them -/
def size (rank : Nat → Nat) (par : Par) (a : Int) : Nat := sumL (numsTo par.length) fun x => (upP rank par x.toNat).count a
theorem size_kids (t : Tree par root rank) {a : Int} (h0 : 0 ≤ a) (h1 : a < par.length) : size rank par a = 1 + sumL (kidsOf par a) (size rank par) := by
  unfold size
  rw [sumL_congr (g := fun x => (if x = a then 1 else 0) + sumL (kidsOf par a) (fun c => (upP rank par x.toNat).count c)) fun x hx => by
    have := mem_nums.1 hx
    rw [count_up t a x.toNat, Int.toNat_of_nonneg this.1], sumL_add, sumL_one, count_nodup (nodup_nums _), if_pos (mem_nums.2 ⟨h0, h1⟩), sumL_swap]
end
end G
/-! many_below -/
namespace G
open PySem L2
theorem down_take {α : Type} (xs : List α) (a : Nat) (ha : a < xs.length) : ∀ m : Nat, m ≤ a + 1 → (List.range m).filterMap (fun (k : Nat) => xs[a - k]?) = ((xs.drop (a + 1 - m)).take m).reverse
  | 0, _ => by simp
  | m + 1, h => by
    have ih := down_take xs a ha m (by omega)
    rw [List.range_succ, List.filterMap_append, ih]
    have h1 : a - m < xs.length := by omega
    have e : xs.drop (a + 1 - (m + 1)) = xs[a - m] :: xs.drop (a + 1 - m) := by
      rw [show a + 1 - (m + 1) = a - m by omega, show a + 1 - m = a - m + 1 by omega]
      exact List.drop_eq_getElem_cons h1
    rw [e, List.take_succ_cons, List.reverse_cons]
    simp [List.getElem?_eq_getElem h1]
theorem dcut_tail {α : Type} (xs : List α) : dcut xs none (some 0) = xs.tail.reverse := by
  cases xs with
  | nil => rfl
  | cons x xs =>
    have hb : sliceBounds none (some 0) (some (-1)) (x :: xs).length = ((xs.length : Int), 0, -1) := by
      unfold sliceBounds
      simp only [Option.getD_some, List.length_cons]
      rw [if_neg (by omega), if_neg (by omega), if_neg (by omega)]
      congr 1
      · omega
      · congr 1
        omega
    unfold dcut
    rw [hb]
    dsimp only
    unfold sliceRange
    dsimp only
    rw [if_neg (show ¬ (-1 : Int) > 0 by omega)]
    have hc : ((if (xs.length : Int) > 0 then ((xs.length : Int) - 0 - -1 - 1) / (- -1) else 0)).toNat = xs.length := by
      split
      · have : ((xs.length : Int) - 0 - -1 - 1) / (- -1) = xs.length := by
          rw [show (- -1 : Int) = 1 by omega, Int.ediv_one]; omega
        rw [this]; omega
      · omega
    rw [hc, List.filterMap_map]
    have hd := down_take (x :: xs) xs.length (by simp) xs.length (by omega)
    rw [show xs.length + 1 - xs.length = 1 by omega] at hd
    rw [List.drop_succ_cons, List.drop_zero, List.take_length] at hd
    rw [List.tail_cons, ← hd]
    congr 1
    funext k
    show (x :: xs)[((xs.length : Int) + -1 * (k : Int)).toNat]? = _
    rw [show ((xs.length : Int) + -1 * (k : Int)).toNat = xs.length - k by omega]
section
variable {par : Par} {root : Nat} {rank : Nat → Nat}
/-- each part of the walk from its start holds the parents of what it holds -/
theorem walk_closed (t : Tree par root rank) (m : Nat) (j : Nat) (p : Int) (h : par[j]? = some (some p)) (hj : (j : Int) ∈ (walkT par root).take m) : p ∈ (walkT par root).take m := by
  have H : ∀ k F R, Inv par root F R → F.length + k = par.length → (∀ m, (j : Int) ∈ F.take m → p ∈ F.take m) → ∀ m, (j : Int) ∈ (twalk par k F R).take m → p ∈ (twalk par k F R).take m := by
    intro k
    induction k with
    | zero => intro F R i hk c m hm; exact c m hm
    | succ k ih =>
      intro F R i hk c
      obtain ⟨q, R', rfl⟩ := i.more t (by omega)
      refine ih _ _ (i.step t) (by simp; omega) fun m hm => ?_
      by_cases e : m ≤ F.length
      · rw [List.take_append_of_le_length e] at hm ⊢
        exact c m hm
      · rw [List.take_of_length_le (by simp; omega)] at hm ⊢
        have hin : (j : Int) ∈ F ++ q :: R' := by
          rcases List.mem_append.mp hm with z | z
          · exact List.mem_append.mpr (.inl z)
          · rw [List.mem_singleton.mp z]; simp
        exact List.mem_append.mpr (.inl ((i.up j p h).1 hin))
  exact H _ _ _ (Inv.start t) (by simp) (fun m hm => by simp at hm) m hj
end
end G
namespace G
open PySem L2

/-! lists of parents that are trees, and others -/
def IsTree (par : Par) : Prop := ∃ root rank, Tree par root rank
/-- one root, all else parents that are places -/
structure Near (par : Par) (root : Nat) : Prop where
  lt : root < par.length
  no : par[root]? = some none
  uniq : ∀ j : Nat, par[j]? = some none → j = root
  inr : ∀ (j : Nat) (p : Int), par[j]? = some (some p) → 0 ≤ p ∧ p < par.length
section
variable {par : Par} {root : Nat}
theorem walk_loop0 (n : Near par root) (hl : par.length ≤ 1000000) {ks : List (List Int)} (hk : ∀ p : Nat, p < par.length → ks[p]? = some (kidsOf par p)) :
    ∀ (k : Nat) (F R : List Int), Inv par root F R → F.length + k = par.length → ∀ m, k < m →
      whileM m ((R.reverse, F) : List Int × List Int) (fun st26 => .ok (!decide (st26.1 = ([] : List Int)))) (fun st26 => ppop st26.1 >>= fun t32 => papp st26.2 t32.1 >>= fun _ => idx ks t32.1 >>= fun t36 => pcat t32.2 t36.reverse >>= fun _ => .ok ((t32.2 ++ t36.reverse), (st26.2 ++ [t32.1]))) = .ok (([] : List Int), twalk par k F R) := by
  intro k
  induction k with
  | zero =>
    intro F R i h m hm
    have := i.done (by omega)
    subst this
    obtain ⟨m, rfl⟩ : ∃ m', m = m' + 1 := ⟨m - 1, by omega⟩
    rfl
  | succ k ih =>
    intro F R i h m hm
    obtain ⟨m, rfl⟩ : ∃ m', m = m' + 1 := ⟨m - 1, by omega⟩
    cases R with
    | nil => rfl
    | cons p R' =>
      obtain ⟨p0, p1⟩ := i.inr p (by simp)
      have hlen := i.len
      rw [List.length_append, List.length_cons] at hlen
      have e0 : ppop (p :: R').reverse = .ok (p, R'.reverse) := by
        unfold ppop
        have : (p :: R').reverse[(p :: R').reverse.length - 1]? = some p := by
          rw [List.reverse_cons]; simp
        rw [this]
        simp
      have e1 : papp F p = .ok (F ++ [p]) := by
        unfold papp; rw [if_pos (by unfold line; omega)]
      have e2 : idx ks p = .ok (kidsOf par p) := by
        have := hk p.toNat (by omega)
        rw [Int.toNat_of_nonneg p0] at this
        have ha := atI_nat this
        rw [Int.toNat_of_nonneg p0] at ha
        unfold idx
        rw [ha]
      have hkl := len_kidsTo par p par.length
      have e3 : pcat R'.reverse (kidsOf par p).reverse = .ok (R'.reverse ++ (kidsOf par p).reverse) := by
        unfold pcat; rw [if_pos (by rw [List.length_reverse, List.length_reverse]; unfold kidsOf line; omega)]
      have c : (!decide ((p :: R').reverse = ([] : List Int))) = true := by simp
      show (M.ok (!decide ((p :: R').reverse = ([] : List Int))) >>= _) = _
      rw [ok_bind, if_pos c]
      dsimp only
      rw [e0, ok_bind]
      dsimp only
      rw [e1, ok_bind, e2, ok_bind, e3, ok_bind, ok_bind]
      have := ih (F ++ [p]) (kidsOf par p ++ R') i.step0 (by simp; omega) m (by omega)
      rw [List.reverse_append] at this
      exact this
/-- what the walk tells of such a list: places, once each, parents ahead -/
theorem twalk_inv0 : ∀ (k : Nat) (F R : List Int), Inv par root F R → F.length + k = par.length → Inv par root (twalk par k F R) [] := by
  intro k
  induction k with
  | zero =>
    intro F R i h
    have := i.done (by omega)
    subst this
    exact i
  | succ k ih =>
    intro F R i h
    cases R with
    | nil => exact i
    | cons p R' => exact ih _ _ i.step0 (by simp; omega)
theorem twalk_ahead (j : Nat) (p : Int) (hj : par[j]? = some (some p)) : ∀ (k : Nat) (F R : List Int), Inv par root F R → F.length + k = par.length → (∀ m, (j : Int) ∈ F.take (m + 1) → p ∈ F.take m) →
    ∀ m, (j : Int) ∈ (twalk par k F R).take (m + 1) → p ∈ (twalk par k F R).take m := by
  intro k
  induction k with
  | zero => intro F R i h c; exact c
  | succ k ih =>
    intro F R i h c
    cases R with
    | nil => exact c
    | cons q R' =>
      refine ih _ _ i.step0 (by simp; omega) fun m hm => ?_
      by_cases e : m + 1 ≤ F.length
      · rw [List.take_append_of_le_length e] at hm
        rw [List.take_append_of_le_length (by omega)]
        exact c m hm
      · rw [List.take_of_length_le (by simp; omega)] at hm
        rw [List.take_append, List.take_of_length_le (by omega : F.length ≤ m)]
        refine List.mem_append.mpr (.inl ?_)
        rcases List.mem_append.mp hm with z | z
        · have hl : 0 < F.length := List.length_pos_of_mem z
          have := c (F.length - 1) (by rw [show F.length - 1 + 1 = F.length by omega, List.take_length]; exact z)
          exact List.mem_of_mem_take this
        · exact (i.up j p hj).1 (by rw [List.mem_singleton.mp z]; simp)
theorem walk_of_near (n : Near par root) (hl : par.length ≤ 900000) : m_walk_of par = .ok (walkT par root) := by
  have H : wpm (m_walk_of par) (fun r => r = walkT par root) (fun _ => False) := by
    unfold m_walk_of
    refine bw (kids_loop par (by omega) n.inr fun ks hk1 hk2 => ?_)
    have hp : pidx par (none : Option Int) = .ok (root : Int) := by
      unfold pidx
      cases e : par.findIdx? (fun y => decide (y = none)) with
      | none =>
        have := List.findIdx?_eq_none_iff.mp e _ (List.mem_of_getElem? n.no)
        simp at this
      | some j =>
        obtain ⟨hj, hx, _⟩ := List.findIdx?_eq_some_iff_getElem.mp e
        rw [n.uniq j (by rw [List.getElem?_eq_getElem hj, of_decide_eq_true hx])]
    rw [hp, ok_bind]
    have := walk_loop0 n (by omega) hk2 par.length [] [(root : Int)] (Inv.start0 n.lt n.no) (by simp) fuelW (by unfold fuelW; omega)
    rw [List.reverse_singleton] at this
    rw [this, ok_bind]
    rfl
  obtain ⟨a, h1, h2⟩ := ok_of H
  rw [h1, h2]
/-- a walk of all places: a tree -/
theorem tree_of_walk (n : Near par root) (hw : (walkT par root).length = par.length) : Tree par root (fun j => (walkT par root).idxOf (j : Int)) := by
  have i : Inv par root (walkT par root) [] := twalk_inv0 par.length [] [(root : Int)] (Inv.start0 n.lt n.no) (by simp)
  have nd := i.nd
  rw [List.append_nil] at nd
  have all : ∀ j : Nat, j < par.length → (j : Int) ∈ walkT par root := by
    intro j hj
    by_cases h : (j : Int) ∈ walkT par root
    · exact h
    · exfalso
      have := nodup_sub_len (l := (j : Int) :: walkT par root) (m := numsTo par.length) (List.nodup_cons.mpr ⟨h, nd⟩) fun x hx => by
        rcases List.mem_cons.mp hx with z | z
        · exact mem_nums.2 ⟨by omega, by omega⟩
        · exact mem_nums.2 (i.inr x (by rw [List.append_nil]; exact z))
      rw [nums_len, List.length_cons] at this
      omega
  refine ⟨n.lt, n.no, n.uniq, n.inr, fun j p h => ?_⟩
  have hj : j < par.length := (List.getElem?_eq_some_iff.mp h).1
  have p0 := (n.inr j p h).1
  obtain ⟨a, ha⟩ := List.getElem?_of_mem (all j hj)
  have hm : (j : Int) ∈ (walkT par root).take (a + 1) := by
    rw [List.mem_iff_getElem?]
    exact ⟨a, by rw [List.getElem?_take, if_pos (by omega), ha]⟩
  have hp := twalk_ahead j p h par.length [] [(root : Int)] (Inv.start0 n.lt n.no) (by simp) (fun m z => by simp at z) a hm
  obtain ⟨b, hb⟩ := List.getElem?_of_mem hp
  rw [List.getElem?_take] at hb
  split at hb
  · rename_i hlt
    rw [Int.toNat_of_nonneg p0]
    show (walkT par root).idxOf p < (walkT par root).idxOf (j : Int)
    rw [idxOf_at nd hb, idxOf_at nd ha]
    exact hlt
  · cases hb
end
theorem Tree.near {par : Par} {root : Nat} {rank : Nat → Nat} (t : Tree par root rank) : Near par root := ⟨t.lt, t.no, t.uniq, t.inr⟩
/-- one None -/
theorem one_none (par : Par) : (par.filterMap fun y => if y.isNone = true then some y else none).length = 1 ↔ ∃ root : Nat, par[root]? = some none ∧ ∀ j : Nat, par[j]? = some none → j = root := by
  induction par with
  | nil => simp
  | cons x xs ih =>
    have zero : (xs.filterMap fun y => if y.isNone = true then some y else none).length = 0 ↔ ∀ j : Nat, xs[j]? ≠ some none := by
      rw [List.length_eq_zero_iff, List.filterMap_eq_nil_iff]
      constructor
      · intro h j e
        have := h none (List.mem_of_getElem? e)
        simp at this
      · intro h y hy
        obtain ⟨j, hj⟩ := List.getElem?_of_mem hy
        cases y with
        | none => exact absurd hj (h j)
        | some p => rfl
    cases x with
    | none =>
      rw [List.filterMap_cons]
      show (_ :: _).length = 1 ↔ _
      rw [List.length_cons]
      constructor
      · intro h
        refine ⟨0, rfl, fun j hj => ?_⟩
        cases j with
        | zero => rfl
        | succ j => exact absurd (by simpa using hj) (zero.mp (by omega) j)
      · rintro ⟨r, h1, h2⟩
        have hr := h2 0 rfl
        subst hr
        have := zero.mpr fun j hj => by
          have := h2 (j + 1) (by simpa using hj)
          omega
        omega
    | some p =>
      rw [List.filterMap_cons]
      show (xs.filterMap fun y => if y.isNone = true then some y else none).length = 1 ↔ _
      rw [ih]
      constructor
      · rintro ⟨r, h1, h2⟩
        refine ⟨r + 1, by simpa using h1, fun j hj => ?_⟩
        cases j with
        | zero => simp at hj
        | succ j => rw [h2 j (by simpa using hj)]
      · rintro ⟨r, h1, h2⟩
        cases r with
        | zero => simp at h1
        | succ r =>
          refine ⟨r, by simpa using h1, fun j hj => ?_⟩
          have := h2 (j + 1) (by simpa using hj)
          omega
/-- what the program says of any list of parents -/
theorem need_tree_or (par : Par) (hl : par.length ≤ 900000) : (IsTree par ∧ m_need_tree par = .ok ()) ∨ (¬ IsTree par ∧ m_need_tree par = .err .tree) := by
  by_cases hT : IsTree par
  · obtain ⟨root, rank, t⟩ := hT
    exact .inl ⟨⟨root, rank, t⟩, need_tree_eq t hl⟩
  refine .inr ⟨hT, ?_⟩
  let bad : Option Int → Option (Option Int) := fun y => match y with
    | none => none
    | some p => if (!(decide (0 ≤ p) && decide (p < (par.length : Int)))) = true then some y else none
  have c1 : compM (β := Option Int) par (fun y1 => (if (!y1.isNone) = true then (unwrap y1 >>= fun t7 => .ok (!(decide (0 ≤ t7) && decide (t7 < (par.length : Int))))) else .ok false) >>= fun t4 => if t4 = true then (.ok (some y1)) else .ok none) = .ok (par.filterMap bad) := by
    refine compM_eq fun y _ => ?_
    cases y with
    | none => rfl
    | some p =>
      show (M.ok (!(decide (0 ≤ p) && decide (p < (par.length : Int)))) >>= _) = _
      rw [ok_bind]
      show (if (!(decide (0 ≤ p) && decide (p < (par.length : Int)))) = true then _ else _) = M.ok (if (!(decide (0 ≤ p) && decide (p < (par.length : Int)))) = true then _ else _)
      split <;> rfl
  have c2 : compM (β := Option Int) par (fun y22 => if (y22.isNone) = true then (.ok (some y22)) else .ok none) = .ok (par.filterMap fun y => if y.isNone = true then some y else none) := by
    refine compM_eq fun y _ => ?_
    by_cases c : y.isNone = true
    · rw [if_pos c, if_pos c]
    · rw [if_neg c, if_neg c]
  unfold m_need_tree
  rw [c1, ok_bind]
  by_cases hb : par.filterMap bad = []
  · rw [hb, if_neg (by simp), c2, ok_bind, ok_bind]
    have inr : ∀ (j : Nat) (p : Int), par[j]? = some (some p) → 0 ≤ p ∧ p < par.length := by
      intro j p h
      have := List.filterMap_eq_nil_iff.mp hb (some p) (List.mem_of_getElem? h)
      by_cases z : 0 ≤ p ∧ p < par.length
      · exact z
      · exfalso
        have e : (!(decide (0 ≤ p) && decide (p < (par.length : Int)))) = true := by
          simp only [Bool.not_eq_true', Bool.and_eq_false_iff, decide_eq_false_iff_not]
          omega
        have e2 : bad (some p) = some (some p) := by show (if _ then _ else _) = _; rw [if_pos e]
        rw [e2] at this
        cases this
    by_cases h1 : (par.filterMap fun y => if y.isNone = true then some y else none).length = 1
    · obtain ⟨root, r1, r2⟩ := (one_none par).mp h1
      have n : Near par root := ⟨(List.getElem?_eq_some_iff.mp r1).1, r1, r2, inr⟩
      rw [h1, if_neg (by simp), walk_of_near n hl, ok_bind, if_pos]
      simp only [Bool.not_eq_true', decide_eq_false_iff_not]
      intro z
      exact hT ⟨root, _, tree_of_walk n (by omega)⟩
    · rw [if_pos]
      simp only [Bool.not_eq_true', decide_eq_false_iff_not]
      omega
  · rw [if_pos (by simp [hb]), ok_bind]
    rfl
end G
namespace G
open PySem L2

/-! the law's own look at a tree: up from each place -/
def upS (par : Par) (x : Int) : Int := if 0 ≤ x ∧ x < par.length then (match par[x.toNat]? with
  | some (some q) => q
  | _ => x) else x
def upI (par : Par) : Nat → Int → Int
  | 0, x => x
  | k + 1, x => upI par k (upS par x)
def Top (par : Par) (x : Int) : Prop := (0 ≤ x ∧ x < par.length) ∧ par[x.toNat]? = some none
instance (par : Par) (x : Int) : Decidable (Top par x) := by unfold Top; exact inferInstance
theorem upS_out {par : Par} {x : Int} (h : ¬ (0 ≤ x ∧ x < par.length)) : upS par x = x := if_neg h
theorem upS_at {par : Par} {x q : Int} (h : 0 ≤ x ∧ x < par.length) (e : par[x.toNat]? = some (some q)) : upS par x = q := by
  unfold upS; rw [if_pos h, e]
theorem upS_top {par : Par} {x : Int} (h : Top par x) : upS par x = x := by
  unfold upS; rw [if_pos h.1, h.2]
theorem upI_fix {par : Par} {x : Int} (h : upS par x = x) : ∀ k, upI par k x = x
  | 0 => rfl
  | k + 1 => by show upI par k (upS par x) = x; rw [h]; exact upI_fix h k
section
variable {par : Par} {root : Nat} {rank : Nat → Nat}
theorem tree_top (t : Tree par root rank) (p : Nat) : p < par.length → ∀ k, (upP rank par p).length ≤ k + 1 → upI par k (p : Int) = root := by
  refine up_ind t (C := fun p => p < par.length → ∀ k, (upP rank par p).length ≤ k + 1 → upI par k (p : Int) = root) ?_ ?_ p
  · intro p h hp k hk
    have e : par[p]? = some none := by
      cases e : par[p] with
      | none => rw [List.getElem?_eq_getElem hp, e]
      | some q => exact absurd (by rw [List.getElem?_eq_getElem hp, e]) (h q)
    have er := t.uniq p e
    subst er
    exact upI_fix (upS_top ⟨⟨by omega, by omega⟩, by rw [Int.toNat_natCast]; exact e⟩) k
  · intro p q h ih hp k hk
    have hq := t.inr p q h
    rw [up_step t h, List.length_cons] at hk
    have hpos : 0 < (upP rank par q.toNat).length := by
      unfold upP
      cases rank q.toNat <;> simp [upF]
    obtain ⟨k, rfl⟩ : ∃ j, k = j + 1 := ⟨k - 1, by omega⟩
    show upI par k (upS par (p : Int)) = root
    rw [upS_at ⟨by omega, by omega⟩ (by rw [Int.toNat_natCast]; exact h)]
    have := ih (by omega) k (by omega)
    rw [Int.toNat_of_nonneg hq.1] at this
    exact this
/-- how many steps to the root, so many at most -/
def stepsTo (par : Par) (root : Int) : Nat → Int → Nat
  | 0, _ => 0
  | k + 1, x => if x = root then 0 else stepsTo par root k (upS par x) + 1
theorem steps_more (par : Par) (root : Int) : ∀ (k : Nat) (x : Int), upI par k x = root → upS par root = root → ∀ m, k ≤ m → stepsTo par root m x = stepsTo par root k x
  | 0, x, h, hr, m, hm => by
    have h : x = root := h
    cases m with
    | zero => rfl
    | succ m => show (if x = root then 0 else _) = 0; rw [if_pos h]
  | k + 1, x, h, hr, m, hm => by
    obtain ⟨m, rfl⟩ : ∃ j, m = j + 1 := ⟨m - 1, by omega⟩
    show (if x = root then 0 else stepsTo par root m (upS par x) + 1) = if x = root then 0 else stepsTo par root k (upS par x) + 1
    rw [steps_more par root k (upS par x) h hr m (by omega)]
theorem tree_of_tops (r0 : par[root]? = some none) (uniq : ∀ j : Nat, par[j]? = some none → j = root) (all : ∀ j : Nat, j < par.length → Top par (upI par par.length (j : Int))) :
    Tree par root (fun j => stepsTo par root par.length (j : Int)) := by
  have lt : root < par.length := (List.getElem?_eq_some_iff.mp r0).1
  have hr : upS par (root : Int) = root := upS_top ⟨⟨by omega, by omega⟩, by rw [Int.toNat_natCast]; exact r0⟩
  have isr : ∀ x : Int, Top par x → x = root := fun x h => by
    have := uniq _ h.2
    have := h.1
    omega
  obtain ⟨n, hn⟩ : ∃ n, par.length = n + 1 := ⟨par.length - 1, by omega⟩
  have key : ∀ (j : Nat) (p : Int), par[j]? = some (some p) → upI par n p = root ∧ (0 ≤ p ∧ p < par.length) := by
    intro j p h
    have hj := (List.getElem?_eq_some_iff.mp h).1
    have h1 := all j hj
    rw [hn] at h1
    have e : upI par (n + 1) (j : Int) = upI par n p := by
      show upI par n (upS par (j : Int)) = _
      rw [upS_at ⟨by omega, by omega⟩ (by rw [Int.toNat_natCast]; exact h)]
    rw [e] at h1
    refine ⟨isr _ h1, ?_⟩
    by_cases z : 0 ≤ p ∧ p < par.length
    · exact z
    · rw [upI_fix (upS_out z)] at h1
      exact absurd h1.1 z
  refine ⟨lt, r0, uniq, fun j p h => (key j p h).2, fun j p h => ?_⟩
  have hj := (List.getElem?_eq_some_iff.mp h).1
  obtain ⟨k1, k2⟩ := key j p h
  have ne : ¬ (j : Int) = root := fun z => by
    have : j = root := by omega
    subst this
    rw [r0] at h; cases h
  show stepsTo par root par.length ((p.toNat : Nat) : Int) < stepsTo par root par.length (j : Int)
  rw [Int.toNat_of_nonneg k2.1, hn]
  have e1 : stepsTo par root (n + 1) (j : Int) = stepsTo par root n p + 1 := by
    show (if (j : Int) = root then 0 else stepsTo par root n (upS par (j : Int)) + 1) = _
    rw [if_neg ne, upS_at ⟨by omega, by omega⟩ (by rw [Int.toNat_natCast]; exact h)]
  rw [e1, steps_more par root n p k1 hr (n + 1) (by omega)]
  omega
end
/-- a loop that is left at the first bad item -/
theorem forR_find {α ρ : Type} {xs : List α} {f : α → Unit → M (ρ ⊕ Unit)} {b : α → Bool} {r : ρ} (h : ∀ x ∈ xs, f x () = .ok (if b x = true then .inl r else .inr ())) : forR xs () f = .ok (if xs.any b = true then .inl r else .inr ()) := by
  induction xs with
  | nil => rfl
  | cons x xs ih =>
    unfold forR
    rw [h x List.mem_cons_self, ok_bind, List.any_cons]
    cases e : b x with
    | true => rfl
    | false =>
      rw [Bool.false_or]
      exact ih fun y hy => h y (List.mem_cons_of_mem _ hy)
theorem up_turns (par : Par) : ∀ (xs : List Int) (x : Int), forM' xs (some x) (fun y12 st12 => (if (!st12.isNone) = true then (unwrap st12 >>= fun t18 => (if (decide (0 ≤ t18) && decide (t18 < (par.length : Int))) = true then (unwrap st12 >>= fun t25 => idx par t25 >>= fun t27 => .ok (!t27.isNone)) else .ok false) >>= fun t22 => .ok t22) else .ok false) >>= fun t15 => if t15 = true then (unwrap st12 >>= fun t29 => idx par t29 >>= fun t31 => .ok t31) else (.ok st12)) = .ok (some (upI par xs.length x))
  | [], x => rfl
  | y :: ys, x => by
    have ih := up_turns par ys (upS par x)
    have e : ((if (!(some x).isNone) = true then (unwrap (some x) >>= fun t18 => (if (decide (0 ≤ t18) && decide (t18 < (par.length : Int))) = true then (unwrap (some x) >>= fun t25 => idx par t25 >>= fun t27 => .ok (!t27.isNone)) else .ok false) >>= fun t22 => .ok t22) else .ok false) >>= fun t15 => if t15 = true then (unwrap (some x) >>= fun t29 => idx par t29 >>= fun t31 => .ok t31) else (.ok (some x))) = (.ok (some (upS par x)) : M (Option Int)) := by
      have eu : ∀ {β : Type} (g : Int → M β), (unwrap (some x) >>= g) = g x := fun g => rfl
      rw [if_pos (by rfl)]
      simp only [eu]
      by_cases z : 0 ≤ x ∧ x < par.length
      · have ha := atI_some (xs := par) z.1 z.2
        have hx : idx par x = .ok par[x.toNat] := by unfold idx; rw [ha]
        have hg : par[x.toNat]? = some par[x.toNat] := List.getElem?_eq_getElem (by omega)
        rw [if_pos (by simp [z.1, z.2]), hx, ok_bind, ok_bind, ok_bind, ok_bind]
        cases e : par[x.toNat] with
        | none =>
          rw [if_neg (by simp), upS_top ⟨z, by rw [hg, e]⟩]
        | some q =>
          rw [if_pos (by simp), upS_at z (by rw [hg, e])]
      · rw [if_neg (by simp; omega), ok_bind, ok_bind, if_neg (by simp), upS_out z]
    show ((if (!(some x).isNone) = true then _ else _) >>= _) >>= _ = _
    rw [e, ok_bind]
    exact ih
theorem one_ones (par : Par) : par.filterMap (fun y => if y.isNone = true then some (1 : Int) else none) = [1] ↔ (par.filterMap fun y => if y.isNone = true then some y else none).length = 1 := by
  have e : ∀ l : Par, (l.filterMap fun y => if y.isNone = true then some (1 : Int) else none) = List.replicate (l.filterMap fun y => if y.isNone = true then some y else none).length 1 := by
    intro l
    induction l with
    | nil => rfl
    | cons x l ih =>
      cases x with
      | none =>
        rw [List.filterMap_cons, List.filterMap_cons]
        show (1 :: _) = List.replicate (_ :: _).length 1
        rw [List.length_cons, List.replicate_succ, ih]
      | some p =>
        rw [List.filterMap_cons, List.filterMap_cons]
        exact ih
  rw [e]
  constructor
  · intro h
    have := congrArg List.length h
    simpa using this
  · intro h; rw [h]; rfl
end G
namespace G
open PySem L2
theorem is_tree_or (par : Par) (hl : par.length ≤ 100000) : (IsTree par ∧ m_law_is_tree par = .ok true) ∨ (¬ IsTree par ∧ m_law_is_tree par = .ok false) := by
  have c1 : compM (β := Int) par (fun y1 => if (y1.isNone) = true then (.ok (some 1)) else .ok none) = .ok (par.filterMap fun y => if y.isNone = true then some (1 : Int) else none) := by
    refine compM_eq fun y _ => ?_
    by_cases c : y.isNone = true
    · rw [if_pos c, if_pos c]
    · rw [if_neg c, if_neg c]
  have hp : prng 0 (par.length : Int) = .ok (rng 0 (par.length : Int)) := by
    unfold prng; rw [if_pos (small_prng (by omega) (by omega) (by omega) (by omega))]
  have hlen : (rng 0 (par.length : Int)).length = par.length := by rw [rng_nums, nums_len]
  by_cases h1 : (par.filterMap fun y => if y.isNone = true then some y else none).length = 1
  · obtain ⟨root, r1, r2⟩ := (one_none par).mp h1
    have loop : m_law_is_tree par = .ok (!((rng 0 (par.length : Int)).any fun y => !decide (Top par (upI par par.length y)))) := by
      unfold m_law_is_tree
      rw [c1, ok_bind, (one_ones par).mpr h1, if_neg (by simp), hp, ok_bind]
      rw [forR_find (r := false) (b := fun y => !decide (Top par (upI par par.length y)))]
      · cases (rng 0 (par.length : Int)).any fun y => !decide (Top par (upI par par.length y)) <;> rfl
      · intro y _
        rw [ok_bind, up_turns, hlen, ok_bind]
        generalize upI par par.length y = x
        show ((if (!(decide (0 ≤ x) && decide (x < (par.length : Int)))) = true then M.ok true else (unwrap (some x) >>= fun t39 => idx par t39 >>= fun t41 => .ok (!t41.isNone))) >>= _) = _
        by_cases z : 0 ≤ x ∧ x < par.length
        · have ha := atI_some (xs := par) z.1 z.2
          have hx : idx par x = .ok par[x.toNat] := by unfold idx; rw [ha]
          have hg : par[x.toNat]? = some par[x.toNat] := List.getElem?_eq_getElem (by omega)
          rw [if_neg (by simp [z.1, z.2])]
          show ((idx par x >>= fun t41 => M.ok (!t41.isNone)) >>= _) = _
          rw [hx, ok_bind, ok_bind]
          cases e : par[x.toNat] with
          | none =>
            have : Top par x := ⟨z, by rw [hg, e]⟩
            rw [if_neg (by simp), if_neg (by simp [this])]
          | some q =>
            have : ¬ Top par x := fun w => by rw [w.2] at hg; rw [← Option.some.inj hg] at e; cases e
            rw [if_pos (by simp), if_pos (by simp [this])]
        · have : ¬ Top par x := fun w => z w.1
          rw [if_pos (by simp; omega), ok_bind, if_pos rfl, if_pos (by simp [this])]
    rw [loop]
    by_cases all : ∀ j : Nat, j < par.length → Top par (upI par par.length (j : Int))
    · refine .inl ⟨⟨root, _, tree_of_tops r1 r2 all⟩, ?_⟩
      have : ((rng 0 (par.length : Int)).any fun y => !decide (Top par (upI par par.length y))) = false := by
        rw [List.any_eq_false]
        intro y hy
        have hy' := mem_rng.mp hy
        have := all y.toNat (by omega)
        rw [Int.toNat_of_nonneg hy'.1] at this
        simp [this]
      rw [this]; rfl
    · refine .inr ⟨?_, ?_⟩
      · rintro ⟨root', rank, t⟩
        apply all
        intro j hj
        have hu : (upP rank par j).length ≤ par.length + 1 := by
          have hin : ∀ x ∈ upP rank par j, 0 ≤ x ∧ x < par.length := by
            refine up_ind t (C := fun j => j < par.length → ∀ x ∈ upP rank par j, 0 ≤ x ∧ x < par.length) ?_ ?_ j hj
            · intro p h hp x hx
              rw [up_root t h] at hx
              have := List.mem_singleton.mp hx
              omega
            · intro p q h ih hp x hx
              rw [up_step t h] at hx
              have hq := t.inr p q h
              rcases List.mem_cons.mp hx with z | z
              · omega
              · exact ih (by omega) x z
          have := nodup_sub_len (nodup_up t j) (m := numsTo par.length) fun x hx => mem_nums.2 (hin x hx)
          rw [nums_len] at this
          omega
        rw [tree_top t j hj par.length hu]
        exact ⟨⟨by omega, by have := t.lt; omega⟩, by rw [Int.toNat_natCast]; exact t.no⟩
      · have : ((rng 0 (par.length : Int)).any fun y => !decide (Top par (upI par par.length y))) = true := by
          rw [List.any_eq_true]
          by_cases c : ∃ y ∈ rng 0 (par.length : Int), (!decide (Top par (upI par par.length y))) = true
          · exact c
          · exfalso
            apply all
            intro j hj
            by_cases w : Top par (upI par par.length (j : Int))
            · exact w
            · exact absurd ⟨(j : Int), mem_rng.mpr ⟨by omega, by omega⟩, by simp [w]⟩ c
        rw [this]; rfl
  · refine .inr ⟨?_, ?_⟩
    · rintro ⟨root, rank, t⟩
      exact h1 ((one_none par).mpr ⟨root, t.no, t.uniq⟩)
    · unfold m_law_is_tree
      rw [c1, ok_bind, if_pos]
      simp only [Bool.not_eq_true', decide_eq_false_iff_not]
      exact fun z => h1 ((one_ones par).mp z)
end G
namespace G
open PySem L2 TL
/-! the words one by one -/
def wordO (w : PySem.Str) : Option (Option Int × Int) :=
  if (tpart w (PySem.Str.ofString ":")).2.1 = PySem.Str.ofString "" then none
  else match (if (tpart w (PySem.Str.ofString ":")).1 = PySem.Str.ofString "-" then some none else (numO (tl (tpart w (PySem.Str.ofString ":")).1)).map some : Option (Option Int)) with
    | none => none
    | some p => (hueO (tl (tpart w (PySem.Str.ofString ":")).2.2.1)).map fun h => (p, h)
def allW : List PySem.Str → Option (List (Option Int × Int))
  | [] => some []
  | w :: ws => match wordO w with
    | none => none
    | some y => match allW ws with
      | none => none
      | some l => some (y :: l)
theorem papp_ok {α : Type} {xs : List α} {x : α} (h : xs.length < 3000000) : papp xs x = .ok (xs ++ [x]) := by
  unfold papp; rw [if_pos (by unfold line; omega)]
theorem ppart_ok {w : PySem.Str} (hl : w.length ≤ 1000000) : ppart w (PySem.Str.ofString ":") = .ok () := by
  unfold ppart
  rw [if_pos ⟨by rw [show (PySem.Str.ofString ":").length = 1 from colon_len]; rfl, by rw [sizeLine_eq]; omega⟩]
theorem read_loop : ∀ (ws : List PySem.Str) (st : List (Option Int) × List Int), (∀ w ∈ ws, w.length ≤ 1000000) → st.1.length + ws.length ≤ 2000000 → st.2.length + ws.length ≤ 2000000 →
    forM' ws st (fun y7 st7 => ppart y7 (PySem.Str.ofString ":") >>= fun _ => m_need (!decide (((tpart y7 (PySem.Str.ofString ":")).2.1) = (PySem.Str.ofString ""))) >>= fun t22 => (if (decide (((tpart y7 (PySem.Str.ofString ":")).1) = (PySem.Str.ofString "-"))) = true then (.ok (none : Option Int)) else (m_number_in ((tpart y7 (PySem.Str.ofString ":")).1) >>= fun t26 => .ok (some t26))) >>= fun t29 => papp st7.1 t29 >>= fun _ => m_hue_in ((tpart y7 (PySem.Str.ofString ":")).2.2.1) >>= fun t36 => papp st7.2 t36 >>= fun _ => .ok ((st7.1 ++ [t29]), (st7.2 ++ [t36]))) =
      match allW ws with
      | some l => .ok (st.1 ++ l.map (·.1), st.2 ++ l.map (·.2))
      | none => .err .text
  | [], st, _, _, _ => by
    show M.ok st = M.ok (st.1 ++ [], st.2 ++ [])
    rw [List.append_nil, List.append_nil]
  | w :: ws, st, hw, h1, h2 => by
    rw [List.length_cons] at h1 h2
    have hl := hw w List.mem_cons_self
    obtain ⟨s1, s2⟩ := part_small w
    rw [forM', ppart_ok hl, ok_bind]
    unfold allW wordO
    by_cases c : (tpart w (PySem.Str.ofString ":")).2.1 = PySem.Str.ofString ""
    · rw [decide_eq_true c, if_pos c]
      show (m_need false >>= _) >>= _ = _
      rw [need_false]; rfl
    · rw [decide_eq_false c, if_neg c]
      show (m_need true >>= _) >>= _ = _
      rw [need_true38, ok_bind]
      have ep : (if (decide (((tpart w (PySem.Str.ofString ":")).1) = (PySem.Str.ofString "-"))) = true then (.ok (none : Option Int)) else (m_number_in ((tpart w (PySem.Str.ofString ":")).1) >>= fun t26 => .ok (some t26))) =
          match (if (tpart w (PySem.Str.ofString ":")).1 = PySem.Str.ofString "-" then some none else (numO (tl (tpart w (PySem.Str.ofString ":")).1)).map some : Option (Option Int)) with
          | some p => (M.ok p : M (Option Int))
          | none => .err .text := by
        by_cases d : (tpart w (PySem.Str.ofString ":")).1 = PySem.Str.ofString "-"
        · rw [if_pos (decide_eq_true d), if_pos d]
        · rw [if_neg (by simpa using d), if_neg d, number_in_eq (by omega)]
          cases numO (tl (tpart w (PySem.Str.ofString ":")).1) <;> rfl
      rw [ep]
      cases (if (tpart w (PySem.Str.ofString ":")).1 = PySem.Str.ofString "-" then some none else (numO (tl (tpart w (PySem.Str.ofString ":")).1)).map some : Option (Option Int)) with
      | none => rfl
      | some p =>
        show (M.ok p >>= _) >>= _ = _
        rw [ok_bind, papp_ok (by omega), ok_bind, hue_in_eq (by omega)]
        cases hueO (tl (tpart w (PySem.Str.ofString ":")).2.2.1) with
        | none => rfl
        | some h =>
          show (M.ok h >>= _) >>= _ = _
          rw [ok_bind, papp_ok (by omega), ok_bind, ok_bind]
          rw [read_loop ws (st.1 ++ [p], st.2 ++ [h]) (fun v hv => hw v (List.mem_cons_of_mem _ hv)) (by simp only [List.length_append, List.length_cons, List.length_nil]; omega) (by simp only [List.length_append, List.length_cons, List.length_nil]; omega)]
          show _ = match (match allW ws with | none => none | some l => some ((p, h) :: l)) with | some l => _ | none => _
          cases allW ws with
          | none => rfl
          | some l =>
            show M.ok ((st.1 ++ [p]) ++ l.map (·.1), (st.2 ++ [h]) ++ l.map (·.2)) = M.ok (st.1 ++ ((p, h) :: l).map (·.1), st.2 ++ ((p, h) :: l).map (·.2))
            rw [List.append_assoc, List.append_assoc]; rfl
theorem law_loop : ∀ (ws : List PySem.Str) (st : List (Option Int) × List (Option Int)), (∀ w ∈ ws, w.length ≤ 1000000) → st.1.length + ws.length ≤ 2000000 → st.2.length + ws.length ≤ 2000000 →
    forR (ρ := PyData) ws st (fun y7 st7 => ppart y7 (PySem.Str.ofString ":") >>= fun _ => m_law_number ((tpart y7 (PySem.Str.ofString ":")).1) >>= fun t22 => (if (decide (((tpart y7 (PySem.Str.ofString ":")).2.1) = (PySem.Str.ofString ""))) = true then .ok true else ((if ((t22.isNone) && (!decide (((tpart y7 (PySem.Str.ofString ":")).1) = (PySem.Str.ofString "-")))) = true then .ok true else (m_law_hue ((tpart y7 (PySem.Str.ofString ":")).2.2.1) >>= fun t35 => .ok (t35.isNone))) >>= fun t32 => .ok t32)) >>= fun t27 => if t27 = true then (.ok (.inl (PyData.str (PySem.Str.ofString "text")))) else (papp st7.1 t22 >>= fun _ => m_law_hue ((tpart y7 (PySem.Str.ofString ":")).2.2.1) >>= fun t40 => papp st7.2 t40 >>= fun _ => .ok (.inr ((st7.1 ++ [t22]), (st7.2 ++ [t40]))))) =
      match allW ws with
      | some l => .ok (.inr (st.1 ++ l.map (·.1), st.2 ++ l.map fun y => some y.2))
      | none => .ok (.inl (PyData.str (PySem.Str.ofString "text")))
  | [], st, _, _, _ => by
    show M.ok (Sum.inr st) = M.ok (Sum.inr (st.1 ++ [], st.2 ++ []))
    rw [List.append_nil, List.append_nil]
  | w :: ws, st, hw, h1, h2 => by
    rw [List.length_cons] at h1 h2
    have hl := hw w List.mem_cons_self
    obtain ⟨s1, s2⟩ := part_small w
    rw [forR, ppart_ok hl, ok_bind, law_number_eq (by omega), ok_bind, law_hue_eq (by omega)]
    unfold allW wordO
    by_cases c : (tpart w (PySem.Str.ofString ":")).2.1 = PySem.Str.ofString ""
    · rw [if_pos (decide_eq_true c), if_pos c]
      rfl
    · rw [if_neg (by simpa using c), if_neg c]
      have ed : (tpart w (PySem.Str.ofString ":")).1 = PySem.Str.ofString "-" → numO (tl (tpart w (PySem.Str.ofString ":")).1) = none := fun d => by
        rw [d, tl_dash]; decide
      generalize (tpart w (PySem.Str.ofString ":")).1 = P at ed s1 ⊢
      generalize (tpart w (PySem.Str.ofString ":")).2.2.1 = U at s2 ⊢
      by_cases d : P = PySem.Str.ofString "-"
      · rw [if_pos d, decide_eq_true d]
        have en := ed d
        cases eh : hueO (tl U) with
        | none =>
          rw [en]
          rfl
        | some h =>
          rw [en, if_neg (show ¬ ((none : Option Int).isNone && !true) = true by simp), ok_bind, ok_bind, ok_bind, if_neg (show ¬ (some h : Option Int).isNone = true by simp)]
          rw [papp_ok (by omega), ok_bind, ok_bind, papp_ok (by omega), ok_bind, ok_bind]
          show forR (ρ := PyData) ws (st.1 ++ [(none : Option Int)], st.2 ++ [some h]) _ = _
          rw [law_loop ws (st.1 ++ [(none : Option Int)], st.2 ++ [some h]) (fun v hv => hw v (List.mem_cons_of_mem _ hv)) (by simp only [List.length_append, List.length_cons, List.length_nil]; omega) (by simp only [List.length_append, List.length_cons, List.length_nil]; omega)]
          cases allW ws with
          | none => rfl
          | some l =>
            show M.ok (Sum.inr ((st.1 ++ [(none : Option Int)]) ++ l.map (·.1), (st.2 ++ [some h]) ++ l.map fun y => some y.2)) = M.ok (Sum.inr (st.1 ++ (((none : Option Int), h) :: l).map (·.1), st.2 ++ (((none : Option Int), h) :: l).map fun y => some y.2))
            rw [List.append_assoc, List.append_assoc]; rfl
      · rw [if_neg d, decide_eq_false d]
        cases en : numO (tl P) with
        | none => rfl
        | some v =>
          cases eh : hueO (tl U) with
          | none => rfl
          | some h =>
            rw [if_neg (show ¬ ((some v : Option Int).isNone && !false) = true by simp), ok_bind, ok_bind, ok_bind, if_neg (show ¬ (some h : Option Int).isNone = true by simp)]
            rw [papp_ok (by omega), ok_bind, ok_bind, papp_ok (by omega), ok_bind, ok_bind]
            show forR (ρ := PyData) ws (st.1 ++ [some v], st.2 ++ [some h]) _ = _
            rw [law_loop ws (st.1 ++ [some v], st.2 ++ [some h]) (fun v hv => hw v (List.mem_cons_of_mem _ hv)) (by simp only [List.length_append, List.length_cons, List.length_nil]; omega) (by simp only [List.length_append, List.length_cons, List.length_nil]; omega)]
            cases allW ws with
            | none => rfl
            | some l =>
              show M.ok (Sum.inr ((st.1 ++ [some v]) ++ l.map (·.1), (st.2 ++ [some h]) ++ l.map fun y => some y.2)) = M.ok (Sum.inr (st.1 ++ ((some v, h) :: l).map (·.1), st.2 ++ ((some v, h) :: l).map fun y => some y.2))
              rw [List.append_assoc, List.append_assoc]; rfl
/-! any text is told rightly -/
theorem toD_opt (l : List (Option Int × Int)) : PyD.toD (α := List Int) (l.map (·.2)) = PyD.toD (α := List (Option Int)) (l.map fun y => some y.2) := by
  show PyData.list ((l.map (·.2)).map PyD.toD) = PyData.list ((l.map fun y => some y.2).map PyD.toD)
  rw [List.map_map, List.map_map]
  rfl
theorem allW_len : ∀ (ws : List PySem.Str) {l : List (Option Int × Int)}, allW ws = some l → l.length = ws.length
  | [], l, h => by cases h; rfl
  | w :: ws, l, h => by
    unfold allW at h
    cases e1 : wordO w with
    | none => rw [e1] at h; cases h
    | some y =>
      rw [e1] at h
      cases e2 : allW ws with
      | none => rw [e2] at h; cases h
      | some l' =>
        rw [e2] at h
        cases h
        rw [List.length_cons, List.length_cons, allW_len ws e2]
theorem flags_text : m_law_flags .text = .ok [false, false, false, false, false, false, true, false, false, false] := by rfl
theorem flags_tree38 : m_law_flags .tree = .ok [true, false, false, false, false, false, false, false, false, false] := by rfl
theorem same_str38 (n : Nat) (z : PySem.Str) (hz : SeqAt.shaped (.str z) = true) : m_law_same (n + 1) (.str z) (.str z) = .ok true := by
  unfold m_law_same
  have e : deq (.str z) (.str z) = .ok true := by
    have : PyData.eqv (.str z) (.str z) = true := by show (z == z) = true; simp
    unfold deq
    rw [hz, if_pos (by rfl), this]
  have e1 : tIs "str" "str" = true := by decide +kernel
  simp only [dNone, dIs, tyD, e1, if_true, Bool.false_eq_true, if_false, e, ok_bind]
theorem shaped_text : SeqAt.shaped (.str (PySem.Str.ofString "text")) = true := by decide +kernel
theorem shaped_tree : SeqAt.shaped (.str (PySem.Str.ofString "tree")) = true := by decide +kernel
theorem due_at38 {β : Type} (k : Int) (g : List Bool → M β) : (prng 0 10 >>= fun _ => guardM (decide ((rng 0 10).length ≤ line)) >>= fun _ => compM (β := Bool) (rng 0 10) (fun y76 => .ok (some (decide (y76 = k)))) >>= g) = g [decide (0 = k), decide (1 = k), decide (2 = k), decide (3 = k), decide (4 = k), decide (5 = k), decide (6 = k), decide (7 = k), decide (8 = k), decide (9 = k)] := by
  have e : prng 0 10 = .ok (rng 0 10) := by unfold prng; rw [if_pos (small_prng (by omega) (by omega) (by omega) (by omega))]
  rw [e]
  rfl
theorem noerr_ok {α : Type} (a : α) : noerr (M.ok a) = .ok a := rfl
/-- what is told of a text -/
def saidT (r : M (List (Option Int) × List Int × Unit)) : PyData := match r with
  | .ok x => PyD.toD (α := (List (Option Int) × List Int × Unit)) x
  | .err .tree => .str (PySem.Str.ofString "tree")
  | _ => .str (PySem.Str.ofString "text")
theorem told_ok {z : PySem.Str} {x : List (Option Int) × List Int × Unit} (h : m_read_tree z = .ok x) : m_law_told z = .ok (PyD.toD (α := (List (Option Int) × List Int × Unit)) x) := by
  unfold m_law_told
  rw [h, ok_bind]
  rfl
theorem told_text {z : PySem.Str} (h : m_read_tree z = .err .text) : m_law_told z = .ok (.str (PySem.Str.ofString "text")) := by
  unfold m_law_told
  rw [h]
  show ((noerr (m_law_flags .text) >>= _) >>= _) = _
  rw [flags_text, noerr_ok, ok_bind, due_at38]
  have ei : idx ([PySem.Str.ofString "other", PySem.Str.ofString "tree"] : List PySem.Str) (bint (decide (([false, false, false, false, false, false, true, false, false, false] : List Bool) = [decide ((0 : Int) = 0), decide ((1 : Int) = 0), decide ((2 : Int) = 0), decide ((3 : Int) = 0), decide ((4 : Int) = 0), decide ((5 : Int) = 0), decide ((6 : Int) = 0), decide ((7 : Int) = 0), decide ((8 : Int) = 0), decide ((9 : Int) = 0)]))) = .ok (PySem.Str.ofString "other") := rfl
  rw [ei, ok_bind, ok_bind, due_at38]
  rfl
theorem told_tree {z : PySem.Str} (h : m_read_tree z = .err .tree) : m_law_told z = .ok (.str (PySem.Str.ofString "tree")) := by
  unfold m_law_told
  rw [h]
  show ((noerr (m_law_flags .tree) >>= _) >>= _) = _
  rw [flags_tree38, noerr_ok, ok_bind, due_at38]
  have ei : idx ([PySem.Str.ofString "other", PySem.Str.ofString "tree"] : List PySem.Str) (bint (decide (([true, false, false, false, false, false, false, false, false, false] : List Bool) = [decide ((0 : Int) = 0), decide ((1 : Int) = 0), decide ((2 : Int) = 0), decide ((3 : Int) = 0), decide ((4 : Int) = 0), decide ((5 : Int) = 0), decide ((6 : Int) = 0), decide ((7 : Int) = 0), decide ((8 : Int) = 0), decide ((9 : Int) = 0)]))) = .ok (PySem.Str.ofString "tree") := rfl
  rw [ei, ok_bind, ok_bind, due_at38]
  rfl
theorem right_of {z : PySem.Str} {d : PyData} (h1 : m_law_due z = .ok d) (h2 : m_law_told z = .ok d) (h3 : m_law_same 4 d d = .ok true) : m_law_right z = .ok true := by
  unfold m_law_right
  rw [h1, ok_bind, h2, ok_bind, h3, ok_bind, if_pos rfl, ok_bind, h3, ok_bind]
  rfl
theorem psplit_ok {z : PySem.Str} (hl : z.length ≤ 900000) : psplit z (PySem.Str.ofString " ") = .ok () := by
  unfold psplit
  rw [if_pos ⟨by rw [show (PySem.Str.ofString " ").length = 1 from blank_len]; rfl, by rw [sizeLine_eq]; omega⟩]
theorem right_any {z : PySem.Str} (hl : z.length ≤ 90000) : m_law_right z = .ok true := by
  obtain ⟨q1, q2, q3⟩ := split_small z
  have hw : ∀ w ∈ Txt.split z (PySem.Str.ofString " "), w.length ≤ 1000000 := fun w h => by have := q1 w h; omega
  have er : m_read_tree z = (match allW (Txt.split z (PySem.Str.ofString " ")) with
      | some l => m_need_tree (l.map (·.1)) >>= fun t43 => .ok (l.map (·.1), l.map (·.2), ())
      | none => .err .text) := by
    unfold m_read_tree
    rw [psplit_ok (by omega), ok_bind, read_loop _ _ hw (by simp only [List.length_nil]; omega) (by simp only [List.length_nil]; omega)]
    cases allW (Txt.split z (PySem.Str.ofString " ")) with
    | none => rfl
    | some l => rfl
  have ed : m_law_due z = (match allW (Txt.split z (PySem.Str.ofString " ")) with
      | some l => m_law_is_tree (l.map (·.1)) >>= fun t47 => if (!t47) = true then (.ok (PyData.str (PySem.Str.ofString "tree"))) else (.ok (PyD.toD (α := (List (Option Int) × List (Option Int) × Unit)) (l.map (·.1), (l.map fun y => some y.2), ())))
      | none => .ok (.str (PySem.Str.ofString "text"))) := by
    unfold m_law_due
    rw [psplit_ok (by omega), ok_bind, law_loop _ _ hw (by simp only [List.length_nil]; omega) (by simp only [List.length_nil]; omega)]
    cases allW (Txt.split z (PySem.Str.ofString " ")) with
    | none => rfl
    | some l => rfl
  cases ea : allW (Txt.split z (PySem.Str.ofString " ")) with
  | none =>
    rw [ea] at er ed
    exact right_of ed (told_text er) (same_str38 3 _ shaped_text)
  | some l =>
    rw [ea] at er ed
    have hll := allW_len _ ea
    have hpl : (l.map (·.1)).length ≤ 90001 := by rw [List.length_map]; omega
    rcases need_tree_or (l.map (·.1)) (by omega) with ⟨it, hn⟩ | ⟨it, hn⟩
    · rcases is_tree_or (l.map (·.1)) (by omega) with ⟨jt, hj⟩ | ⟨jt, hj⟩
      · have er : m_read_tree z = .ok (l.map (·.1), l.map (·.2), ()) := by
          rw [er]
          show (m_need_tree _ >>= _) = _
          rw [hn, ok_bind]
        have ed : m_law_due z = .ok (PyD.toD (α := (List (Option Int) × List (Option Int) × Unit)) (l.map (·.1), (l.map fun y => some y.2), ())) := by
          rw [ed]
          show (m_law_is_tree _ >>= _) = _
          rw [hj, ok_bind, if_neg (by simp)]
        have et : PyD.toD (α := (List (Option Int) × List (Option Int) × Unit)) (l.map (·.1), (l.map fun y => some y.2), ()) = PyD.toD (α := (List (Option Int) × List Int × Unit)) (l.map (·.1), l.map (·.2), ()) := by
          show PyData.tuple [PyD.toD (l.map (·.1)), PyD.toD (l.map fun y => some y.2)] = PyData.tuple [PyD.toD (l.map (·.1)), PyD.toD (l.map (·.2))]
          rw [toD_opt]
        rw [et] at ed
        refine right_of ed (told_ok er) (same_refl ?_)
        refine .tuple (by simp [PyTD.toDs]) fun d hd => ?_
        have hd' : d = PyD.toD (l.map (·.1)) ∨ d = PyD.toD (l.map (·.2)) := by
          have : d ∈ [PyD.toD (l.map (·.1)), PyD.toD (l.map (·.2))] := hd
          simpa using this
        rcases hd' with rfl | rfl
        · refine plain_list (by omega) fun x => ?_
          cases x with
          | none => exact .none
          | some x => exact .int x
        · exact plain_list (by rw [List.length_map]; omega) fun x => plain_int x
      · exact absurd it jt
    · rcases is_tree_or (l.map (·.1)) (by omega) with ⟨jt, hj⟩ | ⟨jt, hj⟩
      · exact absurd jt it
      · have er : m_read_tree z = .err .tree := by
          rw [er]
          show (m_need_tree _ >>= _) = _
          rw [hn]; rfl
        have ed : m_law_due z = .ok (.str (PySem.Str.ofString "tree")) := by
          rw [ed]
          show (m_law_is_tree _ >>= _) = _
          rw [hj, ok_bind, if_pos (by simp)]
        exact right_of ed (told_tree er) (same_str38 3 _ shaped_tree)
end G
namespace G
open PySem L2 TL
/-! the drawn texts are not long -/
def wsum (ws : List PySem.Str) : Nat := (ws.map (·.length)).sum + ws.length
theorem wsum_cons (w : PySem.Str) (ws : List PySem.Str) : wsum (w :: ws) = w.length + 1 + wsum ws := by
  unfold wsum
  rw [List.map_cons, List.sum_cons, List.length_cons]; omega
theorem wsum_app (a b : List PySem.Str) : wsum (a ++ b) = wsum a + wsum b := by
  induction a with
  | nil => show wsum b = 0 + 0 + wsum b; omega
  | cons x a ih => rw [List.cons_append, wsum_cons, wsum_cons, ih]; omega
theorem wsum_mem {ws : List PySem.Str} {w : PySem.Str} (h : w ∈ ws) : w.length + 1 ≤ wsum ws := by
  induction ws with
  | nil => cases h
  | cons x ws ih =>
    rw [wsum_cons]
    rcases List.mem_cons.mp h with rfl | h
    · omega
    · have := ih h; omega
theorem wsum_put (ws : List PySem.Str) (i : Nat) (x : PySem.Str) : wsum (ws.take i ++ [x] ++ ws.drop i) = wsum ws + x.length + 1 := by
  have e : wsum ws = wsum (ws.take i) + wsum (ws.drop i) := by rw [← wsum_app, List.take_append_drop]
  rw [wsum_app, wsum_app, wsum_cons, e]
  show _ + (x.length + 1 + 0) + _ = _
  omega
theorem wsum_set : ∀ (ws : List PySem.Str) (i : Nat) (x : PySem.Str), wsum (ws.set i x) ≤ wsum ws + x.length
  | [], i, x => by rw [List.set_nil]; omega
  | w :: ws, 0, x => by rw [List.set_cons_zero, wsum_cons, wsum_cons]; omega
  | w :: ws, i + 1, x => by
    have := wsum_set ws i x
    rw [List.set_cons_succ, wsum_cons, wsum_cons]; omega
theorem wsum_erase : ∀ (ws : List PySem.Str) (i : Nat), wsum (ws.eraseIdx i) ≤ wsum ws
  | [], i => by simp
  | w :: ws, 0 => by rw [List.eraseIdx_cons_zero, wsum_cons]; omega
  | w :: ws, i + 1 => by
    have := wsum_erase ws i
    rw [List.eraseIdx_cons_succ, wsum_cons, wsum_cons]; omega
theorem joinL_len : ∀ ps : List (List Nat), (joinL [32] ps).length ≤ (ps.map List.length).sum + ps.length
  | [] => by show 0 ≤ _; omega
  | [p] => by show p.length ≤ _; simp
  | p :: q :: r => by
    have := joinL_len (q :: r)
    show (p ++ ([32] ++ joinL [32] (q :: r))).length ≤ _
    rw [List.length_append, List.length_append, List.map_cons, List.sum_cons, List.length_cons (as := q :: r)]
    simp only [List.length_singleton]
    omega
theorem join_small (ws : List PySem.Str) : (Txt.join (PySem.Str.ofString " ") ws).length ≤ wsum ws := by
  rw [len_tl, join_eq, tl_join, show tl (PySem.Str.ofString " ") = [32] from tl_blank1]
  refine Nat.le_trans (joinL_len _) ?_
  unfold wsum
  rw [List.map_map, List.length_map]
  have : (List.length ∘ tl) = fun w : PySem.Str => w.length := by funext w; exact (len_tl w).symm
  rw [this]
  exact Nat.le_refl _
theorem w_join {E : XC → Prop} {Q : PySem.Str → Prop} {ws : List PySem.Str} (h : wsum ws ≤ 1000000) (q : ∀ z, z.length ≤ wsum ws → Q z) : wpm (pjoin (PySem.Str.ofString " ") ws >>= fun _ => .ok (PySem.Txt.join (PySem.Str.ofString " ") ws)) Q E := by
  refine bw (w_pjoin ?_ (q _ (join_small ws)))
  rw [show (PySem.Str.ofString " ").length = 1 from blank_len]
  unfold wsum at h
  omega
theorem split_wsum (z : PySem.Str) : wsum (Txt.split z (PySem.Str.ofString " ")) ≤ z.length + 1 := by
  have e : tl (PySem.Str.ofString " ") = [32] := tl_blank1
  have h := split_spl z (PySem.Str.ofString " ") (by rw [e]; simp) (kind_ok (by decide +kernel))
  rw [e] at h
  have s := spl_sum 32 (tl z) []
  rw [← h] at s
  simp only [List.length_map, List.map_map, List.length_nil] at s
  have hz := len_tl z
  unfold wsum
  have : (List.length ∘ tl) = fun w : PySem.Str => w.length := by funext w; exact (len_tl w).symm
  rw [this] at s
  omega
theorem cutS_len (x : PySem.Str) (i j : Option Int) : (cutS x i j).length ≤ x.length := by
  rw [len_tl, len_tl]
  unfold cutS
  rw [tl_mk, List.length_take, List.length_drop]
  show min _ ((tl x).length - _) ≤ (tl x).length
  omega
theorem w_pcats38 {E : XC → Prop} {Q : PySem.Str → Prop} {a b : PySem.Str} (h : a.length + b.length ≤ 1000000) (q : ∀ z : PySem.Str, z.length = a.length + b.length → Q z) : wpm (pcats a b) Q E :=
  w_pcats h (q _ (PySem.Str.length_append a b))
theorem w_sign {E : XC → Prop} {Q : PySem.Str → Prop} {cell k : Int} (hk : 0 ≤ k) (q : ∀ z : PySem.Str, z.length = 1 → Q z) : wpm (m_law_sign cell k) Q E := by
  unfold m_law_sign
  have h1 : (PySem.Str.ofString " !\"#$&'()*+,-./0123456789:;<=>?@ABCDEFGHIJKLMNOP").length = 48 := by decide +kernel
  have h2 : (PySem.Str.ofString "QRSTUVWXYZ[\\]^_`abcdefghijklmnopqrstuvwxyz{|}~\n").length = 47 := by decide +kernel
  have h3 : (PySem.Str.ofString "0019 --::").length = 9 := by decide +kernel
  refine bw (w_pcats38 (by omega) fun t ht => ?_)
  refine bw (w_stir hk fun v v0 v1 => ?_)
  refine bw (wpm_imp (P := fun m : PySem.Str => 9 ≤ m.length ∧ m.length ≤ 95) (w_idxAll (Int.emod_nonneg _ (by omega)) (by have := Int.emod_lt_of_pos v (b := 2) (by omega); simpa using this) ?_) fun m hm => ?_)
  · intro x hx
    simp only [List.mem_cons, List.not_mem_nil, or_false] at hx
    rcases hx with rfl | rfl <;> omega
  · refine bw (w_stir (by omega) fun u u0 u1 => bw (w_guard (decide_eq_true (by unfold line; omega)) (bw (w_pmod (by omega) (bw (w_pfit (by omega) ?_))))))
    have b0 := Int.emod_nonneg u (show (m.length : Int) ≠ 0 by omega)
    have b1 := Int.emod_lt_of_pos u (show (0 : Int) < m.length by omega)
    have hl := len_tl m
    unfold sitem
    have hat : atI m.cps.toList (u % (m.length : Int)) = some (m.cps.toList[(u % (m.length : Int)).toNat]'(by
      have : m.cps.toList.length = (tl m).length := rfl
      omega)) := atI_some b0 (by
      have : m.cps.toList.length = (tl m).length := rfl
      omega)
    rw [hat]
    exact q _ rfl
theorem w_ppopi38 {α : Type} {E : XC → Prop} {xs : List α} {i : Int} {Q : α × List α → Prop} (h0 : 0 ≤ i) (h1 : i < xs.length) (h2 : xs.length ≤ 1000000) (q : ∀ x, Q (x, xs.eraseIdx i.toNat)) : wpm (ppopi xs i) Q E := by
  have e62 : (2 : Int) ^ 62 = 4611686018427387904 := by decide +kernel
  have hx : xs[i.toNat]? = some (xs[i.toNat]'(by omega)) := List.getElem?_eq_getElem _
  unfold ppopi
  rw [if_pos ⟨h0, by rw [e62]; omega⟩, hx]
  exact q _
theorem w_pmuls {E : XC → Prop} {Q : Unit → Prop} {a : PySem.Str} {n : Int} (h1 : a.length ≤ 1000) (h2 : 0 ≤ n) (h3 : n ≤ 1000) (q : Q ()) : wpm (pmuls a n) Q E := by
  unfold pmuls
  rw [if_pos ⟨h1, h2, h3⟩]; exact q
theorem nine_len : (PySem.Str.ofString "9").length = 1 := by decide +kernel
theorem mul30 : (Txt.mul (PySem.Str.ofString "9") 30).length = 30 := by decide +kernel
theorem mul31 : (Txt.mul (PySem.Str.ofString "9") 31).length = 31 := by decide +kernel
def odd1 : List PySem.Str := ([PySem.Str.ofString "-:0", PySem.Str.ofString "0:-0", PySem.Str.ofString "0:00", PySem.Str.ofString "00:0", PySem.Str.ofString "0:01", PySem.Str.ofString "01:0", PySem.Str.ofString "-1:0", PySem.Str.ofString "0:-1", PySem.Str.ofString "0:+1", PySem.Str.ofString "+0:1", PySem.Str.ofString "", PySem.Str.ofString ":", PySem.Str.ofString "0:", PySem.Str.ofString ":0", PySem.Str.ofString "-:"] : List (PySem.Str))
def odd2 : List PySem.Str := ([PySem.Str.ofString "--:0", PySem.Str.ofString "-:--1", PySem.Str.ofString "0", PySem.Str.ofString "0:1:2", PySem.Str.ofString "0:1_0", PySem.Str.ofString "0:1.", PySem.Str.ofString "x:0", PySem.Str.ofString "0:x", PySem.Str.ofString "none:0", PySem.Str.ofString "7:7", PySem.Str.ofString "999:1", PySem.Str.ofString "200:0"] : List (PySem.Str))
theorem odd1_len : ∀ x ∈ odd1, x.length ≤ 40 := by decide +kernel
theorem odd2_len : ∀ x ∈ odd2, x.length ≤ 40 := by decide +kernel
theorem w_spoilt {E : XC → Prop} {Q : PySem.Str → Prop} {cell k : Int} {text : PySem.Str} (hk : 0 ≤ k) (hl : text.length ≤ 25000) (q : ∀ z : PySem.Str, z.length ≤ 3 * text.length + 200 → Q z) : wpm (m_law_spoilt cell k text) Q E := by
  obtain ⟨q1, q2, q3⟩ := split_small text
  have q4 := split_wsum text
  unfold m_law_spoilt
  refine bw (w_stir hk fun s0 _ _ => bw (w_guard (decide_eq_true (by unfold line; omega)) (bw (w_pmod (by omega) ?_))))
  refine bw (w_stir (by omega) fun s1 s10 s11 => ?_)
  refine bw (w_psplit (by rw [show (PySem.Str.ofString " ").length = 1 from blank_len]; rfl) (by omega) ?_)
  generalize hws : Txt.split text (PySem.Str.ofString " ") = ws at q1 q2 q3 q4
  refine bw (w_stir (by omega) fun s2 _ _ => bw (w_pmod (by omega) ?_))
  refine bw (w_stir (by omega) fun s3 _ _ => bw (w_pmod (by omega) ?_))
  have a0 := Int.emod_nonneg s2 (show (ws.length : Int) ≠ 0 by omega)
  have a1 := Int.emod_lt_of_pos s2 (show (0 : Int) < ws.length by omega)
  have b0 := Int.emod_nonneg s3 (show (ws.length : Int) ≠ 0 by omega)
  have b1 := Int.emod_lt_of_pos s3 (show (0 : Int) < ws.length by omega)
  generalize s2 % (ws.length : Int) = one at a0 a1
  generalize s3 % (ws.length : Int) = other at b0 b1
  have e2 : (PySem.Str.ofString "0:").length = 2 := by decide +kernel
  have e3 : (PySem.Str.ofString "0:-").length = 3 := by decide +kernel
  have e4 : (PySem.Str.ofString ":0").length = 2 := by decide +kernel
  have e9 := nine_len
  have m30 := mul30
  have m31 := mul31
  refine bw (w_pcat (by simp only [List.length_append, List.length_cons, List.length_nil]; unfold line; omega) ?_)
  refine bw (w_pmuls (by omega) (by omega) (by omega) (bw (w_pcats38 (by omega) fun t26 h26 => ?_)))
  refine bw (w_pmuls (by omega) (by omega) (by omega) (bw (w_pcats38 (by omega) fun t27 h27 => ?_)))
  refine bw (w_pmuls (by omega) (by omega) (by omega) (bw (w_pcats38 (by omega) fun t28 h28 => ?_)))
  refine bw (w_pmuls (by omega) (by omega) (by omega) (bw (w_pcats38 (by omega) fun t29 h29 => ?_)))
  refine bw (w_pcat (by simp only [List.length_append, List.length_cons, List.length_nil]; unfold line; omega) ?_)
  refine bw (w_pmuls (by omega) (by omega) (by omega) (bw (w_pcats38 (by omega) fun t37 h37 => ?_)))
  refine bw (w_pmuls (by omega) (by omega) (by omega) (bw (w_pcats38 (by omega) fun t38 h38 => ?_)))
  refine bw (w_pcat (by simp only [List.length_append, List.length_cons, List.length_nil]; unfold line; omega) ?_)
  have hO : ∀ x ∈ (((odd1 ++ odd2) ++ ([t26, t27, t28, t29] : List (PySem.Str))) ++ ([t37, t38] : List (PySem.Str))), x.length ≤ 40 := by
    intro x hx
    rcases List.mem_append.mp hx with hx | hx
    · rcases List.mem_append.mp hx with hx | hx
      · rcases List.mem_append.mp hx with hx | hx
        · exact odd1_len x hx
        · exact odd2_len x hx
      · simp only [List.mem_cons, List.not_mem_nil, or_false] at hx
        rcases hx with rfl | rfl | rfl | rfl <;> omega
    · simp only [List.mem_cons, List.not_mem_nil, or_false] at hx
      rcases hx with rfl | rfl <;> omega
  have hOl : (((odd1 ++ odd2) ++ ([t26, t27, t28, t29] : List (PySem.Str))) ++ ([t37, t38] : List (PySem.Str))).length = 33 := rfl
  have hOe : (((([PySem.Str.ofString "-:0", PySem.Str.ofString "0:-0", PySem.Str.ofString "0:00", PySem.Str.ofString "00:0", PySem.Str.ofString "0:01", PySem.Str.ofString "01:0", PySem.Str.ofString "-1:0", PySem.Str.ofString "0:-1", PySem.Str.ofString "0:+1", PySem.Str.ofString "+0:1", PySem.Str.ofString "", PySem.Str.ofString ":", PySem.Str.ofString "0:", PySem.Str.ofString ":0", PySem.Str.ofString "-:"] : List (PySem.Str)) ++ ([PySem.Str.ofString "--:0", PySem.Str.ofString "-:--1", PySem.Str.ofString "0", PySem.Str.ofString "0:1:2", PySem.Str.ofString "0:1_0", PySem.Str.ofString "0:1.", PySem.Str.ofString "x:0", PySem.Str.ofString "0:x", PySem.Str.ofString "none:0", PySem.Str.ofString "7:7", PySem.Str.ofString "999:1", PySem.Str.ofString "200:0"] : List (PySem.Str))) ++ ([t26, t27, t28, t29] : List (PySem.Str))) ++ ([t37, t38] : List (PySem.Str))) = (((odd1 ++ odd2) ++ ([t26, t27, t28, t29] : List (PySem.Str))) ++ ([t37, t38] : List (PySem.Str))) := rfl
  rw [hOe]
  generalize (((odd1 ++ odd2) ++ ([t26, t27, t28, t29] : List (PySem.Str))) ++ ([t37, t38] : List (PySem.Str))) = O at hO hOl
  clear hOe
  generalize s0 % ((text.length : Int) + 1) = at_
  have c1 := fun i j => cutS_len text i j
  by_cases k0 : decide (s1 % 8 = 0) = true
  · rw [if_pos k0]
    refine bw (w_pfit (by omega) (bw (w_pfit (by omega) ?_)))
    have d1 := c1 none (some at_)
    have d2 := c1 (some (at_ + 1)) none
    exact bw (w_pcats38 (by omega) fun z hz => q z (by omega))
  rw [if_neg k0]
  by_cases k1 : decide (s1 % 8 < 3) = true
  · rw [if_pos k1]
    refine bw (w_pfit (by omega) (bw (w_sign (by omega) fun y hy => ?_)))
    have d1 := c1 none (some at_)
    have d2 := c1 (some ((at_ + s1 % 8) - 1)) none
    refine bw (w_pcats38 (by omega) fun z hz => bw (w_pfit (by omega) (bw (w_pcats38 (by omega) fun z2 hz2 => q z2 (by omega)))))
  rw [if_neg k1]
  -- the words
  refine bw (wpm_imp (P := fun vs : List PySem.Str => wsum vs ≤ 3 * text.length + 100) ?_ fun vs hv => w_join (by omega) fun z hz => q z (by omega))
  by_cases k3 : decide (s1 % 8 = 3) = true
  · rw [if_pos k3]
    refine bw (w_ppopi38 a0 a1 (by omega) fun x => ?_)
    have := wsum_erase ws one.toNat
    show wsum (ws.eraseIdx one.toNat) ≤ _
    omega
  rw [if_neg k3]
  by_cases k4 : decide (s1 % 8 = 4) = true
  · rw [if_pos k4]
    refine bw (w_idxAll (P := fun w => wpm _ _ _) a0 a1 fun w hw => ?_)
    have hw2 := q1 w hw
    refine bw (w_pins (by omega) b0 (by omega) ?_)
    show wsum _ ≤ _
    rw [wsum_put]
    omega
  rw [if_neg k4]
  have odd : ∀ {P : PySem.Str → Prop} (kk : Int), 0 ≤ kk → (∀ x, x.length ≤ 40 → P x) → wpm (m_law_stir cell kk >>= fun t64 => pmod t64 (O.length : Int) >>= fun _ => idx O (t64 % (O.length : Int))) P E := by
    intro P kk hkk hP
    refine bw (w_stir hkk fun v v0 v1 => bw (w_pmod (by omega) ?_))
    have x0 := Int.emod_nonneg v (show (O.length : Int) ≠ 0 by omega)
    have x1 := Int.emod_lt_of_pos v (show (0 : Int) < O.length by omega)
    exact w_idxAll x0 x1 fun x hx => hP x (hO x hx)
  by_cases k5 : decide (s1 % 8 = 5) = true
  · rw [if_pos k5]
    refine bw (w_stir (by omega) fun v v0 v1 => bw (w_pmod (by omega) ?_))
    have x0 := Int.emod_nonneg v (show (O.length : Int) ≠ 0 by omega)
    have x1 := Int.emod_lt_of_pos v (show (0 : Int) < O.length by omega)
    refine bw (w_idxAll (P := fun w => wpm _ _ _) x0 x1 fun x hx => ?_)
    have := hO x hx
    refine bw (w_pset a0 a1 ?_)
    have := wsum_set ws one.toNat x
    show wsum _ ≤ _
    omega
  rw [if_neg k5]
  by_cases k6 : decide (s1 % 8 = 6) = true
  · rw [if_pos k6]
    refine bw (w_stir (by omega) fun v v0 v1 => bw (w_pmod (by omega) ?_))
    have x0 := Int.emod_nonneg v (show (O.length : Int) ≠ 0 by omega)
    have x1 := Int.emod_lt_of_pos v (show (0 : Int) < O.length by omega)
    refine bw (w_idxAll (P := fun w => wpm _ _ _) x0 x1 fun x hx => ?_)
    have := hO x hx
    refine bw (w_pins (by omega) a0 (by omega) ?_)
    show wsum _ ≤ _
    rw [wsum_put]
    omega
  rw [if_neg k6]
  refine bw (w_idxAll (P := fun w => wpm _ _ _) b0 b1 fun x hx => ?_)
  refine bw (w_idxAll (P := fun w => wpm _ _ _) a0 a1 fun y hy => ?_)
  have h1 := q1 x hx
  have h2 := q1 y hy
  refine bw (w_pset a0 a1 ?_)
  refine bw (w_pset b0 (by rw [List.length_set]; exact b1) ?_)
  have g1 := wsum_set (ws.set one.toNat x) other.toNat y
  have g2 := wsum_set ws one.toNat x
  show wsum ((ws.set one.toNat x).set other.toNat y) ≤ _
  omega
theorem w_hues38 {E : XC → Prop} {Q : List Int → Prop} {cell : Int} {n : Nat} (hn : n ≤ 1000) (q : ∀ hs : List Int, hs.length = n → (∀ h ∈ hs, -(10 ^ 30) < h ∧ h < 10 ^ 30) → Q hs) : wpm (m_law_hues cell (n : Int)) Q E := by
  unfold m_law_hues
  refine bw (w_stir (by omega) fun k k0 k1 => ?_)
  refine bw (w_prng (small_prng (by omega) (by omega) (by omega) (by omega)) (bw (w_forRng (I := fun i st => (st.length : Int) = i ∧ ∀ h ∈ st, -(10 ^ 30) < h ∧ h < 10 ^ 30) (by omega) ⟨rfl, fun _ h => nomatch h⟩ ?_ ?_)))
  · rintro i st hi hi2 ⟨h1, h2⟩
    refine bw (w_stir (by omega) fun v v0 v1 => bw (w_pmul (.inl (by omega)) ?_))
    refine bw (wpm_imp (P := fun x => -(10 ^ 30) < x ∧ x < 10 ^ 30) (w_idxAll (Int.emod_nonneg _ (by omega)) (by have := Int.emod_lt_of_pos k (b := 5) (by omega); simpa using this) ?_) fun x hx => ?_)
    · intro x hx
      simp only [List.mem_cons, List.not_mem_nil, or_false] at hx
      rcases hx with rfl | rfl | rfl | rfl | rfl <;> omega
    · refine bw (w_papp (by unfold line; omega) ?_)
      refine ⟨by rw [List.length_append]; simp; omega, fun h hh => ?_⟩
      rcases List.mem_append.mp hh with hh | hh
      · exact h2 h hh
      · rw [List.mem_singleton.mp hh]; exact hx
  · rintro st ⟨h1, h2⟩
    exact q st (by omega) h2
theorem okw_of38 {par : List (Option Int)} {hues : List Int} (hp : ∀ q, some q ∈ par → 0 ≤ q ∧ q < 10 ^ 30) (hh : ∀ h ∈ hues, -(10 ^ 30) < h ∧ h < 10 ^ 30) : ∀ y ∈ zp par hues, OkW y := by
  intro y hy
  obtain ⟨i, hi⟩ := List.getElem?_of_mem hy
  obtain ⟨a, b, h1, h2, rfl⟩ := zp_get par hues i y hi
  have hb := hh b (List.mem_of_getElem? h2)
  exact ⟨fun q e => hp q (by have := List.mem_of_getElem? h1; rwa [show a = some q from e] at this), hb.1, hb.2⟩
theorem tree_par38 {par : Par} {root : Nat} {rank : Nat → Nat} (t : Tree par root rank) (hl : par.length ≤ 1000) : ∀ q, some q ∈ par → 0 ≤ q ∧ q < 10 ^ 30 := by
  intro q hq
  obtain ⟨j, hj⟩ := List.getElem?_of_mem hq
  have := t.inr j q hj
  omega
theorem kR_go38 {ρ τ : Type} (s : τ) (k : τ → M ρ) : kR (.inr s) k = k s := rfl
theorem text_small {par : List (Option Int)} {hues : List Int} (hw : ∀ y ∈ zp par hues, OkW y) (hl : par.length ≤ 40) : (treeText par hues).length ≤ 4040 := by
  have := join_len (ys := (zp par hues).map wordOf) (k := 100) (by
    intro x hx
    obtain ⟨y, hy, rfl⟩ := List.mem_map.mp hx
    exact wordOf_len (hw y hy))
  rw [List.length_map, zp_len] at this
  unfold treeText
  have h2 : min par.length hues.length ≤ 40 := by omega
  refine Nat.le_trans this ?_
  refine Nat.le_trans (Nat.mul_le_mul_right _ h2) ?_
  decide
theorem w_free {E : XC → Prop} {Q : PySem.Str → Prop} {cell : Int} (q : ∀ z : PySem.Str, z.length ≤ 2000 → Q z) : wpm (m_law_free cell) Q E := by
  unfold m_law_free
  refine bw (w_stir (by omega) fun v v0 v1 => ?_)
  have m0 := Int.emod_nonneg v (show (12 : Int) ≠ 0 by omega)
  have m1 := Int.emod_lt_of_pos v (show (0 : Int) < 12 by omega)
  generalize v % 12 = many at m0 m1
  have cl := colon_len
  have dl : (PySem.Str.ofString "-").length = 1 := by decide +kernel
  refine bw (w_prng (small_prng (by omega) (by omega) (by omega) (by omega)) (bw (w_forRng (I := fun k (st : List PySem.Str) => (st.length : Int) = k ∧ wsum st ≤ 70 * st.length) (by omega) ⟨rfl, Nat.le_refl _⟩ ?_ ?_)))
  · rintro k st k0 k1 ⟨h1, h2⟩
    refine bw (w_stir (by omega) fun a a0 a1 => bw (w_stir (by omega) fun b b0 b1 => ?_))
    have bb : 0 ≤ bint (decide (b % 4 = 0)) ∧ bint (decide (b % 4 = 0)) ≤ 1 := by cases decide (b % 4 = 0) <;> decide
    generalize bint (decide (b % 4 = 0)) = w at bb
    refine bw (w_pmod (by omega) ?_)
    have n0 := Int.emod_nonneg a (show (1 + many) + w ≠ 0 by omega)
    have n1 := Int.emod_lt_of_pos a (show 0 < (1 + many) + w by omega)
    generalize a % ((1 + many) + w) = num at n0 n1
    refine bw (w_pistr (by omega) (by omega) ?_)
    have il := istr_len (i := num) (by omega) (by omega)
    refine bw (wpm_imp (P := fun z : PySem.Str => z.length ≤ 31) ?_ fun z hz => ?_)
    · refine bw (w_stir (by omega) fun c c0 c1 => bw (w_pmod (by omega) ?_))
      have both : ∀ t : Bool, wpm (if t = true then (.ok (PySem.Str.ofString "-")) else (.ok (istr num)) : M PySem.Str) (fun z : PySem.Str => z.length ≤ 31) E := fun t => by
        cases t with
        | true => rw [if_pos rfl]; show (PySem.Str.ofString "-").length ≤ 31; omega
        | false => rw [if_neg (by simp)]; exact il
      by_cases e : decide (k = c % (1 + many)) = true
      · rw [if_pos e]
        exact both true
      · rw [if_neg e]
        refine bw (bw (w_stir (by omega) fun u u0 u1 => ?_))
        exact both _
    · refine bw (w_pcats38 (b := PySem.Str.ofString ":") (by rw [show (PySem.Str.ofString ":").length = 1 from cl]; omega) fun z2 hz2 => ?_)
      rw [show (PySem.Str.ofString ":").length = 1 from cl] at hz2
      refine bw (w_stir (by omega) fun u u0 u1 => ?_)
      have e0 := Int.emod_nonneg u (show (9 : Int) ≠ 0 by omega)
      have e1 := Int.emod_lt_of_pos u (show (0 : Int) < 9 by omega)
      have jl := istr_len (i := u % 9 - 4) (by omega) (by omega)
      refine bw (w_pistr (by omega) (by omega) (bw (w_pcats38 (by omega) fun z3 hz3 => ?_)))
      refine bw (w_papp (by unfold line; omega) ?_)
      refine ⟨by rw [List.length_append]; simp; omega, ?_⟩
      rw [wsum_app, wsum_cons, List.length_append]
      show wsum st + (z3.length + 1 + 0) ≤ 70 * (st.length + 1)
      omega
  · rintro st ⟨h1, h2⟩
    exact w_join (by omega) fun z hz => q z (by omega)
theorem fixed_len : ∀ z ∈ (((([PySem.Str.ofString "", PySem.Str.ofString " ", PySem.Str.ofString "-", PySem.Str.ofString ":", PySem.Str.ofString "-:", PySem.Str.ofString "-:0 ", PySem.Str.ofString " -:0", PySem.Str.ofString "-:0  0:0", PySem.Str.ofString "-:0\n", PySem.Str.ofString "-:0 -:0", PySem.Str.ofString "0:0", PySem.Str.ofString "-:0 1:0"] : List (PySem.Str)) ++ ([PySem.Str.ofString "-:0 2:0", PySem.Str.ofString "1:0 0:0", PySem.Str.ofString "-:0 0:0 3:0 2:0", PySem.Str.ofString "-:-0", PySem.Str.ofString "-:0:0", PySem.Str.ofString "none", PySem.Str.ofString "-:0 0:0"] : List (PySem.Str))) ++ ([PySem.Str.ofString "1:0 2:0 -:0", PySem.Str.ofString "-:0 -1:0", PySem.Str.ofString "-:0 0:0 0:0"] : List (PySem.Str)))), z.length ≤ 90000 := by decide +kernel
theorem law_true (ns : List Int) (hns : ns.length ≤ 63) : m_law ns = .ok true := by
  have H : wpm (m_law ns) (fun b => b = true) (fun _ => False) := by
    unfold m_law
    refine bw (w_cells hns fun cells => ?_)
    refine bw (w_forR (I := fun _ _ => True) trivial ?_ ?_)
    · intro pre cell post st _ _
      refine bw (w_tree (by omega) (by omega) fun par root rank t hlen => ?_)
      refine bw (w_hues38 (by omega) fun hues hh hb => ?_)
      have hw := okw_of38 (tree_par38 t (by omega)) hb
      have ht := text_small hw (by omega)
      refine bw (w_law_text (by omega) hw ?_)
      refine bw (w_free fun z hz => ?_)
      rw [right_any (by omega), ok_bind, if_neg (by simp)]
      refine bw (w_prng (small_prng (by omega) (by omega) (by omega) (by omega)) (bw (w_forRRng (I := fun _ _ => True) (by omega) trivial ?_ (fun _ _ => trivial))))
      intro k s k0 k1 _
      refine bw (w_spoilt (by omega) (by omega) fun z1 hz1 => ?_)
      rw [right_any (by omega), ok_bind, if_neg (by simp)]
      refine bw (bw (w_spoilt (by omega) (by omega) fun z2 hz2 => ?_))
      rw [right_any (by omega), ok_bind]
      refine w_ok ?_
      rw [if_neg (by simp)]
      trivial
    · intro st _
      rw [kR_go38]
      refine bw (w_pcat (by simp only [List.length_append, List.length_cons, List.length_nil]; unfold line; omega) (bw (w_pcat (by simp only [List.length_append, List.length_cons, List.length_nil]; unfold line; omega) ?_)))
      rw [compM_eq (g := fun _ => none) fun z hz => by
        rw [right_any (fixed_len z hz), noerr_ok, ok_bind, if_neg (by simp)]]
      have enone : ∀ l : List PySem.Str, (l.filterMap fun _ => (none : Option PySem.Str)) = [] := fun l => by
        induction l with
        | nil => rfl
        | cons x l ih => exact ih
      rw [enone, ok_bind]
      rfl
  obtain ⟨a, h1, h2⟩ := ok_of H
  rw [h1, h2]
end G
namespace G
open PySem L2 Evl RZ
def topS (i : Nat) : PySem.Stmt := PySem.Challenge.pw_huesbelow_k38_texts_of_no_tree.main.body.getD i (.Pass ⟨0, 0, 0, 0⟩)
abbrev swalk_of : PySem.Stmt := topS 12
theorem scwalk_of : FnScope ["parents", "kids", "waiting", "found", "place", "parent"] ["parents"] (defScope swalk_of) := ⟨rfl, rfl, rfl, by decide +kernel, rfl, by decide +kernel, by decide +kernel⟩

def spwalk_of (K : Fr) : Sp := fun vs H Q E => ∃ (S0 : Hp) (a_parents : Addr) (parents : List (Option Int)), vs = [(V.ref a_parents)] ∧ Ex S0 H ∧ RepL K S0 a_parents parents ∧ wpm (m_walk_of parents) (fun r => ∀ p S' H', Gx [] S0 H S' H' → H p = none → OwnL K S' H' p r → Q (.ref p) H') (fun c => ∀ S' H', Gx [] S0 H S' H' → E (.ref (caOf K c)) none H')

theorem okwalk_of {P : Program} {w : World} {K : Fr} {mg : PySem.Str → Option Value} {base : Heap} (A0 : At K mg "walk_of" swalk_of ["parents"]) (n_enumerate : mg "enumerate" = none) : Dfn P w K mg base "walk_of" 1 ["parents"] (spwalk_of K) := by
  refine Dfn.mk' A0 fun f fd F => F.ok (CX := L2N.CX P w) scwalk_of (fun vs H Q E h => ?_) (fun cdv A outer s H vs Q E hr h => ?_)
  · obtain ⟨S0, a_parents, parents, rfl, e0, r_parents, h⟩ := h
    rfl
  · obtain ⟨S0, a_parents, parents, rfl, e0, r_parents, h⟩ := h
    unfold m_walk_of at h
    have g : Gx [] S0 H S0 H := Gx.refl e0
    refine ⟨_, pss_cons (ps_setLc (i := 1) (own := [("place", 4)]) (by rfl) scwalk_of.nd rfl rfl (sw_true rfl rfl rfl (by decide +kernel)) (pi_lenK (K := K) (pi_listK (K := K) (pv 0))) (blkOk_by (own := [("place", 4)]) (N := ["parents", "kids", "waiting", "found", "place", "parent"]) (sc := defScope swalk_of) (by decide +kernel)) (fun _ _ _ _ _ => (pg_name (i := 4) scwalk_of.nd rfl (by first | exact Or.inl rfl | exact Or.inr rfl))) (fun _ _ _ _ _ => pts_nil) (fun _ _ _ _ _ => (pe_lst pa_nil))) (pss_cons (ps_for (passes_of rfl) rfl (pi_enumK (K := K) (by rfl) n_enumerate (pa_cons (pv 0) pa_nil)) (pg_tupK (K := K) (n := 2) rfl (pgs_cons (pg_name (i := 4) scwalk_of.nd rfl (by first | exact Or.inl rfl | exact Or.inr rfl)) (pgs_cons (pg_name (i := 5) scwalk_of.nd rfl (by first | exact Or.inl rfl | exact Or.inr rfl)) pgs_nil))) (pss_one (ps_if (pt_cmpR op_notNG (pv 5) pe_non (nomark _)) (pss_one (ps_expr (pe_K (K := K) (pe_bm PySem.F.plainAttrs_list PySem.F.slot_list_append PySem.F.type_list_append mt_append (pe_ix (ix_listK (K := K)) (pv 1) (pv 5) (fun _ _ => rfl)) (pa_cons (pv 4) pa_nil))))) pss_nil))) (pss_cons (ps_set (i := 2) scwalk_of.nd rfl (by first | exact Or.inl rfl | exact Or.inr rfl) (pe_lst (pa_cons (pe_K (K := K) (pe_bm PySem.F.plainAttrs_list PySem.F.slot_list_index PySem.F.type_list_index (mt_indexK (K := K)) (pv 0) (pa_cons pe_non pa_nil))) pa_nil))) (pss_cons (ps_set (i := 3) scwalk_of.nd rfl (by first | exact Or.inl rfl | exact Or.inr rfl) (pe_lst pa_nil)) (pss_cons (ps_while (passes_of rfl) (pt_cmpR (op_neK (K := K) hr.units) (pv 2) (pe_lst pa_nil) (nomark _)) (pss_cons (ps_set (i := 4) scwalk_of.nd rfl (by first | exact Or.inl rfl | exact Or.inr rfl) (pe_K0 (K := K) (pe_bm0 PySem.F.plainAttrs_list PySem.F.slot_list_pop PySem.F.type_list_pop mt_pop (pv 2)))) (pss_cons (ps_expr (pe_K (K := K) (pe_bm PySem.F.plainAttrs_list PySem.F.slot_list_append PySem.F.type_list_append mt_append (pv 3) (pa_cons (pv 4) pa_nil)))) (pss_one (ps_expr (pe_K (K := K) (pe_bm PySem.F.plainAttrs_list PySem.F.slot_list_extend PySem.F.type_list_extend mt_extend (pv 2) (pa_cons (pe_revK (K := K) (pe_ix (ix_listK (K := K)) (pv 1) (pv 4) (fun _ _ => rfl))) pa_nil)))))))) (pss_one (ps_ret (pv 3))))))), ?_⟩
    refine i_start (σ := [some (V.ref a_parents), none, none, none, none, none]) rfl ?_
    refine i_seq ?_
    refine i_asg ?_
    refine i_lc ?_
    refine i_len ?_
    refine i_list ?_
    refine i_var rfl ?_
    refine i_listA (r_parents.hp g.sh) ?_
    intro hlen
    have wk1 : Wk K (Itl K a_parents) parents (fun (_ : Unit) (_ : St) S' H' => Gx [] S0 H S' H') := by
      refine wk_list fun st σ2 S2 H2 gl => ?_
      exact ⟨gl.sh, (RepL.hp (RepL.mono gl.s r_parents) gl.sh)⟩
    refine s_compN (β := (Int)) wk1 (RepH.len (r_parents.hp g.sh) hlen) g (fun y1 v1 S1c H1c T F gc1 rv hT => ?_) (fun p2 S3 H4 as5 gA gs hp_p2 hps_p2 o_p2 => ?_)
    · obtain rfl := (Flat.is.1 rv)
      refine i_nameE (σ' := [_, _, _, _, some (optV (y1)), _]) rfl ?_
      refine ⟨rfl, ?_⟩
      refine i_yes ?_
      refine ite2b (fun _ => ?_) (fun hb => nomatch hb)
      refine i_lst (i_nil ?_)
      exact ⟨Nat.zero_le _, hT⟩
    have f0_p2 := Gx.back g hp_p2
    have nf0_p2 : ∀ b ∈ as5, H b = none := fun b hb => Gx.back g (hps_p2 b hb)
    have mf0_p2 : ∀ b ∈ as5, H b = none ∨ b ∈ [] := fun b hb => .inl (Gx.back g (hps_p2 b hb))
    replace r_parents := RepL.mono gs.s r_parents
    replace g := gA
    refine i_nameE (σ' := [_, some (V.ref p2), _, _, _, _]) rfl ?_
    refine nx_seq ?_
    refine i_seq ?_
    refine i_for ?_
    refine i_enum (i_cons ?_)
    refine i_var rfl ?_
    refine i_nil ?_
    refine i_enumA (r_parents.hp g.sh) ?_
    have hm6 : ∀ x ∈ (as5 ++ []), x ∈ [] ∨ H x = none := by
      intro x hx
      simp only [List.mem_append, List.mem_cons, List.not_mem_nil, or_false] at hx
      rcases hx with hx
      · exact (Or.symm (mf0_p2 x hx))
    have wk6 : Wk K (Ite K a_parents) (en 0 parents) (fun (st6 : (List (List (Int)))) σ' S' H' => ∃ (j_place : Option V) (j_parent : Option V), σ' = [some (V.ref a_parents), some (V.ref p2), none, none, j_place, j_parent] ∧ Gx (as5 ++ []) S3 H4 S' H' ∧ OwnN K S' H' p2 as5 st6) := by
      refine wk_enum fun st σ2 S2 H2 hR => ?_
      obtain ⟨j_place, j_parent, rfl, gl6, o_p2⟩ := hR
      exact ⟨gl6.sh, (RepL.hp (RepL.mono gl6.s r_parents) gl6.sh)⟩
    refine s_forM (R := (fun (st6 : (List (List (Int)))) σ' S' H' => ∃ (j_place : Option V) (j_parent : Option V), σ' = [some (V.ref a_parents), some (V.ref p2), none, none, j_place, j_parent] ∧ Gx (as5 ++ []) S3 H4 S' H' ∧ OwnN K S' H' p2 as5 st6)) (s0 := (List.replicate parents.length ([] : List (Int)))) wk6 ⟨_, _, rfl, (Gx.refl g.sh), o_p2⟩ h (fun y6 v6 st6 σ1 S6a H6a S6b H6b P6 hR gs rv h => ?_) (fun st6 σ1 S6j H6j hR h => ?_)
    · obtain ⟨j_place, j_parent, rfl, gl6, o_p2⟩ := hR
      replace r_parents := RepL.mono gl6.s r_parents
      replace r_parents := RepL.mono gs.s r_parents
      replace o_p2 := OwnN.keep0 o_p2 gs
      replace gl6 := gl6.trans0 gs
      have r7 := rv
      obtain ⟨a8, rfl⟩ := rep_ref r7
      obtain ⟨_, hs9, _, _, rfl, rfl, _, _, rfl, r13, rfl⟩ := rep_at r7
      obtain rfl := (Flat.is.1 r13)
      refine i_gtup (ex_t gl6.sh hs9) rfl ?_
      refine i_gcons ?_
      refine i_nameE (σ' := [_, _, _, _, some (V.int (y6.1)), _]) rfl ?_
      refine i_gcons ?_
      refine i_nameE (σ' := [_, _, _, _, _, some (optV (y6.2.1))]) rfl ?_
      refine i_gnil ?_
      refine i_if ?_
      refine i_test ?_
      refine i_op ?_
      refine i_var rfl ?_
      refine i_c ?_
      refine s_notN (isN_opt) ?_
      refine i_bl ?_
      refine ite2b (fun hb14 => ?_) (fun hb14 => ?_)
      · replace h := wpm_t hb14 h
        refine i_drop ?_
        refine i_bm ?_
        refine i_op ?_
        refine i_var rfl ?_
        obtain ⟨t15, e16, h⟩ := wpm_unwrap h
        refine i_varU rfl e16 ?_
        refine s_napp (x := y6.1) gl6 o_p2 (show ∀ b ∈ as5, H4 b = none ∨ b ∈ (as5 ++ []) from fun b hb => .inr (by simp [hb])) rfl h (fun N q => ?_) (fun H17 t18 gA oA heq h => ?_)
        · refine i_cons ?_
          refine i_var rfl ?_
          refine i_nil ?_
          exact q
        replace gl6 := gA
        replace o_p2 := oA
        exact ⟨_, _, h, _, _, rfl, gl6, o_p2⟩
      · replace h := wpm_f hb14 h
        refine i_next ?_
        exact ⟨_, _, h, _, _, rfl, gl6, o_p2⟩
    obtain ⟨j_place, j_parent, rfl, gl6, o_p2⟩ := hR
    replace r_parents := RepL.mono gl6.s r_parents
    replace g := g.trans gl6 hm6
    refine nx_seq ?_
    refine i_seq ?_
    refine i_asg ?_
    refine i_lst ?_
    refine i_cons ?_
    refine i_bm ?_
    refine i_var rfl ?_
    refine s_bmL (r_parents.hp g.sh) ?_
    refine i_cons ?_
    refine i_c ?_
    refine i_nil ?_
    refine s_index (x := (none : Option Int)) (r_parents.hp g.sh) h (fun t19 h => ?_)
    refine i_nil ?_
    refine s_lstO (K := K) (xs := ([t19] : List Int)) g (All2.cons rfl All2.nil) (show (1 : Nat) ≤ 16777216 by decide) (fun p20 H22 gA gs hp_p20 o_p20 => ?_)
    have ne_p2_p20 := OwnN.ne o_p2 hp_p20
    have nin_p20_as5 := OwnN.nin o_p2 hp_p20
    have f0_p20 := Gx.back g hp_p20
    replace r_parents := RepL.mono gs.s r_parents
    replace o_p2 := OwnN.keep0 o_p2 gs
    replace g := gA
    refine i_nameE (σ' := [_, _, some (V.ref p20), _, _, _]) rfl ?_
    refine nx_seq ?_
    refine i_seq ?_
    refine i_asg ?_
    refine i_lst ?_
    refine i_nil ?_
    refine s_lstO (K := K) (xs := ([] : List (Int))) g All2.nil (show (0 : Nat) ≤ 16777216 by decide) (fun p23 H25 gA gs hp_p23 o_p23 => ?_)
    have ne_p2_p23 := OwnN.ne o_p2 hp_p23
    have nin_p23_as5 := OwnN.nin o_p2 hp_p23
    have ne_p20_p23 := OwnL.ne o_p20 hp_p23
    have f0_p23 := Gx.back g hp_p23
    replace r_parents := RepL.mono gs.s r_parents
    replace o_p2 := OwnN.keep0 o_p2 gs
    replace o_p20 := OwnL.keep0 o_p20 gs
    replace g := gA
    refine i_nameE (σ' := [_, _, _, some (V.ref p23), _, _]) rfl ?_
    refine nx_seq ?_
    refine i_seq ?_
    have hm26 : ∀ x ∈ [p20, p23], x ∈ [] ∨ H x = none := by
      intro x hx
      simp only [List.mem_append, List.mem_cons, List.not_mem_nil, or_false] at hx
      rcases hx with rfl | rfl
      · exact (Or.symm (.inl f0_p20))
      · exact (Or.symm (.inl f0_p23))
    refine s_while (R := (fun (st26 : (List Int) × (List (Int))) σ' S' H' => ∃ (j_place : Option V), σ' = [some (V.ref a_parents), some (V.ref p2), some (V.ref p20), some (V.ref p23), j_place, j_parent] ∧ Gx [p20, p23] S6j H25 S' H' ∧ OwnL K S' H' p20 st26.1 ∧ OwnL K S' H' p23 st26.2)) (s0 := (([t19] : List Int), ([] : List (Int)))) ⟨_, rfl, (Gx.refl g.sh), o_p20, o_p23⟩ h (fun st26 σ1 S26a H26a G26 PT26 PF26 hT hF hR h => ?_) (fun st26 σ1 S26j H26j hR h => ?_)
    · obtain ⟨j_place, rfl, gl26, o_p20, o_p23⟩ := hR
      replace r_parents := RepL.mono gl26.s r_parents
      replace o_p2 := OwnN.keep o_p2 gl26 (by simp only [List.mem_append, List.mem_cons, List.not_mem_nil, or_false, not_or]; exact ⟨ne_p2_p20, ne_p2_p23⟩) (by intro b hb; simp only [List.mem_append, List.mem_cons, List.not_mem_nil, or_false, not_or]; exact ⟨fun e => nin_p20_as5 (e ▸ hb), fun e => nin_p23_as5 (e ▸ hb)⟩)
      refine i_test ?_
      refine i_op ?_
      refine i_var rfl ?_
      refine i_lst ?_
      refine i_nil ?_
      refine s_lstS (K := K) (xs := ([] : List Int)) gl26 All2.nil (show (0 : Nat) ≤ 16777216 by decide) (fun p27 S28 H29 gA gs r_p27 => ?_)
      replace r_parents := RepL.mono gs.s r_parents
      replace o_p2 := OwnN.keep0 o_p2 gs
      replace o_p20 := OwnL.keep0 o_p20 gs
      replace o_p23 := OwnL.keep0 o_p23 gs
      replace gl26 := gA
      refine s_neDD (x := (st26.1 : List Int)) (y := (([] : List Int) : List Int)) (OwnL.dp o_p20 gl26.sh) (Dp.mono gl26.sh (PyD.dp (rep_list r_p27))) ?_
      refine i_bl ?_
      refine wh_split2 (b := (!decide (st26.1 = ([] : List Int)))) (hT _) (hF S28 _) h (fun h => ?_) (fun h => ⟨h, ?_⟩)
      · refine i_seq ?_
        refine i_asg ?_
        refine i_bm0 ?_
        refine i_var rfl ?_
        refine s_bmL0 o_p20.hp ?_
        refine s_popT gl26 o_p20 (.inr (by simp)) h (fun H31 t32 v33 gA oA heq r34 h => ?_)
        replace gl26 := gA
        replace o_p20 := oA
        replace o_p2 := OwnN.other o_p2 ne_p2_p20 nin_p20_as5 heq
        replace o_p23 := o_p23.other (Ne.symm ne_p20_p23) heq
        obtain rfl := r34
        refine i_nameE (σ' := [_, _, _, _, some (V.int (t32.1)), _]) rfl ?_
        refine nx_seq ?_
        refine i_seq ?_
        refine i_drop ?_
        refine i_bm ?_
        refine i_var rfl ?_
        refine s_bmL o_p23.hp ?_
        refine i_cons ?_
        refine i_var rfl ?_
        refine i_nil ?_
        refine s_app (x := t32.1) gl26 o_p23 (.inr (by simp)) rfl h (fun H35 gA oA heq h => ?_)
        replace gl26 := gA
        replace o_p23 := oA
        replace o_p2 := OwnN.other o_p2 ne_p2_p23 nin_p23_as5 heq
        replace o_p20 := o_p20.other ne_p20_p23 heq
        refine nx_seq ?_
        refine i_drop ?_
        refine i_bm ?_
        refine i_var rfl ?_
        refine s_bmL o_p20.hp ?_
        refine i_cons ?_
        refine i_revL ?_
        refine i_op ?_
        refine i_var rfl ?_
        refine i_var rfl ?_
        refine s_idxN o_p2 h (fun b37 t36 r38 h => ?_)
        refine s_revS gl26 r38.hp (fun p39 S40 H41 gA gs r_p39 => ?_)
        replace r_parents := RepL.mono gs.s r_parents
        replace o_p2 := OwnN.keep0 o_p2 gs
        replace o_p20 := OwnL.keep0 o_p20 gs
        replace o_p23 := OwnL.keep0 o_p23 gs
        replace gl26 := gA
        refine i_nil ?_
        refine s_ext gl26 o_p20 (.inr (by simp)) (r_p39.tp gl26.sh) h (fun H42 gA oA heq h => ?_)
        replace gl26 := gA
        replace o_p20 := oA
        replace o_p2 := OwnN.other o_p2 ne_p2_p20 nin_p20_as5 heq
        replace o_p23 := o_p23.other (Ne.symm ne_p20_p23) heq
        exact ⟨_, _, h, _, rfl, gl26, o_p20, o_p23⟩
      · exact ⟨_, rfl, gl26, o_p20, o_p23⟩
    obtain ⟨j_place, rfl, gl26, o_p20, o_p23⟩ := hR
    replace r_parents := RepL.mono gl26.s r_parents
    replace o_p2 := OwnN.keep o_p2 gl26 (by simp only [List.mem_append, List.mem_cons, List.not_mem_nil, or_false, not_or]; exact ⟨ne_p2_p20, ne_p2_p23⟩) (by intro b hb; simp only [List.mem_append, List.mem_cons, List.not_mem_nil, or_false, not_or]; exact ⟨fun e => nin_p20_as5 (e ▸ hb), fun e => nin_p23_as5 (e ▸ hb)⟩)
    replace g := g.trans gl26 hm26
    refine nx_seq ?_
    refine i_ret ?_
    refine i_var rfl ?_
    exact h _ _ _ g f0_p23 o_p23

abbrev sneed_tree : PySem.Stmt := topS 13
theorem scneed_tree : FnScope ["parents", "strange", "parent"] ["parents"] (defScope sneed_tree) := ⟨rfl, rfl, rfl, by decide +kernel, rfl, by decide +kernel, by decide +kernel⟩

def spneed_tree (K : Fr) : Sp := fun vs H Q E => ∃ (S0 : Hp) (a_parents : Addr) (parents : List (Option Int)), vs = [(V.ref a_parents)] ∧ Ex S0 H ∧ RepL K S0 a_parents parents ∧ wpm (m_need_tree parents) (fun r => ∀ S' H', Gx [] S0 H S' H' → Q V.non H') (fun c => ∀ S' H', Gx [] S0 H S' H' → E (.ref (caOf K c)) none H')

theorem okneed_tree {P : Program} {w : World} {K : Fr} {mg : PySem.Str → Option Value} {base : Heap} (A0 : At K mg "need_tree" sneed_tree ["parents"]) (Dwalk_of : Dfn P w K mg base "walk_of" 1 ["parents"] (spwalk_of K)) (n_len : mg "len" = none) (xc_NoTree : XcOk K mg (caOf K) .tree "NoTree") : Dfn P w K mg base "need_tree" 2 ["parents"] (spneed_tree K) := by
  obtain ⟨fwalk_of, fdwalk_of, mgwalk_of, kpwalk_of, bdwalk_of, okwalk_of'⟩ := Dwalk_of.ex
  refine Dfn.mk' A0 fun f fd F => F.ok (CX := L2N.CX P w) scneed_tree (fun vs H Q E h => ?_) (fun cdv A outer s H vs Q E hr h => ?_)
  · obtain ⟨S0, a_parents, parents, rfl, e0, r_parents, h⟩ := h
    rfl
  · obtain ⟨S0, a_parents, parents, rfl, e0, r_parents, h⟩ := h
    unfold m_need_tree at h
    have g : Gx [] S0 H S0 H := Gx.refl e0
    refine ⟨_, pss_cons (ps_setLc (i := 1) (own := [("parent", 2)]) (by rfl) scneed_tree.nd rfl rfl (sw_true rfl rfl rfl (by decide +kernel)) (pi_lenK (K := K) (pi_listK (K := K) (pv 0))) (blkOk_by (own := [("parent", 2)]) (N := ["parents", "strange", "parent"]) (sc := defScope sneed_tree) (by decide +kernel)) (fun _ _ _ _ _ => (pg_name (i := 2) scneed_tree.nd rfl (by first | exact Or.inl rfl | exact Or.inr rfl))) (fun _ _ _ _ _ => pts_one (PW.pt (pw_and (pt_cmpR op_notNG (pv 2) pe_non (nomark _)) (pw_and1 (pt_not (pt_chain op_le op_lt pe_int (pv 2) (pe_callB (call_lenK (K := K)) (by rfl) n_len (by decide +kernel) (pa_cons (pv 0) pa_nil)))))))) (fun _ _ _ _ _ => (pv 2))) (pss_cons (ps_if (PW.pt (pw_or (pt_cmpR (op_neK (K := K) hr.units) (pv 1) (pe_lst pa_nil) (nomark _)) (pw_or1 (pt_cmpR op_ne (pe_callB (call_lenK (K := K)) (by rfl) n_len (by decide +kernel) (pa_cons (pe_lc (own := [("parent", 2)]) (by rfl) scneed_tree.nd (pi_lenK (K := K) (pi_listK (K := K) (pv 0))) (blkOk_by (own := [("parent", 2)]) (N := ["parents", "strange", "parent"]) (sc := defScope sneed_tree) (by decide +kernel)) (fun _ _ _ _ _ => (pg_name (i := 2) scneed_tree.nd rfl (by first | exact Or.inl rfl | exact Or.inr rfl))) (fun _ _ _ _ _ => pts_one (pt_cmpR op_isNG (pv 2) pe_non (nomark _))) (fun _ _ _ _ _ => (pv 2))) pa_nil)) pe_int (nomark _))))) (pss_one (L2N.ps_raise rfl (L2N.takes_of rfl rfl rfl rfl) (L2N.pmk_own PySem.F.excBase_ValueError xc_NoTree.ex xc_NoTree.mg xc_NoTree.kp (raises_own xc_NoTree.sb xc_NoTree.ty) (by rfl)))) pss_nil) (pss_one (ps_if (pt_cmpR op_ne (pe_callB (call_lenK (K := K)) (by rfl) n_len (by decide +kernel) (pa_cons (pe_call okwalk_of' (hr.mono (by decide)) (by rfl) mgwalk_of kpwalk_of bdwalk_of .nil (L2N.passes_call (L2N.takes_of rfl rfl rfl rfl) fun _ _ _ _ h => h) (pa_cons (pv 0) pa_nil)) pa_nil)) (pe_callB (call_lenK (K := K)) (by rfl) n_len (by decide +kernel) (pa_cons (pv 0) pa_nil)) (nomark _)) (pss_one (L2N.ps_raise rfl (L2N.takes_of rfl rfl rfl rfl) (L2N.pmk_own PySem.F.excBase_ValueError xc_NoTree.ex xc_NoTree.mg xc_NoTree.kp (raises_own xc_NoTree.sb xc_NoTree.ty) (by rfl)))) pss_nil))), ?_⟩
    refine i_start (σ := [some (V.ref a_parents), none, none]) rfl ?_
    refine i_seq ?_
    refine i_asg ?_
    refine i_lc ?_
    refine i_len ?_
    refine i_list ?_
    refine i_var rfl ?_
    refine i_listA (r_parents.hp g.sh) ?_
    intro hlen
    have wk1 : Wk K (Itl K a_parents) parents (fun (_ : Unit) (_ : St) S' H' => Gx [] S0 H S' H') := by
      refine wk_list fun st σ2 S2 H2 gl => ?_
      exact ⟨gl.sh, (RepL.hp (RepL.mono gl.s r_parents) gl.sh)⟩
    refine s_compS (β := Option Int) wk1 (RepH.len (r_parents.hp g.sh) hlen) g h (fun y1 v1 S1c H1c P1 T F gc1 rv h hT hF => ?_) (fun p11 S12 H13 t10 gA gs r_p11 h => ?_)
    · replace r_parents := RepL.mono gc1.s r_parents
      obtain rfl := (Flat.is.1 rv)
      refine i_nameE (σ' := [_, _, some (optV (y1))]) rfl ?_
      refine ⟨rfl, ?_⟩
      have gt1 : Gx [] S1c H1c S1c H1c := Gx.refl gc1.sh
      refine i_and ?_
      refine i_test ?_
      refine i_op ?_
      refine i_var rfl ?_
      refine i_c ?_
      refine s_notN (isN_opt) ?_
      refine i_bl ?_
      refine and_m h gt1.sh (fun ha3 PB N h hN => ?_) (fun t4 S5 H6 gs h => ?_)
      · have gm2 : Gx [] S1c H1c S1c H1c := Gx.refl gt1.sh
        refine i_not ?_
        refine i_test ?_
        refine i_chain ?_
        refine i_c ?_
        obtain ⟨t7, e8, h⟩ := wpm_unwrap h
        refine i_varU rfl e8 ?_
        refine i_I0 ?_
        refine chain_s (decide (t7 < (parents.length : Int))) (fun N q => ?_) ?_
        · refine i_cb ?_
          refine i_cons ?_
          refine i_var rfl ?_
          refine i_nil ?_
          refine s_len (r_parents.hp gm2.sh) ?_
          refine i_I0 ?_
          exact q
        refine i_bl ?_
        exact hN _ _ _ gm2 h
      replace r_parents := RepL.mono gs.s r_parents
      replace gt1 := gt1.trans0 gs
      refine ite2b (fun hb9 => ?_) (fun hb9 => ?_)
      · replace h := wpm_t hb9 h
        refine i_var rfl ?_
        exact hT _ _ _ _ h gt1 (Flat.is.2 rfl)
      · replace h := wpm_f hb9 h
        exact hF _ _ h gt1
    replace r_parents := RepL.mono gs.s r_parents
    replace g := gA
    refine i_nameE (σ' := [_, some (V.ref p11), _]) rfl ?_
    refine nx_seq ?_
    refine i_seq ?_
    refine i_if ?_
    refine i_or ?_
    refine i_test ?_
    refine i_op ?_
    refine i_var rfl ?_
    refine i_lst ?_
    refine i_nil ?_
    refine s_lstS (K := K) (xs := ([] : List (Option Int))) g All2.nil (show (0 : Nat) ≤ 16777216 by decide) (fun p14 S15 H16 gA gs r_p14 => ?_)
    replace r_parents := RepL.mono gs.s r_parents
    replace r_p11 := RepL.mono gs.s r_p11
    replace g := gA
    refine s_neDD (x := (t10 : List (Option Int))) (y := (([] : List (Option Int)) : List (Option Int))) (Dp.mono g.sh (PyD.dp (rep_list r_p11))) (Dp.mono g.sh (PyD.dp (rep_list r_p14))) ?_
    refine i_bl ?_
    refine or_m h g.sh (fun ha18 PB N h hN => ?_) (fun t19 S20 H21 gs h => ?_)
    · have gm17 : Gx [] S15 H16 S15 H16 := Gx.refl g.sh
      refine i_test ?_
      refine i_op ?_
      refine i_cb ?_
      refine i_cons ?_
      refine i_lc ?_
      refine i_len ?_
      refine i_list ?_
      refine i_var rfl ?_
      refine i_listA (r_parents.hp gm17.sh) ?_
      intro hlen
      have wk22 : Wk K (Itl K a_parents) parents (fun (_ : Unit) (_ : St) S' H' => Gx [] S15 H16 S' H') := by
        refine wk_list fun st σ2 S2 H2 gl => ?_
        exact ⟨gl.sh, (RepL.hp (RepL.mono gl.s r_parents) gl.sh)⟩
      refine s_compS (β := Option Int) wk22 (RepH.len (r_parents.hp gm17.sh) hlen) gm17 h (fun y22 v22 S22c H22c P22 T F gc22 rv h hT hF => ?_) (fun p25 S26 H27 t24 gA gs r_p25 h => ?_)
      · replace r_parents := RepL.mono gc22.s r_parents
        replace r_p11 := RepL.mono gc22.s r_p11
        obtain rfl := (Flat.is.1 rv)
        refine i_nameE (σ' := [_, _, some (optV (y22))]) rfl ?_
        refine ⟨rfl, ?_⟩
        have gt22 : Gx [] S22c H22c S22c H22c := Gx.refl gc22.sh
        refine i_test ?_
        refine i_op ?_
        refine i_var rfl ?_
        refine i_c ?_
        refine s_isN (isN_opt) ?_
        refine i_bl ?_
        refine ite2b (fun hb23 => ?_) (fun hb23 => ?_)
        · replace h := wpm_t hb23 h
          refine i_var rfl ?_
          exact hT _ _ _ _ h gt22 (Flat.is.2 rfl)
        · replace h := wpm_f hb23 h
          exact hF _ _ h gt22
      replace r_parents := RepL.mono gs.s r_parents
      replace r_p11 := RepL.mono gs.s r_p11
      replace gm17 := gA
      refine i_nil ?_
      refine s_len (r_p25.hp gm17.sh) ?_
      refine i_c ?_
      refine i_neI ?_
      refine i_bl ?_
      exact hN _ _ _ gm17 h
    replace r_parents := RepL.mono gs.s r_parents
    replace r_p11 := RepL.mono gs.s r_p11
    replace g := g.trans0 gs
    refine ite2b (fun hb28 => ?_) (fun hb28 => ?_)
    · replace h := wpm_t hb28 h
      exact h _ _ g
    · replace h := wpm_f hb28 h
      refine i_next ?_
      refine nx_seq ?_
      refine i_if ?_
      refine i_test ?_
      refine i_op ?_
      refine i_cb ?_
      refine i_cons ?_
      refine i_call ?_
      refine i_cons ?_
      refine i_var rfl ?_
      refine i_nil ?_
      refine ⟨S20, a_parents, parents, rfl, g.sh, r_parents, wpm_mono (wb h) (fun t29 h p32 S30 H31 gs hp_p32 o_p32 => ?_) (fun c he S1 H1 gs => he _ _ (g.trans0 gs))⟩
      refine OwnL.frz o_p32 gs hp_p32 (fun S33 gs2 eS hbS r_p32 => ?_)
      replace gs := gs2
      replace r_parents := RepL.mono gs.s r_parents
      replace r_p11 := RepL.mono gs.s r_p11
      replace g := g.trans0 gs
      refine i_nil ?_
      refine s_len (r_p32.hp g.sh) ?_
      refine i_cb ?_
      refine i_cons ?_
      refine i_var rfl ?_
      refine i_nil ?_
      refine s_len (r_parents.hp g.sh) ?_
      refine i_neI ?_
      refine i_bl ?_
      refine ite2b (fun hb34 => ?_) (fun hb34 => ?_)
      · replace h := wpm_t hb34 h
        exact h _ _ g
      · replace h := wpm_f hb34 h
        refine i_next ?_
        exact h _ _ g

abbrev sneed : PySem.Stmt := topS 17
theorem scneed : FnScope ["truth"] ["truth"] (defScope sneed) := ⟨rfl, rfl, rfl, by decide +kernel, rfl, by decide +kernel, by decide +kernel⟩

def spneed (K : Fr) : Sp := fun vs H Q E => ∃ (S0 : Hp) (truth : Bool), vs = [(V.bl (truth))] ∧ Ex S0 H ∧ wpm (m_need truth) (fun r => ∀ S' H', Gx [] S0 H S' H' → Q V.non H') (fun c => ∀ S' H', Gx [] S0 H S' H' → E (.ref (caOf K c)) none H')

theorem okneed {P : Program} {w : World} {K : Fr} {mg : PySem.Str → Option Value} {base : Heap} (A0 : At K mg "need" sneed ["truth"]) (xc_NoText : XcOk K mg (caOf K) .text "NoText") : Dfn P w K mg base "need" 1 ["truth"] (spneed K) := by
  refine Dfn.mk' A0 fun f fd F => F.ok (CX := L2N.CX P w) scneed (fun vs H Q E h => ?_) (fun cdv A outer s H vs Q E hr h => ?_)
  · obtain ⟨S0, truth, rfl, e0, h⟩ := h
    rfl
  · obtain ⟨S0, truth, rfl, e0, h⟩ := h
    unfold m_need at h
    have g : Gx [] S0 H S0 H := Gx.refl e0
    refine ⟨_, pss_one (ps_if (pt_not (pt_val (pv 0))) (pss_one (L2N.ps_raise rfl (L2N.takes_of rfl rfl rfl rfl) (L2N.pmk_own PySem.F.excBase_ValueError xc_NoText.ex xc_NoText.mg xc_NoText.kp (raises_own xc_NoText.sb xc_NoText.ty) (by rfl)))) pss_nil), ?_⟩
    refine i_start (σ := [some (V.bl (truth))]) rfl ?_
    refine i_if ?_
    refine i_not ?_
    refine i_B ?_
    refine i_var rfl ?_
    refine i_bl ?_
    refine ite2b (fun hb1 => ?_) (fun hb1 => ?_)
    · replace h := wpm_t hb1 h
      exact h _ _ g
    · replace h := wpm_f hb1 h
      refine i_next ?_
      exact h _ _ g

abbrev snumber_in : PySem.Stmt := topS 18
theorem scnumber_in : FnScope ["word", "sign"] ["word"] (defScope snumber_in) := ⟨rfl, rfl, rfl, by decide +kernel, rfl, by decide +kernel, by decide +kernel⟩

def spnumber_in (K : Fr) : Sp := fun vs H Q E => ∃ (S0 : Hp) (word : PySem.Str), vs = [(V.str (word))] ∧ Ex S0 H ∧ wpm (m_number_in word) (fun r => ∀ S' H', Gx [] S0 H S' H' → Q (V.int (r)) H') (fun c => ∀ S' H', Gx [] S0 H S' H' → E (.ref (caOf K c)) none H')

theorem oknumber_in {P : Program} {w : World} {K : Fr} {mg : PySem.Str → Option Value} {base : Heap} (A0 : At K mg "number_in" snumber_in ["word"]) (Dneed : Dfn P w K mg base "need" 1 ["truth"] (spneed K)) (n_len : mg "len" = none) (n_int : mg "int" = none) (f_MOST_FIGURES : GInt mg "MOST_FIGURES" (30)) (f_FIGURES : GStr mg "FIGURES" (PySem.Str.ofString "0123456789")) : Dfn P w K mg base "number_in" 2 ["word"] (spnumber_in K) := by
  obtain ⟨fneed, fdneed, mgneed, kpneed, bdneed, okneed'⟩ := Dneed.ex
  refine Dfn.mk' A0 fun f fd F => F.ok (CX := L2N.CX P w) scnumber_in (fun vs H Q E h => ?_) (fun cdv A outer s H vs Q E hr h => ?_)
  · obtain ⟨S0, word, rfl, e0, h⟩ := h
    rfl
  · obtain ⟨S0, word, rfl, e0, h⟩ := h
    unfold m_number_in at h
    have g : Gx [] S0 H S0 H := Gx.refl e0
    refine ⟨_, pss_cons (ps_expr (pe_call okneed' (hr.mono (by decide)) (by rfl) mgneed kpneed bdneed .nil (L2N.passes_call (L2N.takes_of rfl rfl rfl rfl) fun _ _ _ _ h => h) (pa_cons (pe_and (pe_chain op_le op_le pe_int (pe_callB call_lenSG (by rfl) n_len (by decide +kernel) (pa_cons (pv 0) pa_nil)) (pe_gint (by rfl) f_MOST_FIGURES)) (pe_one (pe_cmpR (op_eqPK (K := K) hr.units) (pe_lc (own := [("sign", 1)]) (by rfl) scnumber_in.nd (pi_lenK (K := K) (pi_str (pv 0))) (blkOk_by (own := [("sign", 1)]) (N := ["word", "sign"]) (sc := defScope snumber_in) (by decide +kernel)) (fun _ _ _ _ _ => (pg_name (i := 1) scnumber_in.nd rfl (by first | exact Or.inl rfl | exact Or.inr rfl))) (fun _ _ _ _ _ => pts_one (pt_cmpR op_notInSG (pv 1) (pe_gstr (by rfl) f_FIGURES) (by rfl))) (fun _ _ _ _ _ => (pv 1))) (pe_lst pa_nil) (nomark _)))) pa_nil))) (pss_cons (ps_expr (pe_call okneed' (hr.mono (by decide)) (by rfl) mgneed kpneed bdneed .nil (L2N.passes_call (L2N.takes_of rfl rfl rfl rfl) fun _ _ _ _ h => h) (pa_cons (pe_or (pe_cmpR op_eq (pv 0) pe_str (nomark _)) (pe_one (pe_cmpR op_ne (pe_ix ix_str (pv 0) pe_int (fun _ _ => rfl)) pe_str (nomark _)))) pa_nil))) (pss_one (ps_ret (pe_callTy call_intG (by rfl) n_int (by decide +kernel) (pa_cons (pv 0) pa_nil))))), ?_⟩
    refine i_start (σ := [some (V.str (word)), none]) rfl ?_
    refine i_seq ?_
    refine i_drop ?_
    refine i_call ?_
    refine i_cons ?_
    refine i_andV ?_
    refine i_chain ?_
    refine i_c ?_
    refine i_cb ?_
    refine i_cons ?_
    refine i_var rfl ?_
    refine i_nil ?_
    refine s_lenS h (fun h => ?_)
    refine i_I0 ?_
    refine chain_s (decide ((word.length : Int) ≤ 30)) (fun N q => ?_) ?_
    · refine i_c ?_
      refine i_I0 ?_
      exact q
    refine andV_m h g.sh (fun ha2 PB N h hN => ?_) (fun t3 S4 H5 gs h => ?_)
    · have gm1 : Gx [] S0 H S0 H := Gx.refl g.sh
      refine i_op ?_
      refine i_lc ?_
      refine i_len ?_
      refine i_strI ?_
      refine i_var rfl ?_
      refine s_strIt ?_
      intro hlen
      obtain ⟨hl, h⟩ := wpm_guard h
      have wk6 : Wk K (Its word) (signs word) (fun (_ : Unit) (_ : St) S' H' => Gx [] S0 H S' H') := by
        refine wk_str fun st σ2 S2 H2 gl => ?_
        exact gl.sh
      refine s_compS (β := PySem.Str) wk6 (line_le hl) gm1 h (fun y6 v6 S6c H6c P6 T F gc6 rv h hT hF => ?_) (fun p9 S10 H11 t8 gA gs r_p9 h => ?_)
      · obtain rfl := rv
        refine i_nameE (σ' := [_, some (V.str (y6))]) rfl ?_
        refine ⟨rfl, ?_⟩
        have gt6 : Gx [] S6c H6c S6c H6c := Gx.refl gc6.sh
        refine i_test ?_
        refine i_op ?_
        refine i_var rfl ?_
        refine i_c ?_
        refine s_notInSG ?_
        refine i_bl ?_
        refine ite2b (fun hb7 => ?_) (fun hb7 => ?_)
        · replace h := wpm_t hb7 h
          refine i_var rfl ?_
          exact hT _ _ _ _ h gt6 (Flat.is.2 rfl)
        · replace h := wpm_f hb7 h
          exact hF _ _ h gt6
      replace gm1 := gA
      refine i_lst ?_
      refine i_nil ?_
      refine s_lstS (K := K) (xs := ([] : List (PySem.Str))) gm1 All2.nil (show (0 : Nat) ≤ 16777216 by decide) (fun p12 S13 H14 gA gs r_p12 => ?_)
      replace r_p9 := RepL.mono gs.s r_p9
      replace gm1 := gA
      refine s_eqStrs (r_p9.hp gm1.sh) (r_p12.hp gm1.sh) ?_
      exact hN _ _ _ gm1 h
    replace g := g.trans0 gs
    refine i_nil ?_
    refine ⟨S4, t3, rfl, g.sh, wpm_mono (wb h) (fun t15 h S16 H17 gs => ?_) (fun c he S1 H1 gs => he _ _ (g.trans0 gs))⟩
    replace g := g.trans0 gs
    refine nx_seq ?_
    refine i_seq ?_
    refine i_drop ?_
    refine i_call ?_
    refine i_cons ?_
    refine i_orV ?_
    refine i_op ?_
    refine i_var rfl ?_
    refine i_c ?_
    refine i_eqS ?_
    refine orV_m h g.sh (fun ha19 PB N h hN => ?_) (fun t20 S21 H22 gs h => ?_)
    · have gm18 : Gx [] S16 H17 S16 H17 := Gx.refl g.sh
      refine i_op ?_
      refine i_op ?_
      refine i_var rfl ?_
      refine i_c ?_
      refine s_sitem h (fun t23 h => ?_)
      refine i_c ?_
      refine i_neS ?_
      exact hN _ _ _ gm18 h
    replace g := g.trans0 gs
    refine i_nil ?_
    refine ⟨S21, t20, rfl, g.sh, wpm_mono (wb h) (fun t24 h S25 H26 gs => ?_) (fun c he S1 H1 gs => he _ _ (g.trans0 gs))⟩
    replace g := g.trans0 gs
    refine nx_seq ?_
    refine i_ret ?_
    refine i_cb ?_
    refine i_cons ?_
    refine i_var rfl ?_
    refine i_nil ?_
    refine s_intS h (fun t27 h => ?_)
    exact h _ _ g

abbrev shue_in : PySem.Stmt := topS 19
theorem schue_in : FnScope ["word"] ["word"] (defScope shue_in) := ⟨rfl, rfl, rfl, by decide +kernel, rfl, by decide +kernel, by decide +kernel⟩

def sphue_in (K : Fr) : Sp := fun vs H Q E => ∃ (S0 : Hp) (word : PySem.Str), vs = [(V.str (word))] ∧ Ex S0 H ∧ wpm (m_hue_in word) (fun r => ∀ S' H', Gx [] S0 H S' H' → Q (V.int (r)) H') (fun c => ∀ S' H', Gx [] S0 H S' H' → E (.ref (caOf K c)) none H')

theorem okhue_in {P : Program} {w : World} {K : Fr} {mg : PySem.Str → Option Value} {base : Heap} (A0 : At K mg "hue_in" shue_in ["word"]) (Dnumber_in : Dfn P w K mg base "number_in" 2 ["word"] (spnumber_in K)) (Dneed : Dfn P w K mg base "need" 1 ["truth"] (spneed K)) : Dfn P w K mg base "hue_in" 3 ["word"] (sphue_in K) := by
  obtain ⟨fnumber_in, fdnumber_in, mgnumber_in, kpnumber_in, bdnumber_in, oknumber_in'⟩ := Dnumber_in.ex
  obtain ⟨fneed, fdneed, mgneed, kpneed, bdneed, okneed'⟩ := Dneed.ex
  refine Dfn.mk' A0 fun f fd F => F.ok (CX := L2N.CX P w) schue_in (fun vs H Q E h => ?_) (fun cdv A outer s H vs Q E hr h => ?_)
  · obtain ⟨S0, word, rfl, e0, h⟩ := h
    rfl
  · obtain ⟨S0, word, rfl, e0, h⟩ := h
    unfold m_hue_in at h
    have g : Gx [] S0 H S0 H := Gx.refl e0
    refine ⟨_, pss_cons (ps_if (pt_cmpR op_ne (pe_slice sl_str (pv 0) po_none (po_some pe_int)) pe_str (nomark _)) (pss_one (ps_ret (pe_call oknumber_in' (hr.mono (by decide)) (by rfl) mgnumber_in kpnumber_in bdnumber_in .nil (L2N.passes_call (L2N.takes_of rfl rfl rfl rfl) fun _ _ _ _ h => h) (pa_cons (pv 0) pa_nil)))) pss_nil) (pss_cons (ps_expr (pe_call okneed' (hr.mono (by decide)) (by rfl) mgneed kpneed bdneed .nil (L2N.passes_call (L2N.takes_of rfl rfl rfl rfl) fun _ _ _ _ h => h) (pa_cons (pe_cmpR op_ne (pv 0) pe_str (nomark _)) pa_nil))) (pss_one (ps_ret (pe_op op_sub pe_int (pe_call oknumber_in' (hr.mono (by decide)) (by rfl) mgnumber_in kpnumber_in bdnumber_in .nil (L2N.passes_call (L2N.takes_of rfl rfl rfl rfl) fun _ _ _ _ h => h) (pa_cons (pe_slice sl_str (pv 0) (po_some pe_int) po_none) pa_nil)))))), ?_⟩
    refine i_start (σ := [some (V.str (word))]) rfl ?_
    refine i_seq ?_
    refine i_if ?_
    refine i_test ?_
    refine i_op ?_
    refine i_sl ?_
    refine i_var rfl ?_
    refine i_noPart ?_
    refine i_part ?_
    refine i_c ?_
    refine i_partI ?_
    refine s_cutS h (fun h => ?_)
    refine i_c ?_
    refine i_neS ?_
    refine i_bl ?_
    refine ite2b (fun hb1 => ?_) (fun hb1 => ?_)
    · replace h := wpm_t hb1 h
      refine i_ret ?_
      refine i_call ?_
      refine i_cons ?_
      refine i_var rfl ?_
      refine i_nil ?_
      refine ⟨S0, word, rfl, g.sh, wpm_mono (wb h) (fun t2 h S3 H4 gs => ?_) (fun c he S1 H1 gs => he _ _ (g.trans0 gs))⟩
      replace g := g.trans0 gs
      exact h _ _ g
    · replace h := wpm_f hb1 h
      refine i_next ?_
      refine nx_seq ?_
      refine i_seq ?_
      refine i_drop ?_
      refine i_call ?_
      refine i_cons ?_
      refine i_op ?_
      refine i_var rfl ?_
      refine i_c ?_
      refine i_neS ?_
      refine i_nil ?_
      refine ⟨S0, (!decide (word = (PySem.Str.ofString "-0"))), rfl, g.sh, wpm_mono (wb h) (fun t5 h S6 H7 gs => ?_) (fun c he S1 H1 gs => he _ _ (g.trans0 gs))⟩
      replace g := g.trans0 gs
      refine nx_seq ?_
      refine i_ret ?_
      refine i_op ?_
      refine i_c ?_
      refine i_call ?_
      refine i_cons ?_
      refine i_sl ?_
      refine i_var rfl ?_
      refine i_part ?_
      refine i_c ?_
      refine i_partI ?_
      refine i_noPart ?_
      refine s_cutS h (fun h => ?_)
      refine i_nil ?_
      refine ⟨S6, (cutS word (some 1) none), rfl, g.sh, wpm_mono (wb h) (fun t8 h S9 H10 gs => ?_) (fun c he S1 H1 gs => he _ _ (g.trans0 gs))⟩
      replace g := g.trans0 gs
      refine i_I0 ?_
      exact h _ _ g

abbrev sread_tree : PySem.Stmt := topS 20
theorem scread_tree : FnScope ["text", "parents", "hues", "word", "parent", "colon", "hue"] ["text"] (defScope sread_tree) := ⟨rfl, rfl, rfl, by decide +kernel, rfl, by decide +kernel, by decide +kernel⟩

def spread_tree (K : Fr) : Sp := fun vs H Q E => ∃ (S0 : Hp) (text : PySem.Str), vs = [(V.str (text))] ∧ Ex S0 H ∧ wpm (m_read_tree text) (fun r => ∀ v S' H', Gx [] S0 H S' H' → Py.rep K S' v r → Q v H') (fun c => ∀ S' H', Gx [] S0 H S' H' → E (.ref (caOf K c)) none H')

theorem okread_tree {P : Program} {w : World} {K : Fr} {mg : PySem.Str → Option Value} {base : Heap} (A0 : At K mg "read_tree" sread_tree ["text"]) (Dneed : Dfn P w K mg base "need" 1 ["truth"] (spneed K)) (Dnumber_in : Dfn P w K mg base "number_in" 2 ["word"] (spnumber_in K)) (Dhue_in : Dfn P w K mg base "hue_in" 3 ["word"] (sphue_in K)) (Dneed_tree : Dfn P w K mg base "need_tree" 2 ["parents"] (spneed_tree K)) : Dfn P w K mg base "read_tree" 4 ["text"] (spread_tree K) := by
  obtain ⟨fneed, fdneed, mgneed, kpneed, bdneed, okneed'⟩ := Dneed.ex
  obtain ⟨fnumber_in, fdnumber_in, mgnumber_in, kpnumber_in, bdnumber_in, oknumber_in'⟩ := Dnumber_in.ex
  obtain ⟨fhue_in, fdhue_in, mghue_in, kphue_in, bdhue_in, okhue_in'⟩ := Dhue_in.ex
  obtain ⟨fneed_tree, fdneed_tree, mgneed_tree, kpneed_tree, bdneed_tree, okneed_tree'⟩ := Dneed_tree.ex
  refine Dfn.mk' A0 fun f fd F => F.ok (CX := L2N.CX P w) scread_tree (fun vs H Q E h => ?_) (fun cdv A outer s H vs Q E hr h => ?_)
  · obtain ⟨S0, text, rfl, e0, h⟩ := h
    rfl
  · obtain ⟨S0, text, rfl, e0, h⟩ := h
    unfold m_read_tree at h
    have g : Gx [] S0 H S0 H := Gx.refl e0
    refine ⟨_, pss_cons (ps_set (i := 1) scread_tree.nd rfl (by first | exact Or.inl rfl | exact Or.inr rfl) (pe_lst pa_nil)) (pss_cons (ps_set (i := 2) scread_tree.nd rfl (by first | exact Or.inl rfl | exact Or.inr rfl) (pe_lst pa_nil)) (pss_cons (ps_for (passes_of rfl) rfl (pi_listK (K := K) (pe_m1 PySem.F.slot_str_split PySem.F.type_str_split mt_splitG (pv 0) pe_str)) (pg_name (i := 3) scread_tree.nd rfl (by first | exact Or.inl rfl | exact Or.inr rfl)) (pss_cons (ps_asg (pe_m1 PySem.F.slot_str_partition PySem.F.type_str_partition mt_partG (pv 3) pe_str) (pg_tupK (K := K) (n := 3) rfl (pgs_cons (pg_name (i := 4) scread_tree.nd rfl (by first | exact Or.inl rfl | exact Or.inr rfl)) (pgs_cons (pg_name (i := 5) scread_tree.nd rfl (by first | exact Or.inl rfl | exact Or.inr rfl)) (pgs_cons (pg_name (i := 6) scread_tree.nd rfl (by first | exact Or.inl rfl | exact Or.inr rfl)) pgs_nil))))) (pss_cons (ps_expr (pe_call okneed' (hr.mono (by decide)) (by rfl) mgneed kpneed bdneed .nil (L2N.passes_call (L2N.takes_of rfl rfl rfl rfl) fun _ _ _ _ h => h) (pa_cons (pe_cmpR op_ne (pv 5) pe_str (nomark _)) pa_nil))) (pss_cons (ps_expr (pe_K (K := K) (pe_bm PySem.F.plainAttrs_list PySem.F.slot_list_append PySem.F.type_list_append mt_append (pv 1) (pa_cons (pe_ifExp (pt_cmpR op_eq (pv 4) pe_str (nomark _)) pe_non (pe_call oknumber_in' (hr.mono (by decide)) (by rfl) mgnumber_in kpnumber_in bdnumber_in .nil (L2N.passes_call (L2N.takes_of rfl rfl rfl rfl) fun _ _ _ _ h => h) (pa_cons (pv 4) pa_nil))) pa_nil)))) (pss_one (ps_expr (pe_K (K := K) (pe_bm PySem.F.plainAttrs_list PySem.F.slot_list_append PySem.F.type_list_append mt_append (pv 2) (pa_cons (pe_call okhue_in' (hr.mono (by decide)) (by rfl) mghue_in kphue_in bdhue_in .nil (L2N.passes_call (L2N.takes_of rfl rfl rfl rfl) fun _ _ _ _ h => h) (pa_cons (pv 6) pa_nil)) pa_nil))))))))) (pss_cons (ps_expr (pe_call okneed_tree' (hr.mono (by decide)) (by rfl) mgneed_tree kpneed_tree bdneed_tree .nil (L2N.passes_call (L2N.takes_of rfl rfl rfl rfl) fun _ _ _ _ h => h) (pa_cons (pv 1) pa_nil))) (pss_one (ps_ret (pe_tup (pa_cons (pv 1) (pa_cons (pv 2) pa_nil)))))))), ?_⟩
    refine i_start (σ := [some (V.str (text)), none, none, none, none, none, none]) rfl ?_
    refine i_seq ?_
    refine i_asg ?_
    refine i_lst ?_
    refine i_nil ?_
    refine s_lstO (K := K) (xs := ([] : List (Option Int))) g All2.nil (show (0 : Nat) ≤ 16777216 by decide) (fun p1 H3 gA gs hp_p1 o_p1 => ?_)
    have f0_p1 := Gx.back g hp_p1
    replace g := gA
    refine i_nameE (σ' := [_, some (V.ref p1), _, _, _, _, _]) rfl ?_
    refine nx_seq ?_
    refine i_seq ?_
    refine i_asg ?_
    refine i_lst ?_
    refine i_nil ?_
    refine s_lstO (K := K) (xs := ([] : List Int)) g All2.nil (show (0 : Nat) ≤ 16777216 by decide) (fun p4 H6 gA gs hp_p4 o_p4 => ?_)
    have ne_p1_p4 := OwnL.ne o_p1 hp_p4
    have f0_p4 := Gx.back g hp_p4
    replace o_p1 := OwnL.keep0 o_p1 gs
    replace g := gA
    refine i_nameE (σ' := [_, _, some (V.ref p4), _, _, _, _]) rfl ?_
    refine nx_seq ?_
    refine i_seq ?_
    refine i_for ?_
    refine i_list ?_
    refine i_m1 ?_
    refine i_var rfl ?_
    refine s_m1 ?_
    refine i_c ?_
    refine s_splitS (K := K) g h (fun p8 S9 H10 gA gs r_p8 h => ?_)
    replace o_p1 := OwnL.keep0 o_p1 gs
    replace o_p4 := OwnL.keep0 o_p4 gs
    replace g := gA
    refine i_listA (r_p8.hp g.sh) ?_
    have hm7 : ∀ x ∈ [p1, p4], x ∈ [] ∨ H x = none := by
      intro x hx
      simp only [List.mem_append, List.mem_cons, List.not_mem_nil, or_false] at hx
      rcases hx with rfl | rfl
      · exact (Or.symm (.inl f0_p1))
      · exact (Or.symm (.inl f0_p4))
    have wk7 : Wk K (Itl K p8) (PySem.Txt.split text (PySem.Str.ofString " ")) (fun (st7 : (List (Option Int)) × (List Int)) σ' S' H' => ∃ (j_parent : Option V) (j_colon : Option V) (j_hue : Option V) (j_word : Option V), σ' = [some (V.str (text)), some (V.ref p1), some (V.ref p4), j_word, j_parent, j_colon, j_hue] ∧ Gx [p1, p4] S9 H10 S' H' ∧ OwnL K S' H' p1 st7.1 ∧ OwnL K S' H' p4 st7.2) := by
      refine wk_list fun st σ2 S2 H2 hR => ?_
      obtain ⟨j_parent, j_colon, j_hue, j_word, rfl, gl7, o_p1, o_p4⟩ := hR
      exact ⟨gl7.sh, (RepL.hp (RepL.mono gl7.s r_p8) gl7.sh)⟩
    refine s_forM (R := (fun (st7 : (List (Option Int)) × (List Int)) σ' S' H' => ∃ (j_parent : Option V) (j_colon : Option V) (j_hue : Option V) (j_word : Option V), σ' = [some (V.str (text)), some (V.ref p1), some (V.ref p4), j_word, j_parent, j_colon, j_hue] ∧ Gx [p1, p4] S9 H10 S' H' ∧ OwnL K S' H' p1 st7.1 ∧ OwnL K S' H' p4 st7.2)) (s0 := (([] : List (Option Int)), ([] : List Int))) wk7 ⟨_, _, _, _, rfl, (Gx.refl g.sh), o_p1, o_p4⟩ h (fun y7 v7 st7 σ1 S7a H7a S7b H7b P7 hR gs rv h => ?_) (fun st7 σ1 S7j H7j hR h => ?_)
    · obtain ⟨j_parent, j_colon, j_hue, j_word, rfl, gl7, o_p1, o_p4⟩ := hR
      replace o_p1 := OwnL.keep0 o_p1 gs
      replace o_p4 := OwnL.keep0 o_p4 gs
      replace gl7 := gl7.trans0 gs
      obtain rfl := rv
      refine i_nameE (σ' := [_, _, _, some (V.str (y7)), _, _, _]) rfl ?_
      refine i_seq ?_
      refine i_asg ?_
      refine i_m1 ?_
      refine i_var rfl ?_
      refine s_m1 ?_
      refine i_c ?_
      refine s_part (K := K) gl7 h (fun p11 S12 H13 gA gs r_p11 h => ?_)
      replace o_p1 := OwnL.keep0 o_p1 gs
      replace o_p4 := OwnL.keep0 o_p4 gs
      replace gl7 := gA
      obtain ⟨_, hs15, _, _, rfl, rfl, _, _, rfl, rfl, _, _, rfl, rfl, rfl⟩ := rep_at r_p11
      refine i_gtup (ex_t gl7.sh hs15) rfl ?_
      refine i_gcons ?_
      refine i_nameE (σ' := [_, _, _, _, some (V.str ((tpart y7 (PySem.Str.ofString ":")).1)), _, _]) rfl ?_
      refine i_gcons ?_
      refine i_nameE (σ' := [_, _, _, _, _, some (V.str ((tpart y7 (PySem.Str.ofString ":")).2.1)), _]) rfl ?_
      refine i_gcons ?_
      refine i_nameE (σ' := [_, _, _, _, _, _, some (V.str ((tpart y7 (PySem.Str.ofString ":")).2.2.1))]) rfl ?_
      refine i_gnil ?_
      refine nx_seq ?_
      refine i_seq ?_
      refine i_drop ?_
      refine i_call ?_
      refine i_cons ?_
      refine i_op ?_
      refine i_var rfl ?_
      refine i_c ?_
      refine i_neS ?_
      refine i_nil ?_
      refine ⟨S12, (!decide (((tpart y7 (PySem.Str.ofString ":")).2.1) = (PySem.Str.ofString ""))), rfl, gl7.sh, wpm_mono (wb h) (fun t22 h S23 H24 gs => ?_) (fun c he S1 H1 gs => he _ _ (g.trans (gl7.trans0 gs) hm7))⟩
      replace o_p1 := OwnL.keep0 o_p1 gs
      replace o_p4 := OwnL.keep0 o_p4 gs
      replace gl7 := gl7.trans0 gs
      refine nx_seq ?_
      refine i_seq ?_
      refine i_drop ?_
      refine i_bm ?_
      refine i_var rfl ?_
      refine s_bmL o_p1.hp ?_
      refine i_cons ?_
      refine i_ife ?_
      refine i_test ?_
      refine i_op ?_
      refine i_var rfl ?_
      refine i_c ?_
      refine i_eqS ?_
      refine i_bl ?_
      refine ife_m (K := K) h gl7.sh (fun ha34 PB N h hN => ?_) (fun ha34 PB N h hN => ?_) (fun t29 v32 S30 H31 gs r33 h => ?_)
      · have gm25 : Gx [] S23 H24 S23 H24 := Gx.refl gl7.sh
        refine i_c ?_
        exact hN _ _ _ _ gm25 (Flat.is.2 rfl) h
      · have gm25 : Gx [] S23 H24 S23 H24 := Gx.refl gl7.sh
        refine i_call ?_
        refine i_cons ?_
        refine i_var rfl ?_
        refine i_nil ?_
        refine ⟨S23, (tpart y7 (PySem.Str.ofString ":")).1, rfl, gm25.sh, wpm_mono (wb h) (fun t26 h S27 H28 gs => ?_) (fun c he S1 H1 gs => he _ _ (g.trans (gl7.trans0 (gm25.trans0 gs)) hm7))⟩
        replace o_p1 := OwnL.keep0 o_p1 gs
        replace o_p4 := OwnL.keep0 o_p4 gs
        replace gm25 := gm25.trans0 gs
        exact hN _ _ _ _ gm25 (Flat.is.2 rfl) h
      replace o_p1 := OwnL.keep0 o_p1 gs
      replace o_p4 := OwnL.keep0 o_p4 gs
      replace gl7 := gl7.trans0 gs
      obtain rfl := (Flat.is.1 r33)
      refine i_nil ?_
      refine s_app (x := t29) gl7 o_p1 (.inr (by simp)) (Flat.is.2 rfl) h (fun H35 gA oA heq h => ?_)
      replace gl7 := gA
      replace o_p1 := oA
      replace o_p4 := o_p4.other (Ne.symm ne_p1_p4) heq
      refine nx_seq ?_
      refine i_drop ?_
      refine i_bm ?_
      refine i_var rfl ?_
      refine s_bmL o_p4.hp ?_
      refine i_cons ?_
      refine i_call ?_
      refine i_cons ?_
      refine i_var rfl ?_
      refine i_nil ?_
      refine ⟨S30, (tpart y7 (PySem.Str.ofString ":")).2.2.1, rfl, gl7.sh, wpm_mono (wb h) (fun t36 h S37 H38 gs => ?_) (fun c he S1 H1 gs => he _ _ (g.trans (gl7.trans0 gs) hm7))⟩
      replace o_p1 := OwnL.keep0 o_p1 gs
      replace o_p4 := OwnL.keep0 o_p4 gs
      replace gl7 := gl7.trans0 gs
      refine i_nil ?_
      refine s_app (x := t36) gl7 o_p4 (.inr (by simp)) rfl h (fun H39 gA oA heq h => ?_)
      replace gl7 := gA
      replace o_p4 := oA
      replace o_p1 := o_p1.other ne_p1_p4 heq
      exact ⟨_, _, h, _, _, _, _, rfl, gl7, o_p1, o_p4⟩
    obtain ⟨j_parent, j_colon, j_hue, j_word, rfl, gl7, o_p1, o_p4⟩ := hR
    replace g := g.trans gl7 hm7
    refine nx_seq ?_
    refine i_seq ?_
    refine i_drop ?_
    refine i_call ?_
    refine i_cons ?_
    refine i_var rfl ?_
    refine i_nil ?_
    obtain ⟨vs40, ow41, rs42⟩ := o_p1
    refine ⟨(upd S7j p1 (.lst vs40)), p1, st7.1, rfl, (ex_frz ow41 g.sh), ⟨vs40, upd_same, Reps.mono (Ex.new ow41.free) rs42⟩, wpm_mono (wb h) (fun t43 h S44 H45 gs => ?_) (fun c he S1 H1 gs => he _ _ (g.trans0 (gs.undo g.sh)))⟩
    replace gs := gs.undo g.sh
    have o_p1 : OwnL K S7j H7j p1 st7.1 := ⟨vs40, ow41, rs42⟩
    replace o_p1 := OwnL.keep0 o_p1 gs
    replace o_p4 := OwnL.keep0 o_p4 gs
    replace g := g.trans0 gs
    refine nx_seq ?_
    refine own_frz g o_p1 f0_p1 (fun S46 gA eS hbS r_p1 => ?_)
    replace o_p4 := OwnL.lift2 o_p4 hbS eS (Ne.symm ne_p1_p4)
    replace g := gA
    refine own_frz g o_p4 f0_p4 (fun S47 gA eS hbS r_p4 => ?_)
    replace r_p1 := RepL.mono eS r_p1
    replace g := gA
    refine i_ret ?_
    refine i_tup ?_
    refine i_cons ?_
    refine i_var rfl ?_
    refine i_cons ?_
    refine i_var rfl ?_
    refine i_nil ?_
    refine s_tup (K := K) (τ := List (Option Int)) (υ := List Int × Unit) (t := ((st7.1, st7.2, ()) : (List (Option Int) × List Int × Unit))) g (rept_cons (rep_list r_p1) (rept_cons (rep_list r_p4) rept_nil)) (show (2 : Nat) ≤ 16777216 by decide) (fun p48 S49 H50 gA gs r_p48 => ?_)
    replace r_p1 := RepL.mono gs.s r_p1
    replace r_p4 := RepL.mono gs.s r_p4
    replace g := gA
    exact h _ _ _ g r_p48

abbrev s_law_stir : PySem.Stmt := topS 22
theorem sc_law_stir : FnScope ["cell", "k", "number"] ["cell", "k"] (defScope s_law_stir) := ⟨rfl, rfl, rfl, by decide +kernel, rfl, by decide +kernel, by decide +kernel⟩

def sp_law_stir (K : Fr) : Sp := fun vs H Q E => ∃ (S0 : Hp) (cell : Int) (k : Int), vs = [(V.int (cell)), (V.int (k))] ∧ Ex S0 H ∧ wpm (m_law_stir cell k) (fun r => ∀ S' H', Gx [] S0 H S' H' → Q (V.int (r)) H') (fun c => ∀ S' H', Gx [] S0 H S' H' → E (.ref (caOf K c)) none H')

theorem ok_law_stir {P : Program} {w : World} {K : Fr} {mg : PySem.Str → Option Value} {base : Heap} (A0 : At K mg "_law_stir" s_law_stir ["cell", "k"])  : Dfn P w K mg base "_law_stir" 1 ["cell", "k"] (sp_law_stir K) := by
  refine Dfn.mk' A0 fun f fd F => F.ok (CX := L2N.CX P w) sc_law_stir (fun vs H Q E h => ?_) (fun cdv A outer s H vs Q E hr h => ?_)
  · obtain ⟨S0, cell, k, rfl, e0, h⟩ := h
    rfl
  · obtain ⟨S0, cell, k, rfl, e0, h⟩ := h
    unfold m_law_stir at h
    have g : Gx [] S0 H S0 H := Gx.refl e0
    refine ⟨_, pss_cons (ps_if (pt_cmpR op_ge (pv 0) (pe_op op_pow pe_int pe_int) (nomark _)) (pss_one (ps_ret (pe_op op_mod (pe_op op_shr (pe_op op_sub (pv 0) (pe_op op_pow pe_int pe_int)) (pe_op op_mul pe_int (pv 1))) pe_int))) pss_nil) (pss_cons (ps_set (i := 2) sc_law_stir.nd rfl (by first | exact Or.inl rfl | exact Or.inr rfl) (pe_op op_mod (pe_op op_mul (pe_op op_add (pe_op op_add (pe_op op_mod (pv 0) pe_int) (pe_op op_mul pe_int (pv 1))) pe_int) pe_int) pe_int)) (pss_cons (ps_set (i := 2) sc_law_stir.nd rfl (by first | exact Or.inl rfl | exact Or.inr rfl) (pe_op op_mod (pe_op op_mul (pv 2) (pv 2)) pe_int)) (pss_one (ps_ret (pe_op op_mod (pe_op op_fdiv (pe_op op_mod (pe_op op_mul (pv 2) pe_int) pe_int) pe_int) pe_int))))), ?_⟩
    refine i_start (σ := [some (V.int (cell)), some (V.int (k)), none]) rfl ?_
    refine i_seq ?_
    refine i_if ?_
    refine i_test ?_
    refine i_op ?_
    refine i_var rfl ?_
    refine i_op ?_
    refine i_c ?_
    refine i_c ?_
    refine s_pow (k := 1000000000000000000) ⟨by decide, by decide, by decide⟩ (by decide +kernel) ?_
    refine i_I0 ?_
    refine i_bl ?_
    refine ite2b (fun hb1 => ?_) (fun hb1 => ?_)
    · replace h := wpm_t hb1 h
      refine i_ret ?_
      refine i_op ?_
      refine i_op ?_
      refine i_op ?_
      refine i_var rfl ?_
      refine i_op ?_
      refine i_c ?_
      refine i_c ?_
      refine s_pow (k := 1000000000000000000) ⟨by decide, by decide, by decide⟩ (by decide +kernel) ?_
      refine i_I0 ?_
      refine i_op ?_
      refine i_c ?_
      refine i_var rfl ?_
      refine i_I (by first | exact .inl (by decide) | exact .inr (by decide)) ?_
      refine s_shr h (fun h => ?_)
      refine i_c ?_
      refine i_I (by decide) ?_
      exact h _ _ g
    · replace h := wpm_f hb1 h
      refine i_next ?_
      refine nx_seq ?_
      refine i_seq ?_
      refine i_asg ?_
      refine i_op ?_
      refine i_op ?_
      refine i_op ?_
      refine i_op ?_
      refine i_op ?_
      refine i_var rfl ?_
      refine i_c ?_
      refine i_I (by decide) ?_
      refine i_op ?_
      refine i_c ?_
      refine i_var rfl ?_
      refine i_I (by first | exact .inl (by decide) | exact .inr (by decide)) ?_
      refine i_I0 ?_
      refine i_c ?_
      refine i_I0 ?_
      refine i_c ?_
      refine i_I (by first | exact .inl (by decide) | exact .inr (by decide)) ?_
      refine i_c ?_
      refine i_I (by decide) ?_
      refine i_nameE (σ' := [_, _, some (V.int ((((((cell % 2147483629) + (1013 * k)) + 1) * 16807) % 2147483647)))]) rfl ?_
      refine nx_seq ?_
      refine i_seq ?_
      refine i_asg ?_
      refine i_op ?_
      refine i_op ?_
      refine i_var rfl ?_
      refine i_var rfl ?_
      refine s_mul h (fun h => ?_)
      refine i_c ?_
      refine i_I (by decide) ?_
      refine i_nameE (σ' := [_, _, some (V.int ((((((((cell % 2147483629) + (1013 * k)) + 1) * 16807) % 2147483647) * (((((cell % 2147483629) + (1013 * k)) + 1) * 16807) % 2147483647)) % 2147483629)))]) rfl ?_
      refine nx_seq ?_
      refine i_ret ?_
      refine i_op ?_
      refine i_op ?_
      refine i_op ?_
      refine i_op ?_
      refine i_var rfl ?_
      refine i_c ?_
      refine i_I (by first | exact .inl (by decide) | exact .inr (by decide)) ?_
      refine i_c ?_
      refine i_I (by decide) ?_
      refine i_c ?_
      refine i_I ⟨by decide, by decide⟩ ?_
      refine i_c ?_
      refine i_I (by decide) ?_
      exact h _ _ g

abbrev s_law_cells : PySem.Stmt := topS 23
theorem sc_law_cells : FnScope ["script", "many"] ["script", "many"] (defScope s_law_cells) := ⟨rfl, rfl, rfl, by decide +kernel, rfl, by decide +kernel, by decide +kernel⟩

def sp_law_cells (K : Fr) : Sp := fun vs H Q E => ∃ (S0 : Hp) (a_script : Addr) (script : List Int) (many : Int), vs = [(V.ref a_script), (V.int (many))] ∧ Ex S0 H ∧ RepQ K S0 a_script script ∧ wpm (m_law_cells script many) (fun r => ∀ p S' H', Gx [] S0 H S' H' → H p = none → OwnL K S' H' p r → Q (.ref p) H') (fun c => ∀ S' H', Gx [] S0 H S' H' → E (.ref (caOf K c)) none H')

theorem ok_law_cells {P : Program} {w : World} {K : Fr} {mg : PySem.Str → Option Value} {base : Heap} (A0 : At K mg "_law_cells" s_law_cells ["script", "many"]) (n_len : mg "len" = none) (n_min : mg "min" = none) (n_max : mg "max" = none) : Dfn P w K mg base "_law_cells" 1 ["script", "many"] (sp_law_cells K) := by
  refine Dfn.mk' A0 fun f fd F => F.ok (CX := L2N.CX P w) sc_law_cells (fun vs H Q E h => ?_) (fun cdv A outer s H vs Q E hr h => ?_)
  · obtain ⟨S0, a_script, script, many, rfl, e0, r_script, h⟩ := h
    rfl
  · obtain ⟨S0, a_script, script, many, rfl, e0, r_script, h⟩ := h
    unfold m_law_cells at h
    have g : Gx [] S0 H S0 H := Gx.refl e0
    refine ⟨_, pss_one (ps_ret (pe_slice (sl_listK (K := K)) (pe_op op_cat (pe_slice (sl_listK (K := K)) (pv 0) po_none (po_some (pv 1))) (pe_lst (pa_cons pe_int pa_nil))) po_none (po_some (pe_callB (call_max2G rfl) (by rfl) n_max (by decide +kernel) (pa_cons pe_int (pa_cons (pe_callB (call_min2G rfl) (by rfl) n_min (by decide +kernel) (pa_cons (pv 1) (pa_cons (pe_callB (call_lenK (K := K)) (by rfl) n_len (by decide +kernel) (pa_cons (pv 0) pa_nil)) pa_nil))) pa_nil)))))), ?_⟩
    refine i_start (σ := [some (V.ref a_script), some (V.int (many))]) rfl ?_
    refine i_ret ?_
    refine i_sl ?_
    refine i_op ?_
    refine i_sl ?_
    refine i_var rfl ?_
    refine i_noPart ?_
    refine i_part ?_
    refine i_var rfl ?_
    refine i_partI ?_
    refine s_slS g (r_script.hp g.sh) (fun p1 S2 H3 gA gs r_p1 => ?_)
    replace r_script := RepQ.mono gs.s r_script
    replace g := gA
    refine i_lst ?_
    refine i_cons ?_
    refine i_c ?_
    refine i_nil ?_
    refine s_lstS (K := K) (xs := ([0] : List Int)) g (All2.cons rfl All2.nil) (show (1 : Nat) ≤ 16777216 by decide) (fun p4 S5 H6 gA gs r_p4 => ?_)
    replace r_script := RepQ.mono gs.s r_script
    replace r_p1 := RepL.mono gs.s r_p1
    replace g := gA
    refine s_catS g (r_p1.tp g.sh) (r_p4.tp g.sh) h (fun p8 S9 H10 gA gs r_p8 h => ?_)
    replace r_script := RepQ.mono gs.s r_script
    replace g := gA
    refine i_noPart ?_
    refine i_part ?_
    refine i_cb ?_
    refine i_cons ?_
    refine i_c ?_
    refine i_cons ?_
    refine i_cb ?_
    refine i_cons ?_
    refine i_var rfl ?_
    refine i_cons ?_
    refine i_cb ?_
    refine i_cons ?_
    refine i_var rfl ?_
    refine i_nil ?_
    refine s_len (r_script.hp g.sh) ?_
    refine i_nil ?_
    refine s_min2 ?_
    refine i_nil ?_
    refine s_max2 ?_
    refine i_partI ?_
    refine s_slO g (r_p8.hp g.sh) (fun p11 H13 gA gs hp_p11 o_p11 => ?_)
    have f0_p11 := Gx.back g hp_p11
    replace r_script := RepQ.mono gs.s r_script
    replace g := gA
    exact h _ _ _ g f0_p11 o_p11

abbrev s_law_order : PySem.Stmt := topS 24
theorem sc_law_order : FnScope ["cell", "base", "many", "found", "number"] ["cell", "base", "many"] (defScope s_law_order) := ⟨rfl, rfl, rfl, by decide +kernel, rfl, by decide +kernel, by decide +kernel⟩

def sp_law_order (K : Fr) : Sp := fun vs H Q E => ∃ (S0 : Hp) (cell : Int) (base : Int) (many : Int), vs = [(V.int (cell)), (V.int (base)), (V.int (many))] ∧ Ex S0 H ∧ wpm (m_law_order cell base many) (fun r => ∀ p S' H', Gx [] S0 H S' H' → H p = none → OwnL K S' H' p r → Q (.ref p) H') (fun c => ∀ S' H', Gx [] S0 H S' H' → E (.ref (caOf K c)) none H')

theorem ok_law_order {P : Program} {w : World} {K : Fr} {mg : PySem.Str → Option Value} {base : Heap} (A0 : At K mg "_law_order" s_law_order ["cell", "base", "many"]) (D_law_stir : Dfn P w K mg base "_law_stir" 1 ["cell", "k"] (sp_law_stir K)) (n_range : mg "range" = none) : Dfn P w K mg base "_law_order" 2 ["cell", "base", "many"] (sp_law_order K) := by
  obtain ⟨f_law_stir, fd_law_stir, mg_law_stir, kp_law_stir, bd_law_stir, ok_law_stir'⟩ := D_law_stir.ex
  refine Dfn.mk' A0 fun f fd F => F.ok (CX := L2N.CX P w) sc_law_order (fun vs H Q E h => ?_) (fun cdv A outer s H vs Q E hr h => ?_)
  · obtain ⟨S0, cell, base, many, rfl, e0, h⟩ := h
    rfl
  · obtain ⟨S0, cell, base, many, rfl, e0, h⟩ := h
    unfold m_law_order at h
    have g : Gx [] S0 H S0 H := Gx.refl e0
    refine ⟨_, pss_cons (ps_set (i := 3) sc_law_order.nd rfl (by first | exact Or.inl rfl | exact Or.inr rfl) (pe_lst pa_nil)) (pss_cons (ps_for (passes_of rfl) rfl (pi_range1 (by rfl) n_range (pa_cons (pv 2) pa_nil)) (pg_name (i := 4) sc_law_order.nd rfl (by first | exact Or.inl rfl | exact Or.inr rfl)) (pss_one (ps_expr (pe_K (K := K) (pe_bm PySem.F.plainAttrs_list PySem.F.slot_list_insert PySem.F.type_list_insert mt_insG (pv 3) (pa_cons (pe_op op_mod (pe_call ok_law_stir' (hr.mono (by decide)) (by rfl) mg_law_stir kp_law_stir bd_law_stir .nil (L2N.passes_call (L2N.takes_of rfl rfl rfl rfl) fun _ _ _ _ h => h) (pa_cons (pv 0) (pa_cons (pe_op op_add (pv 1) (pv 4)) pa_nil))) (pe_op op_add (pv 4) pe_int)) (pa_cons (pv 4) pa_nil))))))) (pss_one (ps_ret (pv 3)))), ?_⟩
    refine i_start (σ := [some (V.int (cell)), some (V.int (base)), some (V.int (many)), none, none]) rfl ?_
    refine i_seq ?_
    refine i_asg ?_
    refine i_lst ?_
    refine i_nil ?_
    refine s_lstO (K := K) (xs := ([] : List (Int))) g All2.nil (show (0 : Nat) ≤ 16777216 by decide) (fun p1 H3 gA gs hp_p1 o_p1 => ?_)
    have f0_p1 := Gx.back g hp_p1
    replace g := gA
    refine i_nameE (σ' := [_, _, _, some (V.ref p1), _]) rfl ?_
    refine nx_seq ?_
    refine i_seq ?_
    refine i_for ?_
    refine i_rng1 (i_cons ?_)
    refine i_var rfl ?_
    refine i_nil ?_
    refine i_rng1A h (fun h => ?_)
    have hm4 : ∀ x ∈ [p1], x ∈ [] ∨ H x = none := by
      intro x hx
      simp only [List.mem_append, List.mem_cons, List.not_mem_nil, or_false] at hx
      rcases hx with rfl
      · exact (Or.symm (.inl f0_p1))
    have wk4 : Wk K (Itr 0 ((many : Int) - 0).toNat) (rng 0 many) (fun (st4 : (List (Int))) σ' S' H' => ∃ (j_number : Option V), σ' = [some (V.int (cell)), some (V.int (base)), some (V.int (many)), some (V.ref p1), j_number] ∧ Gx [p1] S0 H3 S' H' ∧ OwnL K S' H' p1 st4) := by
      refine wk_rng fun st σ2 S2 H2 hR => ?_
      obtain ⟨j_number, rfl, gl4, o_p1⟩ := hR
      exact gl4.sh
    refine s_forM (R := (fun (st4 : (List (Int))) σ' S' H' => ∃ (j_number : Option V), σ' = [some (V.int (cell)), some (V.int (base)), some (V.int (many)), some (V.ref p1), j_number] ∧ Gx [p1] S0 H3 S' H' ∧ OwnL K S' H' p1 st4)) (s0 := ([] : List (Int))) wk4 ⟨_, rfl, (Gx.refl g.sh), o_p1⟩ h (fun y4 v4 st4 σ1 S4a H4a S4b H4b P4 hR gs rv h => ?_) (fun st4 σ1 S4j H4j hR h => ?_)
    · obtain ⟨j_number, rfl, gl4, o_p1⟩ := hR
      replace o_p1 := OwnL.keep0 o_p1 gs
      replace gl4 := gl4.trans0 gs
      obtain rfl := rv
      refine i_nameE (σ' := [_, _, _, _, some (V.int (y4))]) rfl ?_
      refine i_drop ?_
      refine i_bm ?_
      refine i_var rfl ?_
      refine s_bmL o_p1.hp ?_
      refine i_cons ?_
      refine i_op ?_
      refine i_call ?_
      refine i_cons ?_
      refine i_var rfl ?_
      refine i_cons ?_
      refine i_op ?_
      refine i_var rfl ?_
      refine i_var rfl ?_
      refine i_I0 ?_
      refine i_nil ?_
      refine ⟨S4b, cell, (base + y4), rfl, gl4.sh, wpm_mono (wb h) (fun t5 h S6 H7 gs => ?_) (fun c he S1 H1 gs => he _ _ (g.trans (gl4.trans0 gs) hm4))⟩
      replace o_p1 := OwnL.keep0 o_p1 gs
      replace gl4 := gl4.trans0 gs
      refine i_op ?_
      refine i_var rfl ?_
      refine i_c ?_
      refine i_I0 ?_
      refine s_mod h (fun h => ?_)
      refine i_cons ?_
      refine i_var rfl ?_
      refine i_nil ?_
      refine s_ins (x := y4) gl4 o_p1 (.inr (by simp)) rfl h (fun H8 gA oA heq h => ?_)
      replace gl4 := gA
      replace o_p1 := oA
      exact ⟨_, _, h, _, rfl, gl4, o_p1⟩
    obtain ⟨j_number, rfl, gl4, o_p1⟩ := hR
    replace g := g.trans gl4 hm4
    refine nx_seq ?_
    refine i_ret ?_
    refine i_var rfl ?_
    exact h _ _ _ g f0_p1 o_p1

abbrev s_law_tree : PySem.Stmt := topS 25
theorem sc_law_tree : FnScope ["cell", "most", "many", "shape", "called", "parents", "k", "one", "some"] ["cell", "most"] (defScope s_law_tree) := ⟨rfl, rfl, rfl, by decide +kernel, rfl, by decide +kernel, by decide +kernel⟩

def sp_law_tree (K : Fr) : Sp := fun vs H Q E => ∃ (S0 : Hp) (cell : Int) (most : Int), vs = [(V.int (cell)), (V.int (most))] ∧ Ex S0 H ∧ wpm (m_law_tree cell most) (fun r => ∀ p S' H', Gx [] S0 H S' H' → H p = none → OwnL K S' H' p r → Q (.ref p) H') (fun c => ∀ S' H', Gx [] S0 H S' H' → E (.ref (caOf K c)) none H')

theorem ok_law_tree {P : Program} {w : World} {K : Fr} {mg : PySem.Str → Option Value} {base : Heap} (A0 : At K mg "_law_tree" s_law_tree ["cell", "most"]) (D_law_stir : Dfn P w K mg base "_law_stir" 1 ["cell", "k"] (sp_law_stir K)) (D_law_order : Dfn P w K mg base "_law_order" 2 ["cell", "base", "many"] (sp_law_order K)) (n_min : mg "min" = none) (n_list : mg "list" = none) (n_range : mg "range" = none) (n_max : mg "max" = none) : Dfn P w K mg base "_law_tree" 3 ["cell", "most"] (sp_law_tree K) := by
  obtain ⟨f_law_stir, fd_law_stir, mg_law_stir, kp_law_stir, bd_law_stir, ok_law_stir'⟩ := D_law_stir.ex
  obtain ⟨f_law_order, fd_law_order, mg_law_order, kp_law_order, bd_law_order, ok_law_order'⟩ := D_law_order.ex
  refine Dfn.mk' A0 fun f fd F => F.ok (CX := L2N.CX P w) sc_law_tree (fun vs H Q E h => ?_) (fun cdv A outer s H vs Q E hr h => ?_)
  · obtain ⟨S0, cell, most, rfl, e0, h⟩ := h
    rfl
  · obtain ⟨S0, cell, most, rfl, e0, h⟩ := h
    unfold m_law_tree at h
    have g : Gx [] S0 H S0 H := Gx.refl e0
    refine ⟨_, pss_cons (ps_set (i := 2) sc_law_tree.nd rfl (by first | exact Or.inl rfl | exact Or.inr rfl) (pe_callB (call_min2G rfl) (by rfl) n_min (by decide +kernel) (pa_cons (pv 1) (pa_cons (pe_op op_add pe_int (pe_op op_mod (pe_call ok_law_stir' (hr.mono (by decide)) (by rfl) mg_law_stir kp_law_stir bd_law_stir .nil (L2N.passes_call (L2N.takes_of rfl rfl rfl rfl) fun _ _ _ _ h => h) (pa_cons (pv 0) (pa_cons pe_int pa_nil))) (pe_ix (ix_listK (K := K)) (pe_lst (pa_cons pe_int (pa_cons pe_int (pa_cons pe_int (pa_cons (pv 1) pa_nil))))) (pe_op op_mod (pe_call ok_law_stir' (hr.mono (by decide)) (by rfl) mg_law_stir kp_law_stir bd_law_stir .nil (L2N.passes_call (L2N.takes_of rfl rfl rfl rfl) fun _ _ _ _ h => h) (pa_cons (pv 0) (pa_cons pe_int pa_nil))) pe_int) (fun _ _ => rfl)))) pa_nil)))) (pss_cons (ps_set (i := 3) sc_law_tree.nd rfl (by first | exact Or.inl rfl | exact Or.inr rfl) (pe_op op_mod (pe_call ok_law_stir' (hr.mono (by decide)) (by rfl) mg_law_stir kp_law_stir bd_law_stir .nil (L2N.passes_call (L2N.takes_of rfl rfl rfl rfl) fun _ _ _ _ h => h) (pa_cons (pv 0) (pa_cons pe_int pa_nil))) pe_int)) (pss_cons (ps_set (i := 4) sc_law_tree.nd rfl (by first | exact Or.inl rfl | exact Or.inr rfl) (pe_listRg rfl (by rfl) n_list (prg_1 (by rfl) n_range (pv 2)))) (pss_cons (ps_if (pt_cmpR op_gt (pe_op op_mod (pe_call ok_law_stir' (hr.mono (by decide)) (by rfl) mg_law_stir kp_law_stir bd_law_stir .nil (L2N.passes_call (L2N.takes_of rfl rfl rfl rfl) fun _ _ _ _ h => h) (pa_cons (pv 0) (pa_cons pe_int pa_nil))) pe_int) pe_int (nomark _)) (pss_one (ps_set (i := 4) sc_law_tree.nd rfl (by first | exact Or.inl rfl | exact Or.inr rfl) (pe_call ok_law_order' (hr.mono (by decide)) (by rfl) mg_law_order kp_law_order bd_law_order .nil (L2N.passes_call (L2N.takes_of rfl rfl rfl rfl) fun _ _ _ _ h => h) (pa_cons (pv 0) (pa_cons pe_int (pa_cons (pv 2) pa_nil)))))) pss_nil) (pss_cons (ps_set (i := 5) sc_law_tree.nd rfl (by first | exact Or.inl rfl | exact Or.inr rfl) (pe_op op_rep (pe_lst (pa_cons pe_non pa_nil)) (pv 2))) (pss_cons (ps_for (passes_of rfl) rfl (pi_range2 (by rfl) n_range (pa_cons pe_int (pa_cons (pv 2) pa_nil))) (pg_name (i := 6) sc_law_tree.nd rfl (by first | exact Or.inl rfl | exact Or.inr rfl)) (pss_cons (ps_set (i := 7) sc_law_tree.nd rfl (by first | exact Or.inl rfl | exact Or.inr rfl) (pe_call ok_law_stir' (hr.mono (by decide)) (by rfl) mg_law_stir kp_law_stir bd_law_stir .nil (L2N.passes_call (L2N.takes_of rfl rfl rfl rfl) fun _ _ _ _ h => h) (pa_cons (pv 0) (pa_cons (pe_op op_add pe_int (pv 6)) pa_nil)))) (pss_cons (ps_set (i := 8) sc_law_tree.nd rfl (by first | exact Or.inl rfl | exact Or.inr rfl) (pe_lst (pa_cons (pe_op op_sub (pv 6) pe_int) (pa_cons pe_int (pa_cons (pe_op op_mod (pv 7) (pv 6)) (pa_cons (pe_callB (call_max2G rfl) (by rfl) n_max (by decide +kernel) (pa_cons pe_int (pa_cons (pe_op op_sub (pe_op op_sub (pv 6) pe_int) (pe_op op_mod (pv 7) pe_int)) pa_nil))) (pa_cons (pe_op op_fdiv (pe_op op_sub (pv 6) pe_int) pe_int) (pa_cons (pe_callB (call_max2G rfl) (by rfl) n_max (by decide +kernel) (pa_cons pe_int (pa_cons (pe_op op_sub (pv 6) pe_int) pa_nil))) pa_nil)))))))) (pss_one (ps_asg (pe_ix (ix_listK (K := K)) (pv 4) (pe_ix (ix_listK (K := K)) (pv 8) (pv 3) (fun _ _ => rfl)) (fun _ _ => rfl)) (pg_sub (pv 5) (pe_ix (ix_listK (K := K)) (pv 4) (pv 6) (fun _ _ => rfl)) set_list)))))) (pss_one (ps_ret (pv 5)))))))), ?_⟩
    refine i_start (σ := [some (V.int (cell)), some (V.int (most)), none, none, none, none, none, none, none]) rfl ?_
    refine i_seq ?_
    refine i_asg ?_
    refine i_cb ?_
    refine i_cons ?_
    refine i_var rfl ?_
    refine i_cons ?_
    refine i_op ?_
    refine i_c ?_
    refine i_op ?_
    refine i_call ?_
    refine i_cons ?_
    refine i_var rfl ?_
    refine i_cons ?_
    refine i_c ?_
    refine i_nil ?_
    refine ⟨S0, cell, 0, rfl, g.sh, wpm_mono (wb h) (fun t1 h S2 H3 gs => ?_) (fun c he S1 H1 gs => he _ _ (g.trans0 gs))⟩
    replace g := g.trans0 gs
    refine i_op ?_
    refine i_lst ?_
    refine i_cons ?_
    refine i_c ?_
    refine i_cons ?_
    refine i_c ?_
    refine i_cons ?_
    refine i_c ?_
    refine i_cons ?_
    refine i_var rfl ?_
    refine i_nil ?_
    refine s_lstS (K := K) (xs := ([4, 12, 40, most] : List Int)) g (All2.cons rfl (All2.cons rfl (All2.cons rfl (All2.cons rfl All2.nil)))) (show (4 : Nat) ≤ 16777216 by decide) (fun p4 S5 H6 gA gs r_p4 => ?_)
    replace g := gA
    refine i_op ?_
    refine i_call ?_
    refine i_cons ?_
    refine i_var rfl ?_
    refine i_cons ?_
    refine i_c ?_
    refine i_nil ?_
    refine ⟨S5, cell, 1, rfl, g.sh, wpm_mono (wb h) (fun t7 h S8 H9 gs => ?_) (fun c he S1 H1 gs => he _ _ (g.trans0 gs))⟩
    replace r_p4 := RepL.mono gs.s r_p4
    replace g := g.trans0 gs
    refine i_c ?_
    refine i_I (by decide) ?_
    refine s_idxF (r_p4.hp g.sh) h (fun t10 h => ?_)
    refine s_mod h (fun h => ?_)
    refine i_I0 ?_
    refine i_nil ?_
    refine s_min2 ?_
    refine i_nameE (σ' := [_, _, some (V.int ((min most (1 + (t1 % t10))))), _, _, _, _, _, _]) rfl ?_
    refine nx_seq ?_
    refine i_seq ?_
    refine i_asg ?_
    refine i_op ?_
    refine i_call ?_
    refine i_cons ?_
    refine i_var rfl ?_
    refine i_cons ?_
    refine i_c ?_
    refine i_nil ?_
    refine ⟨S8, cell, 2, rfl, g.sh, wpm_mono (wb h) (fun t11 h S12 H13 gs => ?_) (fun c he S1 H1 gs => he _ _ (g.trans0 gs))⟩
    replace g := g.trans0 gs
    refine i_c ?_
    refine i_I (by decide) ?_
    refine i_nameE (σ' := [_, _, _, some (V.int ((t11 % 6))), _, _, _, _, _]) rfl ?_
    refine nx_seq ?_
    refine i_seq ?_
    refine i_asg ?_
    refine i_lrg1 ?_
    refine i_var rfl ?_
    refine s_lrg1S (K := K) g h (fun p14 S15 H16 gA gs r_p14 h => ?_)
    replace g := gA
    refine i_nameE (σ' := [_, _, _, _, some (V.ref p14), _, _, _, _]) rfl ?_
    refine nx_seq ?_
    refine i_seq ?_
    have hm17 : ∀ x ∈ ([] : List Addr), x ∈ [] ∨ H x = none := fun x hx => nomatch hx
    refine i_ifJ1 (R := (fun (st17 : (List Int)) σ' S' H' => ∃ (b_called : Addr), σ' = [some (V.int (cell)), some (V.int (most)), some (V.int ((min most (1 + (t1 % t10))))), some (V.int ((t11 % 6))), some (V.ref b_called), none, none, none, none] ∧ Gx [] S15 H16 S' H' ∧ RepL K S' b_called st17)) h (fun PJ N hN h => ?_) (fun st17 σ1 S17j H17j hR h => ?_)
    · have gj17 : Gx [] S15 H16 S15 H16 := Gx.refl g.sh
      refine i_test ?_
      refine i_op ?_
      refine i_op ?_
      refine i_call ?_
      refine i_cons ?_
      refine i_var rfl ?_
      refine i_cons ?_
      refine i_c ?_
      refine i_nil ?_
      refine ⟨S15, cell, 4, rfl, gj17.sh, wpm_mono (wb h) (fun t18 h S19 H20 gs => ?_) (fun c he S1 H1 gs => he _ _ (g.trans (gj17.trans0 gs) hm17))⟩
      replace r_p14 := RepL.mono gs.s r_p14
      replace gj17 := gj17.trans0 gs
      refine i_c ?_
      refine i_I (by decide) ?_
      refine i_c ?_
      refine i_I0 ?_
      refine i_bl ?_
      refine ite2b (fun hb21 => ?_) (fun hb21 => ?_)
      · replace h := wpm_t hb21 h
        refine i_asg ?_
        refine i_call ?_
        refine i_cons ?_
        refine i_var rfl ?_
        refine i_cons ?_
        refine i_c ?_
        refine i_cons ?_
        refine i_var rfl ?_
        refine i_nil ?_
        refine ⟨S19, cell, 220, (min most (1 + (t1 % t10))), rfl, gj17.sh, wpm_mono (wb h) (fun t22 h p25 S23 H24 gs hp_p25 o_p25 => ?_) (fun c he S1 H1 gs => he _ _ (g.trans (gj17.trans0 gs) hm17))⟩
        refine OwnL.frz o_p25 gs hp_p25 (fun S26 gs2 eS hbS r_p25 => ?_)
        replace gs := gs2
        replace r_p14 := RepL.mono gs.s r_p14
        replace gj17 := gj17.trans0 gs
        refine i_nameE (σ' := [_, _, _, _, some (V.ref p25), _, _, _, _]) rfl ?_
        exact hN _ _ _ _ h ⟨_, rfl, gj17, r_p25⟩
      · replace h := wpm_f hb21 h
        refine i_next ?_
        exact hN _ _ _ _ h ⟨_, rfl, gj17, r_p14⟩
    obtain ⟨b_called, rfl, gj17, r_called⟩ := hR
    replace g := g.trans gj17 hm17
    refine nx_seq ?_
    refine i_seq ?_
    refine i_asg ?_
    refine i_op ?_
    refine i_lst ?_
    refine i_cons ?_
    refine i_c ?_
    refine i_nil ?_
    refine s_lstS (K := K) (xs := ([(none : Option Int)] : List (Option Int))) g (All2.cons (Flat.is.2 rfl) All2.nil) (show (1 : Nat) ≤ 16777216 by decide) (fun p27 S28 H29 gA gs r_p27 => ?_)
    replace r_called := RepL.mono gs.s r_called
    replace g := gA
    refine i_var rfl ?_
    refine s_repO g (r_p27.tp g.sh) h (fun p31 H33 gA gs hp_p31 o_p31 h => ?_)
    have f0_p31 := Gx.back g hp_p31
    replace r_called := RepL.mono gs.s r_called
    replace g := gA
    refine i_nameE (σ' := [_, _, _, _, _, some (V.ref p31), _, _, _]) rfl ?_
    refine nx_seq ?_
    refine i_seq ?_
    refine i_for ?_
    refine i_rng2 (i_cons ?_)
    refine i_c ?_
    refine i_cons ?_
    refine i_var rfl ?_
    refine i_nil ?_
    refine i_rng2A h (fun h => ?_)
    have hm34 : ∀ x ∈ [p31], x ∈ [] ∨ H x = none := by
      intro x hx
      simp only [List.mem_append, List.mem_cons, List.not_mem_nil, or_false] at hx
      rcases hx with rfl
      · exact (Or.symm (.inl f0_p31))
    have wk34 : Wk K (Itr (1 : Int) (((min most (1 + (t1 % t10))) : Int) - 1).toNat) (rng 1 (min most (1 + (t1 % t10)))) (fun (st34 : (List (Option Int))) σ' S' H' => ∃ (j_one : Option V) (j_some_ : Option V) (j_k : Option V), σ' = [some (V.int (cell)), some (V.int (most)), some (V.int ((min most (1 + (t1 % t10))))), some (V.int ((t11 % 6))), some (V.ref b_called), some (V.ref p31), j_k, j_one, j_some_] ∧ Gx [p31] S28 H33 S' H' ∧ OwnL K S' H' p31 st34) := by
      refine wk_rng fun st σ2 S2 H2 hR => ?_
      obtain ⟨j_one, j_some_, j_k, rfl, gl34, o_p31⟩ := hR
      exact gl34.sh
    refine s_forM (R := (fun (st34 : (List (Option Int))) σ' S' H' => ∃ (j_one : Option V) (j_some_ : Option V) (j_k : Option V), σ' = [some (V.int (cell)), some (V.int (most)), some (V.int ((min most (1 + (t1 % t10))))), some (V.int ((t11 % 6))), some (V.ref b_called), some (V.ref p31), j_k, j_one, j_some_] ∧ Gx [p31] S28 H33 S' H' ∧ OwnL K S' H' p31 st34)) (s0 := (List.replicate ((min most (1 + (t1 % t10))) : Int).toNat ([(none : Option Int)] : List (Option Int))).flatten) wk34 ⟨_, _, _, rfl, (Gx.refl g.sh), o_p31⟩ h (fun y34 v34 st34 σ1 S34a H34a S34b H34b P34 hR gs rv h => ?_) (fun st34 σ1 S34j H34j hR h => ?_)
    · obtain ⟨j_one, j_some_, j_k, rfl, gl34, o_p31⟩ := hR
      replace r_called := RepL.mono gl34.s r_called
      replace r_called := RepL.mono gs.s r_called
      replace o_p31 := OwnL.keep0 o_p31 gs
      replace gl34 := gl34.trans0 gs
      obtain rfl := rv
      refine i_nameE (σ' := [_, _, _, _, _, _, some (V.int (y34)), _, _]) rfl ?_
      refine i_seq ?_
      refine i_asg ?_
      refine i_call ?_
      refine i_cons ?_
      refine i_var rfl ?_
      refine i_cons ?_
      refine i_op ?_
      refine i_c ?_
      refine i_var rfl ?_
      refine i_I0 ?_
      refine i_nil ?_
      refine ⟨S34b, cell, (10 + y34), rfl, gl34.sh, wpm_mono (wb h) (fun t35 h S36 H37 gs => ?_) (fun c he S1 H1 gs => he _ _ (g.trans (gl34.trans0 gs) hm34))⟩
      replace r_called := RepL.mono gs.s r_called
      replace o_p31 := OwnL.keep0 o_p31 gs
      replace gl34 := gl34.trans0 gs
      refine i_nameE (σ' := [_, _, _, _, _, _, _, some (V.int (t35)), _]) rfl ?_
      refine nx_seq ?_
      refine i_seq ?_
      refine i_asg ?_
      refine i_lst ?_
      refine i_cons ?_
      refine i_op ?_
      refine i_var rfl ?_
      refine i_c ?_
      refine i_I0 ?_
      refine i_cons ?_
      refine i_c ?_
      refine i_cons ?_
      refine i_op ?_
      refine i_var rfl ?_
      refine i_var rfl ?_
      refine s_mod h (fun h => ?_)
      refine i_cons ?_
      refine i_cb ?_
      refine i_cons ?_
      refine i_c ?_
      refine i_cons ?_
      refine i_op ?_
      refine i_op ?_
      refine i_var rfl ?_
      refine i_c ?_
      refine i_I0 ?_
      refine i_op ?_
      refine i_var rfl ?_
      refine i_c ?_
      refine i_I (by decide) ?_
      refine i_I0 ?_
      refine i_nil ?_
      refine s_max2 ?_
      refine i_cons ?_
      refine i_op ?_
      refine i_op ?_
      refine i_var rfl ?_
      refine i_c ?_
      refine i_I0 ?_
      refine i_c ?_
      refine i_I ⟨by decide, by decide⟩ ?_
      refine i_cons ?_
      refine i_cb ?_
      refine i_cons ?_
      refine i_c ?_
      refine i_cons ?_
      refine i_op ?_
      refine i_var rfl ?_
      refine i_c ?_
      refine i_I0 ?_
      refine i_nil ?_
      refine s_max2 ?_
      refine i_nil ?_
      refine s_lstS (K := K) (xs := ([(y34 - 1), 0, (t35 % y34), (max 0 ((y34 - 1) - (t35 % 3))), ((y34 - 1) / 2), (max 0 (y34 - 2))] : List Int)) gl34 (All2.cons rfl (All2.cons rfl (All2.cons rfl (All2.cons rfl (All2.cons rfl (All2.cons rfl All2.nil)))))) (show (6 : Nat) ≤ 16777216 by decide) (fun p38 S39 H40 gA gs r_p38 => ?_)
      replace r_called := RepL.mono gs.s r_called
      replace o_p31 := OwnL.keep0 o_p31 gs
      replace gl34 := gA
      refine i_nameE (σ' := [_, _, _, _, _, _, _, _, some (V.ref p38)]) rfl ?_
      refine nx_seq ?_
      refine i_asg ?_
      refine i_op ?_
      refine i_var rfl ?_
      refine i_op ?_
      refine i_var rfl ?_
      refine i_var rfl ?_
      refine s_idxF (r_p38.hp gl34.sh) h (fun t41 h => ?_)
      refine s_idxF (r_called.hp gl34.sh) h (fun t42 h => ?_)
      refine i_gsub ?_
      refine i_var rfl ?_
      refine i_op ?_
      refine i_var rfl ?_
      refine i_var rfl ?_
      refine s_idxF (r_called.hp gl34.sh) h (fun t43 h => ?_)
      refine s_set gl34 o_p31 (.inr (by simp)) (Flat.is.2 rfl) h (fun H45 t44 gl34 o_p31 heq h => ?_)
      exact ⟨_, _, h, _, _, _, rfl, gl34, o_p31⟩
    obtain ⟨j_one, j_some_, j_k, rfl, gl34, o_p31⟩ := hR
    replace r_called := RepL.mono gl34.s r_called
    replace g := g.trans gl34 hm34
    refine nx_seq ?_
    refine i_ret ?_
    refine i_var rfl ?_
    exact h _ _ _ g f0_p31 o_p31

abbrev s_law_hues : PySem.Stmt := topS 26
theorem sc_law_hues : FnScope ["cell", "many", "kind", "found", "k", "one"] ["cell", "many"] (defScope s_law_hues) := ⟨rfl, rfl, rfl, by decide +kernel, rfl, by decide +kernel, by decide +kernel⟩

def sp_law_hues (K : Fr) : Sp := fun vs H Q E => ∃ (S0 : Hp) (cell : Int) (many : Int), vs = [(V.int (cell)), (V.int (many))] ∧ Ex S0 H ∧ wpm (m_law_hues cell many) (fun r => ∀ p S' H', Gx [] S0 H S' H' → H p = none → OwnL K S' H' p r → Q (.ref p) H') (fun c => ∀ S' H', Gx [] S0 H S' H' → E (.ref (caOf K c)) none H')

theorem ok_law_hues {P : Program} {w : World} {K : Fr} {mg : PySem.Str → Option Value} {base : Heap} (A0 : At K mg "_law_hues" s_law_hues ["cell", "many"]) (D_law_stir : Dfn P w K mg base "_law_stir" 1 ["cell", "k"] (sp_law_stir K)) (n_range : mg "range" = none) : Dfn P w K mg base "_law_hues" 2 ["cell", "many"] (sp_law_hues K) := by
  obtain ⟨f_law_stir, fd_law_stir, mg_law_stir, kp_law_stir, bd_law_stir, ok_law_stir'⟩ := D_law_stir.ex
  refine Dfn.mk' A0 fun f fd F => F.ok (CX := L2N.CX P w) sc_law_hues (fun vs H Q E h => ?_) (fun cdv A outer s H vs Q E hr h => ?_)
  · obtain ⟨S0, cell, many, rfl, e0, h⟩ := h
    rfl
  · obtain ⟨S0, cell, many, rfl, e0, h⟩ := h
    unfold m_law_hues at h
    have g : Gx [] S0 H S0 H := Gx.refl e0
    refine ⟨_, pss_cons (ps_set (i := 2) sc_law_hues.nd rfl (by first | exact Or.inl rfl | exact Or.inr rfl) (pe_op op_mod (pe_call ok_law_stir' (hr.mono (by decide)) (by rfl) mg_law_stir kp_law_stir bd_law_stir .nil (L2N.passes_call (L2N.takes_of rfl rfl rfl rfl) fun _ _ _ _ h => h) (pa_cons (pv 0) (pa_cons pe_int pa_nil))) pe_int)) (pss_cons (ps_set (i := 3) sc_law_hues.nd rfl (by first | exact Or.inl rfl | exact Or.inr rfl) (pe_lst pa_nil)) (pss_cons (ps_for (passes_of rfl) rfl (pi_range1 (by rfl) n_range (pa_cons (pv 1) pa_nil)) (pg_name (i := 4) sc_law_hues.nd rfl (by first | exact Or.inl rfl | exact Or.inr rfl)) (pss_cons (ps_set (i := 5) sc_law_hues.nd rfl (by first | exact Or.inl rfl | exact Or.inr rfl) (pe_call ok_law_stir' (hr.mono (by decide)) (by rfl) mg_law_stir kp_law_stir bd_law_stir .nil (L2N.passes_call (L2N.takes_of rfl rfl rfl rfl) fun _ _ _ _ h => h) (pa_cons (pv 0) (pa_cons (pe_op op_add pe_int (pv 4)) pa_nil)))) (pss_one (ps_expr (pe_K (K := K) (pe_bm PySem.F.plainAttrs_list PySem.F.slot_list_append PySem.F.type_list_append mt_append (pv 3) (pa_cons (pe_ix (ix_listK (K := K)) (pe_lst (pa_cons (pe_op op_mod (pv 5) pe_int) (pa_cons (pe_op op_sub (pe_op op_mod (pv 5) pe_int) pe_int) (pa_cons (pe_op op_mul (pe_op op_sub (pv 5) pe_int) (pe_op op_pow pe_int pe_int)) (pa_cons (pe_op op_sub (pe_op op_mul pe_int (pv 4)) pe_int) (pa_cons (pe_op op_mod (pv 5) pe_int) pa_nil)))))) (pv 2) (fun _ _ => rfl)) pa_nil))))))) (pss_one (ps_ret (pv 3))))), ?_⟩
    refine i_start (σ := [some (V.int (cell)), some (V.int (many)), none, none, none, none]) rfl ?_
    refine i_seq ?_
    refine i_asg ?_
    refine i_op ?_
    refine i_call ?_
    refine i_cons ?_
    refine i_var rfl ?_
    refine i_cons ?_
    refine i_c ?_
    refine i_nil ?_
    refine ⟨S0, cell, 3, rfl, g.sh, wpm_mono (wb h) (fun t1 h S2 H3 gs => ?_) (fun c he S1 H1 gs => he _ _ (g.trans0 gs))⟩
    replace g := g.trans0 gs
    refine i_c ?_
    refine i_I (by decide) ?_
    refine i_nameE (σ' := [_, _, some (V.int ((t1 % 5))), _, _, _]) rfl ?_
    refine nx_seq ?_
    refine i_seq ?_
    refine i_asg ?_
    refine i_lst ?_
    refine i_nil ?_
    refine s_lstO (K := K) (xs := ([] : List Int)) g All2.nil (show (0 : Nat) ≤ 16777216 by decide) (fun p4 H6 gA gs hp_p4 o_p4 => ?_)
    have f0_p4 := Gx.back g hp_p4
    replace g := gA
    refine i_nameE (σ' := [_, _, _, some (V.ref p4), _, _]) rfl ?_
    refine nx_seq ?_
    refine i_seq ?_
    refine i_for ?_
    refine i_rng1 (i_cons ?_)
    refine i_var rfl ?_
    refine i_nil ?_
    refine i_rng1A h (fun h => ?_)
    have hm7 : ∀ x ∈ [p4], x ∈ [] ∨ H x = none := by
      intro x hx
      simp only [List.mem_append, List.mem_cons, List.not_mem_nil, or_false] at hx
      rcases hx with rfl
      · exact (Or.symm (.inl f0_p4))
    have wk7 : Wk K (Itr 0 ((many : Int) - 0).toNat) (rng 0 many) (fun (st7 : (List Int)) σ' S' H' => ∃ (j_one : Option V) (j_k : Option V), σ' = [some (V.int (cell)), some (V.int (many)), some (V.int ((t1 % 5))), some (V.ref p4), j_k, j_one] ∧ Gx [p4] S2 H6 S' H' ∧ OwnL K S' H' p4 st7) := by
      refine wk_rng fun st σ2 S2 H2 hR => ?_
      obtain ⟨j_one, j_k, rfl, gl7, o_p4⟩ := hR
      exact gl7.sh
    refine s_forM (R := (fun (st7 : (List Int)) σ' S' H' => ∃ (j_one : Option V) (j_k : Option V), σ' = [some (V.int (cell)), some (V.int (many)), some (V.int ((t1 % 5))), some (V.ref p4), j_k, j_one] ∧ Gx [p4] S2 H6 S' H' ∧ OwnL K S' H' p4 st7)) (s0 := ([] : List Int)) wk7 ⟨_, _, rfl, (Gx.refl g.sh), o_p4⟩ h (fun y7 v7 st7 σ1 S7a H7a S7b H7b P7 hR gs rv h => ?_) (fun st7 σ1 S7j H7j hR h => ?_)
    · obtain ⟨j_one, j_k, rfl, gl7, o_p4⟩ := hR
      replace o_p4 := OwnL.keep0 o_p4 gs
      replace gl7 := gl7.trans0 gs
      obtain rfl := rv
      refine i_nameE (σ' := [_, _, _, _, some (V.int (y7)), _]) rfl ?_
      refine i_seq ?_
      refine i_asg ?_
      refine i_call ?_
      refine i_cons ?_
      refine i_var rfl ?_
      refine i_cons ?_
      refine i_op ?_
      refine i_c ?_
      refine i_var rfl ?_
      refine i_I0 ?_
      refine i_nil ?_
      refine ⟨S7b, cell, (430 + y7), rfl, gl7.sh, wpm_mono (wb h) (fun t8 h S9 H10 gs => ?_) (fun c he S1 H1 gs => he _ _ (g.trans (gl7.trans0 gs) hm7))⟩
      replace o_p4 := OwnL.keep0 o_p4 gs
      replace gl7 := gl7.trans0 gs
      refine i_nameE (σ' := [_, _, _, _, _, some (V.int (t8))]) rfl ?_
      refine nx_seq ?_
      refine i_drop ?_
      refine i_bm ?_
      refine i_var rfl ?_
      refine s_bmL o_p4.hp ?_
      refine i_cons ?_
      refine i_op ?_
      refine i_lst ?_
      refine i_cons ?_
      refine i_op ?_
      refine i_var rfl ?_
      refine i_c ?_
      refine i_I (by decide) ?_
      refine i_cons ?_
      refine i_op ?_
      refine i_op ?_
      refine i_var rfl ?_
      refine i_c ?_
      refine i_I (by decide) ?_
      refine i_c ?_
      refine i_I0 ?_
      refine i_cons ?_
      refine i_op ?_
      refine i_op ?_
      refine i_var rfl ?_
      refine i_c ?_
      refine i_I0 ?_
      refine i_op ?_
      refine i_c ?_
      refine i_c ?_
      refine s_pow (k := 10000000000000000000000000) ⟨by decide, by decide, by decide⟩ (by decide +kernel) ?_
      refine s_mul h (fun h => ?_)
      refine i_cons ?_
      refine i_op ?_
      refine i_op ?_
      refine i_c ?_
      refine i_var rfl ?_
      refine i_I (by first | exact .inl (by decide) | exact .inr (by decide)) ?_
      refine i_c ?_
      refine i_I0 ?_
      refine i_cons ?_
      refine i_op ?_
      refine i_var rfl ?_
      refine i_c ?_
      refine i_I (by decide) ?_
      refine i_nil ?_
      refine s_lstS (K := K) (xs := ([(t8 % 2), ((t8 % 9) - 4), ((t8 - 32768) * 10000000000000000000000000), ((7 * y7) - 50), (t8 % 60)] : List Int)) gl7 (All2.cons rfl (All2.cons rfl (All2.cons rfl (All2.cons rfl (All2.cons rfl All2.nil))))) (show (5 : Nat) ≤ 16777216 by decide) (fun p11 S12 H13 gA gs r_p11 => ?_)
      replace o_p4 := OwnL.keep0 o_p4 gs
      replace gl7 := gA
      refine i_var rfl ?_
      refine s_idxF (r_p11.hp gl7.sh) h (fun t14 h => ?_)
      refine i_nil ?_
      refine s_app (x := t14) gl7 o_p4 (.inr (by simp)) rfl h (fun H15 gA oA heq h => ?_)
      replace gl7 := gA
      replace o_p4 := oA
      exact ⟨_, _, h, _, _, rfl, gl7, o_p4⟩
    obtain ⟨j_one, j_k, rfl, gl7, o_p4⟩ := hR
    replace g := g.trans gl7 hm7
    refine nx_seq ?_
    refine i_ret ?_
    refine i_var rfl ?_
    exact h _ _ _ g f0_p4 o_p4

abbrev s_law_same : PySem.Stmt := topS 27
theorem sc_law_same : FnScope ["found", "due", "one", "other"] ["found", "due"] (defScope s_law_same) := ⟨rfl, rfl, rfl, by decide +kernel, rfl, by decide +kernel, by decide +kernel⟩

def sp_law_same (K : Fr) (fuel : Nat) : Sp := fun vs H Q E => ∃ (S0 : Hp) (v_found : V) (found : PyData) (v_due : V) (due : PyData), vs = [v_found, v_due] ∧ Ex S0 H ∧ Py.rep K S0 v_found found ∧ Py.rep K S0 v_due due ∧ wpm (m_law_same fuel found due) (fun r => ∀ S' H', Gx [] S0 H S' H' → Q (V.bl (r)) H') (fun c => ∀ S' H', Gx [] S0 H S' H' → E (.ref (caOf K c)) none H')

theorem ok_law_same {P : Program} {w : World} {K : Fr} {mg : PySem.Str → Option Value} {base : Heap} (A0 : At K mg "_law_same" s_law_same ["found", "due"]) (n_isinstance : mg "isinstance" = none) (n_str : mg "str" = none) (n_list : mg "list" = none) (n_tuple : mg "tuple" = none) (n_len : mg "len" = none) (n_zip : mg "zip" = none) (n_int : mg "int" = none) (n_bool : mg "bool" = none) : ∀ fuel, Dfn P w K mg base "_law_same" (fuel + 1) ["found", "due"] (sp_law_same K fuel) := by
  intro fuel
  induction fuel with
  | zero =>
    refine Dfn.mk' A0 fun f fd F => F.ok (CX := L2N.CX P w) sc_law_same (fun vs H Q E h => ?_) (fun cdv A outer s H vs Q E hr h => ?_)
    · obtain ⟨S0, v_found, found, v_due, due, rfl, e0, r_found, r_due, h⟩ := h
      rfl
    · obtain ⟨S0, v_found, found, v_due, due, rfl, e0, r_found, r_due, h⟩ := h
      exact h.elim
  | succ fuel ih =>
    obtain ⟨f_law_same, fd_law_same, mg_law_same, kp_law_same, bd_law_same, ok_law_same'⟩ := ih.ex
    refine Dfn.mk' A0 fun f fd F => F.ok (CX := L2N.CX P w) sc_law_same (fun vs H Q E h => ?_) (fun cdv A outer s H vs Q E hr h => ?_)
    · obtain ⟨S0, v_found, found, v_due, due, rfl, e0, r_found, r_due, h⟩ := h
      rfl
    · obtain ⟨S0, v_found, found, v_due, due, rfl, e0, r_found, r_due, h⟩ := h
      rw [m_law_same] at h
      have g : Gx [] S0 H S0 H := Gx.refl e0
      refine ⟨_, pss_cons (ps_if (pt_cmpR op_isNG (pv 1) pe_non (nomark _)) (pss_one (ps_ret (pe_cmpR op_isNG (pv 0) pe_non (nomark _)))) pss_nil) (pss_cons (ps_if (pt_val (pe_callB (call_isK (K := K)) (by rfl) n_isinstance (by decide +kernel) (pa_cons (pv 1) (pa_cons (pe_bltn (v := .ty "str") (by rfl) n_str (by decide +kernel) rfl) pa_nil)))) (pss_one (ps_ret (pe_and (pe_callB (call_isK (K := K)) (by rfl) n_isinstance (by decide +kernel) (pa_cons (pv 0) (pa_cons (pe_bltn (v := .ty "str") (by rfl) n_str (by decide +kernel) rfl) pa_nil))) (pe_one (pe_cmpR (op_eqK (K := K) hr.units) (pv 0) (pv 1) (nomark _)))))) pss_nil) (pss_cons (ps_if (pt_val (pe_callB (call_isTK (K := K)) (by rfl) n_isinstance (by decide +kernel) (pa_cons (pv 1) (pa_cons (pe_tup (pa_cons (pe_bltn (v := .ty "list") (by rfl) n_list (by decide +kernel) rfl) (pa_cons (pe_bltn (v := .ty "tuple") (by rfl) n_tuple (by decide +kernel) rfl) pa_nil))) pa_nil)))) (pss_cons (ps_if (PW.pt (pw_or (pt_cmpR op_ne (pe_callB (call_isK (K := K)) (by rfl) n_isinstance (by decide +kernel) (pa_cons (pv 0) (pa_cons (pe_bltn (v := .ty "list") (by rfl) n_list (by decide +kernel) rfl) pa_nil))) (pe_callB (call_isK (K := K)) (by rfl) n_isinstance (by decide +kernel) (pa_cons (pv 1) (pa_cons (pe_bltn (v := .ty "list") (by rfl) n_list (by decide +kernel) rfl) pa_nil))) (nomark _)) (pw_or1 (pt_not (pt_val (pe_callB (call_isTK (K := K)) (by rfl) n_isinstance (by decide +kernel) (pa_cons (pv 0) (pa_cons (pe_tup (pa_cons (pe_bltn (v := .ty "list") (by rfl) n_list (by decide +kernel) rfl) (pa_cons (pe_bltn (v := .ty "tuple") (by rfl) n_tuple (by decide +kernel) rfl) pa_nil))) pa_nil)))))))) (pss_one (ps_ret pe_bl)) pss_nil) (pss_cons (ps_if (pt_cmpR op_ne (pe_callB (call_lenK (K := K)) (by rfl) n_len (by decide +kernel) (pa_cons (pv 0) pa_nil)) (pe_callB (call_lenK (K := K)) (by rfl) n_len (by decide +kernel) (pa_cons (pv 1) pa_nil)) (nomark _)) (pss_one (ps_ret pe_bl)) pss_nil) (pss_one (ps_ret (pe_cmpR (op_eqK (K := K) hr.units) (pe_lc (own := [("one", 2), ("other", 3)]) (by rfl) sc_law_same.nd (pi_lenK (K := K) (pi_zipAK (K := K) rfl (pi_zipA (by rfl) n_zip (pa_cons (pv 0) (pa_cons (pv 1) pa_nil))))) (blkOk_by (own := [("one", 2), ("other", 3)]) (N := ["found", "due", "one", "other"]) (sc := defScope s_law_same) (by decide +kernel)) (fun _ _ _ _ _ => pg_tupK (K := K) (n := 2) rfl (pgs_cons (pg_name (i := 2) sc_law_same.nd rfl (by first | exact Or.inl rfl | exact Or.inr rfl)) (pgs_cons (pg_name (i := 3) sc_law_same.nd rfl (by first | exact Or.inl rfl | exact Or.inr rfl)) pgs_nil))) (fun _ _ _ _ _ => pts_one (pt_not (pt_val (pe_call ok_law_same' hr (by rfl) mg_law_same kp_law_same bd_law_same .nil passLN (pa_cons (pv 2) (pa_cons (pv 3) pa_nil)))))) (fun _ _ _ _ _ => pe_int)) (pe_lst pa_nil) (nomark _)))))) pss_nil) (pss_one (ps_ret (pe_and (pe_callB (call_isK (K := K)) (by rfl) n_isinstance (by decide +kernel) (pa_cons (pv 0) (pa_cons (pe_bltn (v := .ty "int") (by rfl) n_int (by decide +kernel) rfl) pa_nil))) (pe_and (pe_not (pe_callB (call_isK (K := K)) (by rfl) n_isinstance (by decide +kernel) (pa_cons (pv 0) (pa_cons (pe_bltn (v := .ty "bool") (by rfl) n_bool (by decide +kernel) rfl) pa_nil)))) (pe_one (pe_cmpR (op_eqK (K := K) hr.units) (pv 0) (pv 1) (nomark _))))))))), ?_⟩
      refine i_start (σ := [some v_found, some v_due, none, none]) rfl ?_
      refine i_seq ?_
      refine i_if ?_
      refine i_test ?_
      refine i_op ?_
      refine i_var rfl ?_
      refine i_c ?_
      refine s_isN (isN_dat r_due) ?_
      refine i_bl ?_
      refine ite2b (fun hb1 => ?_) (fun hb1 => ?_)
      · replace h := wpm_t hb1 h
        refine i_ret ?_
        refine i_op ?_
        refine i_var rfl ?_
        refine i_c ?_
        refine s_isN (isN_dat r_found) ?_
        exact h _ _ g
      · replace h := wpm_f hb1 h
        refine i_next ?_
        refine nx_seq ?_
        refine i_seq ?_
        refine i_if ?_
        refine i_B ?_
        refine i_cb (i_cons ?_)
        refine i_var rfl ?_
        refine i_cons (i_c (i_nil ?_))
        refine s_isi isTy_str g.sh r_due ?_
        refine i_bl ?_
        refine ite2b (fun hb2 => ?_) (fun hb2 => ?_)
        · replace h := wpm_t hb2 h
          refine i_ret ?_
          refine i_andV ?_
          refine i_cb (i_cons ?_)
          refine i_var rfl ?_
          refine i_cons (i_c (i_nil ?_))
          refine s_isi isTy_str g.sh r_found ?_
          refine andV_m h g.sh (fun ha4 PB N h hN => ?_) (fun t5 S6 H7 gs h => ?_)
          · have gm3 : Gx [] S0 H S0 H := Gx.refl g.sh
            refine i_op ?_
            refine i_var rfl ?_
            refine i_var rfl ?_
            refine s_eqDat gm3.sh r_found r_due h (fun t8 h => ?_)
            exact hN _ _ _ gm3 h
          replace r_found := Py.mono gs.s r_found
          replace r_due := Py.mono gs.s r_due
          replace g := g.trans0 gs
          exact h _ _ g
        · replace h := wpm_f hb2 h
          refine i_next ?_
          refine nx_seq ?_
          refine i_seq ?_
          refine i_if ?_
          refine i_B ?_
          refine i_cb (i_cons ?_)
          refine i_var rfl ?_
          refine i_cons (i_tup (i_cons (i_c (i_cons (i_c (i_nil ?_))))))
          refine s_tupO g (show (2 : Nat) ≤ 16777216 by decide) (fun p9 H10 gA gs hT_p9 => ?_)
          replace r_found := Py.mono gs.s r_found
          replace r_due := Py.mono gs.s r_due
          replace g := gA
          refine i_nil ?_
          refine s_isiT2 isTy_list isTy_tuple g.sh r_due hT_p9 ?_
          refine i_bl ?_
          refine ite2b (fun hb11 => ?_) (fun hb11 => ?_)
          · replace h := wpm_t hb11 h
            refine i_seq ?_
            refine i_if ?_
            refine i_or ?_
            refine i_test ?_
            refine i_op ?_
            refine i_cb (i_cons ?_)
            refine i_var rfl ?_
            refine i_cons (i_c (i_nil ?_))
            refine s_isi isTy_list g.sh r_found ?_
            refine i_cb (i_cons ?_)
            refine i_var rfl ?_
            refine i_cons (i_c (i_nil ?_))
            refine s_isi isTy_list g.sh r_due ?_
            refine i_neB ?_
            refine i_bl ?_
            refine or_m h g.sh (fun ha13 PB N h hN => ?_) (fun t14 S15 H16 gs h => ?_)
            · have gm12 : Gx [] S0 H10 S0 H10 := Gx.refl g.sh
              refine i_not ?_
              refine i_B ?_
              refine i_cb (i_cons ?_)
              refine i_var rfl ?_
              refine i_cons (i_tup (i_cons (i_c (i_cons (i_c (i_nil ?_))))))
              refine s_tupO gm12 (show (2 : Nat) ≤ 16777216 by decide) (fun p17 H18 gA gs hT_p17 => ?_)
              replace r_found := Py.mono gs.s r_found
              replace r_due := Py.mono gs.s r_due
              replace gm12 := gA
              refine i_nil ?_
              refine s_isiT2 isTy_list isTy_tuple gm12.sh r_found hT_p17 ?_
              refine i_bl ?_
              exact hN _ _ _ gm12 h
            replace r_found := Py.mono gs.s r_found
            replace r_due := Py.mono gs.s r_due
            replace g := g.trans0 gs
            refine ite2b (fun hb19 => ?_) (fun hb19 => ?_)
            · replace h := wpm_t hb19 h
              refine i_ret ?_
              refine i_c ?_
              exact h _ _ g
            · replace h := wpm_f hb19 h
              refine i_next ?_
              refine nx_seq ?_
              refine i_seq ?_
              refine i_if ?_
              refine i_test ?_
              refine i_op ?_
              refine i_cb ?_
              refine i_cons ?_
              refine i_var rfl ?_
              refine i_nil ?_
              refine s_dlen g.sh r_found h (fun t20 h => ?_)
              refine i_cb ?_
              refine i_cons ?_
              refine i_var rfl ?_
              refine i_nil ?_
              refine s_dlen g.sh r_due h (fun t21 h => ?_)
              refine i_neI ?_
              refine i_bl ?_
              refine ite2b (fun hb22 => ?_) (fun hb22 => ?_)
              · replace h := wpm_t hb22 h
                refine i_ret ?_
                refine i_c ?_
                exact h _ _ g
              · replace h := wpm_f hb22 h
                refine i_next ?_
                refine nx_seq ?_
                refine i_ret ?_
                refine i_op ?_
                refine i_lc ?_
                refine i_len ?_
                refine i_zipA2 (i_cons ?_)
                refine i_var rfl ?_
                refine i_cons ?_
                refine i_var rfl ?_
                refine i_nil ?_
                refine s_zipD g.sh r_found r_due h (fun J24 zs25 hJ26 h => ?_)
                intro hlen
                obtain ⟨hl, h⟩ := wpm_guard h
                have wk23 : Wk K J24 zs25 (fun (_ : Unit) (_ : St) S' H' => Gx [] S15 H16 S' H') := by
                  refine (hJ26 _ _) fun st σ2 S2 H2 gl => ?_
                  exact ⟨gl.s, gl.sh⟩
                refine s_compS (β := Int) wk23 (line_le hl) g h (fun y23 v23 S23c H23c P23 T F gc23 rv h hT hF => ?_) (fun p39 S40 H41 t38 gA gs r_p39 h => ?_)
                · replace r_found := Py.mono gc23.s r_found
                  replace r_due := Py.mono gc23.s r_due
                  have r27 := rv
                  obtain ⟨a28, rfl⟩ := rep_ref r27
                  obtain ⟨_, hs29, v30, _, rfl, r31, v32, _, rfl, r33, rfl⟩ := rep_at r27
                  refine i_gtup (ex_t gc23.sh hs29) rfl ?_
                  refine i_gcons ?_
                  refine i_nameE (σ' := [_, _, some v30, _]) rfl ?_
                  refine i_gcons ?_
                  refine i_nameE (σ' := [_, _, _, some v32]) rfl ?_
                  refine i_gnil ?_
                  refine ⟨rfl, ?_⟩
                  have gt23 : Gx [] S23c H23c S23c H23c := Gx.refl gc23.sh
                  refine i_not ?_
                  refine i_B ?_
                  refine i_call ?_
                  refine i_cons ?_
                  refine i_var rfl ?_
                  refine i_cons ?_
                  refine i_var rfl ?_
                  refine i_nil ?_
                  refine ⟨S23c, v30, y23.1, v32, y23.2.1, rfl, gt23.sh, r31, r33, wpm_mono (wb_ne h) (fun t34 h S35 H36 gs => ?_) (fun c he => he.elim)⟩
                  replace r_found := Py.mono gs.s r_found
                  replace r_due := Py.mono gs.s r_due
                  replace r31 := Py.mono gs.s r31
                  replace r33 := Py.mono gs.s r33
                  replace gt23 := gt23.trans0 gs
                  refine i_bl ?_
                  refine ite2b (fun hb37 => ?_) (fun hb37 => ?_)
                  · replace h := wpm_t hb37 h
                    refine i_c ?_
                    exact hT _ _ _ _ h gt23 (Flat.is.2 rfl)
                  · replace h := wpm_f hb37 h
                    exact hF _ _ h gt23
                replace r_found := Py.mono gs.s r_found
                replace r_due := Py.mono gs.s r_due
                replace g := gA
                refine i_lst ?_
                refine i_nil ?_
                refine s_lstS (K := K) (xs := ([] : List Int)) g All2.nil (show (0 : Nat) ≤ 16777216 by decide) (fun p42 S43 H44 gA gs r_p42 => ?_)
                replace r_found := Py.mono gs.s r_found
                replace r_due := Py.mono gs.s r_due
                replace r_p39 := RepL.mono gs.s r_p39
                replace g := gA
                refine s_eqDD (x := (t38 : List Int)) (y := (([] : List Int) : List Int)) (Dp.mono g.sh (PyD.dp (rep_list r_p39))) (Dp.mono g.sh (PyD.dp (rep_list r_p42))) ?_
                exact h _ _ g
          · replace h := wpm_f hb11 h
            refine i_next ?_
            refine nx_seq ?_
            refine i_ret ?_
            refine i_andV ?_
            refine i_cb (i_cons ?_)
            refine i_var rfl ?_
            refine i_cons (i_c (i_nil ?_))
            refine s_isi isTy_int g.sh r_found ?_
            refine andV_m h g.sh (fun ha46 PB N h hN => ?_) (fun t47 S48 H49 gs h => ?_)
            · have gm45 : Gx [] S0 H10 S0 H10 := Gx.refl g.sh
              refine i_andV ?_
              refine i_notV ?_
              refine i_cb (i_cons ?_)
              refine i_var rfl ?_
              refine i_cons (i_c (i_nil ?_))
              refine s_isi isTy_bool gm45.sh r_found ?_
              refine i_blN ?_
              refine andV_m h gm45.sh (fun ha51 PB N h hN => ?_) (fun t52 S53 H54 gs h => ?_)
              · have gm50 : Gx [] S0 H10 S0 H10 := Gx.refl gm45.sh
                refine i_op ?_
                refine i_var rfl ?_
                refine i_var rfl ?_
                refine s_eqDat gm50.sh r_found r_due h (fun t55 h => ?_)
                exact hN _ _ _ gm50 h
              replace r_found := Py.mono gs.s r_found
              replace r_due := Py.mono gs.s r_due
              replace gm45 := gm45.trans0 gs
              exact hN _ _ _ gm45 h
            replace r_found := Py.mono gs.s r_found
            replace r_due := Py.mono gs.s r_due
            replace g := g.trans0 gs
            exact h _ _ g

abbrev s_law_flags : PySem.Stmt := topS 28
theorem sc_law_flags : FnScope ["e", "found"] ["e"] (defScope s_law_flags) := ⟨rfl, rfl, rfl, by decide +kernel, rfl, by decide +kernel, by decide +kernel⟩

def sp_law_flags (K : Fr) : Sp := fun vs H Q E => ∃ (S0 : Hp) (v_e : V) (e : XC), vs = [v_e] ∧ Ex S0 H ∧ Py.rep K S0 v_e e ∧ wpm (m_law_flags e) (fun r => ∀ p S' H', Gx [] S0 H S' H' → RepL K S' p r → Q (.ref p) H') (fun c => ∀ S' H', Gx [] S0 H S' H' → E (.ref (caOf K c)) none H')

theorem ok_law_flags {P : Program} {w : World} {K : Fr} {mg : PySem.Str → Option Value} {base : Heap} (A0 : At K mg "_law_flags" s_law_flags ["e"]) (n_isinstance : mg "isinstance" = none) (n_ValueError : mg "ValueError" = none) (xc_NoTree : XcOk K mg (caOf K) .tree "NoTree") (xc_NoHues : XcOk K mg (caOf K) .hues "NoHues") (xc_NoPlace : XcOk K mg (caOf K) .place "NoPlace") (xc_NoPart : XcOk K mg (caOf K) .part "NoPart") (xc_NoNumber : XcOk K mg (caOf K) .number "NoNumber") (xc_NoLeaf : XcOk K mg (caOf K) .leaf "NoLeaf") (xc_NoText : XcOk K mg (caOf K) .text "NoText") (xc_NoForm : XcOk K mg (caOf K) .form "NoForm") (xc_NoneYet : XcOk K mg (caOf K) .yet "NoneYet") (XF : XcF K) : DfnQ P w K mg base "_law_flags" 1 ["e"] (sp_law_flags K) := by
  refine DfnQ.mk' A0 fun f fd F => FunD.okQ F sc_law_flags (fun vs H Q E h => ?_) (fun cdv A outer s H vs Q E hr h => ?_)
  · obtain ⟨S0, v_e, e, rfl, e0, r_e, h⟩ := h
    rfl
  · obtain ⟨S0, v_e, e, rfl, e0, r_e, h⟩ := h
    unfold m_law_flags at h
    have g : Gx [] S0 H S0 H := Gx.refl e0
    refine ⟨_, pss_cons (ps_set (i := 1) sc_law_flags.nd rfl (by first | exact Or.inl rfl | exact Or.inr rfl) (pe_lst (pa_cons (pe_callB (call_isXK (K := K)) (by rfl) n_isinstance (by decide +kernel) (pa_cons (pv 0) (pa_cons (pe_glob (v := .ref (caOf K .tree)) (by rfl) xc_NoTree.mg rfl) pa_nil))) (pa_cons (pe_callB (call_isXK (K := K)) (by rfl) n_isinstance (by decide +kernel) (pa_cons (pv 0) (pa_cons (pe_glob (v := .ref (caOf K .hues)) (by rfl) xc_NoHues.mg rfl) pa_nil))) (pa_cons (pe_callB (call_isXK (K := K)) (by rfl) n_isinstance (by decide +kernel) (pa_cons (pv 0) (pa_cons (pe_glob (v := .ref (caOf K .place)) (by rfl) xc_NoPlace.mg rfl) pa_nil))) (pa_cons (pe_callB (call_isXK (K := K)) (by rfl) n_isinstance (by decide +kernel) (pa_cons (pv 0) (pa_cons (pe_glob (v := .ref (caOf K .part)) (by rfl) xc_NoPart.mg rfl) pa_nil))) pa_nil)))))) (pss_cons (ps_set (i := 1) sc_law_flags.nd rfl (by first | exact Or.inl rfl | exact Or.inr rfl) (pe_op op_cat (pv 1) (pe_lst (pa_cons (pe_callB (call_isXK (K := K)) (by rfl) n_isinstance (by decide +kernel) (pa_cons (pv 0) (pa_cons (pe_glob (v := .ref (caOf K .number)) (by rfl) xc_NoNumber.mg rfl) pa_nil))) (pa_cons (pe_callB (call_isXK (K := K)) (by rfl) n_isinstance (by decide +kernel) (pa_cons (pv 0) (pa_cons (pe_glob (v := .ref (caOf K .leaf)) (by rfl) xc_NoLeaf.mg rfl) pa_nil))) (pa_cons (pe_callB (call_isXK (K := K)) (by rfl) n_isinstance (by decide +kernel) (pa_cons (pv 0) (pa_cons (pe_glob (v := .ref (caOf K .text)) (by rfl) xc_NoText.mg rfl) pa_nil))) (pa_cons (pe_callB (call_isXK (K := K)) (by rfl) n_isinstance (by decide +kernel) (pa_cons (pv 0) (pa_cons (pe_glob (v := .ref (caOf K .form)) (by rfl) xc_NoForm.mg rfl) pa_nil))) pa_nil))))))) (pss_one (ps_ret (pe_op op_cat (pv 1) (pe_lst (pa_cons (pe_callB (call_isXK (K := K)) (by rfl) n_isinstance (by decide +kernel) (pa_cons (pv 0) (pa_cons (pe_glob (v := .ref (caOf K .yet)) (by rfl) xc_NoneYet.mg rfl) pa_nil))) (pa_cons (pe_not (pe_callB (call_isXK (K := K)) (by rfl) n_isinstance (by decide +kernel) (pa_cons (pv 0) (pa_cons (pe_bltn (v := .ty "ValueError") (by rfl) n_ValueError (by decide +kernel) rfl) pa_nil)))) pa_nil))))))), ?_⟩
    refine i_start (σ := [some v_e, none]) rfl ?_
    refine i_seq ?_
    refine i_asg ?_
    refine i_lst ?_
    refine i_cons ?_
    refine i_cb (i_cons ?_)
    refine i_var rfl ?_
    refine i_cons (i_c (i_nil ?_))
    refine s_isX XF g.sh r_e ?_
    refine i_cons ?_
    refine i_cb (i_cons ?_)
    refine i_var rfl ?_
    refine i_cons (i_c (i_nil ?_))
    refine s_isX XF g.sh r_e ?_
    refine i_cons ?_
    refine i_cb (i_cons ?_)
    refine i_var rfl ?_
    refine i_cons (i_c (i_nil ?_))
    refine s_isX XF g.sh r_e ?_
    refine i_cons ?_
    refine i_cb (i_cons ?_)
    refine i_var rfl ?_
    refine i_cons (i_c (i_nil ?_))
    refine s_isX XF g.sh r_e ?_
    refine i_nil ?_
    refine s_lstS (K := K) (xs := ([(xcSub e .tree), (xcSub e .hues), (xcSub e .place), (xcSub e .part)] : List Bool)) g (All2.cons rfl (All2.cons rfl (All2.cons rfl (All2.cons rfl All2.nil)))) (show (4 : Nat) ≤ 16777216 by decide) (fun p1 S2 H3 gA gs r_p1 => ?_)
    replace r_e := Py.mono gs.s r_e
    replace g := gA
    refine i_nameE (σ' := [_, some (V.ref p1)]) rfl ?_
    refine nx_seq ?_
    refine i_seq ?_
    refine i_asg ?_
    refine i_op ?_
    refine i_var rfl ?_
    refine i_lst ?_
    refine i_cons ?_
    refine i_cb (i_cons ?_)
    refine i_var rfl ?_
    refine i_cons (i_c (i_nil ?_))
    refine s_isX XF g.sh r_e ?_
    refine i_cons ?_
    refine i_cb (i_cons ?_)
    refine i_var rfl ?_
    refine i_cons (i_c (i_nil ?_))
    refine s_isX XF g.sh r_e ?_
    refine i_cons ?_
    refine i_cb (i_cons ?_)
    refine i_var rfl ?_
    refine i_cons (i_c (i_nil ?_))
    refine s_isX XF g.sh r_e ?_
    refine i_cons ?_
    refine i_cb (i_cons ?_)
    refine i_var rfl ?_
    refine i_cons (i_c (i_nil ?_))
    refine s_isX XF g.sh r_e ?_
    refine i_nil ?_
    refine s_lstS (K := K) (xs := ([(xcSub e .number), (xcSub e .leaf), (xcSub e .text), (xcSub e .form)] : List Bool)) g (All2.cons rfl (All2.cons rfl (All2.cons rfl (All2.cons rfl All2.nil)))) (show (4 : Nat) ≤ 16777216 by decide) (fun p4 S5 H6 gA gs r_p4 => ?_)
    replace r_e := Py.mono gs.s r_e
    replace r_p1 := RepL.mono gs.s r_p1
    replace g := gA
    refine s_catS g (r_p1.tp g.sh) (r_p4.tp g.sh) h (fun p8 S9 H10 gA gs r_p8 h => ?_)
    replace r_e := Py.mono gs.s r_e
    replace r_p1 := RepL.mono gs.s r_p1
    replace g := gA
    refine i_nameE (σ' := [_, some (V.ref p8)]) rfl ?_
    refine nx_seq ?_
    refine i_ret ?_
    refine i_op ?_
    refine i_var rfl ?_
    refine i_lst ?_
    refine i_cons ?_
    refine i_cb (i_cons ?_)
    refine i_var rfl ?_
    refine i_cons (i_c (i_nil ?_))
    refine s_isX XF g.sh r_e ?_
    refine i_cons ?_
    refine i_notV ?_
    refine i_cb (i_cons ?_)
    refine i_var rfl ?_
    refine i_cons (i_c (i_nil ?_))
    refine s_isXV XF g.sh r_e ?_
    refine i_blN ?_
    refine i_nil ?_
    refine s_lstS (K := K) (xs := ([(xcSub e .yet), (!true)] : List Bool)) g (All2.cons rfl (All2.cons rfl All2.nil)) (show (2 : Nat) ≤ 16777216 by decide) (fun p11 S12 H13 gA gs r_p11 => ?_)
    replace r_e := Py.mono gs.s r_e
    replace r_p8 := RepL.mono gs.s r_p8
    replace g := gA
    refine s_catS g (r_p8.tp g.sh) (r_p11.tp g.sh) h (fun p15 S16 H17 gA gs r_p15 h => ?_)
    replace r_e := Py.mono gs.s r_e
    replace r_p8 := RepL.mono gs.s r_p8
    replace g := gA
    exact h _ _ _ g r_p15

abbrev s_law_is_tree : PySem.Stmt := topS 29
theorem sc_law_is_tree : FnScope ["parents", "place", "here", "turn", "parent"] ["parents"] (defScope s_law_is_tree) := ⟨rfl, rfl, rfl, by decide +kernel, rfl, by decide +kernel, by decide +kernel⟩

def sp_law_is_tree (K : Fr) : Sp := fun vs H Q E => ∃ (S0 : Hp) (a_parents : Addr) (parents : List (Option Int)), vs = [(V.ref a_parents)] ∧ Ex S0 H ∧ RepL K S0 a_parents parents ∧ wpm (m_law_is_tree parents) (fun r => ∀ S' H', Gx [] S0 H S' H' → Q (V.bl (r)) H') (fun c => ∀ S' H', Gx [] S0 H S' H' → E (.ref (caOf K c)) none H')

theorem ok_law_is_tree {P : Program} {w : World} {K : Fr} {mg : PySem.Str → Option Value} {base : Heap} (A0 : At K mg "_law_is_tree" s_law_is_tree ["parents"]) (n_range : mg "range" = none) (n_len : mg "len" = none) : Dfn P w K mg base "_law_is_tree" 1 ["parents"] (sp_law_is_tree K) := by
  refine Dfn.mk' A0 fun f fd F => F.ok (CX := L2N.CX P w) sc_law_is_tree (fun vs H Q E h => ?_) (fun cdv A outer s H vs Q E hr h => ?_)
  · obtain ⟨S0, a_parents, parents, rfl, e0, r_parents, h⟩ := h
    rfl
  · obtain ⟨S0, a_parents, parents, rfl, e0, r_parents, h⟩ := h
    unfold m_law_is_tree at h
    have g : Gx [] S0 H S0 H := Gx.refl e0
    refine ⟨_, pss_cons (ps_if (pt_cmpR (op_neK (K := K) hr.units) (pe_lc (own := [("parent", 4)]) (by rfl) sc_law_is_tree.nd (pi_lenK (K := K) (pi_listK (K := K) (pv 0))) (blkOk_by (own := [("parent", 4)]) (N := ["parents", "place", "here", "turn", "parent"]) (sc := defScope s_law_is_tree) (by decide +kernel)) (fun _ _ _ _ _ => (pg_name (i := 4) sc_law_is_tree.nd rfl (by first | exact Or.inl rfl | exact Or.inr rfl))) (fun _ _ _ _ _ => pts_one (pt_cmpR op_isNG (pv 4) pe_non (nomark _))) (fun _ _ _ _ _ => pe_int)) (pe_lst (pa_cons pe_int pa_nil)) (nomark _)) (pss_one (ps_ret pe_bl)) pss_nil) (pss_cons (ps_for (passes_of rfl) rfl (pi_range1 (by rfl) n_range (pa_cons (pe_callB (call_lenK (K := K)) (by rfl) n_len (by decide +kernel) (pa_cons (pv 0) pa_nil)) pa_nil)) (pg_name (i := 1) sc_law_is_tree.nd rfl (by first | exact Or.inl rfl | exact Or.inr rfl)) (pss_cons (ps_set (i := 2) sc_law_is_tree.nd rfl (by first | exact Or.inl rfl | exact Or.inr rfl) (pv 1)) (pss_cons (ps_for (passes_of rfl) rfl (pi_range1 (by rfl) n_range (pa_cons (pe_callB (call_lenK (K := K)) (by rfl) n_len (by decide +kernel) (pa_cons (pv 0) pa_nil)) pa_nil)) (pg_name (i := 3) sc_law_is_tree.nd rfl (by first | exact Or.inl rfl | exact Or.inr rfl)) (pss_one (ps_if (PW.pt (pw_and (pt_cmpR op_notNG (pv 2) pe_non (nomark _)) (pw_and (pt_chain op_le op_lt pe_int (pv 2) (pe_callB (call_lenK (K := K)) (by rfl) n_len (by decide +kernel) (pa_cons (pv 0) pa_nil))) (pw_and1 (pt_cmpR op_notNG (pe_ix (ix_listK (K := K)) (pv 0) (pv 2) (fun _ _ => rfl)) pe_non (nomark _)))))) (pss_one (ps_set (i := 2) sc_law_is_tree.nd rfl (by first | exact Or.inl rfl | exact Or.inr rfl) (pe_ix (ix_listK (K := K)) (pv 0) (pv 2) (fun _ _ => rfl)))) pss_nil))) (pss_one (ps_if (PW.pt (pw_or (pt_not (pt_chain op_le op_lt pe_int (pv 2) (pe_callB (call_lenK (K := K)) (by rfl) n_len (by decide +kernel) (pa_cons (pv 0) pa_nil)))) (pw_or1 (pt_cmpR op_notNG (pe_ix (ix_listK (K := K)) (pv 0) (pv 2) (fun _ _ => rfl)) pe_non (nomark _))))) (pss_one (ps_ret pe_bl)) pss_nil))))) (pss_one (ps_ret pe_bl))), ?_⟩
    refine i_start (σ := [some (V.ref a_parents), none, none, none, none]) rfl ?_
    refine i_seq ?_
    refine i_if ?_
    refine i_test ?_
    refine i_op ?_
    refine i_lc ?_
    refine i_len ?_
    refine i_list ?_
    refine i_var rfl ?_
    refine i_listA (r_parents.hp g.sh) ?_
    intro hlen
    have wk1 : Wk K (Itl K a_parents) parents (fun (_ : Unit) (_ : St) S' H' => Gx [] S0 H S' H') := by
      refine wk_list fun st σ2 S2 H2 gl => ?_
      exact ⟨gl.sh, (RepL.hp (RepL.mono gl.s r_parents) gl.sh)⟩
    refine s_compS (β := Int) wk1 (RepH.len (r_parents.hp g.sh) hlen) g h (fun y1 v1 S1c H1c P1 T F gc1 rv h hT hF => ?_) (fun p4 S5 H6 t3 gA gs r_p4 h => ?_)
    · replace r_parents := RepL.mono gc1.s r_parents
      obtain rfl := (Flat.is.1 rv)
      refine i_nameE (σ' := [_, _, _, _, some (optV (y1))]) rfl ?_
      refine ⟨rfl, ?_⟩
      have gt1 : Gx [] S1c H1c S1c H1c := Gx.refl gc1.sh
      refine i_test ?_
      refine i_op ?_
      refine i_var rfl ?_
      refine i_c ?_
      refine s_isN (isN_opt) ?_
      refine i_bl ?_
      refine ite2b (fun hb2 => ?_) (fun hb2 => ?_)
      · replace h := wpm_t hb2 h
        refine i_c ?_
        exact hT _ _ _ _ h gt1 (Flat.is.2 rfl)
      · replace h := wpm_f hb2 h
        exact hF _ _ h gt1
    replace r_parents := RepL.mono gs.s r_parents
    replace g := gA
    refine i_lst ?_
    refine i_cons ?_
    refine i_c ?_
    refine i_nil ?_
    refine s_lstS (K := K) (xs := ([1] : List Int)) g (All2.cons rfl All2.nil) (show (1 : Nat) ≤ 16777216 by decide) (fun p7 S8 H9 gA gs r_p7 => ?_)
    replace r_parents := RepL.mono gs.s r_parents
    replace r_p4 := RepL.mono gs.s r_p4
    replace g := gA
    refine s_neDD (x := (t3 : List Int)) (y := (([1] : List Int) : List Int)) (Dp.mono g.sh (PyD.dp (rep_list r_p4))) (Dp.mono g.sh (PyD.dp (rep_list r_p7))) ?_
    refine i_bl ?_
    refine ite2b (fun hb10 => ?_) (fun hb10 => ?_)
    · replace h := wpm_t hb10 h
      refine i_ret ?_
      refine i_c ?_
      exact h _ _ g
    · replace h := wpm_f hb10 h
      refine i_next ?_
      refine nx_seq ?_
      refine i_seq ?_
      refine i_for ?_
      refine i_rng1 (i_cons ?_)
      refine i_cb ?_
      refine i_cons ?_
      refine i_var rfl ?_
      refine i_nil ?_
      refine s_len (r_parents.hp g.sh) ?_
      refine i_nil ?_
      refine i_rng1A h (fun h => ?_)
      have hm11 : ∀ x ∈ ([] : List Addr), x ∈ [] ∨ H x = none := fun x hx => nomatch hx
      have wk11 : Wk K (Itr 0 (((parents.length : Int) : Int) - 0).toNat) (rng 0 (parents.length : Int)) (fun (st11 : Unit) σ' S' H' => ∃ (j_here : Option V) (j_turn : Option V) (j_place : Option V), σ' = [some (V.ref a_parents), j_place, j_here, j_turn, none] ∧ Gx [] S8 H9 S' H') := by
        refine wk_rng fun st σ2 S2 H2 hR => ?_
        obtain ⟨j_here, j_turn, j_place, rfl, gl11⟩ := hR
        exact gl11.sh
      refine s_forR (R := (fun (st11 : Unit) σ' S' H' => ∃ (j_here : Option V) (j_turn : Option V) (j_place : Option V), σ' = [some (V.ref a_parents), j_place, j_here, j_turn, none] ∧ Gx [] S8 H9 S' H')) (s0 := ()) wk11 ⟨_, _, _, rfl, (Gx.refl g.sh)⟩ h (fun y11 v11 st11 σ1 S11a H11a S11b H11b P11 hret11 hR gs rv h => ?_) (fun st11 σ1 S11j H11j hR h => ?_)
      · obtain ⟨j_here, j_turn, j_place, rfl, gl11⟩ := hR
        replace r_parents := RepL.mono gl11.s r_parents
        replace r_parents := RepL.mono gs.s r_parents
        replace gl11 := gl11.trans0 gs
        obtain rfl := rv
        refine i_nameE (σ' := [_, some (V.int (y11)), _, _, _]) rfl ?_
        refine i_seq ?_
        refine i_asg ?_
        refine i_var rfl ?_
        refine i_nameE (σ' := [_, _, some (V.int (y11)), _, _]) rfl ?_
        refine nx_seq ?_
        refine i_seq ?_
        refine i_for ?_
        refine i_rng1 (i_cons ?_)
        refine i_cb ?_
        refine i_cons ?_
        refine i_var rfl ?_
        refine i_nil ?_
        refine s_len (r_parents.hp gl11.sh) ?_
        refine i_nil ?_
        refine i_rng1A h (fun h => ?_)
        have hm12 : ∀ x ∈ ([] : List Addr), x ∈ [] ∨ H9 x = none := fun x hx => nomatch hx
        have wk12 : Wk K (Itr 0 (((parents.length : Int) : Int) - 0).toNat) (rng 0 (parents.length : Int)) (fun (st12 : (Option Int)) σ' S' H' => ∃ (j_turn : Option V), σ' = [some (V.ref a_parents), some (V.int (y11)), some (optV (st12)), j_turn, none] ∧ Gx [] S11b H11b S' H') := by
          refine wk_rng fun st σ2 S2 H2 hR => ?_
          obtain ⟨j_turn, rfl, gl12⟩ := hR
          exact gl12.sh
        refine s_forM (R := (fun (st12 : (Option Int)) σ' S' H' => ∃ (j_turn : Option V), σ' = [some (V.ref a_parents), some (V.int (y11)), some (optV (st12)), j_turn, none] ∧ Gx [] S11b H11b S' H')) (s0 := (some y11)) wk12 ⟨_, rfl, (Gx.refl gl11.sh)⟩ h (fun y12 v12 st12 σ1 S12a H12a S12b H12b P12 hR gs rv h => ?_) (fun st12 σ1 S12j H12j hR h => ?_)
        · obtain ⟨j_turn, rfl, gl12⟩ := hR
          replace r_parents := RepL.mono gl12.s r_parents
          replace r_parents := RepL.mono gs.s r_parents
          replace gl12 := gl12.trans0 gs
          obtain rfl := rv
          refine i_nameE (σ' := [_, _, _, some (V.int (y12)), _]) rfl ?_
          refine i_if ?_
          refine i_and ?_
          refine i_test ?_
          refine i_op ?_
          refine i_var rfl ?_
          refine i_c ?_
          refine s_notN (isN_opt) ?_
          refine i_bl ?_
          refine and_m h gl12.sh (fun ha14 PB N h hN => ?_) (fun t15 S16 H17 gs h => ?_)
          · have gm13 : Gx [] S12b H12b S12b H12b := Gx.refl gl12.sh
            refine i_and ?_
            refine i_test ?_
            refine i_chain ?_
            refine i_c ?_
            obtain ⟨t18, e19, h⟩ := wpm_unwrap h
            refine i_varU rfl e19 ?_
            refine i_I0 ?_
            refine chain_s (decide (t18 < (parents.length : Int))) (fun N q => ?_) ?_
            · refine i_cb ?_
              refine i_cons ?_
              refine i_var rfl ?_
              refine i_nil ?_
              refine s_len (r_parents.hp gm13.sh) ?_
              refine i_I0 ?_
              exact q
            refine i_bl ?_
            refine and_m h gm13.sh (fun ha21 PB N h hN => ?_) (fun t22 S23 H24 gs h => ?_)
            · have gm20 : Gx [] S12b H12b S12b H12b := Gx.refl gm13.sh
              refine i_test ?_
              refine i_op ?_
              refine i_op ?_
              refine i_var rfl ?_
              obtain ⟨t25, e26, h⟩ := wpm_unwrap h
              refine i_varU rfl e26 ?_
              refine s_idxF (r_parents.hp gm20.sh) h (fun t27 h => ?_)
              refine i_c ?_
              refine s_notN (isN_opt) ?_
              refine i_bl ?_
              exact hN _ _ _ gm20 h
            replace r_parents := RepL.mono gs.s r_parents
            replace gm13 := gm13.trans0 gs
            exact hN _ _ _ gm13 h
          replace r_parents := RepL.mono gs.s r_parents
          replace gl12 := gl12.trans0 gs
          refine ite2b (fun hb28 => ?_) (fun hb28 => ?_)
          · replace h := wpm_t hb28 h
            refine i_asg ?_
            refine i_op ?_
            refine i_var rfl ?_
            obtain ⟨t29, e30, h⟩ := wpm_unwrap h
            refine i_varU rfl e30 ?_
            refine s_idxF (r_parents.hp gl12.sh) h (fun t31 h => ?_)
            refine i_nameE (σ' := [_, _, some (optV (t31)), _, _]) rfl ?_
            exact ⟨_, _, h, _, rfl, gl12⟩
          · replace h := wpm_f hb28 h
            refine i_next ?_
            exact ⟨_, _, h, _, rfl, gl12⟩
        obtain ⟨j_turn, rfl, gl12⟩ := hR
        replace r_parents := RepL.mono gl12.s r_parents
        replace gl11 := gl11.trans gl12 hm12
        refine nx_seq ?_
        refine i_if ?_
        refine i_or ?_
        refine i_not ?_
        refine i_test ?_
        refine i_chain ?_
        refine i_c ?_
        obtain ⟨t32, e33, h⟩ := wpm_unwrap h
        refine i_varU rfl e33 ?_
        refine i_I0 ?_
        refine chain_s (decide (t32 < (parents.length : Int))) (fun N q => ?_) ?_
        · refine i_cb ?_
          refine i_cons ?_
          refine i_var rfl ?_
          refine i_nil ?_
          refine s_len (r_parents.hp gl11.sh) ?_
          refine i_I0 ?_
          exact q
        refine i_bl ?_
        refine or_m h gl11.sh (fun ha35 PB N h hN => ?_) (fun t36 S37 H38 gs h => ?_)
        · have gm34 : Gx [] S12j H12j S12j H12j := Gx.refl gl11.sh
          refine i_test ?_
          refine i_op ?_
          refine i_op ?_
          refine i_var rfl ?_
          obtain ⟨t39, e40, h⟩ := wpm_unwrap h
          refine i_varU rfl e40 ?_
          refine s_idxF (r_parents.hp gm34.sh) h (fun t41 h => ?_)
          refine i_c ?_
          refine s_notN (isN_opt) ?_
          refine i_bl ?_
          exact hN _ _ _ gm34 h
        replace r_parents := RepL.mono gs.s r_parents
        replace gl11 := gl11.trans0 gs
        refine ite2b (fun hb42 => ?_) (fun hb42 => ?_)
        · replace h := wpm_t hb42 h
          refine i_ret ?_
          refine i_c ?_
          exact (hret11 _ h) _ _ (g.trans gl11 hm11)
        · replace h := wpm_f hb42 h
          refine i_next ?_
          exact ⟨_, _, h, _, _, _, rfl, gl11⟩
      obtain ⟨j_here, j_turn, j_place, rfl, gl11⟩ := hR
      replace r_parents := RepL.mono gl11.s r_parents
      replace g := g.trans gl11 hm11
      refine nx_seq ?_
      refine i_ret ?_
      refine i_c ?_
      exact h _ _ g

abbrev s_law_text : PySem.Stmt := topS 30
theorem sc_law_text : FnScope ["parents", "hues", "words", "parent", "hue"] ["parents", "hues"] (defScope s_law_text) := ⟨rfl, rfl, rfl, by decide +kernel, rfl, by decide +kernel, by decide +kernel⟩

def sp_law_text (K : Fr) : Sp := fun vs H Q E => ∃ (S0 : Hp) (a_parents : Addr) (parents : List (Option Int)) (a_hues : Addr) (hues : List Int), vs = [(V.ref a_parents), (V.ref a_hues)] ∧ Ex S0 H ∧ RepL K S0 a_parents parents ∧ RepL K S0 a_hues hues ∧ wpm (m_law_text parents hues) (fun r => ∀ S' H', Gx [] S0 H S' H' → Q (V.str (r)) H') (fun c => ∀ S' H', Gx [] S0 H S' H' → E (.ref (caOf K c)) none H')

theorem ok_law_text {P : Program} {w : World} {K : Fr} {mg : PySem.Str → Option Value} {base : Heap} (A0 : At K mg "_law_text" s_law_text ["parents", "hues"]) (n_zip : mg "zip" = none) (n_str : mg "str" = none) (n_int : mg "int" = none) : Dfn P w K mg base "_law_text" 1 ["parents", "hues"] (sp_law_text K) := by
  refine Dfn.mk' A0 fun f fd F => F.ok (CX := L2N.CX P w) sc_law_text (fun vs H Q E h => ?_) (fun cdv A outer s H vs Q E hr h => ?_)
  · obtain ⟨S0, a_parents, parents, a_hues, hues, rfl, e0, r_parents, r_hues, h⟩ := h
    rfl
  · obtain ⟨S0, a_parents, parents, a_hues, hues, rfl, e0, r_parents, r_hues, h⟩ := h
    unfold m_law_text at h
    have g : Gx [] S0 H S0 H := Gx.refl e0
    refine ⟨_, pss_cons (ps_set (i := 2) sc_law_text.nd rfl (by first | exact Or.inl rfl | exact Or.inr rfl) (pe_lst pa_nil)) (pss_cons (ps_for (passes_of rfl) rfl (pi_zipK2 (K := K) rfl (pi_zip (by rfl) n_zip (pa_cons (pv 0) (pa_cons (pv 1) pa_nil)))) (pg_tupK (K := K) (n := 2) rfl (pgs_cons (pg_name (i := 3) sc_law_text.nd rfl (by first | exact Or.inl rfl | exact Or.inr rfl)) (pgs_cons (pg_name (i := 4) sc_law_text.nd rfl (by first | exact Or.inl rfl | exact Or.inr rfl)) pgs_nil))) (pss_one (ps_expr (pe_K (K := K) (pe_bm PySem.F.plainAttrs_list PySem.F.slot_list_append PySem.F.type_list_append mt_append (pv 2) (pa_cons (pe_op op_addSG (pe_op op_addSG (pe_ix (ix_listK (K := K)) (pe_lst (pa_cons pe_str (pa_cons (pe_callTy call_strG (by rfl) n_str (by decide +kernel) (pa_cons (pv 3) pa_nil)) pa_nil))) (pe_callTy call_int1G (by rfl) n_int (by decide +kernel) (pa_cons (pe_cmpR op_notNG (pv 3) pe_non (nomark _)) pa_nil)) (fun _ _ => rfl)) pe_str) (pe_callTy call_strG (by rfl) n_str (by decide +kernel) (pa_cons (pv 4) pa_nil))) pa_nil)))))) (pss_one (ps_ret (pe_m1 PySem.F.slot_str_join PySem.F.type_str_join mt_joinG pe_str (pv 2))))), ?_⟩
    refine i_start (σ := [some (V.ref a_parents), some (V.ref a_hues), none, none, none]) rfl ?_
    refine i_seq ?_
    refine i_asg ?_
    refine i_lst ?_
    refine i_nil ?_
    refine s_lstO (K := K) (xs := ([] : List (PySem.Str))) g All2.nil (show (0 : Nat) ≤ 16777216 by decide) (fun p1 H3 gA gs hp_p1 o_p1 => ?_)
    have f0_p1 := Gx.back g hp_p1
    replace r_parents := RepL.mono gs.s r_parents
    replace r_hues := RepL.mono gs.s r_hues
    replace g := gA
    refine i_nameE (σ' := [_, _, some (V.ref p1), _, _]) rfl ?_
    refine nx_seq ?_
    refine i_seq ?_
    refine i_for ?_
    refine i_zip (i_cons ?_)
    refine i_var rfl ?_
    refine i_cons ?_
    refine i_var rfl ?_
    refine i_nil ?_
    refine i_zipA (r_parents.hp g.sh) (r_hues.hp g.sh) ?_
    have hm4 : ∀ x ∈ [p1], x ∈ [] ∨ H x = none := by
      intro x hx
      simp only [List.mem_append, List.mem_cons, List.not_mem_nil, or_false] at hx
      rcases hx with rfl
      · exact (Or.symm (.inl f0_p1))
    have wk4 : Wk K (Itz K a_parents a_hues) (zp parents hues) (fun (st4 : (List (PySem.Str))) σ' S' H' => ∃ (j_parent : Option V) (j_hue : Option V), σ' = [some (V.ref a_parents), some (V.ref a_hues), some (V.ref p1), j_parent, j_hue] ∧ Gx [p1] S0 H3 S' H' ∧ OwnL K S' H' p1 st4) := by
      refine wk_zip fun st σ2 S2 H2 hR => ?_
      obtain ⟨j_parent, j_hue, rfl, gl4, o_p1⟩ := hR
      exact ⟨gl4.sh, (RepL.hp (RepL.mono gl4.s r_parents) gl4.sh), (RepL.hp (RepL.mono gl4.s r_hues) gl4.sh)⟩
    refine s_forM (R := (fun (st4 : (List (PySem.Str))) σ' S' H' => ∃ (j_parent : Option V) (j_hue : Option V), σ' = [some (V.ref a_parents), some (V.ref a_hues), some (V.ref p1), j_parent, j_hue] ∧ Gx [p1] S0 H3 S' H' ∧ OwnL K S' H' p1 st4)) (s0 := ([] : List (PySem.Str))) wk4 ⟨_, _, rfl, (Gx.refl g.sh), o_p1⟩ h (fun y4 v4 st4 σ1 S4a H4a S4b H4b P4 hR gs rv h => ?_) (fun st4 σ1 S4j H4j hR h => ?_)
    · obtain ⟨j_parent, j_hue, rfl, gl4, o_p1⟩ := hR
      replace r_parents := RepL.mono gl4.s r_parents
      replace r_hues := RepL.mono gl4.s r_hues
      replace r_parents := RepL.mono gs.s r_parents
      replace r_hues := RepL.mono gs.s r_hues
      replace o_p1 := OwnL.keep0 o_p1 gs
      replace gl4 := gl4.trans0 gs
      have r5 := rv
      obtain ⟨a6, rfl⟩ := rep_ref r5
      obtain ⟨_, hs7, _, _, rfl, r9, _, _, rfl, rfl, rfl⟩ := rep_at r5
      obtain rfl := (Flat.is.1 r9)
      refine i_gtup (ex_t gl4.sh hs7) rfl ?_
      refine i_gcons ?_
      refine i_nameE (σ' := [_, _, _, some (optV (y4.1)), _]) rfl ?_
      refine i_gcons ?_
      refine i_nameE (σ' := [_, _, _, _, some (V.int (y4.2.1))]) rfl ?_
      refine i_gnil ?_
      refine i_drop ?_
      refine i_bm ?_
      refine i_var rfl ?_
      refine s_bmL o_p1.hp ?_
      refine i_cons ?_
      refine i_op ?_
      refine i_op ?_
      refine i_op ?_
      refine i_lst ?_
      refine i_cons ?_
      refine i_c ?_
      refine i_cons ?_
      refine i_cb ?_
      refine i_cons ?_
      refine i_var rfl ?_
      refine i_nil ?_
      refine s_strO h (fun h => ?_)
      refine i_nil ?_
      refine s_lstS (K := K) (xs := ([PySem.Str.ofString "-", (ostr y4.1)] : List (PySem.Str))) gl4 (All2.cons rfl (All2.cons rfl All2.nil)) (show (2 : Nat) ≤ 16777216 by decide) (fun p12 S13 H14 gA gs r_p12 => ?_)
      replace r_parents := RepL.mono gs.s r_parents
      replace r_hues := RepL.mono gs.s r_hues
      replace o_p1 := OwnL.keep0 o_p1 gs
      replace gl4 := gA
      refine i_cb ?_
      refine i_cons ?_
      refine i_op ?_
      refine i_var rfl ?_
      refine i_c ?_
      refine s_notN (isN_opt) ?_
      refine i_nil ?_
      refine s_intB ?_
      refine s_idxF (r_p12.hp gl4.sh) h (fun t15 h => ?_)
      refine i_c ?_
      refine s_cats h (fun t16 h => ?_)
      refine i_cb ?_
      refine i_cons ?_
      refine i_var rfl ?_
      refine i_nil ?_
      refine s_strI h (fun h => ?_)
      refine s_cats h (fun t17 h => ?_)
      refine i_nil ?_
      refine s_app (x := t17) gl4 o_p1 (.inr (by simp)) rfl h (fun H18 gA oA heq h => ?_)
      replace gl4 := gA
      replace o_p1 := oA
      exact ⟨_, _, h, _, _, rfl, gl4, o_p1⟩
    obtain ⟨j_parent, j_hue, rfl, gl4, o_p1⟩ := hR
    replace r_parents := RepL.mono gl4.s r_parents
    replace r_hues := RepL.mono gl4.s r_hues
    replace g := g.trans gl4 hm4
    refine nx_seq ?_
    refine i_ret ?_
    refine i_m1 ?_
    refine i_c ?_
    refine s_m1 ?_
    refine i_var rfl ?_
    refine s_join (K := K) o_p1.hp h (fun h => ?_)
    exact h _ _ g

abbrev s_law_sign : PySem.Stmt := topS 31
theorem sc_law_sign : FnScope ["cell", "k", "wide", "menu"] ["cell", "k"] (defScope s_law_sign) := ⟨rfl, rfl, rfl, by decide +kernel, rfl, by decide +kernel, by decide +kernel⟩

def sp_law_sign (K : Fr) : Sp := fun vs H Q E => ∃ (S0 : Hp) (cell : Int) (k : Int), vs = [(V.int (cell)), (V.int (k))] ∧ Ex S0 H ∧ wpm (m_law_sign cell k) (fun r => ∀ S' H', Gx [] S0 H S' H' → Q (V.str (r)) H') (fun c => ∀ S' H', Gx [] S0 H S' H' → E (.ref (caOf K c)) none H')

theorem ok_law_sign {P : Program} {w : World} {K : Fr} {mg : PySem.Str → Option Value} {base : Heap} (A0 : At K mg "_law_sign" s_law_sign ["cell", "k"]) (D_law_stir : Dfn P w K mg base "_law_stir" 1 ["cell", "k"] (sp_law_stir K)) (n_len : mg "len" = none) : Dfn P w K mg base "_law_sign" 2 ["cell", "k"] (sp_law_sign K) := by
  obtain ⟨f_law_stir, fd_law_stir, mg_law_stir, kp_law_stir, bd_law_stir, ok_law_stir'⟩ := D_law_stir.ex
  refine Dfn.mk' A0 fun f fd F => F.ok (CX := L2N.CX P w) sc_law_sign (fun vs H Q E h => ?_) (fun cdv A outer s H vs Q E hr h => ?_)
  · obtain ⟨S0, cell, k, rfl, e0, h⟩ := h
    rfl
  · obtain ⟨S0, cell, k, rfl, e0, h⟩ := h
    unfold m_law_sign at h
    have g : Gx [] S0 H S0 H := Gx.refl e0
    refine ⟨_, pss_cons (ps_set (i := 2) sc_law_sign.nd rfl (by first | exact Or.inl rfl | exact Or.inr rfl) pe_str) (pss_cons (ps_set (i := 2) sc_law_sign.nd rfl (by first | exact Or.inl rfl | exact Or.inr rfl) (pe_op op_addSG (pv 2) pe_str)) (pss_cons (ps_set (i := 3) sc_law_sign.nd rfl (by first | exact Or.inl rfl | exact Or.inr rfl) (pe_ix (ix_listK (K := K)) (pe_lst (pa_cons pe_str (pa_cons (pv 2) pa_nil))) (pe_op op_mod (pe_call ok_law_stir' (hr.mono (by decide)) (by rfl) mg_law_stir kp_law_stir bd_law_stir .nil (L2N.passes_call (L2N.takes_of rfl rfl rfl rfl) fun _ _ _ _ h => h) (pa_cons (pv 0) (pa_cons (pv 1) pa_nil))) pe_int) (fun _ _ => rfl))) (pss_one (ps_ret (pe_ix ix_str (pv 3) (pe_op op_mod (pe_call ok_law_stir' (hr.mono (by decide)) (by rfl) mg_law_stir kp_law_stir bd_law_stir .nil (L2N.passes_call (L2N.takes_of rfl rfl rfl rfl) fun _ _ _ _ h => h) (pa_cons (pv 0) (pa_cons (pe_op op_add (pv 1) pe_int) pa_nil))) (pe_callB call_lenSG (by rfl) n_len (by decide +kernel) (pa_cons (pv 3) pa_nil))) (fun _ _ => rfl)))))), ?_⟩
    refine i_start (σ := [some (V.int (cell)), some (V.int (k)), none, none]) rfl ?_
    refine i_seq ?_
    refine i_asg ?_
    refine i_c ?_
    refine i_nameE (σ' := [_, _, some (V.str (PySem.Str.ofString " !\"#$&'()*+,-./0123456789:;<=>?@ABCDEFGHIJKLMNOP")), _]) rfl ?_
    refine nx_seq ?_
    refine i_seq ?_
    refine i_asg ?_
    refine i_op ?_
    refine i_var rfl ?_
    refine i_c ?_
    refine s_cats h (fun t1 h => ?_)
    refine i_nameE (σ' := [_, _, some (V.str (t1)), _]) rfl ?_
    refine nx_seq ?_
    refine i_seq ?_
    refine i_asg ?_
    refine i_op ?_
    refine i_lst ?_
    refine i_cons ?_
    refine i_c ?_
    refine i_cons ?_
    refine i_var rfl ?_
    refine i_nil ?_
    refine s_lstS (K := K) (xs := ([PySem.Str.ofString "0019 --::", t1] : List (PySem.Str))) g (All2.cons rfl (All2.cons rfl All2.nil)) (show (2 : Nat) ≤ 16777216 by decide) (fun p2 S3 H4 gA gs r_p2 => ?_)
    replace g := gA
    refine i_op ?_
    refine i_call ?_
    refine i_cons ?_
    refine i_var rfl ?_
    refine i_cons ?_
    refine i_var rfl ?_
    refine i_nil ?_
    refine ⟨S3, cell, k, rfl, g.sh, wpm_mono (wb h) (fun t5 h S6 H7 gs => ?_) (fun c he S1 H1 gs => he _ _ (g.trans0 gs))⟩
    replace r_p2 := RepL.mono gs.s r_p2
    replace g := g.trans0 gs
    refine i_c ?_
    refine i_I (by decide) ?_
    refine s_idxF (r_p2.hp g.sh) h (fun t8 h => ?_)
    refine i_nameE (σ' := [_, _, _, some (V.str (t8))]) rfl ?_
    refine nx_seq ?_
    refine i_ret ?_
    refine i_op ?_
    refine i_var rfl ?_
    refine i_op ?_
    refine i_call ?_
    refine i_cons ?_
    refine i_var rfl ?_
    refine i_cons ?_
    refine i_op ?_
    refine i_var rfl ?_
    refine i_c ?_
    refine i_I0 ?_
    refine i_nil ?_
    refine ⟨S6, cell, (k + 1), rfl, g.sh, wpm_mono (wb h) (fun t9 h S10 H11 gs => ?_) (fun c he S1 H1 gs => he _ _ (g.trans0 gs))⟩
    replace g := g.trans0 gs
    refine i_cb ?_
    refine i_cons ?_
    refine i_var rfl ?_
    refine i_nil ?_
    refine s_lenS h (fun h => ?_)
    refine s_mod h (fun h => ?_)
    refine s_sitem h (fun t12 h => ?_)
    exact h _ _ g

abbrev s_law_spoilt : PySem.Stmt := topS 32
theorem sc_law_spoilt : FnScope ["cell", "k", "text", "at", "kind", "words", "one", "other", "odd"] ["cell", "k", "text"] (defScope s_law_spoilt) := ⟨rfl, rfl, rfl, by decide +kernel, rfl, by decide +kernel, by decide +kernel⟩

def sp_law_spoilt (K : Fr) : Sp := fun vs H Q E => ∃ (S0 : Hp) (cell : Int) (k : Int) (text : PySem.Str), vs = [(V.int (cell)), (V.int (k)), (V.str (text))] ∧ Ex S0 H ∧ wpm (m_law_spoilt cell k text) (fun r => ∀ S' H', Gx [] S0 H S' H' → Q (V.str (r)) H') (fun c => ∀ S' H', Gx [] S0 H S' H' → E (.ref (caOf K c)) none H')

theorem ok_law_spoilt {P : Program} {w : World} {K : Fr} {mg : PySem.Str → Option Value} {base : Heap} (A0 : At K mg "_law_spoilt" s_law_spoilt ["cell", "k", "text"]) (D_law_stir : Dfn P w K mg base "_law_stir" 1 ["cell", "k"] (sp_law_stir K)) (D_law_sign : Dfn P w K mg base "_law_sign" 2 ["cell", "k"] (sp_law_sign K)) (n_len : mg "len" = none) : Dfn P w K mg base "_law_spoilt" 3 ["cell", "k", "text"] (sp_law_spoilt K) := by
  obtain ⟨f_law_stir, fd_law_stir, mg_law_stir, kp_law_stir, bd_law_stir, ok_law_stir'⟩ := D_law_stir.ex
  obtain ⟨f_law_sign, fd_law_sign, mg_law_sign, kp_law_sign, bd_law_sign, ok_law_sign'⟩ := D_law_sign.ex
  refine Dfn.mk' A0 fun f fd F => F.ok (CX := L2N.CX P w) sc_law_spoilt (fun vs H Q E h => ?_) (fun cdv A outer s H vs Q E hr h => ?_)
  · obtain ⟨S0, cell, k, text, rfl, e0, h⟩ := h
    rfl
  · obtain ⟨S0, cell, k, text, rfl, e0, h⟩ := h
    unfold m_law_spoilt at h
    have g : Gx [] S0 H S0 H := Gx.refl e0
    refine ⟨_, pss_cons (ps_set (i := 3) sc_law_spoilt.nd rfl (by first | exact Or.inl rfl | exact Or.inr rfl) (pe_op op_mod (pe_call ok_law_stir' (hr.mono (by decide)) (by rfl) mg_law_stir kp_law_stir bd_law_stir .nil (L2N.passes_call (L2N.takes_of rfl rfl rfl rfl) fun _ _ _ _ h => h) (pa_cons (pv 0) (pa_cons (pv 1) pa_nil))) (pe_op op_add (pe_callB call_lenSG (by rfl) n_len (by decide +kernel) (pa_cons (pv 2) pa_nil)) pe_int))) (pss_cons (ps_set (i := 4) sc_law_spoilt.nd rfl (by first | exact Or.inl rfl | exact Or.inr rfl) (pe_op op_mod (pe_call ok_law_stir' (hr.mono (by decide)) (by rfl) mg_law_stir kp_law_stir bd_law_stir .nil (L2N.passes_call (L2N.takes_of rfl rfl rfl rfl) fun _ _ _ _ h => h) (pa_cons (pv 0) (pa_cons (pe_op op_add (pv 1) pe_int) pa_nil))) pe_int)) (pss_cons (ps_set (i := 5) sc_law_spoilt.nd rfl (by first | exact Or.inl rfl | exact Or.inr rfl) (pe_m1 PySem.F.slot_str_split PySem.F.type_str_split mt_splitG (pv 2) pe_str)) (pss_cons (ps_set (i := 6) sc_law_spoilt.nd rfl (by first | exact Or.inl rfl | exact Or.inr rfl) (pe_op op_mod (pe_call ok_law_stir' (hr.mono (by decide)) (by rfl) mg_law_stir kp_law_stir bd_law_stir .nil (L2N.passes_call (L2N.takes_of rfl rfl rfl rfl) fun _ _ _ _ h => h) (pa_cons (pv 0) (pa_cons (pe_op op_add (pv 1) pe_int) pa_nil))) (pe_callB (call_lenK (K := K)) (by rfl) n_len (by decide +kernel) (pa_cons (pv 5) pa_nil)))) (pss_cons (ps_set (i := 7) sc_law_spoilt.nd rfl (by first | exact Or.inl rfl | exact Or.inr rfl) (pe_op op_mod (pe_call ok_law_stir' (hr.mono (by decide)) (by rfl) mg_law_stir kp_law_stir bd_law_stir .nil (L2N.passes_call (L2N.takes_of rfl rfl rfl rfl) fun _ _ _ _ h => h) (pa_cons (pv 0) (pa_cons (pe_op op_add (pv 1) pe_int) pa_nil))) (pe_callB (call_lenK (K := K)) (by rfl) n_len (by decide +kernel) (pa_cons (pv 5) pa_nil)))) (pss_cons (ps_set (i := 8) sc_law_spoilt.nd rfl (by first | exact Or.inl rfl | exact Or.inr rfl) (pe_lst (pa_cons pe_str (pa_cons pe_str (pa_cons pe_str (pa_cons pe_str (pa_cons pe_str (pa_cons pe_str (pa_cons pe_str (pa_cons pe_str (pa_cons pe_str (pa_cons pe_str (pa_cons pe_str (pa_cons pe_str (pa_cons pe_str (pa_cons pe_str (pa_cons pe_str pa_nil))))))))))))))))) (pss_cons (ps_set (i := 8) sc_law_spoilt.nd rfl (by first | exact Or.inl rfl | exact Or.inr rfl) (pe_op op_cat (pv 8) (pe_lst (pa_cons pe_str (pa_cons pe_str (pa_cons pe_str (pa_cons pe_str (pa_cons pe_str (pa_cons pe_str (pa_cons pe_str (pa_cons pe_str (pa_cons pe_str (pa_cons pe_str (pa_cons pe_str (pa_cons pe_str pa_nil))))))))))))))) (pss_cons (ps_set (i := 8) sc_law_spoilt.nd rfl (by first | exact Or.inl rfl | exact Or.inr rfl) (pe_op op_cat (pv 8) (pe_lst (pa_cons (pe_op op_addSG pe_str (pe_op op_mulSG pe_str pe_int)) (pa_cons (pe_op op_addSG pe_str (pe_op op_mulSG pe_str pe_int)) (pa_cons (pe_op op_addSG pe_str (pe_op op_mulSG pe_str pe_int)) (pa_cons (pe_op op_addSG pe_str (pe_op op_mulSG pe_str pe_int)) pa_nil))))))) (pss_cons (ps_set (i := 8) sc_law_spoilt.nd rfl (by first | exact Or.inl rfl | exact Or.inr rfl) (pe_op op_cat (pv 8) (pe_lst (pa_cons (pe_op op_addSG (pe_op op_mulSG pe_str pe_int) pe_str) (pa_cons (pe_op op_addSG (pe_op op_mulSG pe_str pe_int) pe_str) pa_nil))))) (pss_cons (ps_if (pt_cmpR op_eq (pv 4) pe_int (nomark _)) (pss_one (ps_ret (pe_op op_addSG (pe_slice sl_str (pv 2) po_none (po_some (pv 3))) (pe_slice sl_str (pv 2) (po_some (pe_op op_add (pv 3) pe_int)) po_none)))) pss_nil) (pss_cons (ps_if (pt_cmpR op_lt (pv 4) pe_int (nomark _)) (pss_one (ps_ret (pe_op op_addSG (pe_op op_addSG (pe_slice sl_str (pv 2) po_none (po_some (pv 3))) (pe_call ok_law_sign' (hr.mono (by decide)) (by rfl) mg_law_sign kp_law_sign bd_law_sign .nil (L2N.passes_call (L2N.takes_of rfl rfl rfl rfl) fun _ _ _ _ h => h) (pa_cons (pv 0) (pa_cons (pe_op op_add (pv 1) pe_int) pa_nil)))) (pe_slice sl_str (pv 2) (po_some (pe_op op_sub (pe_op op_add (pv 3) (pv 4)) pe_int)) po_none)))) pss_nil) (pss_cons (ps_if (pt_cmpR op_eq (pv 4) pe_int (nomark _)) (pss_one (ps_expr (pe_K (K := K) (pe_bm PySem.F.plainAttrs_list PySem.F.slot_list_pop PySem.F.type_list_pop mt_popAt (pv 5) (pa_cons (pv 6) pa_nil))))) (pss_one (ps_if (pt_cmpR op_eq (pv 4) pe_int (nomark _)) (pss_one (ps_expr (pe_K (K := K) (pe_bm PySem.F.plainAttrs_list PySem.F.slot_list_insert PySem.F.type_list_insert mt_insG (pv 5) (pa_cons (pv 7) (pa_cons (pe_ix (ix_listK (K := K)) (pv 5) (pv 6) (fun _ _ => rfl)) pa_nil)))))) (pss_one (ps_if (pt_cmpR op_eq (pv 4) pe_int (nomark _)) (pss_one (ps_asg (pe_ix (ix_listK (K := K)) (pv 8) (pe_op op_mod (pe_call ok_law_stir' (hr.mono (by decide)) (by rfl) mg_law_stir kp_law_stir bd_law_stir .nil (L2N.passes_call (L2N.takes_of rfl rfl rfl rfl) fun _ _ _ _ h => h) (pa_cons (pv 0) (pa_cons (pe_op op_add (pv 1) pe_int) pa_nil))) (pe_callB (call_lenK (K := K)) (by rfl) n_len (by decide +kernel) (pa_cons (pv 8) pa_nil))) (fun _ _ => rfl)) (pg_sub (pv 5) (pv 6) set_list))) (pss_one (ps_if (pt_cmpR op_eq (pv 4) pe_int (nomark _)) (pss_one (ps_expr (pe_K (K := K) (pe_bm PySem.F.plainAttrs_list PySem.F.slot_list_insert PySem.F.type_list_insert mt_insG (pv 5) (pa_cons (pv 6) (pa_cons (pe_ix (ix_listK (K := K)) (pv 8) (pe_op op_mod (pe_call ok_law_stir' (hr.mono (by decide)) (by rfl) mg_law_stir kp_law_stir bd_law_stir .nil (L2N.passes_call (L2N.takes_of rfl rfl rfl rfl) fun _ _ _ _ h => h) (pa_cons (pv 0) (pa_cons (pe_op op_add (pv 1) pe_int) pa_nil))) (pe_callB (call_lenK (K := K)) (by rfl) n_len (by decide +kernel) (pa_cons (pv 8) pa_nil))) (fun _ _ => rfl)) pa_nil)))))) (pss_one (ps_asg (pe_tup (pa_cons (pe_ix (ix_listK (K := K)) (pv 5) (pv 7) (fun _ _ => rfl)) (pa_cons (pe_ix (ix_listK (K := K)) (pv 5) (pv 6) (fun _ _ => rfl)) pa_nil))) (pg_tupK (K := K) (n := 2) rfl (pgs_cons (pg_sub (pv 5) (pv 6) set_list) (pgs_cons (pg_sub (pv 5) (pv 7) set_list) pgs_nil)))))))))))) (pss_one (ps_ret (pe_m1 PySem.F.slot_str_join PySem.F.type_str_join mt_joinG pe_str (pv 5))))))))))))))), ?_⟩
    refine i_start (σ := [some (V.int (cell)), some (V.int (k)), some (V.str (text)), none, none, none, none, none, none]) rfl ?_
    refine i_seq ?_
    refine i_asg ?_
    refine i_op ?_
    refine i_call ?_
    refine i_cons ?_
    refine i_var rfl ?_
    refine i_cons ?_
    refine i_var rfl ?_
    refine i_nil ?_
    refine ⟨S0, cell, k, rfl, g.sh, wpm_mono (wb h) (fun t1 h S2 H3 gs => ?_) (fun c he S1 H1 gs => he _ _ (g.trans0 gs))⟩
    replace g := g.trans0 gs
    refine i_op ?_
    refine i_cb ?_
    refine i_cons ?_
    refine i_var rfl ?_
    refine i_nil ?_
    refine s_lenS h (fun h => ?_)
    refine i_c ?_
    refine i_I0 ?_
    refine s_mod h (fun h => ?_)
    refine i_nameE (σ' := [_, _, _, some (V.int ((t1 % ((text.length : Int) + 1)))), _, _, _, _, _]) rfl ?_
    refine nx_seq ?_
    refine i_seq ?_
    refine i_asg ?_
    refine i_op ?_
    refine i_call ?_
    refine i_cons ?_
    refine i_var rfl ?_
    refine i_cons ?_
    refine i_op ?_
    refine i_var rfl ?_
    refine i_c ?_
    refine i_I0 ?_
    refine i_nil ?_
    refine ⟨S2, cell, (k + 1), rfl, g.sh, wpm_mono (wb h) (fun t4 h S5 H6 gs => ?_) (fun c he S1 H1 gs => he _ _ (g.trans0 gs))⟩
    replace g := g.trans0 gs
    refine i_c ?_
    refine i_I (by decide) ?_
    refine i_nameE (σ' := [_, _, _, _, some (V.int ((t4 % 8))), _, _, _, _]) rfl ?_
    refine nx_seq ?_
    refine i_seq ?_
    refine i_asg ?_
    refine i_m1 ?_
    refine i_var rfl ?_
    refine s_m1 ?_
    refine i_c ?_
    refine s_splitO (K := K) g h (fun p7 H9 gA gs hp_p7 o_p7 h => ?_)
    have f0_p7 := Gx.back g hp_p7
    replace g := gA
    refine i_nameE (σ' := [_, _, _, _, _, some (V.ref p7), _, _, _]) rfl ?_
    refine nx_seq ?_
    refine i_seq ?_
    refine i_asg ?_
    refine i_op ?_
    refine i_call ?_
    refine i_cons ?_
    refine i_var rfl ?_
    refine i_cons ?_
    refine i_op ?_
    refine i_var rfl ?_
    refine i_c ?_
    refine i_I0 ?_
    refine i_nil ?_
    refine ⟨S5, cell, (k + 2), rfl, g.sh, wpm_mono (wb h) (fun t10 h S11 H12 gs => ?_) (fun c he S1 H1 gs => he _ _ (g.trans0 gs))⟩
    replace o_p7 := OwnL.keep0 o_p7 gs
    replace g := g.trans0 gs
    refine i_cb ?_
    refine i_cons ?_
    refine i_var rfl ?_
    refine i_nil ?_
    refine s_len o_p7.hp ?_
    refine s_mod h (fun h => ?_)
    refine i_nameE (σ' := [_, _, _, _, _, _, some (V.int ((t10 % ((PySem.Txt.split text (PySem.Str.ofString " ")).length : Int)))), _, _]) rfl ?_
    refine nx_seq ?_
    refine i_seq ?_
    refine i_asg ?_
    refine i_op ?_
    refine i_call ?_
    refine i_cons ?_
    refine i_var rfl ?_
    refine i_cons ?_
    refine i_op ?_
    refine i_var rfl ?_
    refine i_c ?_
    refine i_I0 ?_
    refine i_nil ?_
    refine ⟨S11, cell, (k + 3), rfl, g.sh, wpm_mono (wb h) (fun t13 h S14 H15 gs => ?_) (fun c he S1 H1 gs => he _ _ (g.trans0 gs))⟩
    replace o_p7 := OwnL.keep0 o_p7 gs
    replace g := g.trans0 gs
    refine i_cb ?_
    refine i_cons ?_
    refine i_var rfl ?_
    refine i_nil ?_
    refine s_len o_p7.hp ?_
    refine s_mod h (fun h => ?_)
    refine i_nameE (σ' := [_, _, _, _, _, _, _, some (V.int ((t13 % ((PySem.Txt.split text (PySem.Str.ofString " ")).length : Int)))), _]) rfl ?_
    refine nx_seq ?_
    refine i_seq ?_
    refine i_asg ?_
    refine i_lst ?_
    refine i_cons ?_
    refine i_c ?_
    refine i_cons ?_
    refine i_c ?_
    refine i_cons ?_
    refine i_c ?_
    refine i_cons ?_
    refine i_c ?_
    refine i_cons ?_
    refine i_c ?_
    refine i_cons ?_
    refine i_c ?_
    refine i_cons ?_
    refine i_c ?_
    refine i_cons ?_
    refine i_c ?_
    refine i_cons ?_
    refine i_c ?_
    refine i_cons ?_
    refine i_c ?_
    refine i_cons ?_
    refine i_c ?_
    refine i_cons ?_
    refine i_c ?_
    refine i_cons ?_
    refine i_c ?_
    refine i_cons ?_
    refine i_c ?_
    refine i_cons ?_
    refine i_c ?_
    refine i_nil ?_
    refine s_lstS (K := K) (xs := ([PySem.Str.ofString "-:0", PySem.Str.ofString "0:-0", PySem.Str.ofString "0:00", PySem.Str.ofString "00:0", PySem.Str.ofString "0:01", PySem.Str.ofString "01:0", PySem.Str.ofString "-1:0", PySem.Str.ofString "0:-1", PySem.Str.ofString "0:+1", PySem.Str.ofString "+0:1", PySem.Str.ofString "", PySem.Str.ofString ":", PySem.Str.ofString "0:", PySem.Str.ofString ":0", PySem.Str.ofString "-:"] : List (PySem.Str))) g (All2.cons rfl (All2.cons rfl (All2.cons rfl (All2.cons rfl (All2.cons rfl (All2.cons rfl (All2.cons rfl (All2.cons rfl (All2.cons rfl (All2.cons rfl (All2.cons rfl (All2.cons rfl (All2.cons rfl (All2.cons rfl (All2.cons rfl All2.nil))))))))))))))) (show (15 : Nat) ≤ 16777216 by decide) (fun p16 S17 H18 gA gs r_p16 => ?_)
    replace o_p7 := OwnL.keep0 o_p7 gs
    replace g := gA
    refine i_nameE (σ' := [_, _, _, _, _, _, _, _, some (V.ref p16)]) rfl ?_
    refine nx_seq ?_
    refine i_seq ?_
    refine i_asg ?_
    refine i_op ?_
    refine i_var rfl ?_
    refine i_lst ?_
    refine i_cons ?_
    refine i_c ?_
    refine i_cons ?_
    refine i_c ?_
    refine i_cons ?_
    refine i_c ?_
    refine i_cons ?_
    refine i_c ?_
    refine i_cons ?_
    refine i_c ?_
    refine i_cons ?_
    refine i_c ?_
    refine i_cons ?_
    refine i_c ?_
    refine i_cons ?_
    refine i_c ?_
    refine i_cons ?_
    refine i_c ?_
    refine i_cons ?_
    refine i_c ?_
    refine i_cons ?_
    refine i_c ?_
    refine i_cons ?_
    refine i_c ?_
    refine i_nil ?_
    refine s_lstS (K := K) (xs := ([PySem.Str.ofString "--:0", PySem.Str.ofString "-:--1", PySem.Str.ofString "0", PySem.Str.ofString "0:1:2", PySem.Str.ofString "0:1_0", PySem.Str.ofString "0:1.", PySem.Str.ofString "x:0", PySem.Str.ofString "0:x", PySem.Str.ofString "none:0", PySem.Str.ofString "7:7", PySem.Str.ofString "999:1", PySem.Str.ofString "200:0"] : List (PySem.Str))) g (All2.cons rfl (All2.cons rfl (All2.cons rfl (All2.cons rfl (All2.cons rfl (All2.cons rfl (All2.cons rfl (All2.cons rfl (All2.cons rfl (All2.cons rfl (All2.cons rfl (All2.cons rfl All2.nil)))))))))))) (show (12 : Nat) ≤ 16777216 by decide) (fun p19 S20 H21 gA gs r_p19 => ?_)
    replace o_p7 := OwnL.keep0 o_p7 gs
    replace r_p16 := RepL.mono gs.s r_p16
    replace g := gA
    refine s_catS g (r_p16.tp g.sh) (r_p19.tp g.sh) h (fun p23 S24 H25 gA gs r_p23 h => ?_)
    replace o_p7 := OwnL.keep0 o_p7 gs
    replace r_p16 := RepL.mono gs.s r_p16
    replace g := gA
    refine i_nameE (σ' := [_, _, _, _, _, _, _, _, some (V.ref p23)]) rfl ?_
    refine nx_seq ?_
    refine i_seq ?_
    refine i_asg ?_
    refine i_op ?_
    refine i_var rfl ?_
    refine i_lst ?_
    refine i_cons ?_
    refine i_op ?_
    refine i_c ?_
    refine i_op ?_
    refine i_c ?_
    refine i_c ?_
    refine s_muls h (fun h => ?_)
    refine s_cats h (fun t26 h => ?_)
    refine i_cons ?_
    refine i_op ?_
    refine i_c ?_
    refine i_op ?_
    refine i_c ?_
    refine i_c ?_
    refine s_muls h (fun h => ?_)
    refine s_cats h (fun t27 h => ?_)
    refine i_cons ?_
    refine i_op ?_
    refine i_c ?_
    refine i_op ?_
    refine i_c ?_
    refine i_c ?_
    refine s_muls h (fun h => ?_)
    refine s_cats h (fun t28 h => ?_)
    refine i_cons ?_
    refine i_op ?_
    refine i_c ?_
    refine i_op ?_
    refine i_c ?_
    refine i_c ?_
    refine s_muls h (fun h => ?_)
    refine s_cats h (fun t29 h => ?_)
    refine i_nil ?_
    refine s_lstS (K := K) (xs := ([t26, t27, t28, t29] : List (PySem.Str))) g (All2.cons rfl (All2.cons rfl (All2.cons rfl (All2.cons rfl All2.nil)))) (show (4 : Nat) ≤ 16777216 by decide) (fun p30 S31 H32 gA gs r_p30 => ?_)
    replace o_p7 := OwnL.keep0 o_p7 gs
    replace r_p23 := RepL.mono gs.s r_p23
    replace g := gA
    refine s_catS g (r_p23.tp g.sh) (r_p30.tp g.sh) h (fun p34 S35 H36 gA gs r_p34 h => ?_)
    replace o_p7 := OwnL.keep0 o_p7 gs
    replace r_p23 := RepL.mono gs.s r_p23
    replace g := gA
    refine i_nameE (σ' := [_, _, _, _, _, _, _, _, some (V.ref p34)]) rfl ?_
    refine nx_seq ?_
    refine i_seq ?_
    refine i_asg ?_
    refine i_op ?_
    refine i_var rfl ?_
    refine i_lst ?_
    refine i_cons ?_
    refine i_op ?_
    refine i_op ?_
    refine i_c ?_
    refine i_c ?_
    refine s_muls h (fun h => ?_)
    refine i_c ?_
    refine s_cats h (fun t37 h => ?_)
    refine i_cons ?_
    refine i_op ?_
    refine i_op ?_
    refine i_c ?_
    refine i_c ?_
    refine s_muls h (fun h => ?_)
    refine i_c ?_
    refine s_cats h (fun t38 h => ?_)
    refine i_nil ?_
    refine s_lstS (K := K) (xs := ([t37, t38] : List (PySem.Str))) g (All2.cons rfl (All2.cons rfl All2.nil)) (show (2 : Nat) ≤ 16777216 by decide) (fun p39 S40 H41 gA gs r_p39 => ?_)
    replace o_p7 := OwnL.keep0 o_p7 gs
    replace r_p34 := RepL.mono gs.s r_p34
    replace g := gA
    refine s_catS g (r_p34.tp g.sh) (r_p39.tp g.sh) h (fun p43 S44 H45 gA gs r_p43 h => ?_)
    replace o_p7 := OwnL.keep0 o_p7 gs
    replace r_p34 := RepL.mono gs.s r_p34
    replace g := gA
    refine i_nameE (σ' := [_, _, _, _, _, _, _, _, some (V.ref p43)]) rfl ?_
    refine nx_seq ?_
    refine i_seq ?_
    refine i_if ?_
    refine i_test ?_
    refine i_op ?_
    refine i_var rfl ?_
    refine i_c ?_
    refine i_eqI ?_
    refine i_bl ?_
    refine ite2b (fun hb46 => ?_) (fun hb46 => ?_)
    · replace h := wpm_t hb46 h
      refine i_ret ?_
      refine i_op ?_
      refine i_sl ?_
      refine i_var rfl ?_
      refine i_noPart ?_
      refine i_part ?_
      refine i_var rfl ?_
      refine i_partI ?_
      refine s_cutS h (fun h => ?_)
      refine i_sl ?_
      refine i_var rfl ?_
      refine i_part ?_
      refine i_op ?_
      refine i_var rfl ?_
      refine i_c ?_
      refine i_I0 ?_
      refine i_partI ?_
      refine i_noPart ?_
      refine s_cutS h (fun h => ?_)
      refine s_cats h (fun t47 h => ?_)
      exact h _ _ g
    · replace h := wpm_f hb46 h
      refine i_next ?_
      refine nx_seq ?_
      refine i_seq ?_
      refine i_if ?_
      refine i_test ?_
      refine i_op ?_
      refine i_var rfl ?_
      refine i_c ?_
      refine i_I0 ?_
      refine i_bl ?_
      refine ite2b (fun hb48 => ?_) (fun hb48 => ?_)
      · replace h := wpm_t hb48 h
        refine i_ret ?_
        refine i_op ?_
        refine i_op ?_
        refine i_sl ?_
        refine i_var rfl ?_
        refine i_noPart ?_
        refine i_part ?_
        refine i_var rfl ?_
        refine i_partI ?_
        refine s_cutS h (fun h => ?_)
        refine i_call ?_
        refine i_cons ?_
        refine i_var rfl ?_
        refine i_cons ?_
        refine i_op ?_
        refine i_var rfl ?_
        refine i_c ?_
        refine i_I0 ?_
        refine i_nil ?_
        refine ⟨S44, cell, (k + 4), rfl, g.sh, wpm_mono (wb h) (fun t49 h S50 H51 gs => ?_) (fun c he S1 H1 gs => he _ _ (g.trans0 gs))⟩
        replace o_p7 := OwnL.keep0 o_p7 gs
        replace r_p43 := RepL.mono gs.s r_p43
        replace g := g.trans0 gs
        refine s_cats h (fun t52 h => ?_)
        refine i_sl ?_
        refine i_var rfl ?_
        refine i_part ?_
        refine i_op ?_
        refine i_op ?_
        refine i_var rfl ?_
        refine i_var rfl ?_
        refine i_I0 ?_
        refine i_c ?_
        refine i_I0 ?_
        refine i_partI ?_
        refine i_noPart ?_
        refine s_cutS h (fun h => ?_)
        refine s_cats h (fun t53 h => ?_)
        exact h _ _ g
      · replace h := wpm_f hb48 h
        refine i_next ?_
        refine nx_seq ?_
        refine i_seq ?_
        have hm54 : ∀ x ∈ [p7], x ∈ [] ∨ H x = none := by
          intro x hx
          simp only [List.mem_append, List.mem_cons, List.not_mem_nil, or_false] at hx
          rcases hx with rfl
          · exact (Or.symm (.inl f0_p7))
        refine i_ifJ1 (R := (fun (st54 : (List (PySem.Str))) σ' S' H' => σ' = [some (V.int (cell)), some (V.int (k)), some (V.str (text)), some (V.int ((t1 % ((text.length : Int) + 1)))), some (V.int ((t4 % 8))), some (V.ref p7), some (V.int ((t10 % ((PySem.Txt.split text (PySem.Str.ofString " ")).length : Int)))), some (V.int ((t13 % ((PySem.Txt.split text (PySem.Str.ofString " ")).length : Int)))), some (V.ref p43)] ∧ Gx [p7] S44 H45 S' H' ∧ OwnL K S' H' p7 st54)) h (fun PJ N hN h => ?_) (fun st54 σ1 S54j H54j hR h => ?_)
        · have gj54 : Gx [p7] S44 H45 S44 H45 := Gx.refl g.sh
          refine i_test ?_
          refine i_op ?_
          refine i_var rfl ?_
          refine i_c ?_
          refine i_eqI ?_
          refine i_bl ?_
          refine ite2b (fun hb55 => ?_) (fun hb55 => ?_)
          · replace h := wpm_t hb55 h
            refine i_drop ?_
            refine i_bm ?_
            refine i_var rfl ?_
            refine s_bmL o_p7.hp ?_
            refine i_cons ?_
            refine i_var rfl ?_
            refine i_nil ?_
            refine s_popi gj54 o_p7 (.inr (by simp)) h (fun H56 t57 v58 gA oA heq r59 h => ?_)
            replace gj54 := gA
            replace o_p7 := oA
            obtain rfl := r59
            exact hN _ _ _ _ h ⟨rfl, gj54, o_p7⟩
          · replace h := wpm_f hb55 h
            refine i_if ?_
            refine i_test ?_
            refine i_op ?_
            refine i_var rfl ?_
            refine i_c ?_
            refine i_eqI ?_
            refine i_bl ?_
            refine ite2b (fun hb60 => ?_) (fun hb60 => ?_)
            · replace h := wpm_t hb60 h
              refine i_drop ?_
              refine i_bm ?_
              refine i_var rfl ?_
              refine s_bmL o_p7.hp ?_
              refine i_cons ?_
              refine i_var rfl ?_
              refine i_cons ?_
              refine i_op ?_
              refine i_var rfl ?_
              refine i_var rfl ?_
              refine s_idxF o_p7.hp h (fun t61 h => ?_)
              refine i_nil ?_
              refine s_ins (x := t61) gj54 o_p7 (.inr (by simp)) rfl h (fun H62 gA oA heq h => ?_)
              replace gj54 := gA
              replace o_p7 := oA
              exact hN _ _ _ _ h ⟨rfl, gj54, o_p7⟩
            · replace h := wpm_f hb60 h
              refine i_if ?_
              refine i_test ?_
              refine i_op ?_
              refine i_var rfl ?_
              refine i_c ?_
              refine i_eqI ?_
              refine i_bl ?_
              refine ite2b (fun hb63 => ?_) (fun hb63 => ?_)
              · replace h := wpm_t hb63 h
                refine i_asg ?_
                refine i_op ?_
                refine i_var rfl ?_
                refine i_op ?_
                refine i_call ?_
                refine i_cons ?_
                refine i_var rfl ?_
                refine i_cons ?_
                refine i_op ?_
                refine i_var rfl ?_
                refine i_c ?_
                refine i_I0 ?_
                refine i_nil ?_
                refine ⟨S44, cell, (k + 6), rfl, gj54.sh, wpm_mono (wb h) (fun t64 h S65 H66 gs => ?_) (fun c he S1 H1 gs => he _ _ (g.trans (gj54.trans0 gs) hm54))⟩
                replace o_p7 := OwnL.keep0 o_p7 gs
                replace r_p43 := RepL.mono gs.s r_p43
                replace gj54 := gj54.trans0 gs
                refine i_cb ?_
                refine i_cons ?_
                refine i_var rfl ?_
                refine i_nil ?_
                refine s_len (r_p43.hp gj54.sh) ?_
                refine s_mod h (fun h => ?_)
                refine s_idxF (r_p43.hp gj54.sh) h (fun t67 h => ?_)
                refine i_gsub ?_
                refine i_var rfl ?_
                refine i_var rfl ?_
                refine s_set gj54 o_p7 (.inr (by simp)) rfl h (fun H69 t68 gj54 o_p7 heq h => ?_)
                exact hN _ _ _ _ h ⟨rfl, gj54, o_p7⟩
              · replace h := wpm_f hb63 h
                refine i_if ?_
                refine i_test ?_
                refine i_op ?_
                refine i_var rfl ?_
                refine i_c ?_
                refine i_eqI ?_
                refine i_bl ?_
                refine ite2b (fun hb70 => ?_) (fun hb70 => ?_)
                · replace h := wpm_t hb70 h
                  refine i_drop ?_
                  refine i_bm ?_
                  refine i_var rfl ?_
                  refine s_bmL o_p7.hp ?_
                  refine i_cons ?_
                  refine i_var rfl ?_
                  refine i_cons ?_
                  refine i_op ?_
                  refine i_var rfl ?_
                  refine i_op ?_
                  refine i_call ?_
                  refine i_cons ?_
                  refine i_var rfl ?_
                  refine i_cons ?_
                  refine i_op ?_
                  refine i_var rfl ?_
                  refine i_c ?_
                  refine i_I0 ?_
                  refine i_nil ?_
                  refine ⟨S44, cell, (k + 6), rfl, gj54.sh, wpm_mono (wb h) (fun t71 h S72 H73 gs => ?_) (fun c he S1 H1 gs => he _ _ (g.trans (gj54.trans0 gs) hm54))⟩
                  replace o_p7 := OwnL.keep0 o_p7 gs
                  replace r_p43 := RepL.mono gs.s r_p43
                  replace gj54 := gj54.trans0 gs
                  refine i_cb ?_
                  refine i_cons ?_
                  refine i_var rfl ?_
                  refine i_nil ?_
                  refine s_len (r_p43.hp gj54.sh) ?_
                  refine s_mod h (fun h => ?_)
                  refine s_idxF (r_p43.hp gj54.sh) h (fun t74 h => ?_)
                  refine i_nil ?_
                  refine s_ins (x := t74) gj54 o_p7 (.inr (by simp)) rfl h (fun H75 gA oA heq h => ?_)
                  replace gj54 := gA
                  replace o_p7 := oA
                  exact hN _ _ _ _ h ⟨rfl, gj54, o_p7⟩
                · replace h := wpm_f hb70 h
                  refine i_asg ?_
                  refine i_tup ?_
                  refine i_cons ?_
                  refine i_op ?_
                  refine i_var rfl ?_
                  refine i_var rfl ?_
                  refine s_idxF o_p7.hp h (fun t76 h => ?_)
                  refine i_cons ?_
                  refine i_op ?_
                  refine i_var rfl ?_
                  refine i_var rfl ?_
                  refine s_idxF o_p7.hp h (fun t77 h => ?_)
                  refine i_nil ?_
                  refine s_tup (K := K) (τ := PySem.Str) (υ := PySem.Str × Unit) (t := ((t76, t77, ()) : (PySem.Str × PySem.Str × Unit))) gj54 (rept_cons rfl (rept_cons rfl rept_nil)) (show (2 : Nat) ≤ 16777216 by decide) (fun p78 S79 H80 gA gs r_p78 => ?_)
                  replace o_p7 := OwnL.keep0 o_p7 gs
                  replace r_p43 := RepL.mono gs.s r_p43
                  replace gj54 := gA
                  obtain ⟨_, hs82, _, _, rfl, rfl, _, _, rfl, rfl, rfl⟩ := rep_at r_p78
                  refine i_gtup (ex_t gj54.sh hs82) rfl ?_
                  refine i_gcons ?_
                  refine i_gsub ?_
                  refine i_var rfl ?_
                  refine i_var rfl ?_
                  refine s_set gj54 o_p7 (.inr (by simp)) rfl h (fun H88 t87 gj54 o_p7 heq h => ?_)
                  refine i_gcons ?_
                  refine i_gsub ?_
                  refine i_var rfl ?_
                  refine i_var rfl ?_
                  refine s_set gj54 o_p7 (.inr (by simp)) rfl h (fun H90 t89 gj54 o_p7 heq h => ?_)
                  refine i_gnil ?_
                  exact hN _ _ _ _ h ⟨rfl, gj54, o_p7⟩
        obtain ⟨rfl, gj54, o_p7⟩ := hR
        replace r_p43 := RepL.mono gj54.s r_p43
        replace g := g.trans gj54 hm54
        refine nx_seq ?_
        refine i_ret ?_
        refine i_m1 ?_
        refine i_c ?_
        refine s_m1 ?_
        refine i_var rfl ?_
        refine s_join (K := K) o_p7.hp h (fun h => ?_)
        exact h _ _ g

abbrev s_law_number : PySem.Stmt := topS 33
theorem sc_law_number : FnScope ["word", "sign"] ["word"] (defScope s_law_number) := ⟨rfl, rfl, rfl, by decide +kernel, rfl, by decide +kernel, by decide +kernel⟩

def sp_law_number (K : Fr) : Sp := fun vs H Q E => ∃ (S0 : Hp) (word : PySem.Str), vs = [(V.str (word))] ∧ Ex S0 H ∧ wpm (m_law_number word) (fun r => ∀ S' H', Gx [] S0 H S' H' → Q (optV (r)) H') (fun c => ∀ S' H', Gx [] S0 H S' H' → E (.ref (caOf K c)) none H')

theorem ok_law_number {P : Program} {w : World} {K : Fr} {mg : PySem.Str → Option Value} {base : Heap} (A0 : At K mg "_law_number" s_law_number ["word"]) (n_len : mg "len" = none) (n_int : mg "int" = none) : Dfn P w K mg base "_law_number" 1 ["word"] (sp_law_number K) := by
  refine Dfn.mk' A0 fun f fd F => F.ok (CX := L2N.CX P w) sc_law_number (fun vs H Q E h => ?_) (fun cdv A outer s H vs Q E hr h => ?_)
  · obtain ⟨S0, word, rfl, e0, h⟩ := h
    rfl
  · obtain ⟨S0, word, rfl, e0, h⟩ := h
    unfold m_law_number at h
    have g : Gx [] S0 H S0 H := Gx.refl e0
    refine ⟨_, pss_cons (ps_if (PW.pt (pw_or (pt_not (pt_chain op_le op_le pe_int (pe_callB call_lenSG (by rfl) n_len (by decide +kernel) (pa_cons (pv 0) pa_nil)) pe_int)) (pw_or1 (pt_cmpR (op_nePK (K := K) hr.units) (pe_lc (own := [("sign", 1)]) (by rfl) sc_law_number.nd (pi_lenK (K := K) (pi_str (pv 0))) (blkOk_by (own := [("sign", 1)]) (N := ["word", "sign"]) (sc := defScope s_law_number) (by decide +kernel)) (fun _ _ _ _ _ => (pg_name (i := 1) sc_law_number.nd rfl (by first | exact Or.inl rfl | exact Or.inr rfl))) (fun _ _ _ _ _ => pts_one (pt_cmpR op_notInSG (pv 1) pe_str (by rfl))) (fun _ _ _ _ _ => (pv 1))) (pe_lst pa_nil) (nomark _))))) (pss_one (ps_ret pe_non)) pss_nil) (pss_cons (ps_if (PW.pt (pw_and (pt_cmpR op_eq (pe_ix ix_str (pv 0) pe_int (fun _ _ => rfl)) pe_str (nomark _)) (pw_and1 (pt_cmpR op_ne (pv 0) pe_str (nomark _))))) (pss_one (ps_ret pe_non)) pss_nil) (pss_one (ps_ret (pe_callTy call_intG (by rfl) n_int (by decide +kernel) (pa_cons (pv 0) pa_nil))))), ?_⟩
    refine i_start (σ := [some (V.str (word)), none]) rfl ?_
    refine i_seq ?_
    refine i_if ?_
    refine i_or ?_
    refine i_not ?_
    refine i_test ?_
    refine i_chain ?_
    refine i_c ?_
    refine i_cb ?_
    refine i_cons ?_
    refine i_var rfl ?_
    refine i_nil ?_
    refine s_lenS h (fun h => ?_)
    refine i_I0 ?_
    refine chain_s (decide ((word.length : Int) ≤ 30)) (fun N q => ?_) ?_
    · refine i_c ?_
      refine i_I0 ?_
      exact q
    refine i_bl ?_
    refine or_m h g.sh (fun ha2 PB N h hN => ?_) (fun t3 S4 H5 gs h => ?_)
    · have gm1 : Gx [] S0 H S0 H := Gx.refl g.sh
      refine i_test ?_
      refine i_op ?_
      refine i_lc ?_
      refine i_len ?_
      refine i_strI ?_
      refine i_var rfl ?_
      refine s_strIt ?_
      intro hlen
      obtain ⟨hl, h⟩ := wpm_guard h
      have wk6 : Wk K (Its word) (signs word) (fun (_ : Unit) (_ : St) S' H' => Gx [] S0 H S' H') := by
        refine wk_str fun st σ2 S2 H2 gl => ?_
        exact gl.sh
      refine s_compS (β := PySem.Str) wk6 (line_le hl) gm1 h (fun y6 v6 S6c H6c P6 T F gc6 rv h hT hF => ?_) (fun p9 S10 H11 t8 gA gs r_p9 h => ?_)
      · obtain rfl := rv
        refine i_nameE (σ' := [_, some (V.str (y6))]) rfl ?_
        refine ⟨rfl, ?_⟩
        have gt6 : Gx [] S6c H6c S6c H6c := Gx.refl gc6.sh
        refine i_test ?_
        refine i_op ?_
        refine i_var rfl ?_
        refine i_c ?_
        refine s_notInSG ?_
        refine i_bl ?_
        refine ite2b (fun hb7 => ?_) (fun hb7 => ?_)
        · replace h := wpm_t hb7 h
          refine i_var rfl ?_
          exact hT _ _ _ _ h gt6 (Flat.is.2 rfl)
        · replace h := wpm_f hb7 h
          exact hF _ _ h gt6
      replace gm1 := gA
      refine i_lst ?_
      refine i_nil ?_
      refine s_lstS (K := K) (xs := ([] : List (PySem.Str))) gm1 All2.nil (show (0 : Nat) ≤ 16777216 by decide) (fun p12 S13 H14 gA gs r_p12 => ?_)
      replace r_p9 := RepL.mono gs.s r_p9
      replace gm1 := gA
      refine s_neStrs (r_p9.hp gm1.sh) (r_p12.hp gm1.sh) ?_
      refine i_bl ?_
      exact hN _ _ _ gm1 h
    replace g := g.trans0 gs
    refine ite2b (fun hb15 => ?_) (fun hb15 => ?_)
    · replace h := wpm_t hb15 h
      refine i_ret ?_
      refine i_c ?_
      exact h _ _ g
    · replace h := wpm_f hb15 h
      refine i_next ?_
      refine nx_seq ?_
      refine i_seq ?_
      refine i_if ?_
      refine i_and ?_
      refine i_test ?_
      refine i_op ?_
      refine i_op ?_
      refine i_var rfl ?_
      refine i_c ?_
      refine s_sitem h (fun t16 h => ?_)
      refine i_c ?_
      refine i_eqS ?_
      refine i_bl ?_
      refine and_s ((!decide (word = (PySem.Str.ofString "0")))) (fun N q => ?_) ?_
      · refine i_test ?_
        refine i_op ?_
        refine i_var rfl ?_
        refine i_c ?_
        refine i_neS ?_
        refine i_bl ?_
        exact q
      refine ite2b (fun hb17 => ?_) (fun hb17 => ?_)
      · replace h := wpm_t hb17 h
        refine i_ret ?_
        refine i_c ?_
        exact h _ _ g
      · replace h := wpm_f hb17 h
        refine i_next ?_
        refine nx_seq ?_
        refine i_ret ?_
        refine i_cb ?_
        refine i_cons ?_
        refine i_var rfl ?_
        refine i_nil ?_
        refine s_intS h (fun t18 h => ?_)
        exact h _ _ g

abbrev s_law_hue : PySem.Stmt := topS 34
theorem sc_law_hue : FnScope ["word", "found"] ["word"] (defScope s_law_hue) := ⟨rfl, rfl, rfl, by decide +kernel, rfl, by decide +kernel, by decide +kernel⟩

def sp_law_hue (K : Fr) : Sp := fun vs H Q E => ∃ (S0 : Hp) (word : PySem.Str), vs = [(V.str (word))] ∧ Ex S0 H ∧ wpm (m_law_hue word) (fun r => ∀ S' H', Gx [] S0 H S' H' → Q (optV (r)) H') (fun c => ∀ S' H', Gx [] S0 H S' H' → E (.ref (caOf K c)) none H')

theorem ok_law_hue {P : Program} {w : World} {K : Fr} {mg : PySem.Str → Option Value} {base : Heap} (A0 : At K mg "_law_hue" s_law_hue ["word"]) (D_law_number : Dfn P w K mg base "_law_number" 1 ["word"] (sp_law_number K)) : Dfn P w K mg base "_law_hue" 2 ["word"] (sp_law_hue K) := by
  obtain ⟨f_law_number, fd_law_number, mg_law_number, kp_law_number, bd_law_number, ok_law_number'⟩ := D_law_number.ex
  refine Dfn.mk' A0 fun f fd F => F.ok (CX := L2N.CX P w) sc_law_hue (fun vs H Q E h => ?_) (fun cdv A outer s H vs Q E hr h => ?_)
  · obtain ⟨S0, word, rfl, e0, h⟩ := h
    rfl
  · obtain ⟨S0, word, rfl, e0, h⟩ := h
    unfold m_law_hue at h
    have g : Gx [] S0 H S0 H := Gx.refl e0
    refine ⟨_, pss_cons (ps_if (pt_cmpR op_ne (pe_slice sl_str (pv 0) po_none (po_some pe_int)) pe_str (nomark _)) (pss_one (ps_ret (pe_call ok_law_number' (hr.mono (by decide)) (by rfl) mg_law_number kp_law_number bd_law_number .nil (L2N.passes_call (L2N.takes_of rfl rfl rfl rfl) fun _ _ _ _ h => h) (pa_cons (pv 0) pa_nil)))) pss_nil) (pss_cons (ps_set (i := 1) sc_law_hue.nd rfl (by first | exact Or.inl rfl | exact Or.inr rfl) (pe_call ok_law_number' (hr.mono (by decide)) (by rfl) mg_law_number kp_law_number bd_law_number .nil (L2N.passes_call (L2N.takes_of rfl rfl rfl rfl) fun _ _ _ _ h => h) (pa_cons (pe_slice sl_str (pv 0) (po_some pe_int) po_none) pa_nil))) (pss_cons (ps_if (PW.pt (pw_or (pt_cmpR op_isNG (pv 1) pe_non (nomark _)) (pw_or1 (pt_cmpR op_eq (pv 1) pe_int (nomark _))))) (pss_one (ps_ret pe_non)) pss_nil) (pss_one (ps_ret (pe_op op_sub pe_int (pv 1)))))), ?_⟩
    refine i_start (σ := [some (V.str (word)), none]) rfl ?_
    refine i_seq ?_
    refine i_if ?_
    refine i_test ?_
    refine i_op ?_
    refine i_sl ?_
    refine i_var rfl ?_
    refine i_noPart ?_
    refine i_part ?_
    refine i_c ?_
    refine i_partI ?_
    refine s_cutS h (fun h => ?_)
    refine i_c ?_
    refine i_neS ?_
    refine i_bl ?_
    refine ite2b (fun hb1 => ?_) (fun hb1 => ?_)
    · replace h := wpm_t hb1 h
      refine i_ret ?_
      refine i_call ?_
      refine i_cons ?_
      refine i_var rfl ?_
      refine i_nil ?_
      refine ⟨S0, word, rfl, g.sh, wpm_mono (wb h) (fun t2 h S3 H4 gs => ?_) (fun c he S1 H1 gs => he _ _ (g.trans0 gs))⟩
      replace g := g.trans0 gs
      exact h _ _ g
    · replace h := wpm_f hb1 h
      refine i_next ?_
      refine nx_seq ?_
      refine i_seq ?_
      refine i_asg ?_
      refine i_call ?_
      refine i_cons ?_
      refine i_sl ?_
      refine i_var rfl ?_
      refine i_part ?_
      refine i_c ?_
      refine i_partI ?_
      refine i_noPart ?_
      refine s_cutS h (fun h => ?_)
      refine i_nil ?_
      refine ⟨S0, (cutS word (some 1) none), rfl, g.sh, wpm_mono (wb h) (fun t5 h S6 H7 gs => ?_) (fun c he S1 H1 gs => he _ _ (g.trans0 gs))⟩
      replace g := g.trans0 gs
      refine i_nameE (σ' := [_, some (optV (t5))]) rfl ?_
      refine nx_seq ?_
      refine i_seq ?_
      refine i_if ?_
      refine i_or ?_
      refine i_test ?_
      refine i_op ?_
      refine i_var rfl ?_
      refine i_c ?_
      refine s_isN (isN_opt) ?_
      refine i_bl ?_
      refine or_s ((decide (t5 = (some 0)))) (fun N q => ?_) ?_
      · refine i_test ?_
        refine i_op ?_
        refine i_var rfl ?_
        refine i_c ?_
        refine i_eqO (i := t5) (j := (some 0)) ?_
        refine i_bl ?_
        exact q
      refine ite2b (fun hb8 => ?_) (fun hb8 => ?_)
      · replace h := wpm_t hb8 h
        refine i_ret ?_
        refine i_c ?_
        exact h _ _ g
      · replace h := wpm_f hb8 h
        refine i_next ?_
        refine nx_seq ?_
        refine i_ret ?_
        refine i_op ?_
        refine i_c ?_
        obtain ⟨t9, e10, h⟩ := wpm_unwrap h
        refine i_varU rfl e10 ?_
        refine i_I0 ?_
        exact h _ _ g

abbrev s_law_due : PySem.Stmt := topS 35
theorem sc_law_due : FnScope ["text", "parents", "hues", "word", "number", "parent", "colon", "hue"] ["text"] (defScope s_law_due) := ⟨rfl, rfl, rfl, by decide +kernel, rfl, by decide +kernel, by decide +kernel⟩

def sp_law_due (K : Fr) : Sp := fun vs H Q E => ∃ (S0 : Hp) (text : PySem.Str), vs = [(V.str (text))] ∧ Ex S0 H ∧ wpm (m_law_due text) (fun r => ∀ v S' H', Gx [] S0 H S' H' → Py.rep K S' v r → Q v H') (fun c => ∀ S' H', Gx [] S0 H S' H' → E (.ref (caOf K c)) none H')

theorem ok_law_due {P : Program} {w : World} {K : Fr} {mg : PySem.Str → Option Value} {base : Heap} (A0 : At K mg "_law_due" s_law_due ["text"]) (D_law_number : Dfn P w K mg base "_law_number" 1 ["word"] (sp_law_number K)) (D_law_hue : Dfn P w K mg base "_law_hue" 2 ["word"] (sp_law_hue K)) (D_law_is_tree : Dfn P w K mg base "_law_is_tree" 1 ["parents"] (sp_law_is_tree K)) : Dfn P w K mg base "_law_due" 3 ["text"] (sp_law_due K) := by
  obtain ⟨f_law_number, fd_law_number, mg_law_number, kp_law_number, bd_law_number, ok_law_number'⟩ := D_law_number.ex
  obtain ⟨f_law_hue, fd_law_hue, mg_law_hue, kp_law_hue, bd_law_hue, ok_law_hue'⟩ := D_law_hue.ex
  obtain ⟨f_law_is_tree, fd_law_is_tree, mg_law_is_tree, kp_law_is_tree, bd_law_is_tree, ok_law_is_tree'⟩ := D_law_is_tree.ex
  refine Dfn.mk' A0 fun f fd F => F.ok (CX := L2N.CX P w) sc_law_due (fun vs H Q E h => ?_) (fun cdv A outer s H vs Q E hr h => ?_)
  · obtain ⟨S0, text, rfl, e0, h⟩ := h
    rfl
  · obtain ⟨S0, text, rfl, e0, h⟩ := h
    unfold m_law_due at h
    have g : Gx [] S0 H S0 H := Gx.refl e0
    refine ⟨_, pss_cons (ps_set (i := 1) sc_law_due.nd rfl (by first | exact Or.inl rfl | exact Or.inr rfl) (pe_lst pa_nil)) (pss_cons (ps_set (i := 2) sc_law_due.nd rfl (by first | exact Or.inl rfl | exact Or.inr rfl) (pe_lst pa_nil)) (pss_cons (ps_for (passes_of rfl) rfl (pi_listK (K := K) (pe_m1 PySem.F.slot_str_split PySem.F.type_str_split mt_splitG (pv 0) pe_str)) (pg_name (i := 3) sc_law_due.nd rfl (by first | exact Or.inl rfl | exact Or.inr rfl)) (pss_cons (ps_asg (pe_m1 PySem.F.slot_str_partition PySem.F.type_str_partition mt_partG (pv 3) pe_str) (pg_tupK (K := K) (n := 3) rfl (pgs_cons (pg_name (i := 5) sc_law_due.nd rfl (by first | exact Or.inl rfl | exact Or.inr rfl)) (pgs_cons (pg_name (i := 6) sc_law_due.nd rfl (by first | exact Or.inl rfl | exact Or.inr rfl)) (pgs_cons (pg_name (i := 7) sc_law_due.nd rfl (by first | exact Or.inl rfl | exact Or.inr rfl)) pgs_nil))))) (pss_cons (ps_set (i := 4) sc_law_due.nd rfl (by first | exact Or.inl rfl | exact Or.inr rfl) (pe_call ok_law_number' (hr.mono (by decide)) (by rfl) mg_law_number kp_law_number bd_law_number .nil (L2N.passes_call (L2N.takes_of rfl rfl rfl rfl) fun _ _ _ _ h => h) (pa_cons (pv 5) pa_nil))) (pss_cons (ps_if (PW.pt (pw_or (pt_cmpR op_eq (pv 6) pe_str (nomark _)) (pw_or (PW.pt (pw_and (pt_cmpR op_isNG (pv 4) pe_non (nomark _)) (pw_and1 (pt_cmpR op_ne (pv 5) pe_str (nomark _))))) (pw_or1 (pt_cmpR op_isNG (pe_call ok_law_hue' (hr.mono (by decide)) (by rfl) mg_law_hue kp_law_hue bd_law_hue .nil (L2N.passes_call (L2N.takes_of rfl rfl rfl rfl) fun _ _ _ _ h => h) (pa_cons (pv 7) pa_nil)) pe_non (nomark _)))))) (pss_one (ps_ret pe_str)) pss_nil) (pss_cons (ps_expr (pe_K (K := K) (pe_bm PySem.F.plainAttrs_list PySem.F.slot_list_append PySem.F.type_list_append mt_append (pv 1) (pa_cons (pv 4) pa_nil)))) (pss_one (ps_expr (pe_K (K := K) (pe_bm PySem.F.plainAttrs_list PySem.F.slot_list_append PySem.F.type_list_append mt_append (pv 2) (pa_cons (pe_call ok_law_hue' (hr.mono (by decide)) (by rfl) mg_law_hue kp_law_hue bd_law_hue .nil (L2N.passes_call (L2N.takes_of rfl rfl rfl rfl) fun _ _ _ _ h => h) (pa_cons (pv 7) pa_nil)) pa_nil)))))))))) (pss_cons (ps_if (pt_not (pt_val (pe_call ok_law_is_tree' (hr.mono (by decide)) (by rfl) mg_law_is_tree kp_law_is_tree bd_law_is_tree .nil (L2N.passes_call (L2N.takes_of rfl rfl rfl rfl) fun _ _ _ _ h => h) (pa_cons (pv 1) pa_nil)))) (pss_one (ps_ret pe_str)) pss_nil) (pss_one (ps_ret (pe_tup (pa_cons (pv 1) (pa_cons (pv 2) pa_nil)))))))), ?_⟩
    refine i_start (σ := [some (V.str (text)), none, none, none, none, none, none, none]) rfl ?_
    refine i_seq ?_
    refine i_asg ?_
    refine i_lst ?_
    refine i_nil ?_
    refine s_lstO (K := K) (xs := ([] : List (Option Int))) g All2.nil (show (0 : Nat) ≤ 16777216 by decide) (fun p1 H3 gA gs hp_p1 o_p1 => ?_)
    have f0_p1 := Gx.back g hp_p1
    replace g := gA
    refine i_nameE (σ' := [_, some (V.ref p1), _, _, _, _, _, _]) rfl ?_
    refine nx_seq ?_
    refine i_seq ?_
    refine i_asg ?_
    refine i_lst ?_
    refine i_nil ?_
    refine s_lstO (K := K) (xs := ([] : List (Option Int))) g All2.nil (show (0 : Nat) ≤ 16777216 by decide) (fun p4 H6 gA gs hp_p4 o_p4 => ?_)
    have ne_p1_p4 := OwnL.ne o_p1 hp_p4
    have f0_p4 := Gx.back g hp_p4
    replace o_p1 := OwnL.keep0 o_p1 gs
    replace g := gA
    refine i_nameE (σ' := [_, _, some (V.ref p4), _, _, _, _, _]) rfl ?_
    refine nx_seq ?_
    refine i_seq ?_
    refine i_for ?_
    refine i_list ?_
    refine i_m1 ?_
    refine i_var rfl ?_
    refine s_m1 ?_
    refine i_c ?_
    refine s_splitS (K := K) g h (fun p8 S9 H10 gA gs r_p8 h => ?_)
    replace o_p1 := OwnL.keep0 o_p1 gs
    replace o_p4 := OwnL.keep0 o_p4 gs
    replace g := gA
    refine i_listA (r_p8.hp g.sh) ?_
    have hm7 : ∀ x ∈ [p1, p4], x ∈ [] ∨ H x = none := by
      intro x hx
      simp only [List.mem_append, List.mem_cons, List.not_mem_nil, or_false] at hx
      rcases hx with rfl | rfl
      · exact (Or.symm (.inl f0_p1))
      · exact (Or.symm (.inl f0_p4))
    have wk7 : Wk K (Itl K p8) (PySem.Txt.split text (PySem.Str.ofString " ")) (fun (st7 : (List (Option Int)) × (List (Option Int))) σ' S' H' => ∃ (j_parent : Option V) (j_colon : Option V) (j_hue : Option V) (j_number : Option V) (j_word : Option V), σ' = [some (V.str (text)), some (V.ref p1), some (V.ref p4), j_word, j_number, j_parent, j_colon, j_hue] ∧ Gx [p1, p4] S9 H10 S' H' ∧ OwnL K S' H' p1 st7.1 ∧ OwnL K S' H' p4 st7.2) := by
      refine wk_list fun st σ2 S2 H2 hR => ?_
      obtain ⟨j_parent, j_colon, j_hue, j_number, j_word, rfl, gl7, o_p1, o_p4⟩ := hR
      exact ⟨gl7.sh, (RepL.hp (RepL.mono gl7.s r_p8) gl7.sh)⟩
    refine s_forR (R := (fun (st7 : (List (Option Int)) × (List (Option Int))) σ' S' H' => ∃ (j_parent : Option V) (j_colon : Option V) (j_hue : Option V) (j_number : Option V) (j_word : Option V), σ' = [some (V.str (text)), some (V.ref p1), some (V.ref p4), j_word, j_number, j_parent, j_colon, j_hue] ∧ Gx [p1, p4] S9 H10 S' H' ∧ OwnL K S' H' p1 st7.1 ∧ OwnL K S' H' p4 st7.2)) (s0 := (([] : List (Option Int)), ([] : List (Option Int)))) wk7 ⟨_, _, _, _, _, rfl, (Gx.refl g.sh), o_p1, o_p4⟩ h (fun y7 v7 st7 σ1 S7a H7a S7b H7b P7 hret7 hR gs rv h => ?_) (fun st7 σ1 S7j H7j hR h => ?_)
    · obtain ⟨j_parent, j_colon, j_hue, j_number, j_word, rfl, gl7, o_p1, o_p4⟩ := hR
      replace o_p1 := OwnL.keep0 o_p1 gs
      replace o_p4 := OwnL.keep0 o_p4 gs
      replace gl7 := gl7.trans0 gs
      obtain rfl := rv
      refine i_nameE (σ' := [_, _, _, some (V.str (y7)), _, _, _, _]) rfl ?_
      refine i_seq ?_
      refine i_asg ?_
      refine i_m1 ?_
      refine i_var rfl ?_
      refine s_m1 ?_
      refine i_c ?_
      refine s_part (K := K) gl7 h (fun p11 S12 H13 gA gs r_p11 h => ?_)
      replace o_p1 := OwnL.keep0 o_p1 gs
      replace o_p4 := OwnL.keep0 o_p4 gs
      replace gl7 := gA
      obtain ⟨_, hs15, _, _, rfl, rfl, _, _, rfl, rfl, _, _, rfl, rfl, rfl⟩ := rep_at r_p11
      refine i_gtup (ex_t gl7.sh hs15) rfl ?_
      refine i_gcons ?_
      refine i_nameE (σ' := [_, _, _, _, _, some (V.str ((tpart y7 (PySem.Str.ofString ":")).1)), _, _]) rfl ?_
      refine i_gcons ?_
      refine i_nameE (σ' := [_, _, _, _, _, _, some (V.str ((tpart y7 (PySem.Str.ofString ":")).2.1)), _]) rfl ?_
      refine i_gcons ?_
      refine i_nameE (σ' := [_, _, _, _, _, _, _, some (V.str ((tpart y7 (PySem.Str.ofString ":")).2.2.1))]) rfl ?_
      refine i_gnil ?_
      refine nx_seq ?_
      refine i_seq ?_
      refine i_asg ?_
      refine i_call ?_
      refine i_cons ?_
      refine i_var rfl ?_
      refine i_nil ?_
      refine ⟨S12, (tpart y7 (PySem.Str.ofString ":")).1, rfl, gl7.sh, wpm_mono (wb h) (fun t22 h S23 H24 gs => ?_) (fun c he S1 H1 gs => he _ _ (g.trans (gl7.trans0 gs) hm7))⟩
      replace o_p1 := OwnL.keep0 o_p1 gs
      replace o_p4 := OwnL.keep0 o_p4 gs
      replace gl7 := gl7.trans0 gs
      refine i_nameE (σ' := [_, _, _, _, some (optV (t22)), _, _, _]) rfl ?_
      refine nx_seq ?_
      refine i_seq ?_
      refine i_if ?_
      refine i_or ?_
      refine i_test ?_
      refine i_op ?_
      refine i_var rfl ?_
      refine i_c ?_
      refine i_eqS ?_
      refine i_bl ?_
      refine or_m h gl7.sh (fun ha26 PB N h hN => ?_) (fun t27 S28 H29 gs h => ?_)
      · have gm25 : Gx [] S23 H24 S23 H24 := Gx.refl gl7.sh
        refine i_or ?_
        refine i_and ?_
        refine i_test ?_
        refine i_op ?_
        refine i_var rfl ?_
        refine i_c ?_
        refine s_isN (isN_opt) ?_
        refine i_bl ?_
        refine and_s ((!decide (((tpart y7 (PySem.Str.ofString ":")).1) = (PySem.Str.ofString "-")))) (fun N q => ?_) ?_
        · refine i_test ?_
          refine i_op ?_
          refine i_var rfl ?_
          refine i_c ?_
          refine i_neS ?_
          refine i_bl ?_
          exact q
        refine or_m h gm25.sh (fun ha31 PB N h hN => ?_) (fun t32 S33 H34 gs h => ?_)
        · have gm30 : Gx [] S23 H24 S23 H24 := Gx.refl gm25.sh
          refine i_test ?_
          refine i_op ?_
          refine i_call ?_
          refine i_cons ?_
          refine i_var rfl ?_
          refine i_nil ?_
          refine ⟨S23, (tpart y7 (PySem.Str.ofString ":")).2.2.1, rfl, gm30.sh, wpm_mono (wb h) (fun t35 h S36 H37 gs => ?_) (fun c he S1 H1 gs => he _ _ (g.trans (gl7.trans0 (gm25.trans0 (gm30.trans0 gs))) hm7))⟩
          replace o_p1 := OwnL.keep0 o_p1 gs
          replace o_p4 := OwnL.keep0 o_p4 gs
          replace gm30 := gm30.trans0 gs
          refine i_c ?_
          refine s_isN (isN_opt) ?_
          refine i_bl ?_
          exact hN _ _ _ gm30 h
        replace o_p1 := OwnL.keep0 o_p1 gs
        replace o_p4 := OwnL.keep0 o_p4 gs
        replace gm25 := gm25.trans0 gs
        exact hN _ _ _ gm25 h
      replace o_p1 := OwnL.keep0 o_p1 gs
      replace o_p4 := OwnL.keep0 o_p4 gs
      replace gl7 := gl7.trans0 gs
      refine ite2b (fun hb38 => ?_) (fun hb38 => ?_)
      · replace h := wpm_t hb38 h
        refine i_ret ?_
        refine i_c ?_
        exact (hret7 _ h) _ _ _ (g.trans gl7 hm7) (show Py.rep (α := PyData) K _ (V.str (PySem.Str.ofString "text")) (PyData.str (PySem.Str.ofString "text")) from Dp.str _)
      · replace h := wpm_f hb38 h
        refine i_next ?_
        refine nx_seq ?_
        refine i_seq ?_
        refine i_drop ?_
        refine i_bm ?_
        refine i_var rfl ?_
        refine s_bmL o_p1.hp ?_
        refine i_cons ?_
        refine i_var rfl ?_
        refine i_nil ?_
        refine s_app (x := t22) gl7 o_p1 (.inr (by simp)) (Flat.is.2 rfl) h (fun H39 gA oA heq h => ?_)
        replace gl7 := gA
        replace o_p1 := oA
        replace o_p4 := o_p4.other (Ne.symm ne_p1_p4) heq
        refine nx_seq ?_
        refine i_drop ?_
        refine i_bm ?_
        refine i_var rfl ?_
        refine s_bmL o_p4.hp ?_
        refine i_cons ?_
        refine i_call ?_
        refine i_cons ?_
        refine i_var rfl ?_
        refine i_nil ?_
        refine ⟨S28, (tpart y7 (PySem.Str.ofString ":")).2.2.1, rfl, gl7.sh, wpm_mono (wb h) (fun t40 h S41 H42 gs => ?_) (fun c he S1 H1 gs => he _ _ (g.trans (gl7.trans0 gs) hm7))⟩
        replace o_p1 := OwnL.keep0 o_p1 gs
        replace o_p4 := OwnL.keep0 o_p4 gs
        replace gl7 := gl7.trans0 gs
        refine i_nil ?_
        refine s_app (x := t40) gl7 o_p4 (.inr (by simp)) (Flat.is.2 rfl) h (fun H43 gA oA heq h => ?_)
        replace gl7 := gA
        replace o_p4 := oA
        replace o_p1 := o_p1.other ne_p1_p4 heq
        exact ⟨_, _, h, _, _, _, _, _, rfl, gl7, o_p1, o_p4⟩
    obtain ⟨j_parent, j_colon, j_hue, j_number, j_word, rfl, gl7, o_p1, o_p4⟩ := hR
    replace g := g.trans gl7 hm7
    refine nx_seq ?_
    refine i_seq ?_
    refine i_if ?_
    refine i_not ?_
    refine i_B ?_
    refine i_call ?_
    refine i_cons ?_
    refine i_var rfl ?_
    refine i_nil ?_
    obtain ⟨vs44, ow45, rs46⟩ := o_p1
    refine ⟨(upd S7j p1 (.lst vs44)), p1, st7.1, rfl, (ex_frz ow45 g.sh), ⟨vs44, upd_same, Reps.mono (Ex.new ow45.free) rs46⟩, wpm_mono (wb h) (fun t47 h S48 H49 gs => ?_) (fun c he S1 H1 gs => he _ _ (g.trans0 (gs.undo g.sh)))⟩
    replace gs := gs.undo g.sh
    have o_p1 : OwnL K S7j H7j p1 st7.1 := ⟨vs44, ow45, rs46⟩
    replace o_p1 := OwnL.keep0 o_p1 gs
    replace o_p4 := OwnL.keep0 o_p4 gs
    replace g := g.trans0 gs
    refine i_bl ?_
    refine ite2b (fun hb50 => ?_) (fun hb50 => ?_)
    · replace h := wpm_t hb50 h
      refine i_ret ?_
      refine i_c ?_
      exact h _ _ _ g (show Py.rep (α := PyData) K _ (V.str (PySem.Str.ofString "tree")) (PyData.str (PySem.Str.ofString "tree")) from Dp.str _)
    · replace h := wpm_f hb50 h
      refine i_next ?_
      refine nx_seq ?_
      refine own_frz g o_p1 f0_p1 (fun S51 gA eS hbS r_p1 => ?_)
      replace o_p4 := OwnL.lift2 o_p4 hbS eS (Ne.symm ne_p1_p4)
      replace g := gA
      refine own_frz g o_p4 f0_p4 (fun S52 gA eS hbS r_p4 => ?_)
      replace r_p1 := RepL.mono eS r_p1
      replace g := gA
      refine i_ret ?_
      refine i_tup ?_
      refine i_cons ?_
      refine i_var rfl ?_
      refine i_cons ?_
      refine i_var rfl ?_
      refine i_nil ?_
      refine s_tup (K := K) (τ := List (Option Int)) (υ := List (Option Int) × Unit) (t := ((st7.1, st7.2, ()) : (List (Option Int) × List (Option Int) × Unit))) g (rept_cons (rep_list r_p1) (rept_cons (rep_list r_p4) rept_nil)) (show (2 : Nat) ≤ 16777216 by decide) (fun p53 S54 H55 gA gs r_p53 => ?_)
      replace r_p1 := RepL.mono gs.s r_p1
      replace r_p4 := RepL.mono gs.s r_p4
      replace g := gA
      have rd56 : Py.rep (α := PyData) K S54 (V.ref p53) (PyD.toD (α := (List (Option Int) × List (Option Int) × Unit)) (st7.1, st7.2, ())) := PyD.dp (α := (List (Option Int) × List (Option Int) × Unit)) r_p53
      exact h _ _ _ g rd56

abbrev s_law_told : PySem.Stmt := topS 36
theorem sc_law_told : FnScope ["text", "found", "e", "k"] ["text"] (defScope s_law_told) := ⟨rfl, rfl, rfl, by decide +kernel, rfl, by decide +kernel, by decide +kernel⟩

def sp_law_told (K : Fr) : Sp := fun vs H Q E => ∃ (S0 : Hp) (text : PySem.Str), vs = [(V.str (text))] ∧ Ex S0 H ∧ wpm (m_law_told text) (fun r => ∀ v S' H', Gx [] S0 H S' H' → Py.rep K S' v r → Q v H') (fun c => ∀ S' H', Gx [] S0 H S' H' → E (.ref (caOf K c)) none H')

theorem ok_law_told {P : Program} {w : World} {K : Fr} {mg : PySem.Str → Option Value} {base : Heap} (A0 : At K mg "_law_told" s_law_told ["text"]) (Dread_tree : Dfn P w K mg base "read_tree" 4 ["text"] (spread_tree K)) (D_law_flags : DfnQ P w K mg base "_law_flags" 1 ["e"] (sp_law_flags K)) (n_range : mg "range" = none) (n_int : mg "int" = none) (xc_HueError : XcOk K mg (caOf K) .hue "HueError") (XF : XcF K) : Dfn P w K mg base "_law_told" 5 ["text"] (sp_law_told K) := by
  obtain ⟨fread_tree, fdread_tree, mgread_tree, kpread_tree, bdread_tree, okread_tree'⟩ := Dread_tree.ex
  obtain ⟨f_law_flags, fd_law_flags, mg_law_flags, kp_law_flags, bd_law_flags, ok_law_flags'⟩ := D_law_flags.ex
  refine Dfn.mk' A0 fun f fd F => F.ok (CX := L2N.CX P w) sc_law_told (fun vs H Q E h => ?_) (fun cdv A outer s H vs Q E hr h => ?_)
  · obtain ⟨S0, text, rfl, e0, h⟩ := h
    rfl
  · obtain ⟨S0, text, rfl, e0, h⟩ := h
    unfold m_law_told at h
    have g : Gx [] S0 H S0 H := Gx.refl e0
    refine ⟨_, pss_cons (ps_set (i := 1) sc_law_told.nd rfl (by first | exact Or.inl rfl | exact Or.inr rfl) pe_non) (pss_cons (ps_tryXK (K := K) (i := 2) rfl rfl rfl sc_law_told.nd rfl rfl ⟨by rfl, by decide, .inl xc_HueError.mg⟩ (L2N.takes_of rfl rfl rfl rfl) (fun W pn xe tk po => pss_one (ps_set (i := 1) sc_law_told.nd rfl (by first | exact Or.inl rfl | exact Or.inr rfl) (pe_callS okread_tree' (hr.mono (by decide)) (by rfl) mgread_tree kpread_tree bdread_tree (fun σ => L2N.passAt tk σ) (pa_cons (pv 0) pa_nil)))) (fun ax pn => pss_cons (ps_set (i := 1) sc_law_told.nd rfl (by first | exact Or.inl rfl | exact Or.inr rfl) (pe_ix (ix_listK (K := K)) (pe_lst (pa_cons pe_str (pa_cons pe_str pa_nil))) (pe_callTy call_int1G (by rfl) n_int (by decide +kernel) (pa_cons (pe_cmpR (op_eqK (K := K) hr.units) (pe_callQ ok_law_flags' (roomQ (hr.mono (by decide))) (by rfl) mg_law_flags kp_law_flags bd_law_flags (pa_cons (pv 2) pa_nil)) (pe_lcX (a := ax) (own := [("k", 3)]) sc_law_told.nd (blkOk_by (own := [("k", 3)]) (by kernel_rfl)) (fun _ _ _ _ _ => (pg_name (i := 3) sc_law_told.nd rfl (by first | exact Or.inl rfl | exact Or.inr rfl))) (fun _ _ _ _ _ => pe_cmpR op_eq (pv 3) pe_int (nomark _)) (pi_range1X (by rfl) n_range (pa_cons pe_int pa_nil))) (nomark _)) pa_nil)) (fun _ _ => rfl))) (pss_one (ps_if (pt_cmpR (op_eqK (K := K) hr.units) (pe_callQ ok_law_flags' (roomQ (hr.mono (by decide))) (by rfl) mg_law_flags kp_law_flags bd_law_flags (pa_cons (pv 2) pa_nil)) (pe_lcX (a := ax) (own := [("k", 3)]) sc_law_told.nd (blkOk_by (own := [("k", 3)]) (by kernel_rfl)) (fun _ _ _ _ _ => (pg_name (i := 3) sc_law_told.nd rfl (by first | exact Or.inl rfl | exact Or.inr rfl))) (fun _ _ _ _ _ => pe_cmpR op_eq (pv 3) pe_int (nomark _)) (pi_range1X (by rfl) n_range (pa_cons pe_int pa_nil))) (nomark _)) (pss_one (ps_set (i := 1) sc_law_told.nd rfl (by first | exact Or.inl rfl | exact Or.inr rfl) pe_str)) pss_nil)))) (pss_one (ps_ret (pv 1)))), ?_⟩
    refine i_start (σ := [some (V.str (text)), none, none, none]) rfl ?_
    refine i_seq ?_
    refine i_asg ?_
    refine i_c ?_
    refine i_nameE (σ' := [_, some V.non, _, _]) rfl ?_
    refine nx_seq ?_
    refine i_seq ?_
    have hm1 : ∀ x ∈ ([] : List Addr), x ∈ [] ∨ H x = none := fun x hx => nomatch hx
    refine i_tryJ .hue XF (R := (fun (st1 : PyData) σ' S' H' => ∃ (j_e : Option V) (w_found : V), σ' = [some (V.str (text)), some w_found, j_e, none] ∧ Gx [] S0 H S' H' ∧ Py.rep K S' w_found st1)) (Rx := (fun σ' S' H' => σ' = [some (V.str (text)), some V.non, none, none] ∧ Gx [] S0 H S' H')) h (fun PJ EJ N W hN hW h => ?_) (fun PJ N xc1 ax1 σ1 S1x H1x S1y H1y hN hx gs r_xc1 h => ?_) (fun c σ1 S1 H1 z => nomatch (xcSub_hue c).symm.trans z) (fun σ1 S1 H1 hx => by obtain ⟨_, g⟩ := hx; exact g.sh) (fun st1 σ1 S1j H1j hR h => ?_)
    · have gj1 : Gx [] S0 H S0 H := Gx.refl g.sh
      refine i_asg ?_
      refine i_callS ?_
      refine i_cons ?_
      refine i_var rfl ?_
      refine i_nil ?_
      refine ⟨S0, text, rfl, gj1.sh, wpm_mono (wb h) (fun t2 h v5 S3 H4 gs r_v5 => ?_) (fun c he S1 H1 gs => hW c _ _ _ he ⟨rfl, (gj1.trans0 gs)⟩)⟩
      replace gj1 := gj1.trans0 gs
      refine i_nameE (σ' := [_, some v5, _, _]) rfl ?_
      have rd6 : Py.rep (α := PyData) K S3 v5 (PyD.toD (α := (List (Option Int) × List Int × Unit)) t2) := PyD.dp (α := (List (Option Int) × List Int × Unit)) r_v5
      exact hN _ _ _ _ h ⟨_, _, rfl, gj1, rd6⟩
    · obtain ⟨rfl, gx⟩ := hx
      replace gx := gx.trans0 gs
      refine i_sigT (σ' := [_, _, some (V.ref ax1), _]) rfl ?_
      refine i_seq ?_
      refine i_asg ?_
      refine i_op ?_
      refine i_lst ?_
      refine i_cons ?_
      refine i_c ?_
      refine i_cons ?_
      refine i_c ?_
      refine i_nil ?_
      refine s_lstS (K := K) (xs := ([PySem.Str.ofString "other", PySem.Str.ofString "tree"] : List (PySem.Str))) gx (All2.cons rfl (All2.cons rfl All2.nil)) (show (2 : Nat) ≤ 16777216 by decide) (fun p7 S8 H9 gA gs r_p7 => ?_)
      replace r_xc1 := Py.mono gs.s r_xc1
      replace gx := gA
      refine i_cb ?_
      refine i_cons ?_
      refine i_op ?_
      refine i_call ?_
      refine i_cons ?_
      refine i_var rfl ?_
      refine i_nil ?_
      refine ⟨S8, (V.ref ax1), xc1, rfl, gx.sh, r_xc1, wpm_mono (wb_ne h) (fun t10 h p13 S11 H12 gs r_p13 => ?_) (fun c he => he.elim)⟩
      replace r_xc1 := Py.mono gs.s r_xc1
      replace r_p7 := RepL.mono gs.s r_p7
      replace gx := gx.trans0 gs
      refine i_lc ?_
      refine i_rngX (i_cons ?_)
      refine i_c ?_
      refine i_nil ?_
      refine i_rngXA h (fun h => ?_)
      obtain ⟨hl, h⟩ := wpm_guard h
      have wk14 : Wk K (Itx ax1 0 ((10 : Int) - 0).toNat) (rng 0 10) (fun (_ : Unit) (_ : St) S' H' => Gx [] S11 H12 S' H') := by
        refine wk_rngX fun st σ2 S2 H2 gl => ?_
        exact ⟨gl.sh, exc_at (Py.mono gl.s r_xc1)⟩
      refine s_compS (β := Bool) wk14 (line_le hl) gx h (fun y14 v14 S14c H14c P14 T F gc14 rv h hT hF => ?_) (fun p16 S17 H18 t15 gA gs r_p16 h => ?_)
      · replace r_xc1 := Py.mono gc14.s r_xc1
        replace r_p7 := RepL.mono gc14.s r_p7
        replace r_p13 := RepL.mono gc14.s r_p13
        obtain rfl := rv
        refine i_nameE (σ' := [_, _, _, some (V.int (y14))]) rfl ?_
        refine ⟨rfl, ?_⟩
        have gt14 : Gx [] S14c H14c S14c H14c := Gx.refl gc14.sh
        refine i_yes ?_
        refine ite2b (fun _ => ?_) (fun hb => nomatch hb)
        refine i_op ?_
        refine i_var rfl ?_
        refine i_c ?_
        refine i_eqI ?_
        exact hT _ _ _ _ h gt14 (Flat.is.2 rfl)
      replace r_xc1 := Py.mono gs.s r_xc1
      replace r_p7 := RepL.mono gs.s r_p7
      replace r_p13 := RepL.mono gs.s r_p13
      replace gx := gA
      refine s_eqDD (x := (t10 : List Bool)) (y := (t15 : List Bool)) (Dp.mono gx.sh (PyD.dp (rep_list r_p13))) (Dp.mono gx.sh (PyD.dp (rep_list r_p16))) ?_
      refine i_nil ?_
      refine s_intB ?_
      refine s_idxF (r_p7.hp gx.sh) h (fun t19 h => ?_)
      refine i_nameE (σ' := [_, some (V.str (t19)), _, _]) rfl ?_
      refine nx_seq ?_
      refine i_if ?_
      refine i_test ?_
      refine i_op ?_
      refine i_call ?_
      refine i_cons ?_
      refine i_var rfl ?_
      refine i_nil ?_
      refine ⟨S17, (V.ref ax1), xc1, rfl, gx.sh, r_xc1, wpm_mono (wb_ne h) (fun t20 h p23 S21 H22 gs r_p23 => ?_) (fun c he => he.elim)⟩
      replace r_xc1 := Py.mono gs.s r_xc1
      replace gx := gx.trans0 gs
      refine i_lc ?_
      refine i_rngX (i_cons ?_)
      refine i_c ?_
      refine i_nil ?_
      refine i_rngXA h (fun h => ?_)
      obtain ⟨hl, h⟩ := wpm_guard h
      have wk24 : Wk K (Itx ax1 0 ((10 : Int) - 0).toNat) (rng 0 10) (fun (_ : Unit) (_ : St) S' H' => Gx [] S21 H22 S' H') := by
        refine wk_rngX fun st σ2 S2 H2 gl => ?_
        exact ⟨gl.sh, exc_at (Py.mono gl.s r_xc1)⟩
      refine s_compS (β := Bool) wk24 (line_le hl) gx h (fun y24 v24 S24c H24c P24 T F gc24 rv h hT hF => ?_) (fun p26 S27 H28 t25 gA gs r_p26 h => ?_)
      · replace r_xc1 := Py.mono gc24.s r_xc1
        replace r_p23 := RepL.mono gc24.s r_p23
        obtain rfl := rv
        refine i_nameE (σ' := [_, _, _, some (V.int (y24))]) rfl ?_
        refine ⟨rfl, ?_⟩
        have gt24 : Gx [] S24c H24c S24c H24c := Gx.refl gc24.sh
        refine i_yes ?_
        refine ite2b (fun _ => ?_) (fun hb => nomatch hb)
        refine i_op ?_
        refine i_var rfl ?_
        refine i_c ?_
        refine i_eqI ?_
        exact hT _ _ _ _ h gt24 (Flat.is.2 rfl)
      replace r_xc1 := Py.mono gs.s r_xc1
      replace r_p23 := RepL.mono gs.s r_p23
      replace gx := gA
      refine s_eqDD (x := (t20 : List Bool)) (y := (t25 : List Bool)) (Dp.mono gx.sh (PyD.dp (rep_list r_p23))) (Dp.mono gx.sh (PyD.dp (rep_list r_p26))) ?_
      refine i_bl ?_
      refine ite2b (fun hb29 => ?_) (fun hb29 => ?_)
      · replace h := wpm_t hb29 h
        refine i_asg ?_
        refine i_c ?_
        refine i_nameE (σ' := [_, some (V.str (PySem.Str.ofString "text")), _, _]) rfl ?_
        exact hN _ _ _ _ h ⟨_, _, rfl, gx, (show Py.rep (α := PyData) K _ (V.str (PySem.Str.ofString "text")) (PyData.str (PySem.Str.ofString "text")) from Dp.str _)⟩
      · replace h := wpm_f hb29 h
        refine i_next ?_
        exact hN _ _ _ _ h ⟨_, _, rfl, gx, (show Py.rep (α := PyData) K _ (V.str (t19)) (PyData.str t19) from Dp.str _)⟩
    obtain ⟨j_e, w_found, rfl, gj1, r_found⟩ := hR
    replace g := g.trans gj1 hm1
    refine nx_seq ?_
    refine i_ret ?_
    refine i_var rfl ?_
    exact h _ _ _ g r_found

abbrev s_law_right : PySem.Stmt := topS 37
theorem sc_law_right : FnScope ["text", "due"] ["text"] (defScope s_law_right) := ⟨rfl, rfl, rfl, by decide +kernel, rfl, by decide +kernel, by decide +kernel⟩

def sp_law_right (K : Fr) : Sp := fun vs H Q E => ∃ (S0 : Hp) (text : PySem.Str), vs = [(V.str (text))] ∧ Ex S0 H ∧ wpm (m_law_right text) (fun r => ∀ S' H', Gx [] S0 H S' H' → Q (V.bl (r)) H') (fun c => ∀ S' H', Gx [] S0 H S' H' → E (.ref (caOf K c)) none H')

theorem ok_law_right {P : Program} {w : World} {K : Fr} {mg : PySem.Str → Option Value} {base : Heap} (A0 : At K mg "_law_right" s_law_right ["text"]) (D_law_due : Dfn P w K mg base "_law_due" 3 ["text"] (sp_law_due K)) (D_law_same : Dfn P w K mg base "_law_same" 5 ["found", "due"] (sp_law_same K 4)) (D_law_told : Dfn P w K mg base "_law_told" 5 ["text"] (sp_law_told K)) : Dfn P w K mg base "_law_right" 6 ["text"] (sp_law_right K) := by
  obtain ⟨f_law_due, fd_law_due, mg_law_due, kp_law_due, bd_law_due, ok_law_due'⟩ := D_law_due.ex
  obtain ⟨f_law_same, fd_law_same, mg_law_same, kp_law_same, bd_law_same, ok_law_same'⟩ := D_law_same.ex
  obtain ⟨f_law_told, fd_law_told, mg_law_told, kp_law_told, bd_law_told, ok_law_told'⟩ := D_law_told.ex
  refine Dfn.mk' A0 fun f fd F => F.ok (CX := L2N.CX P w) sc_law_right (fun vs H Q E h => ?_) (fun cdv A outer s H vs Q E hr h => ?_)
  · obtain ⟨S0, text, rfl, e0, h⟩ := h
    rfl
  · obtain ⟨S0, text, rfl, e0, h⟩ := h
    unfold m_law_right at h
    have g : Gx [] S0 H S0 H := Gx.refl e0
    refine ⟨_, pss_cons (ps_set (i := 1) sc_law_right.nd rfl (by first | exact Or.inl rfl | exact Or.inr rfl) (pe_call ok_law_due' (hr.mono (by decide)) (by rfl) mg_law_due kp_law_due bd_law_due .nil (L2N.passes_call (L2N.takes_of rfl rfl rfl rfl) fun _ _ _ _ h => h) (pa_cons (pv 0) pa_nil))) (pss_one (ps_ret (pe_and (pe_call ok_law_same' (hr.mono (by decide)) (by rfl) mg_law_same kp_law_same bd_law_same .nil (L2N.passes_call (L2N.takes_of rfl rfl rfl rfl) fun _ _ _ _ h => h) (pa_cons (pe_call ok_law_told' (hr.mono (by decide)) (by rfl) mg_law_told kp_law_told bd_law_told .nil (L2N.passes_call (L2N.takes_of rfl rfl rfl rfl) fun _ _ _ _ h => h) (pa_cons (pv 0) pa_nil)) (pa_cons (pv 1) pa_nil))) (pe_one (pe_call ok_law_same' (hr.mono (by decide)) (by rfl) mg_law_same kp_law_same bd_law_same .nil (L2N.passes_call (L2N.takes_of rfl rfl rfl rfl) fun _ _ _ _ h => h) (pa_cons (pe_call ok_law_told' (hr.mono (by decide)) (by rfl) mg_law_told kp_law_told bd_law_told .nil (L2N.passes_call (L2N.takes_of rfl rfl rfl rfl) fun _ _ _ _ h => h) (pa_cons (pv 0) pa_nil)) (pa_cons (pv 1) pa_nil))))))), ?_⟩
    refine i_start (σ := [some (V.str (text)), none]) rfl ?_
    refine i_seq ?_
    refine i_asg ?_
    refine i_call ?_
    refine i_cons ?_
    refine i_var rfl ?_
    refine i_nil ?_
    refine ⟨S0, text, rfl, g.sh, wpm_mono (wb h) (fun t1 h v4 S2 H3 gs r_v4 => ?_) (fun c he S1 H1 gs => he _ _ (g.trans0 gs))⟩
    replace g := g.trans0 gs
    refine i_nameE (σ' := [_, some v4]) rfl ?_
    refine nx_seq ?_
    refine i_ret ?_
    refine i_andV ?_
    refine i_call ?_
    refine i_cons ?_
    refine i_call ?_
    refine i_cons ?_
    refine i_var rfl ?_
    refine i_nil ?_
    refine ⟨S2, text, rfl, g.sh, wpm_mono (wb h) (fun t5 h v8 S6 H7 gs r_v8 => ?_) (fun c he S1 H1 gs => he _ _ (g.trans0 gs))⟩
    replace r_v4 := Py.mono gs.s r_v4
    replace g := g.trans0 gs
    refine i_cons ?_
    refine i_var rfl ?_
    refine i_nil ?_
    refine ⟨S6, v8, t5, v4, t1, rfl, g.sh, r_v8, r_v4, wpm_mono (wb h) (fun t9 h S10 H11 gs => ?_) (fun c he S1 H1 gs => he _ _ (g.trans0 gs))⟩
    replace r_v4 := Py.mono gs.s r_v4
    replace g := g.trans0 gs
    refine andV_m h g.sh (fun ha13 PB N h hN => ?_) (fun t14 S15 H16 gs h => ?_)
    · have gm12 : Gx [] S10 H11 S10 H11 := Gx.refl g.sh
      refine i_call ?_
      refine i_cons ?_
      refine i_call ?_
      refine i_cons ?_
      refine i_var rfl ?_
      refine i_nil ?_
      refine ⟨S10, text, rfl, gm12.sh, wpm_mono (wb h) (fun t17 h v20 S18 H19 gs r_v20 => ?_) (fun c he S1 H1 gs => he _ _ (g.trans0 (gm12.trans0 gs)))⟩
      replace r_v4 := Py.mono gs.s r_v4
      replace gm12 := gm12.trans0 gs
      refine i_cons ?_
      refine i_var rfl ?_
      refine i_nil ?_
      refine ⟨S18, v20, t17, v4, t1, rfl, gm12.sh, r_v20, r_v4, wpm_mono (wb h) (fun t21 h S22 H23 gs => ?_) (fun c he S1 H1 gs => he _ _ (g.trans0 (gm12.trans0 gs)))⟩
      replace r_v4 := Py.mono gs.s r_v4
      replace gm12 := gm12.trans0 gs
      exact hN _ _ _ gm12 h
    replace r_v4 := Py.mono gs.s r_v4
    replace g := g.trans0 gs
    exact h _ _ g

abbrev s_law_free : PySem.Stmt := topS 38
theorem sc_law_free : FnScope ["cell", "many", "words", "k", "one"] ["cell"] (defScope s_law_free) := ⟨rfl, rfl, rfl, by decide +kernel, rfl, by decide +kernel, by decide +kernel⟩

def sp_law_free (K : Fr) : Sp := fun vs H Q E => ∃ (S0 : Hp) (cell : Int), vs = [(V.int (cell))] ∧ Ex S0 H ∧ wpm (m_law_free cell) (fun r => ∀ S' H', Gx [] S0 H S' H' → Q (V.str (r)) H') (fun c => ∀ S' H', Gx [] S0 H S' H' → E (.ref (caOf K c)) none H')

theorem ok_law_free {P : Program} {w : World} {K : Fr} {mg : PySem.Str → Option Value} {base : Heap} (A0 : At K mg "_law_free" s_law_free ["cell"]) (D_law_stir : Dfn P w K mg base "_law_stir" 1 ["cell", "k"] (sp_law_stir K)) (n_range : mg "range" = none) (n_int : mg "int" = none) (n_str : mg "str" = none) : Dfn P w K mg base "_law_free" 2 ["cell"] (sp_law_free K) := by
  obtain ⟨f_law_stir, fd_law_stir, mg_law_stir, kp_law_stir, bd_law_stir, ok_law_stir'⟩ := D_law_stir.ex
  refine Dfn.mk' A0 fun f fd F => F.ok (CX := L2N.CX P w) sc_law_free (fun vs H Q E h => ?_) (fun cdv A outer s H vs Q E hr h => ?_)
  · obtain ⟨S0, cell, rfl, e0, h⟩ := h
    rfl
  · obtain ⟨S0, cell, rfl, e0, h⟩ := h
    unfold m_law_free at h
    have g : Gx [] S0 H S0 H := Gx.refl e0
    refine ⟨_, pss_cons (ps_set (i := 1) sc_law_free.nd rfl (by first | exact Or.inl rfl | exact Or.inr rfl) (pe_op op_add pe_int (pe_op op_mod (pe_call ok_law_stir' (hr.mono (by decide)) (by rfl) mg_law_stir kp_law_stir bd_law_stir .nil (L2N.passes_call (L2N.takes_of rfl rfl rfl rfl) fun _ _ _ _ h => h) (pa_cons (pv 0) (pa_cons pe_int pa_nil))) pe_int))) (pss_cons (ps_set (i := 2) sc_law_free.nd rfl (by first | exact Or.inl rfl | exact Or.inr rfl) (pe_lst pa_nil)) (pss_cons (ps_for (passes_of rfl) rfl (pi_range1 (by rfl) n_range (pa_cons (pv 1) pa_nil)) (pg_name (i := 3) sc_law_free.nd rfl (by first | exact Or.inl rfl | exact Or.inr rfl)) (pss_cons (ps_set (i := 4) sc_law_free.nd rfl (by first | exact Or.inl rfl | exact Or.inr rfl) (pe_callTy call_strG (by rfl) n_str (by decide +kernel) (pa_cons (pe_op op_mod (pe_call ok_law_stir' (hr.mono (by decide)) (by rfl) mg_law_stir kp_law_stir bd_law_stir .nil (L2N.passes_call (L2N.takes_of rfl rfl rfl rfl) fun _ _ _ _ h => h) (pa_cons (pv 0) (pa_cons (pe_op op_add pe_int (pv 3)) pa_nil))) (pe_op op_add (pv 1) (pe_callTy call_int1G (by rfl) n_int (by decide +kernel) (pa_cons (pe_cmpR op_eq (pe_op op_mod (pe_call ok_law_stir' (hr.mono (by decide)) (by rfl) mg_law_stir kp_law_stir bd_law_stir .nil (L2N.passes_call (L2N.takes_of rfl rfl rfl rfl) fun _ _ _ _ h => h) (pa_cons (pv 0) (pa_cons pe_int pa_nil))) pe_int) pe_int (nomark _)) pa_nil)))) pa_nil))) (pss_cons (ps_if (PW.pt (pw_or (pt_cmpR op_eq (pv 3) (pe_op op_mod (pe_call ok_law_stir' (hr.mono (by decide)) (by rfl) mg_law_stir kp_law_stir bd_law_stir .nil (L2N.passes_call (L2N.takes_of rfl rfl rfl rfl) fun _ _ _ _ h => h) (pa_cons (pv 0) (pa_cons pe_int pa_nil))) (pv 1)) (nomark _)) (pw_or1 (pt_cmpR op_eq (pe_op op_mod (pe_call ok_law_stir' (hr.mono (by decide)) (by rfl) mg_law_stir kp_law_stir bd_law_stir .nil (L2N.passes_call (L2N.takes_of rfl rfl rfl rfl) fun _ _ _ _ h => h) (pa_cons (pv 0) (pa_cons (pe_op op_add pe_int (pv 3)) pa_nil))) pe_int) pe_int (nomark _))))) (pss_one (ps_set (i := 4) sc_law_free.nd rfl (by first | exact Or.inl rfl | exact Or.inr rfl) pe_str)) pss_nil) (pss_one (ps_expr (pe_K (K := K) (pe_bm PySem.F.plainAttrs_list PySem.F.slot_list_append PySem.F.type_list_append mt_append (pv 2) (pa_cons (pe_op op_addSG (pe_op op_addSG (pv 4) pe_str) (pe_callTy call_strG (by rfl) n_str (by decide +kernel) (pa_cons (pe_op op_sub (pe_op op_mod (pe_call ok_law_stir' (hr.mono (by decide)) (by rfl) mg_law_stir kp_law_stir bd_law_stir .nil (L2N.passes_call (L2N.takes_of rfl rfl rfl rfl) fun _ _ _ _ h => h) (pa_cons (pv 0) (pa_cons (pe_op op_add pe_int (pv 3)) pa_nil))) pe_int) pe_int) pa_nil))) pa_nil)))))))) (pss_one (ps_ret (pe_m1 PySem.F.slot_str_join PySem.F.type_str_join mt_joinG pe_str (pv 2)))))), ?_⟩
    refine i_start (σ := [some (V.int (cell)), none, none, none, none]) rfl ?_
    refine i_seq ?_
    refine i_asg ?_
    refine i_op ?_
    refine i_c ?_
    refine i_op ?_
    refine i_call ?_
    refine i_cons ?_
    refine i_var rfl ?_
    refine i_cons ?_
    refine i_c ?_
    refine i_nil ?_
    refine ⟨S0, cell, 760, rfl, g.sh, wpm_mono (wb h) (fun t1 h S2 H3 gs => ?_) (fun c he S1 H1 gs => he _ _ (g.trans0 gs))⟩
    replace g := g.trans0 gs
    refine i_c ?_
    refine i_I (by decide) ?_
    refine i_I0 ?_
    refine i_nameE (σ' := [_, some (V.int ((1 + (t1 % 12)))), _, _, _]) rfl ?_
    refine nx_seq ?_
    refine i_seq ?_
    refine i_asg ?_
    refine i_lst ?_
    refine i_nil ?_
    refine s_lstO (K := K) (xs := ([] : List (PySem.Str))) g All2.nil (show (0 : Nat) ≤ 16777216 by decide) (fun p4 H6 gA gs hp_p4 o_p4 => ?_)
    have f0_p4 := Gx.back g hp_p4
    replace g := gA
    refine i_nameE (σ' := [_, _, some (V.ref p4), _, _]) rfl ?_
    refine nx_seq ?_
    refine i_seq ?_
    refine i_for ?_
    refine i_rng1 (i_cons ?_)
    refine i_var rfl ?_
    refine i_nil ?_
    refine i_rng1A h (fun h => ?_)
    have hm7 : ∀ x ∈ [p4], x ∈ [] ∨ H x = none := by
      intro x hx
      simp only [List.mem_append, List.mem_cons, List.not_mem_nil, or_false] at hx
      rcases hx with rfl
      · exact (Or.symm (.inl f0_p4))
    have wk7 : Wk K (Itr 0 (((1 + (t1 % 12)) : Int) - 0).toNat) (rng 0 (1 + (t1 % 12))) (fun (st7 : (List (PySem.Str))) σ' S' H' => ∃ (j_one : Option V) (j_k : Option V), σ' = [some (V.int (cell)), some (V.int ((1 + (t1 % 12)))), some (V.ref p4), j_k, j_one] ∧ Gx [p4] S2 H6 S' H' ∧ OwnL K S' H' p4 st7) := by
      refine wk_rng fun st σ2 S2 H2 hR => ?_
      obtain ⟨j_one, j_k, rfl, gl7, o_p4⟩ := hR
      exact gl7.sh
    refine s_forM (R := (fun (st7 : (List (PySem.Str))) σ' S' H' => ∃ (j_one : Option V) (j_k : Option V), σ' = [some (V.int (cell)), some (V.int ((1 + (t1 % 12)))), some (V.ref p4), j_k, j_one] ∧ Gx [p4] S2 H6 S' H' ∧ OwnL K S' H' p4 st7)) (s0 := ([] : List (PySem.Str))) wk7 ⟨_, _, rfl, (Gx.refl g.sh), o_p4⟩ h (fun y7 v7 st7 σ1 S7a H7a S7b H7b P7 hR gs rv h => ?_) (fun st7 σ1 S7j H7j hR h => ?_)
    · obtain ⟨j_one, j_k, rfl, gl7, o_p4⟩ := hR
      replace o_p4 := OwnL.keep0 o_p4 gs
      replace gl7 := gl7.trans0 gs
      obtain rfl := rv
      refine i_nameE (σ' := [_, _, _, some (V.int (y7)), _]) rfl ?_
      refine i_seq ?_
      refine i_asg ?_
      refine i_cb ?_
      refine i_cons ?_
      refine i_op ?_
      refine i_call ?_
      refine i_cons ?_
      refine i_var rfl ?_
      refine i_cons ?_
      refine i_op ?_
      refine i_c ?_
      refine i_var rfl ?_
      refine i_I0 ?_
      refine i_nil ?_
      refine ⟨S7b, cell, (770 + y7), rfl, gl7.sh, wpm_mono (wb h) (fun t8 h S9 H10 gs => ?_) (fun c he S1 H1 gs => he _ _ (g.trans (gl7.trans0 gs) hm7))⟩
      replace o_p4 := OwnL.keep0 o_p4 gs
      replace gl7 := gl7.trans0 gs
      refine i_op ?_
      refine i_var rfl ?_
      refine i_cb ?_
      refine i_cons ?_
      refine i_op ?_
      refine i_op ?_
      refine i_call ?_
      refine i_cons ?_
      refine i_var rfl ?_
      refine i_cons ?_
      refine i_c ?_
      refine i_nil ?_
      refine ⟨S9, cell, 761, rfl, gl7.sh, wpm_mono (wb h) (fun t11 h S12 H13 gs => ?_) (fun c he S1 H1 gs => he _ _ (g.trans (gl7.trans0 gs) hm7))⟩
      replace o_p4 := OwnL.keep0 o_p4 gs
      replace gl7 := gl7.trans0 gs
      refine i_c ?_
      refine i_I (by decide) ?_
      refine i_c ?_
      refine i_eqI ?_
      refine i_nil ?_
      refine s_intB ?_
      refine i_I0 ?_
      refine s_mod h (fun h => ?_)
      refine i_nil ?_
      refine s_strI h (fun h => ?_)
      refine i_nameE (σ' := [_, _, _, _, some (V.str ((istr (t8 % ((1 + (t1 % 12)) + (bint (decide ((t11 % 4) = 0))))))))]) rfl ?_
      refine nx_seq ?_
      refine i_seq ?_
      have hm14 : ∀ x ∈ ([] : List Addr), x ∈ [p4] ∨ H6 x = none := fun x hx => nomatch hx
      refine i_ifJ1 (R := (fun (st14 : (PySem.Str)) σ' S' H' => σ' = [some (V.int (cell)), some (V.int ((1 + (t1 % 12)))), some (V.ref p4), some (V.int (y7)), some (V.str (st14))] ∧ Gx [] S12 H13 S' H')) h (fun PJ N hN h => ?_) (fun st14 σ1 S14j H14j hR h => ?_)
      · have gj14 : Gx [] S12 H13 S12 H13 := Gx.refl gl7.sh
        refine i_or ?_
        refine i_test ?_
        refine i_op ?_
        refine i_var rfl ?_
        refine i_op ?_
        refine i_call ?_
        refine i_cons ?_
        refine i_var rfl ?_
        refine i_cons ?_
        refine i_c ?_
        refine i_nil ?_
        refine ⟨S12, cell, 762, rfl, gj14.sh, wpm_mono (wb h) (fun t15 h S16 H17 gs => ?_) (fun c he S1 H1 gs => he _ _ (g.trans (gl7.trans (gj14.trans0 gs) hm14) hm7))⟩
        replace o_p4 := OwnL.keep0 o_p4 gs
        replace gj14 := gj14.trans0 gs
        refine i_var rfl ?_
        refine s_mod h (fun h => ?_)
        refine i_eqI ?_
        refine i_bl ?_
        refine or_m h gj14.sh (fun ha19 PB N h hN => ?_) (fun t20 S21 H22 gs h => ?_)
        · have gm18 : Gx [] S16 H17 S16 H17 := Gx.refl gj14.sh
          refine i_test ?_
          refine i_op ?_
          refine i_op ?_
          refine i_call ?_
          refine i_cons ?_
          refine i_var rfl ?_
          refine i_cons ?_
          refine i_op ?_
          refine i_c ?_
          refine i_var rfl ?_
          refine i_I0 ?_
          refine i_nil ?_
          refine ⟨S16, cell, (784 + y7), rfl, gm18.sh, wpm_mono (wb h) (fun t23 h S24 H25 gs => ?_) (fun c he S1 H1 gs => he _ _ (g.trans (gl7.trans (gj14.trans0 (gm18.trans0 gs)) hm14) hm7))⟩
          replace o_p4 := OwnL.keep0 o_p4 gs
          replace gm18 := gm18.trans0 gs
          refine i_c ?_
          refine i_I (by decide) ?_
          refine i_c ?_
          refine i_eqI ?_
          refine i_bl ?_
          exact hN _ _ _ gm18 h
        replace o_p4 := OwnL.keep0 o_p4 gs
        replace gj14 := gj14.trans0 gs
        refine ite2b (fun hb26 => ?_) (fun hb26 => ?_)
        · replace h := wpm_t hb26 h
          refine i_asg ?_
          refine i_c ?_
          refine i_nameE (σ' := [_, _, _, _, some (V.str (PySem.Str.ofString "-"))]) rfl ?_
          exact hN _ _ _ _ h ⟨rfl, gj14⟩
        · replace h := wpm_f hb26 h
          refine i_next ?_
          exact hN _ _ _ _ h ⟨rfl, gj14⟩
      obtain ⟨rfl, gj14⟩ := hR
      replace o_p4 := OwnL.keep0 o_p4 gj14
      replace gl7 := gl7.trans gj14 hm14
      refine nx_seq ?_
      refine i_drop ?_
      refine i_bm ?_
      refine i_var rfl ?_
      refine s_bmL o_p4.hp ?_
      refine i_cons ?_
      refine i_op ?_
      refine i_op ?_
      refine i_var rfl ?_
      refine i_c ?_
      refine s_cats h (fun t27 h => ?_)
      refine i_cb ?_
      refine i_cons ?_
      refine i_op ?_
      refine i_op ?_
      refine i_call ?_
      refine i_cons ?_
      refine i_var rfl ?_
      refine i_cons ?_
      refine i_op ?_
      refine i_c ?_
      refine i_var rfl ?_
      refine i_I0 ?_
      refine i_nil ?_
      refine ⟨S14j, cell, (798 + y7), rfl, gl7.sh, wpm_mono (wb h) (fun t28 h S29 H30 gs => ?_) (fun c he S1 H1 gs => he _ _ (g.trans (gl7.trans0 gs) hm7))⟩
      replace o_p4 := OwnL.keep0 o_p4 gs
      replace gl7 := gl7.trans0 gs
      refine i_c ?_
      refine i_I (by decide) ?_
      refine i_c ?_
      refine i_I0 ?_
      refine i_nil ?_
      refine s_strI h (fun h => ?_)
      refine s_cats h (fun t31 h => ?_)
      refine i_nil ?_
      refine s_app (x := t31) gl7 o_p4 (.inr (by simp)) rfl h (fun H32 gA oA heq h => ?_)
      replace gl7 := gA
      replace o_p4 := oA
      exact ⟨_, _, h, _, _, rfl, gl7, o_p4⟩
    obtain ⟨j_one, j_k, rfl, gl7, o_p4⟩ := hR
    replace g := g.trans gl7 hm7
    refine nx_seq ?_
    refine i_ret ?_
    refine i_m1 ?_
    refine i_c ?_
    refine s_m1 ?_
    refine i_var rfl ?_
    refine s_join (K := K) o_p4.hp h (fun h => ?_)
    exact h _ _ g

abbrev slaw : PySem.Stmt := topS 39
theorem sclaw : FnScope ["script", "cell", "some", "parents", "text", "turn", "once"] ["script"] (defScope slaw) := ⟨rfl, rfl, rfl, by decide +kernel, rfl, by decide +kernel, by decide +kernel⟩

def splaw (K : Fr) : Sp := fun vs H Q E => ∃ (S0 : Hp) (a_script : Addr) (script : List Int), vs = [(V.ref a_script)] ∧ Ex S0 H ∧ RepQ K S0 a_script script ∧ wpm (m_law script) (fun r => ∀ S' H', Gx [] S0 H S' H' → Q (V.bl (r)) H') (fun c => ∀ S' H', Gx [] S0 H S' H' → E (.ref (caOf K c)) none H')

theorem oklaw {P : Program} {w : World} {K : Fr} {mg : PySem.Str → Option Value} {base : Heap} (D_law_cells : Dfn P w K mg base "_law_cells" 1 ["script", "many"] (sp_law_cells K)) (D_law_tree : Dfn P w K mg base "_law_tree" 3 ["cell", "most"] (sp_law_tree K)) (D_law_text : Dfn P w K mg base "_law_text" 1 ["parents", "hues"] (sp_law_text K)) (D_law_hues : Dfn P w K mg base "_law_hues" 2 ["cell", "many"] (sp_law_hues K)) (D_law_right : Dfn P w K mg base "_law_right" 6 ["text"] (sp_law_right K)) (D_law_free : Dfn P w K mg base "_law_free" 2 ["cell"] (sp_law_free K)) (D_law_spoilt : Dfn P w K mg base "_law_spoilt" 3 ["cell", "k", "text"] (sp_law_spoilt K)) (n_len : mg "len" = none) (n_range : mg "range" = none) : ∀ f fd, FunD K "law" "law" (defArgs slaw) (defBody slaw) (defScope slaw) [] [] f fd → FnOk P w K mg base (L2N.CX P w) 7 f fd ["script"] (splaw K) := by
  obtain ⟨f_law_cells, fd_law_cells, mg_law_cells, kp_law_cells, bd_law_cells, ok_law_cells'⟩ := D_law_cells.ex
  obtain ⟨f_law_tree, fd_law_tree, mg_law_tree, kp_law_tree, bd_law_tree, ok_law_tree'⟩ := D_law_tree.ex
  obtain ⟨f_law_text, fd_law_text, mg_law_text, kp_law_text, bd_law_text, ok_law_text'⟩ := D_law_text.ex
  obtain ⟨f_law_hues, fd_law_hues, mg_law_hues, kp_law_hues, bd_law_hues, ok_law_hues'⟩ := D_law_hues.ex
  obtain ⟨f_law_right, fd_law_right, mg_law_right, kp_law_right, bd_law_right, ok_law_right'⟩ := D_law_right.ex
  obtain ⟨f_law_free, fd_law_free, mg_law_free, kp_law_free, bd_law_free, ok_law_free'⟩ := D_law_free.ex
  obtain ⟨f_law_spoilt, fd_law_spoilt, mg_law_spoilt, kp_law_spoilt, bd_law_spoilt, ok_law_spoilt'⟩ := D_law_spoilt.ex
  refine fun f fd F => F.ok (CX := L2N.CX P w) sclaw (fun vs H Q E h => ?_) (fun cdv A outer s H vs Q E hr h => ?_)
  · obtain ⟨S0, a_script, script, rfl, e0, r_script, h⟩ := h
    rfl
  · obtain ⟨S0, a_script, script, rfl, e0, r_script, h⟩ := h
    unfold m_law at h
    have g : Gx [] S0 H S0 H := Gx.refl e0
    refine ⟨_, pss_cons (ps_for (passes_of rfl) rfl (pi_listK (K := K) (pe_call ok_law_cells' (hr.mono (by decide)) (by rfl) mg_law_cells kp_law_cells bd_law_cells .nil (L2N.passes_call (L2N.takes_of rfl rfl rfl rfl) fun _ _ _ _ h => h) (pa_cons (pv 0) (pa_cons pe_int pa_nil)))) (pg_name (i := 1) sclaw.nd rfl (by first | exact Or.inl rfl | exact Or.inr rfl)) (pss_cons (ps_set (i := 3) sclaw.nd rfl (by first | exact Or.inl rfl | exact Or.inr rfl) (pe_call ok_law_tree' (hr.mono (by decide)) (by rfl) mg_law_tree kp_law_tree bd_law_tree .nil (L2N.passes_call (L2N.takes_of rfl rfl rfl rfl) fun _ _ _ _ h => h) (pa_cons (pv 1) (pa_cons pe_int pa_nil)))) (pss_cons (ps_set (i := 4) sclaw.nd rfl (by first | exact Or.inl rfl | exact Or.inr rfl) (pe_call ok_law_text' (hr.mono (by decide)) (by rfl) mg_law_text kp_law_text bd_law_text .nil (L2N.passes_call (L2N.takes_of rfl rfl rfl rfl) fun _ _ _ _ h => h) (pa_cons (pv 3) (pa_cons (pe_call ok_law_hues' (hr.mono (by decide)) (by rfl) mg_law_hues kp_law_hues bd_law_hues .nil (L2N.passes_call (L2N.takes_of rfl rfl rfl rfl) fun _ _ _ _ h => h) (pa_cons (pv 1) (pa_cons (pe_callB (call_lenK (K := K)) (by rfl) n_len (by decide +kernel) (pa_cons (pv 3) pa_nil)) pa_nil))) pa_nil)))) (pss_cons (ps_if (pt_not (pt_val (pe_call ok_law_right' (hr.mono (by decide)) (by rfl) mg_law_right kp_law_right bd_law_right .nil (L2N.passes_call (L2N.takes_of rfl rfl rfl rfl) fun _ _ _ _ h => h) (pa_cons (pe_call ok_law_free' (hr.mono (by decide)) (by rfl) mg_law_free kp_law_free bd_law_free .nil (L2N.passes_call (L2N.takes_of rfl rfl rfl rfl) fun _ _ _ _ h => h) (pa_cons (pv 1) pa_nil)) pa_nil)))) (pss_one (ps_ret pe_bl)) pss_nil) (pss_one (ps_for (passes_of rfl) rfl (pi_range1 (by rfl) n_range (pa_cons pe_int pa_nil)) (pg_name (i := 5) sclaw.nd rfl (by first | exact Or.inl rfl | exact Or.inr rfl)) (pss_cons (ps_set (i := 6) sclaw.nd rfl (by first | exact Or.inl rfl | exact Or.inr rfl) (pe_call ok_law_spoilt' (hr.mono (by decide)) (by rfl) mg_law_spoilt kp_law_spoilt bd_law_spoilt .nil (L2N.passes_call (L2N.takes_of rfl rfl rfl rfl) fun _ _ _ _ h => h) (pa_cons (pv 1) (pa_cons (pe_op op_add pe_int (pe_op op_mul pe_int (pv 5))) (pa_cons (pv 4) pa_nil))))) (pss_one (ps_if (PW.pt (pw_or (pt_not (pt_val (pe_call ok_law_right' (hr.mono (by decide)) (by rfl) mg_law_right kp_law_right bd_law_right .nil (L2N.passes_call (L2N.takes_of rfl rfl rfl rfl) fun _ _ _ _ h => h) (pa_cons (pv 6) pa_nil)))) (pw_or1 (pt_not (pt_val (pe_call ok_law_right' (hr.mono (by decide)) (by rfl) mg_law_right kp_law_right bd_law_right .nil (L2N.passes_call (L2N.takes_of rfl rfl rfl rfl) fun _ _ _ _ h => h) (pa_cons (pe_call ok_law_spoilt' (hr.mono (by decide)) (by rfl) mg_law_spoilt kp_law_spoilt bd_law_spoilt .nil (L2N.passes_call (L2N.takes_of rfl rfl rfl rfl) fun _ _ _ _ h => h) (pa_cons (pv 1) (pa_cons (pe_op op_add pe_int (pe_op op_mul pe_int (pv 5))) (pa_cons (pv 6) pa_nil)))) pa_nil))))))) (pss_one (ps_ret pe_bl)) pss_nil))))))))) (pss_cons (ps_set (i := 2) sclaw.nd rfl (by first | exact Or.inl rfl | exact Or.inr rfl) (pe_lst (pa_cons pe_str (pa_cons pe_str (pa_cons pe_str (pa_cons pe_str (pa_cons pe_str (pa_cons pe_str (pa_cons pe_str (pa_cons pe_str (pa_cons pe_str (pa_cons pe_str (pa_cons pe_str (pa_cons pe_str pa_nil)))))))))))))) (pss_cons (ps_set (i := 2) sclaw.nd rfl (by first | exact Or.inl rfl | exact Or.inr rfl) (pe_op op_cat (pv 2) (pe_lst (pa_cons pe_str (pa_cons pe_str (pa_cons pe_str (pa_cons pe_str (pa_cons pe_str (pa_cons pe_str (pa_cons pe_str pa_nil)))))))))) (pss_cons (ps_set (i := 2) sclaw.nd rfl (by first | exact Or.inl rfl | exact Or.inr rfl) (pe_op op_cat (pv 2) (pe_lst (pa_cons pe_str (pa_cons pe_str (pa_cons pe_str pa_nil)))))) (pss_one (ps_ret (pe_cmpR (op_eqPK (K := K) hr.units) (pe_lc (own := [("text", 4)]) (by rfl) sclaw.nd (pi_lenK (K := K) (pi_listK (K := K) (pv 2))) (blkOk_by (own := [("text", 4)]) (N := ["script", "cell", "some", "parents", "text", "turn", "once"]) (sc := defScope slaw) (by decide +kernel)) (fun _ _ _ _ _ => (pg_name (i := 4) sclaw.nd rfl (by first | exact Or.inl rfl | exact Or.inr rfl))) (fun _ _ _ _ _ => pts_one (pt_not (pt_val (pe_call ok_law_right' (hr.mono (by decide)) (by rfl) mg_law_right kp_law_right bd_law_right .nil passLN (pa_cons (pv 4) pa_nil))))) (fun _ _ _ _ _ => (pv 4))) (pe_lst pa_nil) (nomark _))))))), ?_⟩
    refine i_start (σ := [some (V.ref a_script), none, none, none, none, none, none]) rfl ?_
    refine i_seq ?_
    refine i_for ?_
    refine i_list ?_
    refine i_call ?_
    refine i_cons ?_
    refine i_var rfl ?_
    refine i_cons ?_
    refine i_c ?_
    refine i_nil ?_
    refine ⟨S0, a_script, script, 5, rfl, g.sh, r_script, wpm_mono (wb h) (fun t2 h p5 S3 H4 gs hp_p5 o_p5 => ?_) (fun c he S1 H1 gs => he _ _ (g.trans0 gs))⟩
    refine OwnL.frz o_p5 gs hp_p5 (fun S6 gs2 eS hbS r_p5 => ?_)
    replace gs := gs2
    replace r_script := RepQ.mono gs.s r_script
    replace g := g.trans0 gs
    refine i_listA (r_p5.hp g.sh) ?_
    have hm1 : ∀ x ∈ ([] : List Addr), x ∈ [] ∨ H x = none := fun x hx => nomatch hx
    have wk1 : Wk K (Itl K p5) t2 (fun (st1 : Unit) σ' S' H' => ∃ (j_parents : Option V) (j_text : Option V) (j_turn : Option V) (j_once : Option V) (j_cell : Option V), σ' = [some (V.ref a_script), j_cell, none, j_parents, j_text, j_turn, j_once] ∧ Gx [] S6 H4 S' H') := by
      refine wk_list fun st σ2 S2 H2 hR => ?_
      obtain ⟨j_parents, j_text, j_turn, j_once, j_cell, rfl, gl1⟩ := hR
      exact ⟨gl1.sh, (RepL.hp (RepL.mono gl1.s r_p5) gl1.sh)⟩
    refine s_forR (R := (fun (st1 : Unit) σ' S' H' => ∃ (j_parents : Option V) (j_text : Option V) (j_turn : Option V) (j_once : Option V) (j_cell : Option V), σ' = [some (V.ref a_script), j_cell, none, j_parents, j_text, j_turn, j_once] ∧ Gx [] S6 H4 S' H')) (s0 := ()) wk1 ⟨_, _, _, _, _, rfl, (Gx.refl g.sh)⟩ h (fun y1 v1 st1 σ1 S1a H1a S1b H1b P1 hret1 hR gs rv h => ?_) (fun st1 σ1 S1j H1j hR h => ?_)
    · obtain ⟨j_parents, j_text, j_turn, j_once, j_cell, rfl, gl1⟩ := hR
      replace r_script := RepQ.mono gl1.s r_script
      replace r_script := RepQ.mono gs.s r_script
      replace gl1 := gl1.trans0 gs
      obtain rfl := rv
      refine i_nameE (σ' := [_, some (V.int (y1)), _, _, _, _, _]) rfl ?_
      refine i_seq ?_
      refine i_asg ?_
      refine i_call ?_
      refine i_cons ?_
      refine i_var rfl ?_
      refine i_cons ?_
      refine i_c ?_
      refine i_nil ?_
      refine ⟨S1b, y1, 40, rfl, gl1.sh, wpm_mono (wb h) (fun t7 h p10 S8 H9 gs hp_p10 o_p10 => ?_) (fun c he S1 H1 gs => he _ _ (g.trans (gl1.trans0 gs) hm1))⟩
      refine OwnL.frz o_p10 gs hp_p10 (fun S11 gs2 eS hbS r_p10 => ?_)
      replace gs := gs2
      replace r_script := RepQ.mono gs.s r_script
      replace gl1 := gl1.trans0 gs
      refine i_nameE (σ' := [_, _, _, some (V.ref p10), _, _, _]) rfl ?_
      refine nx_seq ?_
      refine i_seq ?_
      refine i_asg ?_
      refine i_call ?_
      refine i_cons ?_
      refine i_var rfl ?_
      refine i_cons ?_
      refine i_call ?_
      refine i_cons ?_
      refine i_var rfl ?_
      refine i_cons ?_
      refine i_cb ?_
      refine i_cons ?_
      refine i_var rfl ?_
      refine i_nil ?_
      refine s_len (r_p10.hp gl1.sh) ?_
      refine i_nil ?_
      refine ⟨S11, y1, (t7.length : Int), rfl, gl1.sh, wpm_mono (wb h) (fun t12 h p15 S13 H14 gs hp_p15 o_p15 => ?_) (fun c he S1 H1 gs => he _ _ (g.trans (gl1.trans0 gs) hm1))⟩
      refine OwnL.frz o_p15 gs hp_p15 (fun S16 gs2 eS hbS r_p15 => ?_)
      replace gs := gs2
      replace r_script := RepQ.mono gs.s r_script
      replace r_p10 := RepL.mono gs.s r_p10
      replace gl1 := gl1.trans0 gs
      refine i_nil ?_
      refine ⟨S16, p10, t7, p15, t12, rfl, gl1.sh, r_p10, r_p15, wpm_mono (wb h) (fun t17 h S18 H19 gs => ?_) (fun c he S1 H1 gs => he _ _ (g.trans (gl1.trans0 gs) hm1))⟩
      replace r_script := RepQ.mono gs.s r_script
      replace r_p10 := RepL.mono gs.s r_p10
      replace gl1 := gl1.trans0 gs
      refine i_nameE (σ' := [_, _, _, _, some (V.str (t17)), _, _]) rfl ?_
      refine nx_seq ?_
      refine i_seq ?_
      refine i_if ?_
      refine i_not ?_
      refine i_B ?_
      refine i_call ?_
      refine i_cons ?_
      refine i_call ?_
      refine i_cons ?_
      refine i_var rfl ?_
      refine i_nil ?_
      refine ⟨S18, y1, rfl, gl1.sh, wpm_mono (wb h) (fun t20 h S21 H22 gs => ?_) (fun c he S1 H1 gs => he _ _ (g.trans (gl1.trans0 gs) hm1))⟩
      replace r_script := RepQ.mono gs.s r_script
      replace r_p10 := RepL.mono gs.s r_p10
      replace gl1 := gl1.trans0 gs
      refine i_nil ?_
      refine ⟨S21, t20, rfl, gl1.sh, wpm_mono (wb h) (fun t23 h S24 H25 gs => ?_) (fun c he S1 H1 gs => he _ _ (g.trans (gl1.trans0 gs) hm1))⟩
      replace r_script := RepQ.mono gs.s r_script
      replace r_p10 := RepL.mono gs.s r_p10
      replace gl1 := gl1.trans0 gs
      refine i_bl ?_
      refine ite2b (fun hb26 => ?_) (fun hb26 => ?_)
      · replace h := wpm_t hb26 h
        refine i_ret ?_
        refine i_c ?_
        exact (hret1 _ h) _ _ (g.trans gl1 hm1)
      · replace h := wpm_f hb26 h
        refine i_next ?_
        refine nx_seq ?_
        refine i_for ?_
        refine i_rng1 (i_cons ?_)
        refine i_c ?_
        refine i_nil ?_
        refine i_rng1A h (fun h => ?_)
        have hm27 : ∀ x ∈ ([] : List Addr), x ∈ [] ∨ H4 x = none := fun x hx => nomatch hx
        have wk27 : Wk K (Itr 0 ((5 : Int) - 0).toNat) (rng 0 5) (fun (st27 : Unit) σ' S' H' => ∃ (j_once : Option V) (j_turn : Option V), σ' = [some (V.ref a_script), some (V.int (y1)), none, some (V.ref p10), some (V.str (t17)), j_turn, j_once] ∧ Gx [] S24 H25 S' H') := by
          refine wk_rng fun st σ2 S2 H2 hR => ?_
          obtain ⟨j_once, j_turn, rfl, gl27⟩ := hR
          exact gl27.sh
        refine s_forR (R := (fun (st27 : Unit) σ' S' H' => ∃ (j_once : Option V) (j_turn : Option V), σ' = [some (V.ref a_script), some (V.int (y1)), none, some (V.ref p10), some (V.str (t17)), j_turn, j_once] ∧ Gx [] S24 H25 S' H')) (s0 := ()) wk27 ⟨_, _, rfl, (Gx.refl gl1.sh)⟩ h (fun y27 v27 st27 σ1 S27a H27a S27b H27b P27 hret27 hR gs rv h => ?_) (fun st27 σ1 S27j H27j hR h => ?_)
        · obtain ⟨j_once, j_turn, rfl, gl27⟩ := hR
          replace r_script := RepQ.mono gl27.s r_script
          replace r_p10 := RepL.mono gl27.s r_p10
          replace r_script := RepQ.mono gs.s r_script
          replace r_p10 := RepL.mono gs.s r_p10
          replace gl27 := gl27.trans0 gs
          obtain rfl := rv
          refine i_nameE (σ' := [_, _, _, _, _, some (V.int (y27)), _]) rfl ?_
          refine i_seq ?_
          refine i_asg ?_
          refine i_call ?_
          refine i_cons ?_
          refine i_var rfl ?_
          refine i_cons ?_
          refine i_op ?_
          refine i_c ?_
          refine i_op ?_
          refine i_c ?_
          refine i_var rfl ?_
          refine i_I (by first | exact .inl (by decide) | exact .inr (by decide)) ?_
          refine i_I0 ?_
          refine i_cons ?_
          refine i_var rfl ?_
          refine i_nil ?_
          refine ⟨S27b, y1, (640 + (20 * y27)), t17, rfl, gl27.sh, wpm_mono (wb h) (fun t28 h S29 H30 gs => ?_) (fun c he S1 H1 gs => he _ _ (g.trans (gl1.trans (gl27.trans0 gs) hm27) hm1))⟩
          replace r_script := RepQ.mono gs.s r_script
          replace r_p10 := RepL.mono gs.s r_p10
          replace gl27 := gl27.trans0 gs
          refine i_nameE (σ' := [_, _, _, _, _, _, some (V.str (t28))]) rfl ?_
          refine nx_seq ?_
          refine i_if ?_
          refine i_or ?_
          refine i_not ?_
          refine i_B ?_
          refine i_call ?_
          refine i_cons ?_
          refine i_var rfl ?_
          refine i_nil ?_
          refine ⟨S29, t28, rfl, gl27.sh, wpm_mono (wb h) (fun t31 h S32 H33 gs => ?_) (fun c he S1 H1 gs => he _ _ (g.trans (gl1.trans (gl27.trans0 gs) hm27) hm1))⟩
          replace r_script := RepQ.mono gs.s r_script
          replace r_p10 := RepL.mono gs.s r_p10
          replace gl27 := gl27.trans0 gs
          refine i_bl ?_
          refine or_m h gl27.sh (fun ha35 PB N h hN => ?_) (fun t36 S37 H38 gs h => ?_)
          · have gm34 : Gx [] S32 H33 S32 H33 := Gx.refl gl27.sh
            refine i_not ?_
            refine i_B ?_
            refine i_call ?_
            refine i_cons ?_
            refine i_call ?_
            refine i_cons ?_
            refine i_var rfl ?_
            refine i_cons ?_
            refine i_op ?_
            refine i_c ?_
            refine i_op ?_
            refine i_c ?_
            refine i_var rfl ?_
            refine i_I (by first | exact .inl (by decide) | exact .inr (by decide)) ?_
            refine i_I0 ?_
            refine i_cons ?_
            refine i_var rfl ?_
            refine i_nil ?_
            refine ⟨S32, y1, (650 + (20 * y27)), t28, rfl, gm34.sh, wpm_mono (wb h) (fun t39 h S40 H41 gs => ?_) (fun c he S1 H1 gs => he _ _ (g.trans (gl1.trans (gl27.trans0 (gm34.trans0 gs)) hm27) hm1))⟩
            replace r_script := RepQ.mono gs.s r_script
            replace r_p10 := RepL.mono gs.s r_p10
            replace gm34 := gm34.trans0 gs
            refine i_nil ?_
            refine ⟨S40, t39, rfl, gm34.sh, wpm_mono (wb h) (fun t42 h S43 H44 gs => ?_) (fun c he S1 H1 gs => he _ _ (g.trans (gl1.trans (gl27.trans0 (gm34.trans0 gs)) hm27) hm1))⟩
            replace r_script := RepQ.mono gs.s r_script
            replace r_p10 := RepL.mono gs.s r_p10
            replace gm34 := gm34.trans0 gs
            refine i_bl ?_
            exact hN _ _ _ gm34 h
          replace r_script := RepQ.mono gs.s r_script
          replace r_p10 := RepL.mono gs.s r_p10
          replace gl27 := gl27.trans0 gs
          refine ite2b (fun hb45 => ?_) (fun hb45 => ?_)
          · replace h := wpm_t hb45 h
            refine i_ret ?_
            refine i_c ?_
            exact (hret1 _ (hret27 _ h)) _ _ (g.trans (gl1.trans gl27 hm27) hm1)
          · replace h := wpm_f hb45 h
            refine i_next ?_
            exact ⟨_, _, h, _, _, rfl, gl27⟩
        obtain ⟨j_once, j_turn, rfl, gl27⟩ := hR
        replace r_script := RepQ.mono gl27.s r_script
        replace r_p10 := RepL.mono gl27.s r_p10
        replace gl1 := gl1.trans gl27 hm27
        exact ⟨_, _, h, _, _, _, _, _, rfl, gl1⟩
    obtain ⟨j_parents, j_text, j_turn, j_once, j_cell, rfl, gl1⟩ := hR
    replace r_script := RepQ.mono gl1.s r_script
    replace g := g.trans gl1 hm1
    refine nx_seq ?_
    refine i_seq ?_
    refine i_asg ?_
    refine i_lst ?_
    refine i_cons ?_
    refine i_c ?_
    refine i_cons ?_
    refine i_c ?_
    refine i_cons ?_
    refine i_c ?_
    refine i_cons ?_
    refine i_c ?_
    refine i_cons ?_
    refine i_c ?_
    refine i_cons ?_
    refine i_c ?_
    refine i_cons ?_
    refine i_c ?_
    refine i_cons ?_
    refine i_c ?_
    refine i_cons ?_
    refine i_c ?_
    refine i_cons ?_
    refine i_c ?_
    refine i_cons ?_
    refine i_c ?_
    refine i_cons ?_
    refine i_c ?_
    refine i_nil ?_
    refine s_lstS (K := K) (xs := ([PySem.Str.ofString "", PySem.Str.ofString " ", PySem.Str.ofString "-", PySem.Str.ofString ":", PySem.Str.ofString "-:", PySem.Str.ofString "-:0 ", PySem.Str.ofString " -:0", PySem.Str.ofString "-:0  0:0", PySem.Str.ofString "-:0\n", PySem.Str.ofString "-:0 -:0", PySem.Str.ofString "0:0", PySem.Str.ofString "-:0 1:0"] : List (PySem.Str))) g (All2.cons rfl (All2.cons rfl (All2.cons rfl (All2.cons rfl (All2.cons rfl (All2.cons rfl (All2.cons rfl (All2.cons rfl (All2.cons rfl (All2.cons rfl (All2.cons rfl (All2.cons rfl All2.nil)))))))))))) (show (12 : Nat) ≤ 16777216 by decide) (fun p46 S47 H48 gA gs r_p46 => ?_)
    replace r_script := RepQ.mono gs.s r_script
    replace g := gA
    refine i_nameE (σ' := [_, _, some (V.ref p46), _, _, _, _]) rfl ?_
    refine nx_seq ?_
    refine i_seq ?_
    refine i_asg ?_
    refine i_op ?_
    refine i_var rfl ?_
    refine i_lst ?_
    refine i_cons ?_
    refine i_c ?_
    refine i_cons ?_
    refine i_c ?_
    refine i_cons ?_
    refine i_c ?_
    refine i_cons ?_
    refine i_c ?_
    refine i_cons ?_
    refine i_c ?_
    refine i_cons ?_
    refine i_c ?_
    refine i_cons ?_
    refine i_c ?_
    refine i_nil ?_
    refine s_lstS (K := K) (xs := ([PySem.Str.ofString "-:0 2:0", PySem.Str.ofString "1:0 0:0", PySem.Str.ofString "-:0 0:0 3:0 2:0", PySem.Str.ofString "-:-0", PySem.Str.ofString "-:0:0", PySem.Str.ofString "none", PySem.Str.ofString "-:0 0:0"] : List (PySem.Str))) g (All2.cons rfl (All2.cons rfl (All2.cons rfl (All2.cons rfl (All2.cons rfl (All2.cons rfl (All2.cons rfl All2.nil))))))) (show (7 : Nat) ≤ 16777216 by decide) (fun p49 S50 H51 gA gs r_p49 => ?_)
    replace r_script := RepQ.mono gs.s r_script
    replace r_p46 := RepL.mono gs.s r_p46
    replace g := gA
    refine s_catS g (r_p46.tp g.sh) (r_p49.tp g.sh) h (fun p53 S54 H55 gA gs r_p53 h => ?_)
    replace r_script := RepQ.mono gs.s r_script
    replace r_p46 := RepL.mono gs.s r_p46
    replace g := gA
    refine i_nameE (σ' := [_, _, some (V.ref p53), _, _, _, _]) rfl ?_
    refine nx_seq ?_
    refine i_seq ?_
    refine i_asg ?_
    refine i_op ?_
    refine i_var rfl ?_
    refine i_lst ?_
    refine i_cons ?_
    refine i_c ?_
    refine i_cons ?_
    refine i_c ?_
    refine i_cons ?_
    refine i_c ?_
    refine i_nil ?_
    refine s_lstS (K := K) (xs := ([PySem.Str.ofString "1:0 2:0 -:0", PySem.Str.ofString "-:0 -1:0", PySem.Str.ofString "-:0 0:0 0:0"] : List (PySem.Str))) g (All2.cons rfl (All2.cons rfl (All2.cons rfl All2.nil))) (show (3 : Nat) ≤ 16777216 by decide) (fun p56 S57 H58 gA gs r_p56 => ?_)
    replace r_script := RepQ.mono gs.s r_script
    replace r_p53 := RepL.mono gs.s r_p53
    replace g := gA
    refine s_catS g (r_p53.tp g.sh) (r_p56.tp g.sh) h (fun p60 S61 H62 gA gs r_p60 h => ?_)
    replace r_script := RepQ.mono gs.s r_script
    replace r_p53 := RepL.mono gs.s r_p53
    replace g := gA
    refine i_nameE (σ' := [_, _, some (V.ref p60), _, _, _, _]) rfl ?_
    refine nx_seq ?_
    refine i_ret ?_
    refine i_op ?_
    refine i_lc ?_
    refine i_len ?_
    refine i_list ?_
    refine i_var rfl ?_
    refine i_listA (r_p60.hp g.sh) ?_
    intro hlen
    have wk63 : Wk K (Itl K p60) ((([PySem.Str.ofString "", PySem.Str.ofString " ", PySem.Str.ofString "-", PySem.Str.ofString ":", PySem.Str.ofString "-:", PySem.Str.ofString "-:0 ", PySem.Str.ofString " -:0", PySem.Str.ofString "-:0  0:0", PySem.Str.ofString "-:0\n", PySem.Str.ofString "-:0 -:0", PySem.Str.ofString "0:0", PySem.Str.ofString "-:0 1:0"] : List (PySem.Str)) ++ ([PySem.Str.ofString "-:0 2:0", PySem.Str.ofString "1:0 0:0", PySem.Str.ofString "-:0 0:0 3:0 2:0", PySem.Str.ofString "-:-0", PySem.Str.ofString "-:0:0", PySem.Str.ofString "none", PySem.Str.ofString "-:0 0:0"] : List (PySem.Str))) ++ ([PySem.Str.ofString "1:0 2:0 -:0", PySem.Str.ofString "-:0 -1:0", PySem.Str.ofString "-:0 0:0 0:0"] : List (PySem.Str))) (fun (_ : Unit) (_ : St) S' H' => Gx [] S61 H62 S' H') := by
      refine wk_list fun st σ2 S2 H2 gl => ?_
      exact ⟨gl.sh, (RepL.hp (RepL.mono gl.s r_p60) gl.sh)⟩
    refine s_compS (β := PySem.Str) wk63 (RepH.len (r_p60.hp g.sh) hlen) g h (fun y63 v63 S63c H63c P63 T F gc63 rv h hT hF => ?_) (fun p69 S70 H71 t68 gA gs r_p69 h => ?_)
    · replace r_script := RepQ.mono gc63.s r_script
      replace r_p60 := RepL.mono gc63.s r_p60
      obtain rfl := rv
      refine i_nameE (σ' := [_, _, _, _, some (V.str (y63)), _, _]) rfl ?_
      refine ⟨rfl, ?_⟩
      have gt63 : Gx [] S63c H63c S63c H63c := Gx.refl gc63.sh
      refine i_not ?_
      refine i_B ?_
      refine i_call ?_
      refine i_cons ?_
      refine i_var rfl ?_
      refine i_nil ?_
      refine ⟨S63c, y63, rfl, gt63.sh, wpm_mono (wb_ne h) (fun t64 h S65 H66 gs => ?_) (fun c he => he.elim)⟩
      replace r_script := RepQ.mono gs.s r_script
      replace r_p60 := RepL.mono gs.s r_p60
      replace gt63 := gt63.trans0 gs
      refine i_bl ?_
      refine ite2b (fun hb67 => ?_) (fun hb67 => ?_)
      · replace h := wpm_t hb67 h
        refine i_var rfl ?_
        exact hT _ _ _ _ h gt63 (Flat.is.2 rfl)
      · replace h := wpm_f hb67 h
        exact hF _ _ h gt63
    replace r_script := RepQ.mono gs.s r_script
    replace r_p60 := RepL.mono gs.s r_p60
    replace g := gA
    refine i_lst ?_
    refine i_nil ?_
    refine s_lstS (K := K) (xs := ([] : List (PySem.Str))) g All2.nil (show (0 : Nat) ≤ 16777216 by decide) (fun p72 S73 H74 gA gs r_p72 => ?_)
    replace r_script := RepQ.mono gs.s r_script
    replace r_p60 := RepL.mono gs.s r_p60
    replace r_p69 := RepL.mono gs.s r_p69
    replace g := gA
    refine s_eqStrs (r_p69.hp g.sh) (r_p72.hp g.sh) ?_
    exact h _ _ g

def fnL : List He.DefD := [⟨("walk_of", none), "walk_of", "walk_of", defArgs swalk_of, defBody swalk_of, defScope swalk_of, [], []⟩, ⟨("need_tree", none), "need_tree", "need_tree", defArgs sneed_tree, defBody sneed_tree, defScope sneed_tree, [], []⟩, ⟨("need", none), "need", "need", defArgs sneed, defBody sneed, defScope sneed, [], []⟩, ⟨("number_in", none), "number_in", "number_in", defArgs snumber_in, defBody snumber_in, defScope snumber_in, [], []⟩, ⟨("hue_in", none), "hue_in", "hue_in", defArgs shue_in, defBody shue_in, defScope shue_in, [], []⟩, ⟨("read_tree", none), "read_tree", "read_tree", defArgs sread_tree, defBody sread_tree, defScope sread_tree, [], []⟩, ⟨("_law_stir", none), "_law_stir", "_law_stir", defArgs s_law_stir, defBody s_law_stir, defScope s_law_stir, [], []⟩, ⟨("_law_cells", none), "_law_cells", "_law_cells", defArgs s_law_cells, defBody s_law_cells, defScope s_law_cells, [], []⟩, ⟨("_law_order", none), "_law_order", "_law_order", defArgs s_law_order, defBody s_law_order, defScope s_law_order, [], []⟩, ⟨("_law_tree", none), "_law_tree", "_law_tree", defArgs s_law_tree, defBody s_law_tree, defScope s_law_tree, [], []⟩, ⟨("_law_hues", none), "_law_hues", "_law_hues", defArgs s_law_hues, defBody s_law_hues, defScope s_law_hues, [], []⟩, ⟨("_law_same", none), "_law_same", "_law_same", defArgs s_law_same, defBody s_law_same, defScope s_law_same, [], []⟩, ⟨("_law_flags", none), "_law_flags", "_law_flags", defArgs s_law_flags, defBody s_law_flags, defScope s_law_flags, [], []⟩, ⟨("_law_is_tree", none), "_law_is_tree", "_law_is_tree", defArgs s_law_is_tree, defBody s_law_is_tree, defScope s_law_is_tree, [], []⟩, ⟨("_law_text", none), "_law_text", "_law_text", defArgs s_law_text, defBody s_law_text, defScope s_law_text, [], []⟩, ⟨("_law_sign", none), "_law_sign", "_law_sign", defArgs s_law_sign, defBody s_law_sign, defScope s_law_sign, [], []⟩, ⟨("_law_spoilt", none), "_law_spoilt", "_law_spoilt", defArgs s_law_spoilt, defBody s_law_spoilt, defScope s_law_spoilt, [], []⟩, ⟨("_law_number", none), "_law_number", "_law_number", defArgs s_law_number, defBody s_law_number, defScope s_law_number, [], []⟩, ⟨("_law_hue", none), "_law_hue", "_law_hue", defArgs s_law_hue, defBody s_law_hue, defScope s_law_hue, [], []⟩, ⟨("_law_due", none), "_law_due", "_law_due", defArgs s_law_due, defBody s_law_due, defScope s_law_due, [], []⟩, ⟨("_law_told", none), "_law_told", "_law_told", defArgs s_law_told, defBody s_law_told, defScope s_law_told, [], []⟩, ⟨("_law_right", none), "_law_right", "_law_right", defArgs s_law_right, defBody s_law_right, defScope s_law_right, [], []⟩, ⟨("_law_free", none), "_law_free", "_law_free", defArgs s_law_free, defBody s_law_free, defScope s_law_free, [], []⟩, ⟨("law", none), "law", "law", defArgs slaw, defBody slaw, defScope slaw, [], []⟩]
def faL : List He.Fa := [.glo "walk_of", .glo "need_tree", .glo "need", .glo "number_in", .glo "hue_in", .glo "read_tree", .glo "_law_stir", .glo "_law_cells", .glo "_law_order", .glo "_law_tree", .glo "_law_hues", .glo "_law_same", .glo "_law_flags", .glo "_law_is_tree", .glo "_law_text", .glo "_law_sign", .glo "_law_spoilt", .glo "_law_number", .glo "_law_hue", .glo "_law_due", .glo "_law_told", .glo "_law_right", .glo "_law_free", .glo "law", .free "enumerate", .free "len", .free "int", .free "min", .free "max", .free "range", .free "list", .free "isinstance", .free "str", .free "tuple", .free "zip", .free "bool", .free "ValueError", .exc "NoTree", .glo "NoTree", .exc "NoText", .glo "NoText", .exc "NoHues", .glo "NoHues", .exc "NoPlace", .glo "NoPlace", .exc "NoPart", .glo "NoPart", .exc "NoNumber", .glo "NoNumber", .exc "NoLeaf", .glo "NoLeaf", .exc "NoForm", .glo "NoForm", .exc "NoneYet", .glo "NoneYet", .exc "HueError", .glo "HueError", .int "MOST_FIGURES" (30), .str "FIGURES" (PySem.Str.ofString "0123456789")]
abbrev RR : PySem.W.OpenRow := PySem.W.OpenLaw.row PySem.Challenge.rw_huesbelow_k38_texts_of_no_tree
abbrev hkL : PySem.W.Hook := hookB 6 faL fnL
def obL (s : PySem.W.SharedT) : He.AlD × Bool := obsBG 6 faL fnL (HandSHeadRun.getT s)
theorem obL_eq (s : PySem.W.SharedT) : obL s = hkL.obs s.abs := obsBG_eq (HandSHeadRun.getT_eq s)
theorem runL (w : World) : HandSHeadRun.RunEq RR (PySem.W.view RR.prog [39]) hkL obL 40000 (("HueError" : PySem.Str) :: ("NoTree" : PySem.Str) :: ("NoHues" : PySem.Str) :: ("NoPlace" : PySem.Str) :: ("NoPart" : PySem.Str) :: ("NoNumber" : PySem.Str) :: ("NoLeaf" : PySem.Str) :: ("NoText" : PySem.Str) :: ("NoForm" : PySem.Str) :: ("NoneYet" : PySem.Str) :: ("walk_of" : PySem.Str) :: ("need_tree" : PySem.Str) :: ("need" : PySem.Str) :: ("number_in" : PySem.Str) :: ("hue_in" : PySem.Str) :: ("read_tree" : PySem.Str) :: ("_law_stir" : PySem.Str) :: ("_law_cells" : PySem.Str) :: ("_law_order" : PySem.Str) :: ("_law_tree" : PySem.Str) :: ("_law_hues" : PySem.Str) :: ("_law_same" : PySem.Str) :: ("_law_flags" : PySem.Str) :: ("_law_is_tree" : PySem.Str) :: ("_law_text" : PySem.Str) :: ("_law_sign" : PySem.Str) :: ("_law_spoilt" : PySem.Str) :: ("_law_number" : PySem.Str) :: ("_law_hue" : PySem.Str) :: ("_law_due" : PySem.Str) :: ("_law_told" : PySem.Str) :: ("_law_right" : PySem.Str) :: ("_law_free" : PySem.Str) :: ("FIGURES" : PySem.Str) :: ("MOST_FIGURES" : PySem.Str) :: []) w := by
  intro os
  kernel_rfl
theorem allL {w : World} {K : Fr} {mg : PySem.Str → Option Value} {h : Heap} (X : K.In h) (G : h.Ns mainGlobals mg) (c : He.SaysD faL fnL K) (XF : XcF K) (base : Heap) (f : Addr) (fd : FuncData) (FD : FunD K "law" "law" (defArgs slaw) (defBody slaw) (defScope slaw) [] [] f fd) : FnOk (PySem.Challenge.rw_huesbelow_k38_texts_of_no_tree).prog w K mg base (L2N.CX (PySem.Challenge.rw_huesbelow_k38_texts_of_no_tree).prog w) 7 f fd ["script"] (splaw K) := by
  have f_MOST_FIGURES : GInt mg "MOST_FIGURES" (30) := He.int_ok X G (c.fact 57 rfl)
  have f_FIGURES : GStr mg "FIGURES" (PySem.Str.ofString "0123456789") := He.str_ok X G (c.fact 58 rfl)
  have n_enumerate : mg "enumerate" = none := He.free_ok X G (c.fact 24 rfl)
  have n_len : mg "len" = none := He.free_ok X G (c.fact 25 rfl)
  have n_int : mg "int" = none := He.free_ok X G (c.fact 26 rfl)
  have n_min : mg "min" = none := He.free_ok X G (c.fact 27 rfl)
  have n_max : mg "max" = none := He.free_ok X G (c.fact 28 rfl)
  have n_range : mg "range" = none := He.free_ok X G (c.fact 29 rfl)
  have n_list : mg "list" = none := He.free_ok X G (c.fact 30 rfl)
  have n_isinstance : mg "isinstance" = none := He.free_ok X G (c.fact 31 rfl)
  have n_str : mg "str" = none := He.free_ok X G (c.fact 32 rfl)
  have n_tuple : mg "tuple" = none := He.free_ok X G (c.fact 33 rfl)
  have n_zip : mg "zip" = none := He.free_ok X G (c.fact 34 rfl)
  have n_bool : mg "bool" = none := He.free_ok X G (c.fact 35 rfl)
  have n_ValueError : mg "ValueError" = none := He.free_ok X G (c.fact 36 rfl)
  have xc_NoTree : XcOk K mg (caOf K) .tree "NoTree" := xc_of X G c 37 38 .tree rfl rfl
  have xc_NoText : XcOk K mg (caOf K) .text "NoText" := xc_of X G c 39 40 .text rfl rfl
  have xc_NoHues : XcOk K mg (caOf K) .hues "NoHues" := xc_of X G c 41 42 .hues rfl rfl
  have xc_NoPlace : XcOk K mg (caOf K) .place "NoPlace" := xc_of X G c 43 44 .place rfl rfl
  have xc_NoPart : XcOk K mg (caOf K) .part "NoPart" := xc_of X G c 45 46 .part rfl rfl
  have xc_NoNumber : XcOk K mg (caOf K) .number "NoNumber" := xc_of X G c 47 48 .number rfl rfl
  have xc_NoLeaf : XcOk K mg (caOf K) .leaf "NoLeaf" := xc_of X G c 49 50 .leaf rfl rfl
  have xc_NoForm : XcOk K mg (caOf K) .form "NoForm" := xc_of X G c 51 52 .form rfl rfl
  have xc_NoneYet : XcOk K mg (caOf K) .yet "NoneYet" := xc_of X G c 53 54 .yet rfl rfl
  have xc_HueError : XcOk K mg (caOf K) .hue "HueError" := xc_of X G c 55 56 .hue rfl rfl
  have Awalk_of : At K mg "walk_of" swalk_of ["parents"] := at_of X G c 0 0 rfl rfl fun _ _ _ _ _ _ us hl => match us, hl with | [_], _ => rfl
  have Dwalk_of := okwalk_of (P := (PySem.Challenge.rw_huesbelow_k38_texts_of_no_tree).prog) (w := w) (base := base) Awalk_of n_enumerate
  have Aneed_tree : At K mg "need_tree" sneed_tree ["parents"] := at_of X G c 1 1 rfl rfl fun _ _ _ _ _ _ us hl => match us, hl with | [_], _ => rfl
  have Dneed_tree := okneed_tree (P := (PySem.Challenge.rw_huesbelow_k38_texts_of_no_tree).prog) (w := w) (base := base) Aneed_tree Dwalk_of n_len xc_NoTree
  have Aneed : At K mg "need" sneed ["truth"] := at_of X G c 2 2 rfl rfl fun _ _ _ _ _ _ us hl => match us, hl with | [_], _ => rfl
  have Dneed := okneed (P := (PySem.Challenge.rw_huesbelow_k38_texts_of_no_tree).prog) (w := w) (base := base) Aneed xc_NoText
  have Anumber_in : At K mg "number_in" snumber_in ["word"] := at_of X G c 3 3 rfl rfl fun _ _ _ _ _ _ us hl => match us, hl with | [_], _ => rfl
  have Dnumber_in := oknumber_in (P := (PySem.Challenge.rw_huesbelow_k38_texts_of_no_tree).prog) (w := w) (base := base) Anumber_in Dneed n_len n_int f_MOST_FIGURES f_FIGURES
  have Ahue_in : At K mg "hue_in" shue_in ["word"] := at_of X G c 4 4 rfl rfl fun _ _ _ _ _ _ us hl => match us, hl with | [_], _ => rfl
  have Dhue_in := okhue_in (P := (PySem.Challenge.rw_huesbelow_k38_texts_of_no_tree).prog) (w := w) (base := base) Ahue_in Dnumber_in Dneed
  have Aread_tree : At K mg "read_tree" sread_tree ["text"] := at_of X G c 5 5 rfl rfl fun _ _ _ _ _ _ us hl => match us, hl with | [_], _ => rfl
  have Dread_tree := okread_tree (P := (PySem.Challenge.rw_huesbelow_k38_texts_of_no_tree).prog) (w := w) (base := base) Aread_tree Dneed Dnumber_in Dhue_in Dneed_tree
  have A_law_stir : At K mg "_law_stir" s_law_stir ["cell", "k"] := at_of X G c 6 6 rfl rfl fun _ _ _ _ _ _ us hl => match us, hl with | [_, _], _ => rfl
  have D_law_stir := ok_law_stir (P := (PySem.Challenge.rw_huesbelow_k38_texts_of_no_tree).prog) (w := w) (base := base) A_law_stir
  have A_law_cells : At K mg "_law_cells" s_law_cells ["script", "many"] := at_of X G c 7 7 rfl rfl fun _ _ _ _ _ _ us hl => match us, hl with | [_, _], _ => rfl
  have D_law_cells := ok_law_cells (P := (PySem.Challenge.rw_huesbelow_k38_texts_of_no_tree).prog) (w := w) (base := base) A_law_cells n_len n_min n_max
  have A_law_order : At K mg "_law_order" s_law_order ["cell", "base", "many"] := at_of X G c 8 8 rfl rfl fun _ _ _ _ _ _ us hl => match us, hl with | [_, _, _], _ => rfl
  have D_law_order := ok_law_order (P := (PySem.Challenge.rw_huesbelow_k38_texts_of_no_tree).prog) (w := w) (base := base) A_law_order D_law_stir n_range
  have A_law_tree : At K mg "_law_tree" s_law_tree ["cell", "most"] := at_of X G c 9 9 rfl rfl fun _ _ _ _ _ _ us hl => match us, hl with | [_, _], _ => rfl
  have D_law_tree := ok_law_tree (P := (PySem.Challenge.rw_huesbelow_k38_texts_of_no_tree).prog) (w := w) (base := base) A_law_tree D_law_stir D_law_order n_min n_list n_range n_max
  have A_law_hues : At K mg "_law_hues" s_law_hues ["cell", "many"] := at_of X G c 10 10 rfl rfl fun _ _ _ _ _ _ us hl => match us, hl with | [_, _], _ => rfl
  have D_law_hues := ok_law_hues (P := (PySem.Challenge.rw_huesbelow_k38_texts_of_no_tree).prog) (w := w) (base := base) A_law_hues D_law_stir n_range
  have A_law_same : At K mg "_law_same" s_law_same ["found", "due"] := at_of X G c 11 11 rfl rfl fun _ _ _ _ _ _ us hl => match us, hl with | [_, _], _ => rfl
  have D_law_same := ok_law_same (P := (PySem.Challenge.rw_huesbelow_k38_texts_of_no_tree).prog) (w := w) (base := base) A_law_same n_isinstance n_str n_list n_tuple n_len n_zip n_int n_bool 4
  have A_law_flags : At K mg "_law_flags" s_law_flags ["e"] := at_of X G c 12 12 rfl rfl fun _ _ _ _ _ _ us hl => match us, hl with | [_], _ => rfl
  have D_law_flags := ok_law_flags (P := (PySem.Challenge.rw_huesbelow_k38_texts_of_no_tree).prog) (w := w) (base := base) A_law_flags n_isinstance n_ValueError xc_NoTree xc_NoHues xc_NoPlace xc_NoPart xc_NoNumber xc_NoLeaf xc_NoText xc_NoForm xc_NoneYet XF
  have A_law_is_tree : At K mg "_law_is_tree" s_law_is_tree ["parents"] := at_of X G c 13 13 rfl rfl fun _ _ _ _ _ _ us hl => match us, hl with | [_], _ => rfl
  have D_law_is_tree := ok_law_is_tree (P := (PySem.Challenge.rw_huesbelow_k38_texts_of_no_tree).prog) (w := w) (base := base) A_law_is_tree n_range n_len
  have A_law_text : At K mg "_law_text" s_law_text ["parents", "hues"] := at_of X G c 14 14 rfl rfl fun _ _ _ _ _ _ us hl => match us, hl with | [_, _], _ => rfl
  have D_law_text := ok_law_text (P := (PySem.Challenge.rw_huesbelow_k38_texts_of_no_tree).prog) (w := w) (base := base) A_law_text n_zip n_str n_int
  have A_law_sign : At K mg "_law_sign" s_law_sign ["cell", "k"] := at_of X G c 15 15 rfl rfl fun _ _ _ _ _ _ us hl => match us, hl with | [_, _], _ => rfl
  have D_law_sign := ok_law_sign (P := (PySem.Challenge.rw_huesbelow_k38_texts_of_no_tree).prog) (w := w) (base := base) A_law_sign D_law_stir n_len
  have A_law_spoilt : At K mg "_law_spoilt" s_law_spoilt ["cell", "k", "text"] := at_of X G c 16 16 rfl rfl fun _ _ _ _ _ _ us hl => match us, hl with | [_, _, _], _ => rfl
  have D_law_spoilt := ok_law_spoilt (P := (PySem.Challenge.rw_huesbelow_k38_texts_of_no_tree).prog) (w := w) (base := base) A_law_spoilt D_law_stir D_law_sign n_len
  have A_law_number : At K mg "_law_number" s_law_number ["word"] := at_of X G c 17 17 rfl rfl fun _ _ _ _ _ _ us hl => match us, hl with | [_], _ => rfl
  have D_law_number := ok_law_number (P := (PySem.Challenge.rw_huesbelow_k38_texts_of_no_tree).prog) (w := w) (base := base) A_law_number n_len n_int
  have A_law_hue : At K mg "_law_hue" s_law_hue ["word"] := at_of X G c 18 18 rfl rfl fun _ _ _ _ _ _ us hl => match us, hl with | [_], _ => rfl
  have D_law_hue := ok_law_hue (P := (PySem.Challenge.rw_huesbelow_k38_texts_of_no_tree).prog) (w := w) (base := base) A_law_hue D_law_number
  have A_law_due : At K mg "_law_due" s_law_due ["text"] := at_of X G c 19 19 rfl rfl fun _ _ _ _ _ _ us hl => match us, hl with | [_], _ => rfl
  have D_law_due := ok_law_due (P := (PySem.Challenge.rw_huesbelow_k38_texts_of_no_tree).prog) (w := w) (base := base) A_law_due D_law_number D_law_hue D_law_is_tree
  have A_law_told : At K mg "_law_told" s_law_told ["text"] := at_of X G c 20 20 rfl rfl fun _ _ _ _ _ _ us hl => match us, hl with | [_], _ => rfl
  have D_law_told := ok_law_told (P := (PySem.Challenge.rw_huesbelow_k38_texts_of_no_tree).prog) (w := w) (base := base) A_law_told Dread_tree D_law_flags n_range n_int xc_HueError XF
  have A_law_right : At K mg "_law_right" s_law_right ["text"] := at_of X G c 21 21 rfl rfl fun _ _ _ _ _ _ us hl => match us, hl with | [_], _ => rfl
  have D_law_right := ok_law_right (P := (PySem.Challenge.rw_huesbelow_k38_texts_of_no_tree).prog) (w := w) (base := base) A_law_right D_law_due D_law_same D_law_told
  have A_law_free : At K mg "_law_free" s_law_free ["cell"] := at_of X G c 22 22 rfl rfl fun _ _ _ _ _ _ us hl => match us, hl with | [_], _ => rfl
  have D_law_free := ok_law_free (P := (PySem.Challenge.rw_huesbelow_k38_texts_of_no_tree).prog) (w := w) (base := base) A_law_free D_law_stir n_range n_int n_str
  exact oklaw D_law_cells D_law_tree D_law_text D_law_hues D_law_right D_law_free D_law_spoilt n_len n_range f fd FD
end G
open PySem PySem.W PySem.Calls PyProof.Rows
theorem PySem.Challenge.cw_huesbelow_k38_texts_of_no_tree_holds : PySem.Challenge.rw_huesbelow_k38_texts_of_no_tree.Holds := by
  w_on; o_law
  refine HandSHeadRun.head_any (r := OpenLaw.row PySem.Challenge.rw_huesbelow_k38_texts_of_no_tree) (q := view (OpenLaw.row PySem.Challenge.rw_huesbelow_k38_texts_of_no_tree).prog [39]) (H := G.hkL) (ob := G.obL) (M := 40000) (loose := (("HueError" : PySem.Str) :: ("NoTree" : PySem.Str) :: ("NoHues" : PySem.Str) :: ("NoPlace" : PySem.Str) :: ("NoPart" : PySem.Str) :: ("NoNumber" : PySem.Str) :: ("NoLeaf" : PySem.Str) :: ("NoText" : PySem.Str) :: ("NoForm" : PySem.Str) :: ("NoneYet" : PySem.Str) :: ("walk_of" : PySem.Str) :: ("need_tree" : PySem.Str) :: ("need" : PySem.Str) :: ("number_in" : PySem.Str) :: ("hue_in" : PySem.Str) :: ("read_tree" : PySem.Str) :: ("_law_stir" : PySem.Str) :: ("_law_cells" : PySem.Str) :: ("_law_order" : PySem.Str) :: ("_law_tree" : PySem.Str) :: ("_law_hues" : PySem.Str) :: ("_law_same" : PySem.Str) :: ("_law_flags" : PySem.Str) :: ("_law_is_tree" : PySem.Str) :: ("_law_text" : PySem.Str) :: ("_law_sign" : PySem.Str) :: ("_law_spoilt" : PySem.Str) :: ("_law_number" : PySem.Str) :: ("_law_hue" : PySem.Str) :: ("_law_due" : PySem.Str) :: ("_law_told" : PySem.Str) :: ("_law_right" : PySem.Str) :: ("_law_free" : PySem.Str) :: ("FIGURES" : PySem.Str) :: ("MOST_FIGURES" : PySem.Str) :: [])) (d := HandSHeadRun.topDef (OpenLaw.row PySem.Challenge.rw_huesbelow_k38_texts_of_no_tree).prog 39) (kwd := []) G.obL_eq
    (by kernel_rfl) (fun s => by kernel_rfl) G.runL (by kernel_rfl) (by kernel_rfl) (by kernel_rfl) (by rfl) (by first | assumption | decide +kernel) (by decide +kernel) ⟨rfl, rfl, rfl, rfl, rfl, by decide +kernel⟩ ?hw ?hc
  case hw => w_witness2
  case hc =>
    exact G.law_endB (l := PySem.Challenge.rw_huesbelow_k38_texts_of_no_tree) (n := 63) (k := 7) (m := G.m_law) (st := G.slaw) rfl (by decide) (by kernel_rfl) ⟨rfl, by decide, by decide⟩ G.law_true (by kernel_rfl) (fun _ _ _ _ _ _ us hl => match us, hl with | [_], _ => rfl) 23 23 rfl rfl
      fun w K mg h X G c XF base f fd FD => _root_.G.allL X G c XF base f fd FD
