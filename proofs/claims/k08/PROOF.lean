import PyProof.Rows.All
import Wide.All
import OpenK.AllK
import Wide.FinOn
import HandS.ForMost
import HandS.Exc
import HandS.Evl
import HandS.Defaults
import HandS.WordsExc
import HandS.Wide
import HandS.More
import HandS.SortInts
import HandS.IsInst
import HandS.Style
import HandS.Strs
import HandS.SetFor
import HandS.Zip
import HandS.HeadEnd
import HandS.HeadHook2
import HandS.HeadHook3
import HandS.Head2
import PySem.Challenge.RW_huesbelow_k08_last_places
set_option Elab.async false
set_option linter.all false
set_option maxRecDepth 100000
set_option maxHeartbeats 4000000
/-! GBase: mirrors (M), worlds (Gx), what stands for what (Py). -/
namespace G
open PySem L2 Evl

/-! ### the own classes of error -/
inductive XC where
  | hue | tree | hues | place | part | number | leaf | text | form | yet
  deriving DecidableEq

/-! ### mirrors: a value, an own error, or nothing said -/
inductive M (α : Type) where
  | stuck
  | err (c : XC)
  | ok (a : α)
namespace M
def bind {α β : Type} (m : M α) (f : α → M β) : M β := match m with
  | .stuck => .stuck
  | .err c => .err c
  | .ok a => f a
end M
instance : Monad M where
  pure := M.ok
  bind := M.bind
@[simp] theorem ok_bind {α β : Type} (a : α) (f : α → M β) : (M.ok a >>= f) = f a := rfl
@[simp] theorem err_bind {α β : Type} (c : XC) (f : α → M β) : ((M.err c : M α) >>= f) = M.err c := rfl
@[simp] theorem stuck_bind {α β : Type} (f : α → M β) : ((M.stuck : M α) >>= f) = M.stuck := rfl
@[simp] theorem pure_ok {α : Type} (a : α) : (pure a : M α) = M.ok a := rfl
@[simp] theorem bind_ok {α : Type} (m : M α) : (m >>= fun a => M.ok a) = m := by cases m <;> rfl
theorem bind_assoc' {α β γ : Type} (m : M α) (f : α → M β) (g : β → M γ) : ((m >>= f) >>= g) = (m >>= fun a => f a >>= g) := by cases m <;> rfl

/-- what holds of a mirror's end -/
def wpm {α : Type} (m : M α) (P : α → Prop) (E : XC → Prop) : Prop := match m with
  | .stuck => False
  | .err c => E c
  | .ok a => P a
section
variable {α β : Type} {m : M α} {f : α → M β} {P Q : α → Prop} {R : β → Prop} {E F : XC → Prop}
@[simp] theorem wpm_ok {a : α} : wpm (M.ok a) P E = P a := rfl
@[simp] theorem wpm_err {c : XC} : wpm (M.err c : M α) P E = E c := rfl
@[simp] theorem wpm_stuck : wpm (M.stuck : M α) P E = False := rfl
theorem wpm_bind : wpm (m >>= f) R E = wpm m (fun a => wpm (f a) R E) E := by cases m <;> rfl
theorem wb (h : wpm (m >>= f) R E) : wpm m (fun a => wpm (f a) R E) E := by rw [wpm_bind] at h; exact h
theorem bw (h : wpm m (fun a => wpm (f a) R E) E) : wpm (m >>= f) R E := by rw [wpm_bind]; exact h
theorem wpm_mono (h : wpm m P E) (hp : ∀ a, P a → Q a) (he : ∀ c, E c → F c) : wpm m Q F := by
  cases m with
  | stuck => exact h
  | err c => exact he c h
  | ok a => exact hp a h
theorem wpm_imp (h : wpm m P E) (hp : ∀ a, P a → Q a) : wpm m Q E := wpm_mono h hp fun _ h => h
theorem wpm_of {a : α} (e : m = M.ok a) (h : P a) : wpm m P E := by rw [e]; exact h
theorem wpm_eq {a : α} (h : wpm m P E) (e : m = M.ok a) : P a := by rw [e] at h; exact h
theorem wpm_and (h : wpm m P E) (h2 : wpm m Q E) : wpm m (fun a => P a ∧ Q a) E := by
  cases m with
  | stuck => exact h
  | err c => exact h
  | ok a => exact ⟨h, h2⟩
theorem ok_of (h : wpm m P fun _ => False) : ∃ a, m = M.ok a ∧ P a := by
  cases m with
  | stuck => exact h.elim
  | err c => exact h.elim
  | ok a => exact ⟨a, rfl, h⟩
end

/-- no error leaves -/
def noerr {α : Type} (m : M α) : M α := match m with
  | .err _ => .stuck
  | x => x

/-! ### worlds: S is what stays as it is, H the heap; L the lists that may be written -/
structure Gx (L : List Addr) (S H S' H' : Hp) : Prop where
  s : Ex S S'
  h : ∀ b o, b ∉ L → H b = some o → H' b = some o
  sh : Ex S' H'
  th : ∀ b, H b ≠ none → H' b ≠ none
  fr : ∀ b, H b ≠ none → S b = none → S' b = none
theorem Gx.refl {L : List Addr} {S H : Hp} (e : Ex S H) : Gx L S H S H := ⟨Ex.refl _, fun _ _ _ h => h, e, fun _ h => h, fun _ _ h => h⟩
theorem Gx.trans {L L' : List Addr} {S H S1 H1 S2 H2 : Hp} (a : Gx L S H S1 H1) (b : Gx L' S1 H1 S2 H2) (hl : ∀ x ∈ L', x ∈ L ∨ H x = none) : Gx L S H S2 H2 :=
  ⟨a.s.trans b.s, fun x o hx e => b.h x o (fun h => (hl x h).elim hx fun h => by rw [h] at e; cases e) (a.h x o hx e), b.sh, fun x h => b.th x (a.th x h), fun x h1 h2 => b.fr x (a.th x h1) (a.fr x h1 h2)⟩
theorem Gx.trans0 {L : List Addr} {S H S1 H1 S2 H2 : Hp} (a : Gx L S H S1 H1) (b : Gx [] S1 H1 S2 H2) : Gx L S H S2 H2 := a.trans b (fun x h => nomatch h)
theorem Gx.ex {S H S' H' : Hp} (g : Gx [] S H S' H') : Ex H H' := fun a o h => g.h a o (fun h => nomatch h) h
theorem Gx.weak {L L' : List Addr} {S H S' H' : Hp} (g : Gx L S H S' H') (h : ∀ x ∈ L, x ∈ L') : Gx L' S H S' H' := ⟨g.s, fun b o hb e => g.h b o (fun q => hb (h b q)) e, g.sh, g.th, g.fr⟩
section
variable {L : List Addr} {S0 H0 S H : Hp} {p a b : Addr} {o o' : HO}
theorem upd_ne_none {H : Hp} {p : Addr} {o : HO} (b : Addr) (h : H b ≠ none) : upd H p o b ≠ none := by
  unfold upd; split <;> simp_all
/-- a new object, of the standing ones -/
theorem Gx.newS (g : Gx L S0 H0 S H) (hp : H p = none) : Gx L S0 H0 (upd S p o) (upd H p o) := by
  have hs : S p = none := fresh_back g.sh hp
  refine ⟨g.s.trans (Ex.new hs), fun b u hb e => ?_, fun b u e => ?_, fun b h => upd_ne_none b (g.th b h), fun b h1 h2 => ?_⟩
  · rw [upd_ne (ne_of_none (g.h b u hb e) hp)]; exact g.h b u hb e
  · unfold upd at e ⊢
    split
    · rename_i q; rw [if_pos q] at e; exact e
    · rename_i q; rw [if_neg q] at e; exact g.sh b u e
  · have : b ≠ p := fun q => g.th b h1 (q ▸ hp)
    rw [upd_ne this]; exact g.fr b h1 h2
/-- a new object that will be written -/
theorem Gx.newO (g : Gx L S0 H0 S H) (hp : H p = none) : Gx L S0 H0 S (upd H p o) :=
  ⟨g.s, fun b u hb e => by rw [upd_ne (ne_of_none (g.h b u hb e) hp)]; exact g.h b u hb e, g.sh.mut (fresh_back g.sh hp), fun b h => upd_ne_none b (g.th b h), g.fr⟩
end

/-- an object of one's own: it may be written -/
structure Own (S H : Hp) (a : Addr) (o : HO) : Prop where
  at_ : H a = some o
  free : S a = none
section
variable {L L' : List Addr} {S0 H0 S H S' H' : Hp} {p a b : Addr} {o o' u : HO}
theorem Own.keep (x : Own S H a o) (g : Gx L' S H S' H') (h : a ∉ L') : Own S' H' a o := ⟨g.h a o h x.at_, g.fr a (by rw [x.at_]; simp) x.free⟩
theorem Own.keep0 (x : Own S H a o) (g : Gx [] S H S' H') : Own S' H' a o := x.keep g (fun h => nomatch h)
theorem Own.put (x : Own S H a o) (hne : a ≠ b) : Own S (upd H b u) a o := ⟨by rw [upd_ne hne]; exact x.at_, x.free⟩
theorem Own.set (x : Own S H a o) : Own S (upd H a u) a u := ⟨upd_same, x.free⟩
theorem Own.ne (x : Own S H a o) (h : H p = none) : a ≠ p := ne_of_none x.at_ h
theorem Own.frzOther (x : Own S H a o) (hne : a ≠ b) : Own (upd S b u) H a o := ⟨x.at_, by rw [upd_ne hne]; exact x.free⟩
theorem Gx.frz (g : Gx L S0 H0 S H) (x : Own S H a o) (h : H0 a = none) : Gx L S0 H0 (upd S a o) H :=
  ⟨g.s.trans (Ex.new x.free), g.h, fun b u e => by
    unfold upd at e
    split at e
    · rename_i q; subst q; cases e; exact x.at_
    · exact g.sh b u e, g.th, fun b h1 h2 => by
    have : b ≠ a := fun q => h1 (q ▸ h)
    rw [upd_ne this]; exact g.fr b h1 h2⟩
/-- a written object of one's own -/
theorem Gx.put (g : Gx L S0 H0 S H) (x : Own S H a o) (h : H0 a = none ∨ a ∈ L) : Gx L S0 H0 S (upd H a o') :=
  ⟨g.s, fun b u hb e => by
    have : b ≠ a := fun q => h.elim (fun z => by rw [q, z] at e; cases e) fun z => hb (q ▸ z)
    rw [upd_ne this]; exact g.h b u hb e, g.sh.mut x.free, fun b h => upd_ne_none b (g.th b h), g.fr⟩
end

/-! ### what stands for what -/
/-- two lists, item by item -/
inductive All2 {α β : Type} (R : α → β → Prop) : List α → List β → Prop
  | nil : All2 R [] []
  | cons {a : α} {b : β} {as : List α} {bs : List β} : R a b → All2 R as bs → All2 R (a :: as) (b :: bs)
namespace All2
variable {α β : Type} {R R' : α → β → Prop} {as as' : List α} {bs bs' : List β}
theorem imp (h : All2 R as bs) (f : ∀ a b, R a b → R' a b) : All2 R' as bs := by
  induction h with
  | nil => exact .nil
  | cons h _ ih => exact .cons (f _ _ h) ih
theorem len (h : All2 R as bs) : as.length = bs.length := by
  induction h with
  | nil => rfl
  | cons _ _ ih => simp [ih]
theorem append (h : All2 R as bs) (h' : All2 R as' bs') : All2 R (as ++ as') (bs ++ bs') := by
  induction h with
  | nil => exact h'
  | cons h _ ih => exact .cons h ih
theorem snoc {a : α} {b : β} (h : All2 R as bs) (r : R a b) : All2 R (as ++ [a]) (bs ++ [b]) := h.append (.cons r .nil)
theorem drop (n : Nat) (h : All2 R as bs) : All2 R (as.drop n) (bs.drop n) := by
  induction h generalizing n with
  | nil => simpa using All2.nil
  | cons h t ih => cases n with
    | zero => exact .cons h t
    | succ n => exact ih n
theorem take (n : Nat) (h : All2 R as bs) : All2 R (as.take n) (bs.take n) := by
  induction h generalizing n with
  | nil => simpa using All2.nil
  | cons h t ih => cases n with
    | zero => exact .nil
    | succ n => exact .cons h (ih n)
theorem reverse (h : All2 R as bs) : All2 R as.reverse bs.reverse := by
  induction h with
  | nil => exact .nil
  | cons h t ih => simp only [List.reverse_cons]; exact ih.snoc h
theorem get {i : Nat} {b : β} (h : All2 R as bs) (e : bs[i]? = some b) : ∃ a, as[i]? = some a ∧ R a b := by
  induction h generalizing i with
  | nil => simp at e
  | cons h t ih => cases i with
    | zero => simp at e; subst e; exact ⟨_, rfl, h⟩
    | succ i => simpa using ih (i := i) (by simpa using e)
theorem getL {i : Nat} {a : α} (h : All2 R as bs) (e : as[i]? = some a) : ∃ b, bs[i]? = some b ∧ R a b := by
  induction h generalizing i with
  | nil => simp at e
  | cons h t ih => cases i with
    | zero => simp at e; subst e; exact ⟨_, rfl, h⟩
    | succ i => simpa using ih (i := i) (by simpa using e)
theorem set {i : Nat} {a : α} {b : β} (h : All2 R as bs) (r : R a b) : All2 R (as.set i a) (bs.set i b) := by
  induction h generalizing i with
  | nil => exact .nil
  | cons h t ih => cases i with
    | zero => exact .cons r t
    | succ i => exact .cons h ih
theorem eraseIdx {i : Nat} (h : All2 R as bs) : All2 R (as.eraseIdx i) (bs.eraseIdx i) := by
  induction h generalizing i with
  | nil => exact .nil
  | cons h t ih => cases i with
    | zero => exact t
    | succ i => exact .cons h ih
theorem dropLast (h : All2 R as bs) : All2 R as.dropLast bs.dropLast := by
  rw [List.dropLast_eq_take, List.dropLast_eq_take, h.len]; exact h.take _
theorem replicate {a : α} {b : β} (n : Nat) (r : R a b) : All2 R (List.replicate n a) (List.replicate n b) := by
  induction n with
  | zero => exact .nil
  | succ n ih => exact .cons r ih
theorem isEmpty (h : All2 R as bs) : as.isEmpty = bs.isEmpty := by cases h <;> rfl
theorem mapR {γ : Type} {f : γ → α} {g : γ → β} {cs : List γ} (h : ∀ c, R (f c) (g c)) : All2 R (cs.map f) (cs.map g) := by
  induction cs with
  | nil => exact .nil
  | cons c r ih => exact .cons (h c) ih
end All2

abbrev Fr := PySem.W.Frag
/-- v stands for x, over what stands as it is -/
class Py (α : Type) where
  rep : Fr → Hp → V → α → Prop
  mono : ∀ {K : Fr} {S S' : Hp} {v : V} {x : α}, Ex S S' → rep K S v x → rep K S' v x
/-- values that are no objects -/
class Flat (α : Type) extends Py α where
  toV : α → V
  is : ∀ {K : Fr} {S : Hp} {v : V} {x : α}, rep K S v x ↔ v = toV x
/-- the items of a list -/
def Reps {α : Type} [Py α] (K : Fr) (S : Hp) (vs : List V) (xs : List α) : Prop := All2 (Py.rep K S) vs xs
theorem Reps.mono {α : Type} [Py α] {K : Fr} {S S' : Hp} {vs : List V} {xs : List α} (e : Ex S S') (h : Reps K S vs xs) : Reps K S' vs xs := h.imp fun _ _ => Py.mono e
/-- a list's object -/
def RepL {α : Type} [Py α] (K : Fr) (S : Hp) (a : Addr) (xs : List α) : Prop := ∃ vs, S a = some (.lst vs) ∧ Reps K S vs xs
theorem RepL.mono {α : Type} [Py α] {K : Fr} {S S' : Hp} {a : Addr} {xs : List α} (e : Ex S S') (h : RepL K S a xs) : RepL K S' a xs := by
  obtain ⟨vs, h1, h2⟩ := h
  exact ⟨vs, e _ _ h1, h2.mono e⟩
/-- the script: a list that may only be read -/
def RepQ {α : Type} [Py α] (K : Fr) (S : Hp) (a : Addr) (xs : List α) : Prop := ∃ vs, SqL K S a vs ∧ Reps K S vs xs
theorem RepQ.mono {α : Type} [Py α] {K : Fr} {S S' : Hp} {a : Addr} {xs : List α} (e : Ex S S') (h : RepQ K S a xs) : RepQ K S' a xs := by
  obtain ⟨vs, h1, h2⟩ := h
  exact ⟨vs, ex_l e h1, h2.mono e⟩
instance : Flat Int where
  rep := fun _ _ v i => v = .int i
  mono := fun _ h => h
  toV := .int
  is := Iff.rfl
instance : Flat Bool where
  rep := fun _ _ v b => v = .bl b
  mono := fun _ h => h
  toV := .bl
  is := Iff.rfl
instance : Flat Unit where
  rep := fun _ _ v _ => v = .non
  mono := fun _ h => h
  toV := fun _ => .non
  is := Iff.rfl
instance : Flat PySem.Str where
  rep := fun _ _ v x => v = .str x
  mono := fun _ h => h
  toV := .str
  is := Iff.rfl
instance instOptP {α : Type} [Py α] : Py (Option α) where
  rep := fun K S v o => match o with
    | none => v = .non
    | some x => Py.rep K S v x
  mono := fun {_ _ _ _ o} e h => by
    cases o with
    | none => exact h
    | some x => exact Py.mono e h
def optV {α : Type} [Flat α] (o : Option α) : V := match o with
  | none => .non
  | some x => Flat.toV x
instance {α : Type} [Flat α] : Flat (Option α) where
  toPy := instOptP
  toV := optV
  is := fun {_ _ _ o} => by
    cases o with
    | none => exact Iff.rfl
    | some x => exact Flat.is
instance {α : Type} [Py α] : Py (List α) where
  rep := fun K S v xs => ∃ a, v = .ref a ∧ RepL K S a xs
  mono := fun e ⟨a, h1, h2⟩ => ⟨a, h1, h2.mono e⟩
/-- a tuple's items -/
class PyT (α : Type) where
  rept : Fr → Hp → List V → α → Prop
  monot : ∀ {K : Fr} {S S' : Hp} {v : List V} {x : α}, Ex S S' → rept K S v x → rept K S' v x
instance : PyT Unit where
  rept := fun _ _ vs _ => vs = []
  monot := fun _ h => h
instance {α β : Type} [Py α] [PyT β] : PyT (α × β) where
  rept := fun K S vs x => ∃ v r, vs = v :: r ∧ Py.rep K S v x.1 ∧ PyT.rept K S r x.2
  monot := fun e ⟨v, r, h1, h2, h3⟩ => ⟨v, r, h1, Py.mono e h2, PyT.monot e h3⟩
/-- (a, b, ..) is (a, b, .., ()) -/
instance {α β : Type} [Py α] [PyT β] : Py (α × β) where
  rep := fun K S v x => ∃ a vs, v = .ref a ∧ SqT K S a vs ∧ PyT.rept K S vs x
  mono := fun e ⟨a, vs, h1, h2, h3⟩ => ⟨a, vs, h1, ex_t e h2, PyT.monot e h3⟩
theorem Dp.mono {K : Fr} {S S' : Hp} (e : Ex S S') {v : V} {d : PyData} (h : Dp K S v d) : Dp K S' v d := by
  refine Dp.rec (motive_1 := fun v d _ => Dp K S' v d) (motive_2 := fun vs ds _ => DpAll K S' vs ds) ?_ ?_ ?_ ?_ ?_ ?_ ?_ ?_ h
  · exact .non
  · exact .bl
  · exact .int
  · exact .str
  · intro a xs ds h1 _ ih; exact .lst (ex_l e h1) ih
  · intro a xs ds h1 _ ih; exact .tup (ex_t e h1) ih
  · exact .nil
  · intros; exact .cons (by assumption) (by assumption)
instance : Py PyData where
  rep := fun K S v d => Dp K S v d
  mono := fun e h => Dp.mono e h
/-- a list of one's own -/
def OwnL {α : Type} [Py α] (K : Fr) (S H : Hp) (a : Addr) (xs : List α) : Prop := ∃ vs, Own S H a (.lst vs) ∧ Reps K S vs xs
end G
/-! GStep: a reading, step by step, beside its mirror. -/
namespace G
open PySem L2 Evl
abbrev St := L2.St

/-! ### forms -/
def blK (QB : Bool → Hp → Prop) (x : V) (H : Hp) : Prop := ∃ k, x = .bl k ∧ QB k H
def andK (uu : TT) (σ : St) (QB : Bool → Hp → Prop) (c : Bool) (H : Hp) : Prop := if c = true then uu σ H QB else QB false H
def orK (uu : TT) (σ : St) (QB : Bool → Hp → Prop) (c : Bool) (H : Hp) : Prop := if c = true then QB true H else uu σ H QB
def andVK (tb : TE) (σ : St) (Q : VK) (x : V) (H : Hp) : Prop := ∃ c, x = .bl c ∧ if c = true then tb σ H Q else Q (.bl false) H
def orVK (tb : TE) (σ : St) (Q : VK) (x : V) (H : Hp) : Prop := ∃ c, x = .bl c ∧ if c = true then Q (.bl true) H else tb σ H Q
def notVK (Q : VK) (x : V) (H : Hp) : Prop := ∃ c, x = .bl c ∧ Q (.bl (!c)) H
def chainK (r' : R2) (tc : TE) (σ : St) (Q : VK) (y z : V) (H : Hp) : Prop := ∃ k, z = .bl k ∧ (if k = true then tc σ H fun w' H4 => r' y w' H4 Q else Q (.bl false) H)
section
variable {σ : St} {H : Hp} {Q : VK} {D : Ends} {K : Fr} {v x y : V} {ta tb tc te : TE} {t : TA} {tt uu : TT} {ts tu : TS} {QB : Bool → Hp → Prop} {QA : List V → Hp → Prop} {b : Bool}
theorem i_var {i : Nat} (h : σ[i]? = some (some v)) (q : Q v H) : tVar i σ H Q := ⟨v, h, q⟩
theorem i_c (q : Q v H) : tC v σ H Q := q
theorem i_op {r : R2} (q : ta σ H fun x H1 => tb σ H1 fun y H2 => r x y H2 Q) : tOp r ta tb σ H Q := q
theorem i_un {r : V → Hp → VK → Prop} (q : ta σ H fun x H1 => r x H1 Q) : tUn r ta σ H Q := q
theorem i_I0 {g : Int → Int → V} {i j : Int} (q : Q (g i j) H) : rI0 g (.int i) (.int j) H Q := ⟨i, j, rfl, rfl, q⟩
theorem i_I {C : Int → Int → Prop} {g : Int → Int → V} {i j : Int} (hc : C i j) (q : Q (g i j) H) : rI C g (.int i) (.int j) H Q := ⟨i, j, rfl, rfl, hc, q⟩
theorem i_U {g : Int → V} {i : Int} (q : Q (g i) H) : rU g (.int i) H Q := ⟨i, rfl, q⟩
theorem i_nil (q : QA [] H) : tNil σ H QA := q
theorem i_cons {tr : TA} (q : ta σ H fun x H1 => tr σ H1 fun xs H2 => QA (x :: xs) H2) : tCons ta tr σ H QA := q
theorem i_cb {r : List V → Hp → VK → Prop} (q : t σ H fun vs H1 => r vs H1 Q) : tCB r t σ H Q := q
theorem i_call {sp : Sp} {E : XK} (q : t σ H fun vs H1 => sp vs H1 Q E) : tCall sp [] E t σ H Q := by
  show t σ H fun vs H1 => sp (vs ++ []) H1 Q E
  simpa only [List.append_nil] using q
theorem i_callS {sp : Sp} {E : St → XK} (q : t σ H fun vs H1 => sp vs H1 Q (E σ)) : tCallS sp E t σ H Q := q
theorem i_test (q : te σ H fun x H1 => blK QB x H1) : tTest te σ H QB := q
theorem i_B (q : te σ H fun x H1 => blK QB x H1) : tB te σ H QB := q
theorem i_bl (q : QB b H) : blK QB (.bl b) H := ⟨b, rfl, q⟩
theorem i_blN (q : Q (.bl (!b)) H) : notVK Q (.bl b) H := ⟨b, rfl, q⟩
theorem i_and (q : tt σ H fun c H1 => andK uu σ QB c H1) : tAnd tt uu σ H QB := q
theorem i_or (q : tt σ H fun c H1 => orK uu σ QB c H1) : tOr tt uu σ H QB := q
theorem i_not (q : tt σ H fun c H1 => QB (!c) H1) : tNot tt σ H QB := q
theorem i_andV (q : ta σ H fun x H1 => andVK tb σ Q x H1) : tAndV ta tb σ H Q := q
theorem i_orV (q : ta σ H fun x H1 => orVK tb σ Q x H1) : tOrV ta tb σ H Q := q
theorem i_notV (q : ta σ H fun x H1 => notVK Q x H1) : tNotV ta σ H Q := q
theorem i_ife (q : tt σ H fun c H1 => if c = true then ta σ H1 Q else tb σ H1 Q) : tIf tt ta tb σ H Q := q
theorem i_chain {r r' : R2} (q : ta σ H fun x H1 => tb σ H1 fun y H2 => r x y H2 fun z H3 => chainK r' tc σ Q y z H3) : tChain r r' ta tb tc σ H Q := q
/-- a two-way -/
theorem ite2b {A B : Prop} (h1 : b = true → A) (h2 : b = false → B) : if b = true then A else B := by cases b <;> simp_all
theorem wpm_t {α : Type} {c : Bool} {m n : M α} {P : α → Prop} {E : XC → Prop} (hc : c = true) (h : wpm (if c = true then m else n) P E) : wpm m P E := by rw [if_pos hc] at h; exact h
theorem wpm_f {α : Type} {c : Bool} {m n : M α} {P : α → Prop} {E : XC → Prop} (hc : c = false) (h : wpm (if c = true then m else n) P E) : wpm n P E := by rw [if_neg (by rw [hc]; exact Bool.false_ne_true)] at h; exact h
/-! statements -/
def seqE (n : St → Hp → Prop) (D : Ends) : Ends := { D with nx := n }
theorem i_seq (q : ts (seqE (tu D) D) σ H) : tSeq ts tu D σ H := q
theorem nx_seq {n : St → Hp → Prop} (q : n σ H) : (seqE n D).nx σ H := q
theorem i_next (q : D.nx σ H) : tNext D σ H := q
theorem i_drop (q : te σ H fun _ H1 => D.nx σ H1) : tDrop te D σ H := q
theorem i_asg {g : TG} (q : te σ H fun x H1 => g x σ H1 D.nx) : tAsg te g D σ H := q
theorem i_name {i : Nat} {Qs : St → Hp → Prop} (q : Qs (σ.set i (some v)) H) : gName i v σ H Qs := q
theorem i_ret (q : te σ H D.rt) : tRet te D σ H := q
theorem i_retN (q : D.rt .non H) : tRetN D σ H := q
theorem i_if (q : tt σ H fun b H1 => if b = true then ts D σ H1 else tu D σ H1) : tIfS tt ts tu D σ H := q
theorem i_gsub {to ti : TE} {ws : TSet} {Qs : St → Hp → Prop} (q : to σ H fun o H1 => ti σ H1 fun i H2 => ws o i v H2 fun H3 => Qs σ H3) : gSub to ti ws v σ H Qs := q
theorem i_gtup {n : Nat} {gs : TGs} {a : Addr} {vs : List V} {Qs : St → Hp → Prop} (hs : SqT K H a vs) (hn : vs.length = n) (q : gs vs σ H Qs) : gTup K n gs (.ref a) σ H Qs := ⟨a, vs, rfl, hs, hn, q⟩
theorem i_gcons {g : TG} {gs : TGs} {r : List V} {Qs : St → Hp → Prop} (q : g v σ H fun σ' H' => gs r σ' H' Qs) : gCons g gs (v :: r) σ H Qs := ⟨v, r, rfl, q⟩
theorem i_gnil {Qs : St → Hp → Prop} (q : Qs σ H) : gNil [] σ H Qs := ⟨rfl, q⟩
/-! equality of flat values -/
theorem optV_inj {p q : Option Int} : (optV p = optV q) ↔ p = q := by
  cases p <;> cases q <;> simp [optV, Flat.toV]
theorem i_eqI {i j : Int} (q : Q (.bl (decide (i = j))) H) : rEq (.int i) (.int j) H Q := ⟨rfl, by rw [show decide (V.int i = V.int j) = decide (i = j) by simp]; exact q⟩
theorem i_neI {i j : Int} (q : Q (.bl (!decide (i = j))) H) : rNe (.int i) (.int j) H Q := ⟨rfl, by rw [show decide (V.int i = V.int j) = decide (i = j) by simp]; exact q⟩
theorem i_eqB {i j : Bool} (q : Q (.bl (decide (i = j))) H) : rEq (.bl i) (.bl j) H Q := ⟨rfl, by rw [show decide (V.bl i = V.bl j) = decide (i = j) by simp]; exact q⟩
theorem i_neB {i j : Bool} (q : Q (.bl (!decide (i = j))) H) : rNe (.bl i) (.bl j) H Q := ⟨rfl, by rw [show decide (V.bl i = V.bl j) = decide (i = j) by simp]; exact q⟩
theorem i_eqS {i j : Str} (q : Q (.bl (decide (i = j))) H) : rEq (.str i) (.str j) H Q := ⟨rfl, by rw [show decide (V.str i = V.str j) = decide (i = j) by simp]; exact q⟩
theorem i_neS {i j : Str} (q : Q (.bl (!decide (i = j))) H) : rNe (.str i) (.str j) H Q := ⟨rfl, by rw [show decide (V.str i = V.str j) = decide (i = j) by simp]; exact q⟩
theorem i_eqO {i j : Option Int} (q : Q (.bl (decide (i = j))) H) : rEq (optV i) (optV j) H Q := by
  refine ⟨?_, ?_⟩
  · cases i <;> cases j <;> rfl
  · rw [show decide (optV i = optV j) = decide (i = j) by simp only [optV_inj]]; exact q
theorem i_neO {i j : Option Int} (q : Q (.bl (!decide (i = j))) H) : rNe (optV i) (optV j) H Q := by
  refine ⟨?_, ?_⟩
  · cases i <;> cases j <;> rfl
  · rw [show decide (optV i = optV j) = decide (i = j) by simp only [optV_inj]]; exact q
end

/-! ### a value that is never None -/
class NN (α : Type) [Py α] : Prop where
  nn : ∀ {K : Fr} {S : Hp} {v : V} {x : α}, Py.rep K S v x → v ≠ .non
instance : NN Int := ⟨fun h => by cases h; simp⟩
instance : NN Bool := ⟨fun h => by cases h; simp⟩
instance : NN Str := ⟨fun h => by cases h; simp⟩
instance {α : Type} [Py α] : NN (List α) := ⟨fun ⟨a, h, _⟩ => by subst h; simp⟩
instance {α β : Type} [Py α] [PyT β] : NN (α × β) := ⟨fun ⟨a, _, h, _⟩ => by subst h; simp⟩
theorem isN_rep {α : Type} [Py α] [NN α] {K : Fr} {S : Hp} {v : V} {o : Option α} (h : Py.rep K S v o) : decide (v = .non) = o.isNone := by
  cases o with
  | none =>
    have : v = .non := h
    subst this; rfl
  | some x => exact decide_eq_false (NN.nn (x := x) h)
theorem isN_opt {α : Type} [Flat α] [NN α] {o : Option α} : decide (optV o = .non) = o.isNone := isN_rep (K := []) (S := fun _ => none) (Flat.is.2 rfl)

/-! ### lists, read -/
/-- a list as it may be read now -/
def RepH {α : Type} [Py α] (K : Fr) (S H : Hp) (a : Addr) (xs : List α) : Prop := ∃ vs, SqL K H a vs ∧ Reps K S vs xs
section
variable {α β : Type} [Py α] [Py β] {K : Fr} {S H S0 H0 S' H' : Hp} {L L' : List Addr} {a b p : Addr} {xs ys : List α} {vs : List V} {Q : VK}
theorem RepQ.hp (r : RepQ K S a xs) (e : Ex S H) : RepH K S H a xs := by
  obtain ⟨vs, h1, h2⟩ := r
  exact ⟨vs, ex_l e h1, h2⟩
theorem RepL.hp (r : RepL K S a xs) (e : Ex S H) : RepH K S H a xs := by
  obtain ⟨vs, h1, h2⟩ := r
  exact ⟨vs, sq_of (e _ _ h1), h2⟩
/-- a list that is tracked -/
def RepT {α : Type} [Py α] (K : Fr) (S H : Hp) (a : Addr) (xs : List α) : Prop := ∃ vs, H a = some (.lst vs) ∧ Reps K S vs xs
theorem RepT.hp (r : RepT K S H a xs) : RepH K S H a xs := by
  obtain ⟨vs, h1, h2⟩ := r
  exact ⟨vs, sq_of h1, h2⟩
theorem RepL.tp (r : RepL K S a xs) (e : Ex S H) : RepT K S H a xs := by
  obtain ⟨vs, h1, h2⟩ := r
  exact ⟨vs, e _ _ h1, h2⟩
theorem OwnL.tp (r : OwnL K S H a xs) : RepT K S H a xs := by
  obtain ⟨vs, h1, h2⟩ := r
  exact ⟨vs, h1.at_, h2⟩
theorem OwnL.hp (r : OwnL K S H a xs) : RepH K S H a xs := by
  obtain ⟨vs, h1, h2⟩ := r
  exact ⟨vs, sq_of h1.at_, h2⟩
theorem OwnL.keep (o : OwnL K S H a xs) (g : Gx L' S H S' H') (h : a ∉ L') : OwnL K S' H' a xs := by
  obtain ⟨vs, h1, h2⟩ := o
  exact ⟨vs, h1.keep g h, h2.mono g.s⟩
theorem OwnL.keep0 (o : OwnL K S H a xs) (g : Gx [] S H S' H') : OwnL K S' H' a xs := o.keep g (fun h => nomatch h)
theorem OwnL.put {u : HO} (o : OwnL K S H a xs) (hne : a ≠ b) : OwnL K S (upd H b u) a xs := by
  obtain ⟨vs, h1, h2⟩ := o
  exact ⟨vs, h1.put hne, h2⟩
theorem OwnL.ne (o : OwnL K S H a xs) (h : H p = none) : a ≠ p := by
  obtain ⟨vs, h1, h2⟩ := o
  exact h1.ne h
/-- from now on it stays as it is -/
theorem OwnL.frz {C : Prop} (o : OwnL K S H a xs) (g : Gx L S0 H0 S H) (h : H0 a = none) (k : ∀ S', Gx L S0 H0 S' H → Ex S S' → (∀ b, b ≠ a → S' b = S b) → RepL K S' a xs → C) : C := by
  obtain ⟨vs, h1, h2⟩ := o
  have e : Ex S (upd S a (.lst vs)) := Ex.new h1.free
  exact k _ (g.frz h1 h) e (fun b hb => upd_ne hb) ⟨vs, upd_same, h2.mono e⟩

theorem All2.atI {R : V → α → Prop} {vs : List V} {xs : List α} {i : Int} {x : α} (h : All2 R vs xs) (e : atI xs i = some x) : ∃ v, L2.atI vs i = some v ∧ R v x := by
  unfold L2.atI at e ⊢
  rw [h.len]
  cases q : ixN xs.length i with
  | none => rw [q] at e; cases e
  | some j =>
    rw [q] at e
    exact h.get e
end

/-! ### mirrors of operations -/
def idx {α : Type} (xs : List α) (i : Int) : M α := match atI xs i with
  | some x => .ok x
  | none => .stuck
def unwrap {α : Type} (o : Option α) : M α := match o with
  | some x => .ok x
  | none => .stuck
def guardM (b : Bool) : M Unit := if b = true then .ok () else .stuck
def pmod (x y : Int) : M Int := if 0 < y then .ok (x % y) else .stuck
@[irreducible] def pdiv (x y : Int) : M Int := if 0 < y ∧ y < 1073741824 then .ok (x / y) else .stuck
@[irreducible] def pmul (x y : Int) : M Int := if (-(2 ^ 64) < x ∧ x < 2 ^ 64) ∨ (-(2 ^ 64) < y ∧ y < 2 ^ 64) then .ok (x * y) else .stuck
def pshr (x y : Int) : M Int := if 0 ≤ y then .ok (x / 2 ^ y.toNat) else .stuck
def line : Nat := 16777216
theorem line_eq : sizeLine = line := by rw [sizeLine_eq]; rfl
def pcat {α : Type} (xs ys : List α) : M (List α) := if xs.length + ys.length ≤ line then .ok (xs ++ ys) else .stuck
def papp {α : Type} (xs : List α) (x : α) : M (List α) := if xs.length < line then .ok (xs ++ [x]) else .stuck
def pset {α : Type} (xs : List α) (i : Int) (x : α) : M (List α) := match ixN xs.length i with
  | some j => .ok (xs.set j x)
  | none => .stuck
/-- xs.pop() -/
def ppop {α : Type} (xs : List α) : M (α × List α) := match xs[xs.length - 1]? with
  | some x => .ok (x, xs.dropLast)
  | none => .stuck
/-- xs.insert(i, x), i not below 0 -/
def pins {α : Type} (xs : List α) (i : Int) (x : α) : M (List α) := if xs.length < line ∧ 0 ≤ i ∧ i < 2 ^ 63 then .ok (xs.take i.toNat ++ [x] ++ xs.drop i.toNat) else .stuck
def prep {α : Type} (xs : List α) (n : Int) : M (List α) := if -(2 ^ 63) ≤ n ∧ n < 2 ^ 63 ∧ xs.length * n.toNat ≤ line then .ok (List.replicate n.toNat xs).flatten else .stuck
/-- range(a, b) -/
def rng (a b : Int) : List Int := (List.range (b - a).toNat).map fun (k : Nat) => a + (k : Int)
@[irreducible] def prng (a b : Int) : M (List Int) := if -(2 ^ 62) ≤ a ∧ a < 2 ^ 62 ∧ -(2 ^ 62) ≤ b ∧ b < 2 ^ 62 then .ok (rng a b) else .stuck
def cut {α : Type} (xs : List α) (lo hi : Option Int) : List α := (xs.drop (HT.sIx xs.length 0 lo)).take (HT.sIx xs.length xs.length hi - HT.sIx xs.length 0 lo)
/-- a loop -/
def forM' {α σ : Type} : List α → σ → (α → σ → M σ) → M σ
  | [], s, _ => .ok s
  | x :: xs, s, f => f x s >>= fun s' => forM' xs s' f
/-- a loop that may be left by a return -/
def forR {α σ ρ : Type} : List α → σ → (α → σ → M (ρ ⊕ σ)) → M (ρ ⊕ σ)
  | [], s, _ => .ok (.inr s)
  | x :: xs, s, f => f x s >>= fun r => match r with
    | .inl r => .ok (.inl r)
    | .inr s' => forR xs s' f
/-- while, so many turns at most -/
def whileM {σ : Type} : Nat → σ → (σ → M Bool) → (σ → M σ) → M σ
  | 0, _, _, _ => .stuck
  | n + 1, s, c, f => c s >>= fun b => if b = true then f s >>= fun s' => whileM n s' c f else .ok s
/-- a comprehension: the items that are given -/
def compM {α β : Type} : List α → (α → M (Option β)) → M (List β)
  | [], _ => .ok []
  | x :: xs, f => f x >>= fun o => match o with
    | none => compM xs f
    | some y => compM xs f >>= fun ys => .ok (y :: ys)

section
variable {α β γ : Type} {P : γ → Prop} {E : XC → Prop} {x y : Int} {k : Int → M γ} {Q : VK} {H : Hp}
theorem wpm_idx {xs : List β} {i : Int} {k : β → M γ} (h : wpm (idx xs i >>= k) P E) : ∃ x, atI xs i = some x ∧ wpm (k x) P E := by
  unfold idx at h
  cases q : atI xs i with
  | none => rw [q] at h; exact h.elim
  | some x => rw [q] at h; exact ⟨x, rfl, h⟩
theorem wpm_unwrap {o : Option β} {k : β → M γ} (h : wpm (unwrap o >>= k) P E) : ∃ x, o = some x ∧ wpm (k x) P E := by
  cases o with
  | none => exact h.elim
  | some x => exact ⟨x, rfl, h⟩
theorem wpm_guard {b : Bool} {k : Unit → M γ} (h : wpm (guardM b >>= k) P E) : b = true ∧ wpm (k ()) P E := by
  cases b with
  | false => exact h.elim
  | true => exact ⟨rfl, h⟩
theorem wpm_ite {c : Prop} [Decidable c] {a : β} {k : β → M γ} (h : wpm ((if c then (M.ok a) else .stuck) >>= k) P E) : c ∧ wpm (k a) P E := by
  by_cases hc : c
  · rw [if_pos hc] at h; exact ⟨hc, h⟩
  · rw [if_neg hc] at h; exact h.elim
theorem s_mod (h : wpm (pmod x y >>= k) P E) (q : wpm (k (x % y)) P E → Q (.int (x % y)) H) : rI (fun _ j => 0 < j) (fun i j => .int (i % j)) (.int x) (.int y) H Q := by
  obtain ⟨hc, h⟩ := wpm_ite h
  exact i_I hc (q h)
theorem s_div (h : wpm (pdiv x y >>= k) P E) (q : wpm (k (x / y)) P E → Q (.int (x / y)) H) : rI CDiv (fun i j => .int (i / j)) (.int x) (.int y) H Q := by
  unfold pdiv at h
  obtain ⟨hc, h⟩ := wpm_ite h
  exact i_I hc (q h)
theorem s_mul (h : wpm (pmul x y >>= k) P E) (q : wpm (k (x * y)) P E → Q (.int (x * y)) H) : rI CMul (fun i j => .int (i * j)) (.int x) (.int y) H Q := by
  unfold pmul at h
  obtain ⟨hc, h⟩ := wpm_ite h
  exact i_I hc (q h)
theorem s_shr (h : wpm (pshr x y >>= k) P E) (q : wpm (k (x / 2 ^ y.toNat)) P E → Q (.int (x / 2 ^ y.toNat)) H) : rI (fun _ j => 0 ≤ j) (fun i j => .int (i / 2 ^ j.toNat)) (.int x) (.int y) H Q := by
  obtain ⟨hc, h⟩ := wpm_ite h
  exact i_I hc (q h)
end
section
variable {α β γ : Type} [Py α] [Py β] {K : Fr} {P : γ → Prop} {E : XC → Prop} {S H S0 H0 S' H' : Hp} {L L' : List Addr} {a b p : Addr} {xs ys : List α} {vs : List V} {Q : VK} {Qn : Hp → Prop}
theorem s_idx {i : Int} {k : α → M γ} (r : RepH K S H a xs) (h : wpm (idx xs i >>= k) P E) (q : ∀ x v, Py.rep K S v x → wpm (k x) P E → Q v H) : rIxL K (.ref a) (.int i) H Q := by
  obtain ⟨vs, h1, h2⟩ := r
  obtain ⟨x, hx, h⟩ := wpm_idx h
  obtain ⟨v, hv, rv⟩ := h2.atI hx
  exact ⟨a, vs, i, v, rfl, rfl, h1, hv, q x v rv h⟩
theorem s_idxF {α : Type} [Flat α] {xs : List α} {i : Int} {k : α → M γ} (r : RepH K S H a xs) (h : wpm (idx xs i >>= k) P E) (q : ∀ x, wpm (k x) P E → Q (Flat.toV x) H) : rIxL K (.ref a) (.int i) H Q :=
  s_idx r h fun x v rv h => by rw [Flat.is.1 rv]; exact q x h
def rLenG (K : Fr) : List V → Hp → VK → Prop := fun xs H Q => ∃ p ys, xs = [.ref p] ∧ (SqL K H p ys ∨ SqT K H p ys) ∧ Q (.int ys.length) H
theorem call_lenG {X : Cx} : CallR X (.builtin "len") (rLenG X.K) := call_len_seq
theorem s_len (r : RepH K S H a xs) (q : Q (.int (xs.length : Int)) H) : rLenG K [.ref a] H Q := by
  obtain ⟨vs, h1, h2⟩ := r
  refine ⟨a, vs, rfl, .inl h1, ?_⟩
  rw [h2.len]; exact q
theorem All2.cut {R : V → α → Prop} {lo hi : Option Int} (h : All2 R vs xs) : All2 R (cutV vs lo hi) (G.cut xs lo hi) := by
  unfold cutV G.cut
  rw [h.len]
  exact (h.drop _).take _
/-- a new list that stays as it is -/
theorem newL_S (g : Gx L S0 H0 S H) (hr : Reps K S vs xs) (q : ∀ p S1 H1, Gx L S0 H0 S1 H1 → Gx [] S H S1 H1 → RepL K S1 p xs → Q (.ref p) H1) : ∀ p, H p = none → Q (.ref p) (upd H p (.lst vs)) := fun p hp =>
  q p (upd S p (.lst vs)) _ (g.newS hp) ((Gx.refl g.sh).newS hp) ⟨vs, upd_same, hr.mono (Ex.new (fresh_back g.sh hp))⟩
/-- a new list of one's own -/
theorem newL_O (g : Gx L S0 H0 S H) (hr : Reps K S vs xs) (q : ∀ p H1, Gx L S0 H0 S H1 → Gx [] S H S H1 → H p = none → OwnL K S H1 p xs → Q (.ref p) H1) : ∀ p, H p = none → Q (.ref p) (upd H p (.lst vs)) := fun p hp =>
  q p _ (g.newO hp) ((Gx.refl g.sh).newO hp) hp ⟨vs, ⟨upd_same, fresh_back g.sh hp⟩, hr⟩
/-- a new tuple -/
theorem newT_S {τ : Type} [PyT τ] {t : τ} (g : Gx L S0 H0 S H) (hr : PyT.rept K S vs t) (q : ∀ p S1 H1, Gx L S0 H0 S1 H1 → Gx [] S H S1 H1 → (SqT K S1 p vs ∧ PyT.rept K S1 vs t) → Q (.ref p) H1) : ∀ p, H p = none → Q (.ref p) (upd H p (.tup vs)) := fun p hp =>
  q p (upd S p (.tup vs)) _ (g.newS hp) ((Gx.refl g.sh).newS hp) ⟨st_of upd_same, PyT.monot (Ex.new (fresh_back g.sh hp)) hr⟩
theorem s_slS {lo hi : Option Int} (g : Gx L S0 H0 S H) (r : RepH K S H a xs) (q : ∀ p S1 H1, Gx L S0 H0 S1 H1 → Gx [] S H S1 H1 → RepL K S1 p (cut xs lo hi) → Q (.ref p) H1) : rSlL K (.ref a) lo hi H Q := by
  obtain ⟨vs, h1, h2⟩ := r
  exact ⟨a, vs, rfl, h1, newL_S g (All2.cut h2) q⟩
theorem s_slO {lo hi : Option Int} (g : Gx L S0 H0 S H) (r : RepH K S H a xs) (q : ∀ p H1, Gx L S0 H0 S H1 → Gx [] S H S H1 → H p = none → OwnL K S H1 p (cut xs lo hi) → Q (.ref p) H1) : rSlL K (.ref a) lo hi H Q := by
  obtain ⟨vs, h1, h2⟩ := r
  exact ⟨a, vs, rfl, h1, newL_O g (All2.cut h2) q⟩
theorem s_catS {k : List α → M γ} (g : Gx L S0 H0 S H) (r : RepT K S H a xs) (r2 : RepT K S H b ys) (h : wpm (pcat xs ys >>= k) P E) (q : ∀ p S1 H1, Gx L S0 H0 S1 H1 → Gx [] S H S1 H1 → RepL K S1 p (xs ++ ys) → wpm (k (xs ++ ys)) P E → Q (.ref p) H1) : rCat (.ref a) (.ref b) H Q := by
  obtain ⟨vs, h1, h2⟩ := r
  obtain ⟨ws, h3, h4⟩ := r2
  obtain ⟨hc, h⟩ := wpm_ite h
  exact ⟨a, b, vs, ws, rfl, rfl, h1, h3, by rw [h2.len, h4.len, line_eq]; exact hc, newL_S g (h2.append h4) fun p S1 H1 g1 g2 r => q p S1 H1 g1 g2 r h⟩
theorem s_catO {k : List α → M γ} (g : Gx L S0 H0 S H) (r : RepT K S H a xs) (r2 : RepT K S H b ys) (h : wpm (pcat xs ys >>= k) P E) (q : ∀ p H1, Gx L S0 H0 S H1 → Gx [] S H S H1 → H p = none → OwnL K S H1 p (xs ++ ys) → wpm (k (xs ++ ys)) P E → Q (.ref p) H1) : rCat (.ref a) (.ref b) H Q := by
  obtain ⟨vs, h1, h2⟩ := r
  obtain ⟨ws, h3, h4⟩ := r2
  obtain ⟨hc, h⟩ := wpm_ite h
  exact ⟨a, b, vs, ws, rfl, rfl, h1, h3, by rw [h2.len, h4.len, line_eq]; exact hc, newL_O g (h2.append h4) fun p H1 g1 g2 hp r => q p H1 g1 g2 hp r h⟩
/-- list(xs) -/
def rListG (K : Fr) : List V → Hp → VK → Prop := fun xs H Q => ∃ p ys, xs = [.ref p] ∧ (SqL K H p ys ∨ SqT K H p ys) ∧ ∀ l, H l = none → Q (.ref l) (upd H l (.lst ys))
theorem call_listG {X : Cx} : CallR X (.type "list") (rListG X.K) := call_list_of
theorem s_listS (g : Gx L S0 H0 S H) (r : RepH K S H a xs) (q : ∀ p S1 H1, Gx L S0 H0 S1 H1 → Gx [] S H S1 H1 → RepL K S1 p xs → Q (.ref p) H1) :
    rListG K [.ref a] H Q := by
  obtain ⟨vs, h1, h2⟩ := r
  exact ⟨a, vs, rfl, .inl h1, newL_S g h2 q⟩
theorem s_listO (g : Gx L S0 H0 S H) (r : RepH K S H a xs) (q : ∀ p H1, Gx L S0 H0 S H1 → Gx [] S H S H1 → H p = none → OwnL K S H1 p xs → Q (.ref p) H1) :
    rListG K [.ref a] H Q := by
  obtain ⟨vs, h1, h2⟩ := r
  exact ⟨a, vs, rfl, .inl h1, newL_O g h2 q⟩
/-- xs.append(e): the method is looked up, then the argument, then the item is put -/
def bmK (K : Fr) (T : String) (r : V → List V → Hp → VK → Prop) (t : TA) (σ : St) (Q : VK) (x : V) (H : Hp) : Prop := tyV K T x H ∧ t σ H fun xs H2 => r x xs H2 Q
def bm0K (K : Fr) (T : String) (r : V → List V → Hp → VK → Prop) (Q : VK) (x : V) (H : Hp) : Prop := tyV K T x H ∧ r x [] H Q
theorem s_bmL {r : V → List V → Hp → VK → Prop} {t : TA} {σ : St} (o : RepH K S H a xs) (q : t σ H fun ws H2 => r (.ref a) ws H2 Q) : bmK K "list" r t σ Q (.ref a) H := by
  obtain ⟨vs, h1, _⟩ := o
  exact ⟨.inl ⟨rfl, vs, h1⟩, q⟩
theorem i_bm {T : String} {r : V → List V → Hp → VK → Prop} {to : TE} {t : TA} {σ : St} (q : to σ H fun x H1 => bmK K T r t σ Q x H1) : tBM K T r to t σ H Q := q
theorem i_bm0 {T : String} {r : V → List V → Hp → VK → Prop} {to : TE} {σ : St} (q : to σ H fun x H1 => bm0K K T r Q x H1) : tBM0 K T r to σ H Q := q
theorem s_bmL0 {r : V → List V → Hp → VK → Prop} (o : RepH K S H a xs) (q : r (.ref a) [] H Q) : bm0K K "list" r Q (.ref a) H := by
  obtain ⟨vs, h1, _⟩ := o
  exact ⟨.inl ⟨rfl, vs, h1⟩, q⟩
theorem OwnL.other {H' : Hp} (o : OwnL K S H b xs) (hne : b ≠ a) (e : ∀ c, c ≠ a → H' c = H c) : OwnL K S H' b xs := by
  obtain ⟨vs, h1, h2⟩ := o
  exact ⟨vs, ⟨by rw [e b hne]; exact h1.at_, h1.free⟩, h2⟩
theorem OwnL.to {ys : List α} {ws : List V} (o : OwnL K S H a xs) (r : Reps K S ws ys) : OwnL K S (upd H a (.lst ws)) a ys := by
  obtain ⟨vs, h1, h2⟩ := o
  exact ⟨ws, h1.set, r⟩
theorem Gx.putL (g : Gx L S0 H0 S H) (o : OwnL K S H a xs) (h : H0 a = none ∨ a ∈ L) {u : HO} : Gx L S0 H0 S (upd H a u) := by
  obtain ⟨vs, h1, h2⟩ := o
  exact g.put h1 h
theorem s_app {x : α} {v : V} {k : List α → M γ} (g : Gx L S0 H0 S H) (o : OwnL K S H a xs) (h0 : H0 a = none ∨ a ∈ L) (r : Py.rep K S v x) (h : wpm (papp xs x >>= k) P E)
    (q : ∀ H1, Gx L S0 H0 S H1 → OwnL K S H1 a (xs ++ [x]) → (∀ c, c ≠ a → H1 c = H c) → wpm (k (xs ++ [x])) P E → Q .non H1) : rAppend (.ref a) [v] H Q := by
  obtain ⟨vs, h1, h2⟩ := o
  obtain ⟨hc, h⟩ := wpm_ite h
  exact ⟨a, vs, v, rfl, rfl, h1.at_, by rw [h2.len, line_eq]; exact hc, q _ (g.put h1 h0) ⟨_, h1.set, h2.snoc r⟩ (fun c hc => upd_ne hc) h⟩
theorem s_set {x : α} {v : V} {i : Int} {k : List α → M γ} (g : Gx L S0 H0 S H) (o : OwnL K S H a xs) (h0 : H0 a = none ∨ a ∈ L) (r : Py.rep K S v x) (h : wpm (pset xs i x >>= k) P E)
    (q : ∀ H1 ys, Gx L S0 H0 S H1 → OwnL K S H1 a ys → (∀ c, c ≠ a → H1 c = H c) → wpm (k ys) P E → Qn H1) : rSetL (.ref a) (.int i) v H Qn := by
  obtain ⟨vs, h1, h2⟩ := o
  unfold pset at h
  cases e : ixN xs.length i with
  | none => rw [e] at h; exact h.elim
  | some j =>
    rw [e] at h
    exact ⟨a, vs, i, j, rfl, rfl, h1.at_, by rw [h2.len]; exact e, q _ _ (g.put h1 h0) ⟨_, h1.set, h2.set r⟩ (fun c hc => upd_ne hc) h⟩
theorem s_pop {k : α × List α → M γ} (g : Gx L S0 H0 S H) (o : OwnL K S H a xs) (h0 : H0 a = none ∨ a ∈ L) (h : wpm (ppop xs >>= k) P E)
    (q : ∀ H1 x v, Gx L S0 H0 S H1 → OwnL K S H1 a xs.dropLast → (∀ c, c ≠ a → H1 c = H c) → Py.rep K S v x → wpm (k (x, xs.dropLast)) P E → Q v H1) : rPop (.ref a) [] H Q := by
  obtain ⟨vs, h1, h2⟩ := o
  unfold ppop at h
  cases e : xs[xs.length - 1]? with
  | none => rw [e] at h; exact h.elim
  | some x =>
    rw [e] at h
    obtain ⟨v, hv, rv⟩ := h2.get e
    exact ⟨a, vs, v, rfl, rfl, h1.at_, by rw [h2.len]; exact hv, q _ x v (g.put h1 h0) ⟨_, h1.set, h2.dropLast⟩ (fun c hc => upd_ne hc) rv h⟩
theorem s_ext {k : List α → M γ} (g : Gx L S0 H0 S H) (o : OwnL K S H a xs) (h0 : H0 a = none ∨ a ∈ L) (r : RepT K S H b ys) (h : wpm (pcat xs ys >>= k) P E)
    (q : ∀ H1, Gx L S0 H0 S H1 → OwnL K S H1 a (xs ++ ys) → (∀ c, c ≠ a → H1 c = H c) → wpm (k (xs ++ ys)) P E → Q .non H1) : rExtend (.ref a) [.ref b] H Q := by
  obtain ⟨vs, h1, h2⟩ := o
  obtain ⟨ws, h3, h4⟩ := r
  obtain ⟨hc, h⟩ := wpm_ite h
  exact ⟨a, b, vs, ws, rfl, rfl, h1.at_, h3, by rw [h2.len, h4.len, line_eq]; exact hc, q _ (g.put h1 h0) ⟨_, h1.set, h2.append h4⟩ (fun c hc => upd_ne hc) h⟩
def rInsG : V → List V → Hp → VK → Prop := fun x vs H Q => ∃ (l : Addr) (xs : List V) (i : Int) (y : V), x = .ref l ∧ vs = [.int i, y] ∧ H l = some (.lst xs) ∧ xs.length < sizeLine ∧ 0 ≤ i ∧ i < 2 ^ 63 ∧
    Q .non (upd H l (.lst (xs.take i.toNat ++ [y] ++ xs.drop i.toNat)))
theorem mt_insG {X : Cx} : MtR X "list.insert" rInsG := mt_insert
theorem s_ins {x : α} {v : V} {i : Int} {k : List α → M γ} (g : Gx L S0 H0 S H) (o : OwnL K S H a xs) (h0 : H0 a = none ∨ a ∈ L) (r : Py.rep K S v x) (h : wpm (pins xs i x >>= k) P E)
    (q : ∀ H1, Gx L S0 H0 S H1 → OwnL K S H1 a (xs.take i.toNat ++ [x] ++ xs.drop i.toNat) → (∀ c, c ≠ a → H1 c = H c) → wpm (k (xs.take i.toNat ++ [x] ++ xs.drop i.toNat)) P E → Q .non H1) : rInsG (.ref a) [.int i, v] H Q := by
  obtain ⟨vs, h1, h2⟩ := o
  obtain ⟨hc, h⟩ := wpm_ite h
  exact ⟨a, vs, i, v, rfl, rfl, h1.at_, by rw [h2.len, line_eq]; exact hc.1, hc.2.1, hc.2.2, q _ (g.put h1 h0) ⟨_, h1.set, ((h2.take _).append (.cons r .nil)).append (h2.drop _)⟩ (fun c hc => upd_ne hc) h⟩
theorem All2.flat {R : V → α → Prop} {vs : List V} {xs : List α} (n : Nat) (h : All2 R vs xs) : All2 R (List.replicate n vs).flatten (List.replicate n xs).flatten := by
  induction n with
  | zero => exact .nil
  | succ n ih => simp only [List.replicate_succ, List.flatten_cons]; exact h.append ih
theorem s_repO {n : Int} {k : List α → M γ} (g : Gx L S0 H0 S H) (r : RepT K S H a xs) (h : wpm (prep xs n >>= k) P E) (q : ∀ p H1, Gx L S0 H0 S H1 → Gx [] S H S H1 → H p = none → OwnL K S H1 p (List.replicate n.toNat xs).flatten → wpm (k (List.replicate n.toNat xs).flatten) P E → Q (.ref p) H1) : rRep (.ref a) (.int n) H Q := by
  obtain ⟨vs, h1, h2⟩ := r
  obtain ⟨hc, h⟩ := wpm_ite h
  exact ⟨a, n, vs, rfl, rfl, h1, hc.1, hc.2.1, by rw [h2.len, line_eq]; exact hc.2.2, newL_O g (h2.flat _) fun p H1 g1 g2 hp r => q p H1 g1 g2 hp r h⟩
theorem s_repS {n : Int} {k : List α → M γ} (g : Gx L S0 H0 S H) (r : RepT K S H a xs) (h : wpm (prep xs n >>= k) P E) (q : ∀ p S1 H1, Gx L S0 H0 S1 H1 → Gx [] S H S1 H1 → RepL K S1 p (List.replicate n.toNat xs).flatten → wpm (k (List.replicate n.toNat xs).flatten) P E → Q (.ref p) H1) : rRep (.ref a) (.int n) H Q := by
  obtain ⟨vs, h1, h2⟩ := r
  obtain ⟨hc, h⟩ := wpm_ite h
  exact ⟨a, n, vs, rfl, rfl, h1, hc.1, hc.2.1, by rw [h2.len, line_eq]; exact hc.2.2, newL_S g (h2.flat _) fun p S1 H1 g1 g2 r => q p S1 H1 g1 g2 r h⟩
end
end G
/-! GLoop: loops and comprehensions beside their mirrors. -/
namespace G
open PySem L2 Evl

abbrev ForG (J : It) (g : TG) (tb : TS) (D : Ends) (σ : St) (H : Hp) : Prop :=
  ∃ W : Nat → Nat → St → Hp → Prop, (∃ m, W 0 m σ H) ∧ ∀ i m σ H, W i m σ H →
    (J.stop i H ∧ D.nx σ H) ∨ (J.go i H ∧ ∃ N : St → Hp → Prop, (∀ σ' H', N σ' H' → ∃ m', m' < m ∧ W (i + 1) m' σ' H') ∧ ∀ x H', J.yld i H x H' → g x σ H' fun σ2 H2 => tb { D with nx := N, ct := N, bk := D.nx } σ2 H2)

theorem drop_cons {α : Type} {xs : List α} {i : Nat} {y : α} (h : xs[i]? = some y) : xs.drop i = y :: xs.drop (i + 1) := by
  obtain ⟨hi, e⟩ := List.getElem?_eq_some_iff.mp h
  rw [List.drop_eq_getElem_cons hi, e]

section
variable {α τ ρ : Type} [Py α] {K : Fr} {J : It} {g : TG} {tb : TS} {D : Ends} {σ : St} {S H : Hp} {xs : List α} {s0 : τ} {E : XC → Prop}
theorem forCoreR {f : α → τ → M (ρ ⊕ τ)} {P : ρ ⊕ τ → Prop} (R : τ → St → Hp → Hp → Prop)
    (hgo : ∀ i s σ S H, R s σ S H → i < xs.length → J.go i H) (hst : ∀ s σ S H, R s σ S H → J.stop xs.length H)
    (hyl : ∀ i y s σ S H v H', R s σ S H → xs[i]? = some y → J.yld i H v H' → ∃ S', Gx [] S H S' H' ∧ Py.rep K S' v y)
    (h0 : R s0 σ S H) (h : wpm (forR xs s0 f) P E)
    (hs : ∀ y v s σ S H S' H' (P' : ρ ⊕ τ → Prop), (∀ r, P' (.inl r) → P (.inl r)) → R s σ S H → Gx [] S H S' H' → Py.rep K S' v y → wpm (f y s) P' E →
      g v σ H' fun σ2 H2 => tb { D with nx := fun σ' H' => ∃ s' S', P' (.inr s') ∧ R s' σ' S' H', ct := fun σ' H' => ∃ s' S', P' (.inr s') ∧ R s' σ' S' H', bk := D.nx } σ2 H2)
    (hd : ∀ s σ S H, R s σ S H → P (.inr s) → D.nx σ H) : ForG J g tb D σ H := by
  refine ⟨fun i m σ H => i + m = xs.length ∧ ∃ s S, R s σ S H ∧ wpm (forR (xs.drop i) s f) P E, ⟨xs.length, by omega, s0, S, h0, h⟩, fun i m σ H hW => ?_⟩
  obtain ⟨e, s, S, hR, hw⟩ := hW
  by_cases hi : i < xs.length
  · obtain ⟨y, hy⟩ : ∃ y, xs[i]? = some y := ⟨xs[i], List.getElem?_eq_getElem hi⟩
    rw [drop_cons hy] at hw
    refine .inr ⟨hgo i s σ S H hR hi, fun σ' H' => ∃ s' S', wpm (forR (xs.drop (i + 1)) s' f) P E ∧ R s' σ' S' H', fun σ' H' hN => ?_, fun v H' hy' => ?_⟩
    · obtain ⟨s', S', h1, h2⟩ := hN
      exact ⟨m - 1, by omega, by omega, s', S', h2, h1⟩
    · obtain ⟨S', g', rv⟩ := hyl i y s σ S H v H' hR hy hy'
      have hw' : wpm (f y s) (fun z => match z with
        | .inl r => P (.inl r)
        | .inr s' => wpm (forR (xs.drop (i + 1)) s' f) P E) E := by
        refine wpm_imp (wb hw) fun z hz => ?_
        cases z with
        | inl r => exact hz
        | inr s' => exact hz
      exact hs y v s σ S H S' H' (fun z => match z with
        | .inl r => P (.inl r)
        | .inr s' => wpm (forR (xs.drop (i + 1)) s' f) P E) (fun r h => h) hR g' rv hw'
  · have : xs.drop i = [] := List.drop_eq_nil_of_le (by omega)
    rw [this] at hw
    have hi' : i = xs.length := by omega
    subst hi'
    exact .inl ⟨hst s σ S H hR, hd s σ S H hR hw⟩
theorem forCore {f : α → τ → M τ} {P : τ → Prop} (R : τ → St → Hp → Hp → Prop)
    (hgo : ∀ i s σ S H, R s σ S H → i < xs.length → J.go i H) (hst : ∀ s σ S H, R s σ S H → J.stop xs.length H)
    (hyl : ∀ i y s σ S H v H', R s σ S H → xs[i]? = some y → J.yld i H v H' → ∃ S', Gx [] S H S' H' ∧ Py.rep K S' v y)
    (h0 : R s0 σ S H) (h : wpm (forM' xs s0 f) P E)
    (hs : ∀ y v s σ S H S' H' (P' : τ → Prop), R s σ S H → Gx [] S H S' H' → Py.rep K S' v y → wpm (f y s) P' E →
      g v σ H' fun σ2 H2 => tb { D with nx := fun σ' H' => ∃ s' S', P' s' ∧ R s' σ' S' H', ct := fun σ' H' => ∃ s' S', P' s' ∧ R s' σ' S' H', bk := D.nx } σ2 H2)
    (hd : ∀ s σ S H, R s σ S H → P s → D.nx σ H) : ForG J g tb D σ H := by
  refine ⟨fun i m σ H => i + m = xs.length ∧ ∃ s S, R s σ S H ∧ wpm (forM' (xs.drop i) s f) P E, ⟨xs.length, by omega, s0, S, h0, h⟩, fun i m σ H hW => ?_⟩
  obtain ⟨e, s, S, hR, hw⟩ := hW
  by_cases hi : i < xs.length
  · obtain ⟨y, hy⟩ : ∃ y, xs[i]? = some y := ⟨xs[i], List.getElem?_eq_getElem hi⟩
    rw [drop_cons hy] at hw
    refine .inr ⟨hgo i s σ S H hR hi, fun σ' H' => ∃ s' S', wpm (forM' (xs.drop (i + 1)) s' f) P E ∧ R s' σ' S' H', fun σ' H' hN => ?_, fun v H' hy' => ?_⟩
    · obtain ⟨s', S', h1, h2⟩ := hN
      exact ⟨m - 1, by omega, by omega, s', S', h2, h1⟩
    · obtain ⟨S', g', rv⟩ := hyl i y s σ S H v H' hR hy hy'
      exact hs y v s σ S H S' H' _ hR g' rv (wb hw)
  · have : xs.drop i = [] := List.drop_eq_nil_of_le (by omega)
    rw [this] at hw
    have hi' : i = xs.length := by omega
    subst hi'
    exact .inl ⟨hst s σ S H hR, hd s σ S H hR hw⟩
end

/-! ### over a list, a range, enumerate, zip -/
/-- what is walked, and what it gives -/
structure Wk {α τ : Type} [Py α] (K : Fr) (J : It) (xs : List α) (R : τ → St → Hp → Hp → Prop) : Prop where
  go : ∀ i s σ S H, R s σ S H → i < xs.length → J.go i H
  st : ∀ s σ S H, R s σ S H → J.stop xs.length H
  yl : ∀ i y s σ S H v H', R s σ S H → xs[i]? = some y → J.yld i H v H' → ∃ S', Gx [] S H S' H' ∧ Py.rep K S' v y
def en {α : Type} : Int → List α → List (Int × α × Unit)
  | _, [] => []
  | i, x :: xs => (i, x, ()) :: en (i + 1) xs
theorem en_len {α : Type} : ∀ (i : Int) (xs : List α), (en i xs).length = xs.length
  | _, [] => rfl
  | i, _ :: xs => by simp [en, en_len (i + 1) xs]
theorem en_get {α : Type} : ∀ (j : Int) (xs : List α) (i : Nat) (y : Int × α × Unit), (en j xs)[i]? = some y → ∃ x, xs[i]? = some x ∧ y = (j + (i : Int), x, ())
  | _, [], i, y, h => by simp [en] at h
  | j, x :: xs, 0, y, h => by simp [en] at h; subst h; exact ⟨x, rfl, by simp⟩
  | j, x :: xs, i + 1, y, h => by
    obtain ⟨z, h1, h2⟩ := en_get (j + 1) xs i y (by simpa [en] using h)
    exact ⟨z, by simpa using h1, by rw [h2]; congr 1; omega⟩
def zp {α β : Type} (xs : List α) (ys : List β) : List (α × β × Unit) := List.zipWith (fun x y => (x, y, ())) xs ys
section
variable {α β τ : Type} [Py α] [Py β] {K : Fr} {R : τ → St → Hp → Hp → Prop} {xs : List α} {ys : List β} {a b : Addr}
theorem wk_list (hR : ∀ s σ S H, R s σ S H → Ex S H ∧ RepH K S H a xs) : Wk K (Itl K a) xs R where
  go i s σ S H h hi := by
    obtain ⟨e, vs, h1, h2⟩ := hR s σ S H h
    exact ⟨vs, vs[i]'(by rw [h2.len]; exact hi), h1, List.getElem?_eq_getElem _⟩
  st s σ S H h := by
    obtain ⟨e, vs, h1, h2⟩ := hR s σ S H h
    exact ⟨vs, h1, by rw [h2.len]; exact Nat.le_refl _⟩
  yl i y s σ S H v H' h hy hv := by
    obtain ⟨e, vs, h1, h2⟩ := hR s σ S H h
    obtain ⟨rfl, h3⟩ := hv
    obtain ⟨u, hu, ru⟩ := h2.get hy
    have := h3 vs h1
    rw [hu] at this
    cases this
    exact ⟨S, Gx.refl e, ru⟩
theorem wk_tup {t : List α} (hR : ∀ s σ S H, R s σ S H → Ex S H ∧ ∃ vs, SqT K H a vs ∧ Reps K S vs t) : Wk K (Itt K a) t R where
  go i s σ S H h hi := by
    obtain ⟨e, vs, h1, h2⟩ := hR s σ S H h
    exact ⟨vs, vs[i]'(by rw [h2.len]; exact hi), h1, List.getElem?_eq_getElem _⟩
  st s σ S H h := by
    obtain ⟨e, vs, h1, h2⟩ := hR s σ S H h
    exact ⟨vs, h1, by rw [h2.len]; exact Nat.le_refl _⟩
  yl i y s σ S H v H' h hy hv := by
    obtain ⟨e, vs, h1, h2⟩ := hR s σ S H h
    obtain ⟨rfl, h3⟩ := hv
    obtain ⟨u, hu, ru⟩ := h2.get hy
    have := h3 vs h1
    rw [hu] at this
    cases this
    exact ⟨S, Gx.refl e, ru⟩
theorem rng_len (lo hi : Int) : (rng lo hi).length = (hi - lo).toNat := by simp [rng]
theorem rng_get {lo hi : Int} {i : Nat} {y : Int} (h : (rng lo hi)[i]? = some y) : y = lo + (i : Int) := by
  unfold rng at h
  rw [List.getElem?_map] at h
  cases e : (List.range (hi - lo).toNat)[i]? with
  | none => rw [e] at h; cases h
  | some k =>
    rw [e] at h
    obtain ⟨h1, h2⟩ := List.getElem?_eq_some_iff.mp e
    rw [List.getElem_range] at h2
    subst h2
    exact (Option.some.inj h).symm
theorem wk_rng {lo hi : Int} (hR : ∀ s σ S H, R s σ S H → Ex S H) : Wk K (Itr lo (hi - lo).toNat) (rng lo hi) R where
  go i s σ S H h hi := by rw [rng_len] at hi; exact hi
  st s σ S H h := by rw [rng_len]; exact Nat.le_refl _
  yl i y s σ S H v H' h hy hv := by
    obtain ⟨rfl, rfl⟩ := hv
    exact ⟨S, Gx.refl (hR s σ S _ h), by rw [rng_get hy]; rfl⟩
theorem wk_enum (hR : ∀ s σ S H, R s σ S H → Ex S H ∧ RepH K S H a xs) : Wk K (Ite K a) (en 0 xs) R where
  go i s σ S H h hi := by
    rw [en_len] at hi
    obtain ⟨e, vs, h1, h2⟩ := hR s σ S H h
    exact ⟨vs, vs[i]'(by rw [h2.len]; exact hi), h1, List.getElem?_eq_getElem _⟩
  st s σ S H h := by
    obtain ⟨e, vs, h1, h2⟩ := hR s σ S H h
    exact ⟨vs, h1, by rw [h2.len, en_len]; exact Nat.le_refl _⟩
  yl i y s σ S H v H' h hy hv := by
    obtain ⟨e, vs, h1, h2⟩ := hR s σ S H h
    obtain ⟨T, x, rfl, hT, rfl, h3⟩ := hv
    obtain ⟨z, hz, rfl⟩ := en_get _ _ _ _ hy
    obtain ⟨u, hu, ru⟩ := h2.get hz
    have := h3 vs h1
    rw [hu] at this
    obtain rfl := Option.some.inj this
    refine ⟨_, (Gx.refl e).newS hT, T, _, rfl, st_of upd_same, .int i, [_], rfl, ?_, _, [], rfl, Py.mono (Ex.new (fresh_back e hT)) ru, rfl⟩
    show V.int i = V.int (0 + (i : Int))
    rw [Int.zero_add]
theorem zp_get : ∀ (xs : List α) (ys : List β) (i : Nat) (z : α × β × Unit), (zp xs ys)[i]? = some z → ∃ x y, xs[i]? = some x ∧ ys[i]? = some y ∧ z = (x, y, ())
  | [], ys, i, z, h => by simp [zp] at h
  | x :: xs, [], i, z, h => by simp [zp] at h
  | x :: xs, y :: ys, 0, z, h => by simp [zp] at h; exact ⟨x, y, rfl, rfl, h.symm⟩
  | x :: xs, y :: ys, i + 1, z, h => by
    obtain ⟨u, v, h1, h2, h3⟩ := zp_get xs ys i z (by simpa [zp] using h)
    exact ⟨u, v, by simpa using h1, by simpa using h2, h3⟩
theorem zp_len (xs : List α) (ys : List β) : (zp xs ys).length = min xs.length ys.length := by simp [zp]
theorem wk_zip (hR : ∀ s σ S H, R s σ S H → Ex S H ∧ RepH K S H a xs ∧ RepH K S H b ys) : Wk K (Itz K a b) (zp xs ys) R where
  go i s σ S H h hi := by
    rw [zp_len] at hi
    obtain ⟨e, ⟨vs, h1, h2⟩, ws, h3, h4⟩ := hR s σ S H h
    refine ⟨vs, ws, vs[i]'(by rw [h2.len]; omega), ws[i]'(by rw [h4.len]; omega), h1, h3, List.getElem?_eq_getElem _, List.getElem?_eq_getElem _⟩
  st s σ S H h := by
    obtain ⟨e, ⟨vs, h1, h2⟩, ws, h3, h4⟩ := hR s σ S H h
    rw [zp_len]
    refine ⟨vs, ws, h1, h3, ?_⟩
    rw [h2.len, h4.len]; omega
  yl i y s σ S H v H' h hy hv := by
    obtain ⟨e, ⟨vs, h1, h2⟩, ws, h3, h4⟩ := hR s σ S H h
    obtain ⟨T, x1, x2, rfl, hT, rfl, h5, h6⟩ := hv
    obtain ⟨z1, z2, hz1, hz2, rfl⟩ := zp_get _ _ _ _ hy
    obtain ⟨u, hu, ru⟩ := h2.get hz1
    obtain ⟨u', hu', ru'⟩ := h4.get hz2
    have e1 := h5 vs h1
    have e2 := h6 ws h3
    rw [hu] at e1
    rw [hu'] at e2
    obtain rfl := Option.some.inj e1
    obtain rfl := Option.some.inj e2
    exact ⟨_, (Gx.refl e).newS hT, T, _, rfl, st_of upd_same, _, [_], rfl, Py.mono (Ex.new (fresh_back e hT)) ru, _, [], rfl, Py.mono (Ex.new (fresh_back e hT)) ru', rfl⟩
end
/-! ### the forms -/
section
variable {α τ ρ γ : Type} [Py α] {K : Fr} {J : It} {g : TG} {tb : TS} {D : Ends} {σ : St} {S H : Hp} {xs : List α} {s0 : τ} {E : XC → Prop} {P : γ → Prop}
theorem s_forM {f : α → τ → M τ} {k : τ → M γ} (R : τ → St → Hp → Hp → Prop) (w : Wk K J xs R) (h0 : R s0 σ S H) (h : wpm (forM' xs s0 f >>= k) P E)
    (hs : ∀ y v s σ S H S' H' (P' : τ → Prop), R s σ S H → Gx [] S H S' H' → Py.rep K S' v y → wpm (f y s) P' E →
      g v σ H' fun σ2 H2 => tb { D with nx := fun σ' H' => ∃ s' S', P' s' ∧ R s' σ' S' H', ct := fun σ' H' => ∃ s' S', P' s' ∧ R s' σ' S' H', bk := D.nx } σ2 H2)
    (hd : ∀ s σ S H, R s σ S H → wpm (k s) P E → D.nx σ H) : ForG J g tb D σ H := forCore R w.go w.st w.yl h0 (wb h) hs hd
theorem s_forR {f : α → τ → M (ρ ⊕ τ)} {k : ρ ⊕ τ → M γ} (R : τ → St → Hp → Hp → Prop) (w : Wk K J xs R) (h0 : R s0 σ S H) (h : wpm (forR xs s0 f >>= k) P E)
    (hs : ∀ y v s σ S H S' H' (P' : ρ ⊕ τ → Prop), (∀ r, P' (.inl r) → wpm (k (.inl r)) P E) → R s σ S H → Gx [] S H S' H' → Py.rep K S' v y → wpm (f y s) P' E →
      g v σ H' fun σ2 H2 => tb { D with nx := fun σ' H' => ∃ s' S', P' (.inr s') ∧ R s' σ' S' H', ct := fun σ' H' => ∃ s' S', P' (.inr s') ∧ R s' σ' S' H', bk := D.nx } σ2 H2)
    (hd : ∀ s σ S H, R s σ S H → wpm (k (.inr s)) P E → D.nx σ H) : ForG J g tb D σ H := forCoreR R w.go w.st w.yl h0 (wb h) hs hd
/-- the way to a loop over a list -/
theorem i_for {wi : TI} (q : wi σ H fun J H1 => ForG J g tb D σ H1) : tFor wi g tb D σ H := q
def listK (K : Fr) (R : It → Hp → Prop) (x : V) (H1 : Hp) : Prop := ∃ a, x = .ref a ∧ (∃ xs, SqL K H1 a xs) ∧ R (Itl K a) H1
def enumK (K : Fr) (R : It → Hp → Prop) (vs : List V) (H1 : Hp) : Prop := ∃ a xs, vs = [.ref a] ∧ SqL K H1 a xs ∧ R (Ite K a) H1
def zipK (K : Fr) (R : It → Hp → Prop) (vs : List V) (H1 : Hp) : Prop := ∃ a b xs ys, vs = [.ref a, .ref b] ∧ SqL K H1 a xs ∧ SqL K H1 b ys ∧ R (Itz K a b) H1
def rng1K (R : It → Hp → Prop) (vs : List V) (H1 : Hp) : Prop := ∃ j : Int, vs = [.int j] ∧ -(2 ^ 62) ≤ j ∧ j < 2 ^ 62 ∧ R (Itr 0 j.toNat) H1
def rng2K (R : It → Hp → Prop) (vs : List V) (H1 : Hp) : Prop := ∃ i j : Int, vs = [.int i, .int j] ∧ (-(2 ^ 62) ≤ i ∧ i < 2 ^ 62 ∧ -(2 ^ 62) ≤ j ∧ j < 2 ^ 62) ∧ R (Itr i (j - i).toNat) H1
theorem i_list {tl : TE} {R : It → Hp → Prop} (q : tl σ H fun x H1 => listK K R x H1) : iList K tl σ H R := q
theorem i_listA {a : Addr} {R : It → Hp → Prop} (r : RepH K S H a xs) (q : R (Itl K a) H) : listK K R (.ref a) H := by
  obtain ⟨vs, h1, _⟩ := r
  exact ⟨a, rfl, ⟨vs, h1⟩, q⟩
theorem i_enum {ta : TA} {R : It → Hp → Prop} (q : ta σ H fun vs H1 => enumK K R vs H1) : iEnum K ta σ H R := q
theorem i_enumA {a : Addr} {R : It → Hp → Prop} (r : RepH K S H a xs) (q : R (Ite K a) H) : enumK K R [.ref a] H := by
  obtain ⟨vs, h1, _⟩ := r
  exact ⟨a, vs, rfl, h1, q⟩
theorem i_zip {ta : TA} {R : It → Hp → Prop} (q : ta σ H fun vs H1 => zipK K R vs H1) : iZip K ta σ H R := q
theorem i_zipA {β : Type} [Py β] {ys : List β} {a b : Addr} {R : It → Hp → Prop} (r : RepH K S H a xs) (r2 : RepH K S H b ys) (q : R (Itz K a b) H) : zipK K R [.ref a, .ref b] H := by
  obtain ⟨vs, h1, _⟩ := r
  obtain ⟨ws, h2, _⟩ := r2
  exact ⟨a, b, vs, ws, rfl, h1, h2, q⟩
theorem i_rng1 {ta : TA} {R : It → Hp → Prop} (q : ta σ H fun vs H1 => rng1K R vs H1) : iRng1 ta σ H R := q
theorem i_rng2 {ta : TA} {R : It → Hp → Prop} (q : ta σ H fun vs H1 => rng2K R vs H1) : iRng2 ta σ H R := q
theorem i_rng1A {hi : Int} {k : List Int → M γ} {R : It → Hp → Prop} (h : wpm (prng 0 hi >>= k) P E) (q : wpm (k (rng 0 hi)) P E → R (Itr 0 (hi - 0).toNat) H) : rng1K R [.int hi] H := by
  unfold prng at h
  obtain ⟨hc, h⟩ := wpm_ite h
  refine ⟨hi, rfl, hc.2.2.1, hc.2.2.2, ?_⟩
  have := q h
  rw [Int.sub_zero] at this
  exact this
theorem i_rng2A {lo hi : Int} {k : List Int → M γ} {R : It → Hp → Prop} (h : wpm (prng lo hi >>= k) P E) (q : wpm (k (rng lo hi)) P E → R (Itr lo (hi - lo).toNat) H) : rng2K R [.int lo, .int hi] H := by
  unfold prng at h
  obtain ⟨hc, h⟩ := wpm_ite h
  exact ⟨lo, hi, rfl, hc, q h⟩
/-- while -/
theorem s_while {tc : TT} {n : Nat} {c : τ → M Bool} {f : τ → M τ} {k : τ → M γ} (R : τ → St → Hp → Hp → Prop) (h0 : R s0 σ S H) (h : wpm (whileM n s0 c f >>= k) P E)
    (hs : ∀ s σ S H (G : Bool → Hp → Prop) (PT : τ → Prop) (PF : Prop), (∀ H1, tb { D with nx := fun σ' H' => ∃ s' S', PT s' ∧ R s' σ' S' H', ct := fun σ' H' => ∃ s' S', PT s' ∧ R s' σ' S' H', bk := D.nx } σ H1 → G true H1) →
      (∀ S1 H1, PF → R s σ S1 H1 → G false H1) → R s σ S H → wpm (c s) (fun b => if b = true then wpm (f s) PT E else PF) E → tc σ H G)
    (hd : ∀ s σ S H, R s σ S H → wpm (k s) P E → D.nx σ H) : tWhile tc tb D σ H := by
  refine ⟨fun m σ H => ∃ s S, R s σ S H ∧ wpm (whileM m s c f) (fun s => wpm (k s) P E) E, ⟨n, s0, S, h0, wb h⟩, fun m σ H hW => ?_⟩
  obtain ⟨s, S, hR, hw⟩ := hW
  cases m with
  | zero => exact hw.elim
  | succ m =>
    have hw' : wpm (c s) (fun b => if b = true then wpm (f s) (fun s' => wpm (whileM m s' c f) (fun s => wpm (k s) P E) E) E else wpm (k s) P E) E := by
      refine wpm_imp (wb hw) fun b hb => ?_
      cases b with
      | true => exact wb hb
      | false => exact hb
    refine hs s σ S H _ _ _ (fun H1 hT => ?_) (fun S1 H1 hF hR => ?_) hR hw'
    · rw [if_pos rfl]
      refine ⟨_, fun σ' H' hN => ?_, hT⟩
      obtain ⟨s', S', h1, h2⟩ := hN
      exact ⟨m, Nat.lt_succ_self m, s', S', h2, h1⟩
    · rw [if_neg Bool.false_ne_true]
      exact hd s σ S1 H1 hR hF
theorem wh_split {G : Bool → Hp → Prop} {A B : Prop} {b : Bool} (hT : A → G true H) (hF : B → G false H) (h1 : b = true → A) (h2 : b = false → B) : G b H := by
  cases b with
  | true => exact hT (h1 rfl)
  | false => exact hF (h2 rfl)
end
end G
/-! GComp: comprehensions. -/
namespace G
open PySem L2 Evl

/-- no list is too long -/
def LenOk (K : Fr) (H : Hp) : Prop := ∀ a vs, SqL K H a vs → vs.length ≤ sizeLine
def iLen (K : Fr) (wi : TI) : TI := fun σ H R => wi σ H fun J H1 => LenOk K H1 → R J H1
theorem pi_len {X : Cx} {tg iter : PySem.Expr} {wi : TI} (h : PI X tg iter wi) : PI X tg iter (iLen X.K wi) :=
  ⟨fun pins s σ H R I hq => thn (h.run pins s σ H _ I hq) fun v s1 hv => thn hv fun it s2 hit => by
    obtain ⟨it, fp, tn, J, H', e, I', t, tn0, fpo, hr⟩ := hit
    exact ⟨it, fp, tn, J, H', e, I', t, tn0, fpo, hr fun a vs hs => by
      obtain ⟨_, _, _, hl⟩ := I'.list hs
      exact hl⟩⟩
theorem i_len {K : Fr} {wi : TI} {σ : St} {H : Hp} {R : It → Hp → Prop} (q : wi σ H fun J H1 => LenOk K H1 → R J H1) : iLen K wi σ H R := q

theorem RepH.up {α : Type} [Py α] {K : Fr} {S H S' H' : Hp} {a : Addr} {xs : List α} (r : RepH K S H a xs) (g : Gx [] S H S' H') : RepH K S' H' a xs := by
  obtain ⟨vs, h1, h2⟩ := r
  exact ⟨vs, ex_l g.ex h1, h2.mono g.s⟩
theorem RepH.len {α : Type} [Py α] {K : Fr} {S H : Hp} {a : Addr} {xs : List α} (r : RepH K S H a xs) (l : LenOk K H) : xs.length ≤ sizeLine := by
  obtain ⟨vs, h1, h2⟩ := r
  rw [← h2.len]; exact l a vs h1

section
variable {α β γ : Type} [Py α] [Py β] {K : Fr} {J : It} {g : TG} {tt : TT} {te : TE} {σ : St} {S H S0 H0 : Hp} {L : List Addr} {xs : List α} {E : XC → Prop} {P : γ → Prop} {vs : List Nat} {Q : VK}
abbrev LcG (J : It) (g : TG) (tt : TT) (te : TE) (vs : List Nat) (σ : St) (H1 : Hp) (Q : VK) : Prop :=
  ∀ D, H1 D = none → ∃ W : Nat → Nat → Hp → Prop, (∃ m, W 0 m (upd H1 D (.lst []))) ∧ ∀ i m H, W i m H →
  (J.stop i H ∧ Q (.ref D) H) ∨ (J.go i H ∧ ∃ Nx : Hp → Prop, (∀ H', Nx H' → ∃ m', m' < m ∧ W (i + 1) m' H') ∧ ∀ x H', J.yld i H x H' → g x (wipe σ vs) H' fun σ2 H2 => wipe σ2 vs = wipe σ vs ∧ tt σ2 H2 fun b H3 =>
    if b = true then te σ2 H3 fun y H4 => ∃ acc, H4 D = some (.lst acc) ∧ acc.length < sizeLine ∧ Nx (upd H4 D (.lst (acc ++ [y]))) else Nx H3)
theorem s_comp {f : α → M (Option β)} {k : List β → M γ} (w : Wk K J xs fun (_ : Unit) (_ : St) S' H' => Gx [] S H S' H') (hl : xs.length ≤ sizeLine) (g0 : Gx L S0 H0 S H) (h : wpm (compM xs f >>= k) P E)
    (hs : ∀ y v S1 H1 (P' : Option β → Prop) (T : V → Hp → Prop) (F : Hp → Prop), Gx [] S H S1 H1 → Py.rep K S1 v y → wpm (f y) P' E →
      (∀ z w S2 H2, P' (some z) → Gx [] S1 H1 S2 H2 → Py.rep K S2 w z → T w H2) → (∀ S2 H2, P' none → Gx [] S1 H1 S2 H2 → F H2) →
      g v (wipe σ vs) H1 fun σ2 H2 => wipe σ2 vs = wipe σ vs ∧ tt σ2 H2 fun b H3 => if b = true then te σ2 H3 T else F H3)
    (q : ∀ p S1 H1 ys, Gx L S0 H0 S1 H1 → Gx [] S H S1 H1 → H p = none → OwnL K S1 H1 p ys → wpm (k ys) P E → Q (.ref p) H1) : LcG J g tt te vs σ H Q := by
  intro D hD
  refine ⟨fun i m H' => i + m = xs.length ∧ ∃ S' acc ys, Gx [] S H S' H' ∧ Own S' H' D (.lst acc) ∧ Reps K S' acc ys ∧ acc.length ≤ i ∧ wpm (compM (xs.drop i) f) (fun zs => wpm (k (ys ++ zs)) P E) E,
    ⟨xs.length, by omega, S, [], [], (Gx.refl g0.sh).newO hD, ⟨upd_same, fresh_back g0.sh hD⟩, .nil, Nat.zero_le _, (by have hw0 := wb h; exact hw0)⟩, fun i m H' hW => ?_⟩
  obtain ⟨e, S', acc, ys, gg, o, rs, hal, hw⟩ := hW
  by_cases hi : i < xs.length
  · obtain ⟨y, hy⟩ : ∃ y, xs[i]? = some y := ⟨xs[i], List.getElem?_eq_getElem hi⟩
    rw [drop_cons hy] at hw
    refine .inr ⟨w.go i () σ S' H' gg hi, fun H' => i + 1 + (m - 1) = xs.length ∧ ∃ S' acc ys, Gx [] S H S' H' ∧ Own S' H' D (.lst acc) ∧ Reps K S' acc ys ∧ acc.length ≤ i + 1 ∧ wpm (compM (xs.drop (i + 1)) f) (fun zs => wpm (k (ys ++ zs)) P E) E,
      fun H' hN => ⟨m - 1, by omega, hN⟩, fun v H1 hy' => ?_⟩
    obtain ⟨S1, g1, rv⟩ := w.yl i y () σ S' H' v H1 gg hy hy'
    refine hs y v S1 H1 (fun o => match o with
      | none => wpm (compM (xs.drop (i + 1)) f) (fun zs => wpm (k (ys ++ zs)) P E) E
      | some z => wpm (compM (xs.drop (i + 1)) f) (fun zs => wpm (k (ys ++ z :: zs)) P E) E) _ _ (gg.trans0 g1) rv ?_ (fun z w S2 H2 hz g2 rw_ => ?_) (fun S2 H2 hz g2 => ?_)
    · refine wpm_imp (wb hw) fun o ho => ?_
      cases o with
      | none => exact ho
      | some z => exact wpm_imp (wb ho) fun zs hz => hz
    · have o2 := (o.keep0 g1).keep0 g2
      refine ⟨acc, o2.at_, by omega, by omega, S2, acc ++ [w], ys ++ [z], ((gg.trans0 g1).trans0 g2).put o2 (.inl hD), o2.set, ((rs.mono g1.s).mono g2.s).snoc rw_, by simp; omega, ?_⟩
      simp only [List.append_assoc, List.singleton_append]
      exact hz
    · have o2 := (o.keep0 g1).keep0 g2
      exact ⟨by omega, S2, acc, ys, (gg.trans0 g1).trans0 g2, o2, (rs.mono g1.s).mono g2.s, by omega, hz⟩
  · have : xs.drop i = [] := List.drop_eq_nil_of_le (by omega)
    rw [this] at hw
    have hi' : i = xs.length := by omega
    subst hi'
    refine .inl ⟨w.st () σ S' H' gg, q D S' H' ys (g0.trans0 gg) gg hD ⟨acc, o, rs⟩ ?_⟩
    have hw' : wpm (k (ys ++ [])) P E := hw
    rw [List.append_nil] at hw'
    exact hw'
/-- the same; the new list stays as it is -/
theorem s_compS {f : α → M (Option β)} {k : List β → M γ} (w : Wk K J xs fun (_ : Unit) (_ : St) S' H' => Gx [] S H S' H') (hl : xs.length ≤ sizeLine) (g0 : Gx L S0 H0 S H) (h : wpm (compM xs f >>= k) P E)
    (hs : ∀ y v S1 H1 (P' : Option β → Prop) (T : V → Hp → Prop) (F : Hp → Prop), Gx [] S H S1 H1 → Py.rep K S1 v y → wpm (f y) P' E →
      (∀ z w S2 H2, P' (some z) → Gx [] S1 H1 S2 H2 → Py.rep K S2 w z → T w H2) → (∀ S2 H2, P' none → Gx [] S1 H1 S2 H2 → F H2) →
      g v (wipe σ vs) H1 fun σ2 H2 => wipe σ2 vs = wipe σ vs ∧ tt σ2 H2 fun b H3 => if b = true then te σ2 H3 T else F H3)
    (q : ∀ p S1 H1 ys, Gx L S0 H0 S1 H1 → Gx [] S H S1 H1 → RepL K S1 p ys → wpm (k ys) P E → Q (.ref p) H1) : LcG J g tt te vs σ H Q :=
  s_comp w hl g0 h hs fun p S1 H1 ys g1 g2 hp o hk => o.frz g2 hp fun S2 g3 e hb r => q p S2 H1 ys (g0.trans0 g3) g3 r hk
end
/-- .. its mirror -/
def compZ {α β τ : Type} : List α → τ → (α → τ → M (Option β × τ)) → M (List β × τ)
  | [], s, _ => .ok ([], s)
  | x :: xs, s, f => f x s >>= fun o => compZ xs o.2 f >>= fun r => .ok (match o.1 with
    | none => r.1
    | some y => y :: r.1, r.2)
section
variable {α β γ τ : Type} [Py α] [Py β] {K : Fr} {J : It} {g : TG} {tt : TT} {te : TE} {σ : St} {S H S0 H0 : Hp} {L Lb : List Addr} {xs : List α} {s0 : τ} {E : XC → Prop} {P : γ → Prop} {vs : List Nat} {Q : VK}
theorem s_compZ {f : α → τ → M (Option β × τ)} {k : List β × τ → M γ} (R : τ → Hp → Hp → Prop) (hRL : ∀ s S' H' p u, R s S' H' → p ∉ Lb → R s S' (upd H' p u)) (hLb : ∀ b ∈ Lb, H b ≠ none) (hLL : ∀ b ∈ Lb, b ∈ L ∨ H0 b = none)
    (w : Wk K J xs fun (s : τ) (_ : St) S' H' => Gx Lb S H S' H' ∧ R s S' H') (hl : xs.length ≤ sizeLine) (g0 : Gx L S0 H0 S H) (h0 : R s0 S H) (h : wpm (compZ xs s0 f >>= k) P E)
    (hs : ∀ y v s S1 H1 S2 H2 (P' : Option β × τ → Prop) (T : V → Hp → Prop) (F : Hp → Prop), Gx Lb S H S1 H1 → R s S1 H1 → Gx [] S1 H1 S2 H2 → Py.rep K S2 v y → wpm (f y s) P' E →
      (∀ z w s' S3 H3, P' (some z, s') → R s' S3 H3 → Gx Lb S2 H2 S3 H3 → Py.rep K S3 w z → T w H3) → (∀ s' S3 H3, P' (none, s') → R s' S3 H3 → Gx Lb S2 H2 S3 H3 → F H3) →
      g v (wipe σ vs) H2 fun σ2 H2 => wipe σ2 vs = wipe σ vs ∧ tt σ2 H2 fun b H3 => if b = true then te σ2 H3 T else F H3)
    (q : ∀ p S1 H1 ys s, Gx L S0 H0 S1 H1 → Gx Lb S H S1 H1 → R s S1 H1 → H p = none → OwnL K S1 H1 p ys → wpm (k (ys, s)) P E → Q (.ref p) H1) : LcG J g tt te vs σ H Q := by
  intro D hD
  have hDb : D ∉ Lb := fun hb => hLb D hb hD
  refine ⟨fun i m H' => i + m = xs.length ∧ ∃ s S' acc ys, Gx Lb S H S' H' ∧ R s S' H' ∧ Own S' H' D (.lst acc) ∧ Reps K S' acc ys ∧ acc.length ≤ i ∧ wpm (compZ (xs.drop i) s f) (fun zs => wpm (k (ys ++ zs.1, zs.2)) P E) E,
    ⟨xs.length, by omega, s0, S, [], [], ((Gx.refl g0.sh).newO hD), hRL _ _ _ _ _ h0 hDb, ⟨upd_same, fresh_back g0.sh hD⟩, .nil, Nat.zero_le _, (by have hw0 := wb h; exact hw0)⟩, fun i m H' hW => ?_⟩
  obtain ⟨e, s, S', acc, ys, gg, hR, o, rs, hal, hw⟩ := hW
  by_cases hi : i < xs.length
  · obtain ⟨y, hy⟩ : ∃ y, xs[i]? = some y := ⟨xs[i], List.getElem?_eq_getElem hi⟩
    rw [drop_cons hy] at hw
    refine .inr ⟨w.go i s σ S' H' ⟨gg, hR⟩ hi, fun H' => i + 1 + (m - 1) = xs.length ∧ ∃ s S' acc ys, Gx Lb S H S' H' ∧ R s S' H' ∧ Own S' H' D (.lst acc) ∧ Reps K S' acc ys ∧ acc.length ≤ i + 1 ∧ wpm (compZ (xs.drop (i + 1)) s f) (fun zs => wpm (k (ys ++ zs.1, zs.2)) P E) E,
      fun H' hN => ⟨m - 1, by omega, hN⟩, fun v H1 hy' => ?_⟩
    obtain ⟨S1, g1, rv⟩ := w.yl i y s σ S' H' v H1 ⟨gg, hR⟩ hy hy'
    refine hs y v s S' H' S1 H1 (fun o => wpm (compZ (xs.drop (i + 1)) o.2 f) (fun zs => wpm (k (ys ++ (match o.1 with
      | none => zs.1
      | some z => z :: zs.1), zs.2)) P E) E) _ _ gg hR g1 rv ?_ (fun z w s' S2 H2 hz hR2 g2 rw_ => ?_) (fun s' S2 H2 hz hR2 g2 => ?_)
    · refine wpm_imp (wb hw) fun o ho => ?_
      exact wpm_imp (wb ho) fun zs hz => hz
    · have o2 := (o.keep0 g1).keep g2 hDb
      refine ⟨acc, o2.at_, by omega, by omega, s', S2, acc ++ [w], ys ++ [z], ((gg.trans0 g1).trans g2 fun x hx => .inl hx).put o2 (.inl hD), hRL _ _ _ _ _ hR2 hDb, o2.set, ((rs.mono g1.s).mono g2.s).snoc rw_, by simp; omega, ?_⟩
      simp only [List.append_assoc, List.singleton_append]
      exact hz
    · have o2 := (o.keep0 g1).keep g2 hDb
      exact ⟨by omega, s', S2, acc, ys, (gg.trans0 g1).trans g2 fun x hx => .inl hx, hR2, o2, (rs.mono g1.s).mono g2.s, by omega, hz⟩
  · have : xs.drop i = [] := List.drop_eq_nil_of_le (by omega)
    rw [this] at hw
    have hi' : i = xs.length := by omega
    subst hi'
    refine .inl ⟨w.st s σ S' H' ⟨gg, hR⟩, q D S' H' ys s (g0.trans gg hLL) gg hR hD ⟨acc, o, rs⟩ ?_⟩
    have hw' : wpm (k (ys ++ [], s)) P E := hw
    rw [List.append_nil] at hw'
    exact hw'
theorem i_lc {wi : TI} (q : wi σ H fun J H1 => LcG J g tt te vs σ H1 Q) : tLc wi g tt te vs σ H Q := q
end
theorem i_yes {σ : St} {H : Hp} {Q : Bool → Hp → Prop} (q : Q true H) : tYes σ H Q := q
/-! no error leaves -/
theorem wb_ne {α γ : Type} {m : M α} {k : α → M γ} {P : γ → Prop} {E : XC → Prop} (h : wpm (noerr m >>= k) P E) : wpm m (fun a => wpm (k a) P E) (fun _ => False) := by
  cases m with
  | stuck => exact h
  | err c => exact h
  | ok a => exact h
/-! ### == and != of data -/
class PyD (α : Type) extends Py α where
  toD : α → PyData
  dp : ∀ {K : Fr} {S : Hp} {v : V} {x : α}, Py.rep K S v x → Dp K S v (toD x)
  lay : ∀ x, (toD x).canLay0 = true
  dep : Nat
  dle : ∀ x, (toD x).depth ≤ dep
instance : PyD Int where
  toD := .int
  dp := fun h => by cases h; exact .int _
  lay := fun _ => rfl
  dep := 0
  dle := fun _ => Nat.le_refl _
instance : PyD Bool where
  toD := .bool
  dp := fun h => by cases h; exact .bl _
  lay := fun _ => rfl
  dep := 0
  dle := fun _ => Nat.le_refl _
instance instOptD {α : Type} [PyD α] : PyD (Option α) where
  toD := fun o => match o with
    | none => .none
    | some x => PyD.toD x
  dp := fun {_ _ _ o} h => by
    cases o with
    | none =>
      have h' : _ = V.non := h
      subst h'; exact .non
    | some x => exact PyD.dp (x := x) h
  lay := fun o => by
    cases o with
    | none => rfl
    | some x => exact PyD.lay x
  dep := PyD.dep α
  dle := fun o => by
    cases o with
    | none => exact Nat.zero_le _
    | some x => exact PyD.dle x
theorem canAll {α : Type} [PyD α] : ∀ xs : List α, PyData.canLayAll0 (xs.map PyD.toD) = true
  | [] => rfl
  | x :: xs => by
    show (PyData.canLay0 (PyD.toD x) && PyData.canLayAll0 (xs.map PyD.toD)) = true
    rw [PyD.lay x, canAll xs]; rfl
theorem depAll {α : Type} [PyD α] : ∀ xs : List α, PyData.depthAll (xs.map PyD.toD) ≤ PyD.dep α
  | [] => Nat.zero_le _
  | x :: xs => by
    show max (PyData.depth (PyD.toD x)) (PyData.depthAll (xs.map PyD.toD)) ≤ _
    exact Nat.max_le.2 ⟨PyD.dle x, depAll xs⟩
theorem dpAll {α : Type} [PyD α] {K : Fr} {S : Hp} : ∀ {vs : List V} {xs : List α}, All2 (Py.rep K S) vs xs → DpAll K S vs (xs.map PyD.toD)
  | _, _, .nil => .nil
  | _, _, .cons h t => .cons (PyD.dp h) (dpAll t)
instance {α : Type} [PyD α] : PyD (List α) where
  toD := fun xs => .list (xs.map PyD.toD)
  dp := fun {_ _ _ _} h => by
    obtain ⟨a, rfl, vs, h1, h2⟩ := h
    exact .lst (sq_of h1) (dpAll h2)
  lay := fun xs => by
    show PyData.canLayAll0 _ = true
    exact canAll xs
  dep := PyD.dep α + 1
  dle := fun xs => Nat.succ_le_succ (depAll xs)
class PyTD (α : Type) extends PyT α where
  toDs : α → List PyData
  dps : ∀ {K : Fr} {S : Hp} {vs : List V} {x : α}, PyT.rept K S vs x → DpAll K S vs (toDs x)
  lays : ∀ x, PyData.canLayAll0 (toDs x) = true
  deps : Nat
  dles : ∀ x, PyData.depthAll (toDs x) ≤ deps
instance : PyTD Unit where
  toDs := fun _ => []
  dps := fun h => by cases h; exact .nil
  lays := fun _ => rfl
  deps := 0
  dles := fun _ => Nat.le_refl _
instance {α β : Type} [PyD α] [PyTD β] : PyTD (α × β) where
  toDs := fun x => PyD.toD x.1 :: PyTD.toDs x.2
  dps := fun {_ _ _ _} h => by
    obtain ⟨v, r, rfl, h1, h2⟩ := h
    exact .cons (PyD.dp h1) (PyTD.dps h2)
  lays := fun x => by
    show (PyData.canLay0 (PyD.toD x.1) && PyData.canLayAll0 (PyTD.toDs x.2)) = true
    rw [PyD.lay, PyTD.lays]; rfl
  deps := max (PyD.dep α) (PyTD.deps β)
  dles := fun x => by
    show max _ _ ≤ _
    exact Nat.max_le.2 ⟨Nat.le_trans (PyD.dle x.1) (Nat.le_max_left _ _), Nat.le_trans (PyTD.dles x.2) (Nat.le_max_right _ _)⟩
instance {α β : Type} [PyD α] [PyTD β] : PyD (α × β) where
  toD := fun x => .tuple (PyTD.toDs x)
  dp := fun {_ _ _ _} h => by
    obtain ⟨a, vs, rfl, h1, h2⟩ := h
    exact .tup h1 (PyTD.dps h2)
  lay := fun x => PyTD.lays x
  dep := PyTD.deps (α × β) + 1
  dle := fun x => Nat.succ_le_succ (PyTD.dles x)
theorem shaped_of {α : Type} [PyD α] (x : α) (h : PyD.dep α ≤ 64) : SeqAt.shaped (PyD.toD x) = true := by
  show ((PyD.toD x).canLay0 && decide ((PyD.toD x).depth ≤ 64)) = true
  rw [PyD.lay, decide_eq_true (Nat.le_trans (PyD.dle x) h)]; rfl
/-- == by values -/
class PyEq (α : Type) extends PyD α where
  eqv_iff : ∀ x y : α, (PyData.eqv (toD x) (toD y) = true) ↔ x = y
instance : PyEq Int where
  eqv_iff := fun x y => by show (x == y) = true ↔ x = y; exact beq_iff_eq
instance : PyEq Bool where
  eqv_iff := fun x y => by show (x == y) = true ↔ x = y; exact beq_iff_eq
/-- what is no None -/
class ND (α : Type) [PyD α] : Prop where
  nd : ∀ x : α, PyData.eqv .none (PyD.toD x) = false ∧ PyData.eqv (PyD.toD x) .none = false
instance : ND Int := ⟨fun x => ⟨rfl, rfl⟩⟩
instance : ND Bool := ⟨fun x => ⟨rfl, rfl⟩⟩
instance {α : Type} [PyD α] : ND (List α) := ⟨fun x => ⟨rfl, rfl⟩⟩
instance {α β : Type} [PyD α] [PyTD β] : ND (α × β) := ⟨fun x => ⟨rfl, rfl⟩⟩
instance {α : Type} [PyEq α] [ND α] : PyEq (Option α) where
  eqv_iff := fun x y => by
    cases x with
    | none => cases y with
      | none => exact ⟨fun _ => rfl, fun _ => rfl⟩
      | some y =>
        refine ⟨fun h => ?_, fun h => nomatch h⟩
        have := (ND.nd y).1
        have h' : PyData.eqv .none (PyD.toD y) = true := h
        rw [this] at h'; cases h'
    | some x => cases y with
      | none =>
        refine ⟨fun h => ?_, fun h => nomatch h⟩
        have := (ND.nd x).2
        have h' : PyData.eqv (PyD.toD x) .none = true := h
        rw [this] at h'; cases h'
      | some y => exact (PyEq.eqv_iff x y).trans ⟨fun h => congrArg some h, fun h => Option.some.inj h⟩
theorem eqvAll_iff {α : Type} [PyEq α] : ∀ xs ys : List α, PyData.eqvAll (xs.map PyD.toD) (ys.map PyD.toD) = true ↔ xs = ys
  | [], [] => ⟨fun _ => rfl, fun _ => rfl⟩
  | [], _ :: _ => ⟨(fun h => nomatch h), (fun h => nomatch h)⟩
  | _ :: _, [] => ⟨(fun h => nomatch h), (fun h => nomatch h)⟩
  | x :: xs, y :: ys => by
    show (PyData.eqv (PyD.toD x) (PyD.toD y) && PyData.eqvAll (xs.map PyD.toD) (ys.map PyD.toD)) = true ↔ _
    rw [Bool.and_eq_true, PyEq.eqv_iff, eqvAll_iff xs ys, List.cons.injEq]
instance {α : Type} [PyEq α] : PyEq (List α) where
  eqv_iff := fun xs ys => eqvAll_iff xs ys
class PyTEq (α : Type) extends PyTD α where
  eqvs_iff : ∀ x y : α, (PyData.eqvAll (toDs x) (toDs y) = true) ↔ x = y
instance : PyTEq Unit where
  eqvs_iff := fun _ _ => ⟨fun _ => rfl, fun _ => rfl⟩
instance {α β : Type} [PyEq α] [PyTEq β] : PyTEq (α × β) where
  eqvs_iff := fun x y => by
    show (PyData.eqv (PyD.toD x.1) (PyD.toD y.1) && PyData.eqvAll (PyTD.toDs x.2) (PyTD.toDs y.2)) = true ↔ _
    rw [Bool.and_eq_true, PyEq.eqv_iff, PyTEq.eqvs_iff, Prod.ext_iff]
instance {α β : Type} [PyEq α] [PyTEq β] : PyEq (α × β) where
  eqv_iff := fun x y => PyTEq.eqvs_iff x y
theorem eqv_dec {α : Type} [PyEq α] [DecidableEq α] (x y : α) : PyData.eqv (PyD.toD x) (PyD.toD y) = decide (x = y) := by
  by_cases h : x = y
  · rw [decide_eq_true h]; exact (PyEq.eqv_iff x y).2 h
  · rw [decide_eq_false h]
    cases e : PyData.eqv (PyD.toD x) (PyD.toD y) with
    | false => rfl
    | true => exact absurd ((PyEq.eqv_iff x y).1 e) h
section
variable {α : Type} [PyEq α] [DecidableEq α] {K : Fr} {S H : Hp} {u v : V} {x y : α} {Q : VK}
theorem s_eqD (e : Ex S H) (hx : Py.rep K S u x) (hy : Py.rep K S v y) (q : Q (.bl (decide (x = y))) H) (hd : PyD.dep α ≤ 64 := by decide) : rEqD K u v H Q :=
  ⟨_, _, Dp.mono e (PyD.dp hx), Dp.mono e (PyD.dp hy), shaped_of x hd, shaped_of y hd, by rw [eqv_dec]; exact q⟩
theorem s_neD (e : Ex S H) (hx : Py.rep K S u x) (hy : Py.rep K S v y) (q : Q (.bl (!decide (x = y))) H) (hd : PyD.dep α ≤ 64 := by decide) : rNeD K u v H Q :=
  ⟨_, _, Dp.mono e (PyD.dp hx), Dp.mono e (PyD.dp hy), shaped_of x hd, shaped_of y hd, by rw [eqv_dec]; exact q⟩
/-- one's own list as data, now -/
theorem OwnL.dp {β : Type} [PyD β] {a : Addr} {xs : List β} (o : OwnL K S H a xs) (e : Ex S H) : Dp K H (.ref a) (PyD.toD xs) := by
  obtain ⟨vs, h1, h2⟩ := o
  exact .lst (sq_of h1.at_) (dpAll (h2.mono e))
theorem s_eqDD (hx : Dp K H u (PyD.toD x)) (hy : Dp K H v (PyD.toD y)) (q : Q (.bl (decide (x = y))) H) (hd : PyD.dep α ≤ 64 := by decide) : rEqD K u v H Q :=
  ⟨_, _, hx, hy, shaped_of x hd, shaped_of y hd, by rw [eqv_dec]; exact q⟩
theorem s_neDD (hx : Dp K H u (PyD.toD x)) (hy : Dp K H v (PyD.toD y)) (q : Q (.bl (!decide (x = y))) H) (hd : PyD.dep α ≤ 64 := by decide) : rNeD K u v H Q :=
  ⟨_, _, hx, hy, shaped_of x hd, shaped_of y hd, by rw [eqv_dec]; exact q⟩
end
end G
/-! GCut: joins; what a call gives. -/
namespace G
open PySem L2 Evl
section
variable {γ τ : Type} {P : γ → Prop} {E : XC → Prop} {σ : St} {S H : Hp} {QB : Bool → Hp → Prop} {Q : VK} {uu : TT} {ta tb : TE} {a b : Bool} {Lb : List Addr} {D : Ends} {ts tw tu : TS} {tt : TT}
/-! the second test is simple -/
theorem and_s (b : Bool) (h1 : ∀ N : Bool → Hp → Prop, N b H → uu σ H N) (q : QB (a && b) H) : andK uu σ QB a H := by
  cases a with
  | true => exact h1 _ q
  | false => exact q
theorem or_s (b : Bool) (h1 : ∀ N : Bool → Hp → Prop, N b H → uu σ H N) (q : QB (a || b) H) : orK uu σ QB a H := by
  cases a with
  | true => exact q
  | false => exact h1 _ q
theorem andV_s (b : Bool) (h1 : ∀ N : VK, N (.bl b) H → tb σ H N) (q : Q (.bl (a && b)) H) : andVK tb σ Q (.bl a) H := by
  refine ⟨a, rfl, ?_⟩
  cases a with
  | true => exact h1 _ q
  | false => exact q
theorem orV_s (b : Bool) (h1 : ∀ N : VK, N (.bl b) H → tb σ H N) (q : Q (.bl (a || b)) H) : orVK tb σ Q (.bl a) H := by
  refine ⟨a, rfl, ?_⟩
  cases a with
  | true => exact q
  | false => exact h1 _ q
theorem chain_s {r' : R2} {y : V} {tc : TE} (b : Bool) (h1 : ∀ N : VK, N (.bl b) H → tc σ H fun w' H4 => r' y w' H4 N) (q : Q (.bl (a && b)) H) : chainK r' tc σ Q y (.bl a) H := by
  refine ⟨a, rfl, ?_⟩
  cases a with
  | true => exact h1 _ q
  | false => exact q
theorem ife_s {α : Type} [Flat α] {x y : α} (b : Bool) (h1 : ∀ N : VK, N (Flat.toV x) H → ta σ H N) (h2 : ∀ N : VK, N (Flat.toV y) H → tb σ H N) (q : Q (Flat.toV (if b = true then x else y)) H) : if b = true then ta σ H Q else tb σ H Q := by
  cases b with
  | true => exact h1 _ q
  | false => exact h2 _ q
/-! the second test says something -/
theorem and_m {mB : M Bool} {k : Bool → M γ} (h : wpm ((if a = true then mB else .ok false) >>= k) P E) (e : Ex S H)
    (h1 : a = true → ∀ (PB : Bool → Prop) (N : Bool → Hp → Prop), wpm mB PB E → (∀ c S1 H1, Gx [] S H S1 H1 → PB c → N c H1) → uu σ H N)
    (h2 : ∀ c S1 H1, Gx [] S H S1 H1 → wpm (k c) P E → QB c H1) : andK uu σ QB a H := by
  cases a with
  | true => exact h1 rfl _ _ (wb h) h2
  | false => exact h2 _ _ _ (Gx.refl e) h
theorem or_m {mB : M Bool} {k : Bool → M γ} (h : wpm ((if a = true then .ok true else mB) >>= k) P E) (e : Ex S H)
    (h1 : a = false → ∀ (PB : Bool → Prop) (N : Bool → Hp → Prop), wpm mB PB E → (∀ c S1 H1, Gx [] S H S1 H1 → PB c → N c H1) → uu σ H N)
    (h2 : ∀ c S1 H1, Gx [] S H S1 H1 → wpm (k c) P E → QB c H1) : orK uu σ QB a H := by
  cases a with
  | true => exact h2 _ _ _ (Gx.refl e) h
  | false => exact h1 rfl _ _ (wb h) h2
theorem andV_m {mB : M Bool} {k : Bool → M γ} (h : wpm ((if a = true then mB else .ok false) >>= k) P E) (e : Ex S H)
    (h1 : a = true → ∀ (PB : Bool → Prop) (N : VK), wpm mB PB E → (∀ c S1 H1, Gx [] S H S1 H1 → PB c → N (.bl c) H1) → tb σ H N)
    (h2 : ∀ c S1 H1, Gx [] S H S1 H1 → wpm (k c) P E → Q (.bl c) H1) : andVK tb σ Q (.bl a) H := by
  refine ⟨a, rfl, ?_⟩
  cases a with
  | true => exact h1 rfl _ _ (wb h) h2
  | false => exact h2 _ _ _ (Gx.refl e) h
theorem orV_m {mB : M Bool} {k : Bool → M γ} (h : wpm ((if a = true then .ok true else mB) >>= k) P E) (e : Ex S H)
    (h1 : a = false → ∀ (PB : Bool → Prop) (N : VK), wpm mB PB E → (∀ c S1 H1, Gx [] S H S1 H1 → PB c → N (.bl c) H1) → tb σ H N)
    (h2 : ∀ c S1 H1, Gx [] S H S1 H1 → wpm (k c) P E → Q (.bl c) H1) : orVK tb σ Q (.bl a) H := by
  refine ⟨a, rfl, ?_⟩
  cases a with
  | true => exact h2 _ _ _ (Gx.refl e) h
  | false => exact h1 rfl _ _ (wb h) h2
theorem ife_m {α : Type} [Py α] {K : Fr} {mA mB : M α} {k : α → M γ} (h : wpm ((if b = true then mA else mB) >>= k) P E) (e : Ex S H)
    (h1 : b = true → ∀ (PB : α → Prop) (N : VK), wpm mA PB E → (∀ x v S1 H1, Gx [] S H S1 H1 → Py.rep K S1 v x → PB x → N v H1) → ta σ H N)
    (h3 : b = false → ∀ (PB : α → Prop) (N : VK), wpm mB PB E → (∀ x v S1 H1, Gx [] S H S1 H1 → Py.rep K S1 v x → PB x → N v H1) → tb σ H N)
    (h2 : ∀ x v S1 H1, Gx [] S H S1 H1 → Py.rep K S1 v x → wpm (k x) P E → Q v H1) : if b = true then ta σ H Q else tb σ H Q := by
  cases b with
  | true => exact h1 rfl _ _ (wb h) h2
  | false => exact h3 rfl _ _ (wb h) h2
/-! .. and changes something -/
theorem andV_z {mB : M (Bool × τ)} {s0 : τ} {k : Bool × τ → M γ} (R : τ → Hp → Hp → Prop) (h0 : R s0 S H) (h : wpm ((if a = true then mB else .ok (false, s0)) >>= k) P E) (e : Ex S H)
    (h1 : a = true → ∀ (PB : Bool × τ → Prop) (N : VK), wpm mB PB E → (∀ c s S1 H1, Gx Lb S H S1 H1 → R s S1 H1 → PB (c, s) → N (.bl c) H1) → tb σ H N)
    (h2 : ∀ c s S1 H1, Gx Lb S H S1 H1 → R s S1 H1 → wpm (k (c, s)) P E → Q (.bl c) H1) : andVK tb σ Q (.bl a) H := by
  refine ⟨a, rfl, ?_⟩
  cases a with
  | true => exact h1 rfl _ _ (wb h) h2
  | false => exact h2 _ _ _ _ (Gx.refl e) h0 h
theorem and_z {mB : M (Bool × τ)} {s0 : τ} {k : Bool × τ → M γ} (R : τ → Hp → Hp → Prop) (h0 : R s0 S H) (h : wpm ((if a = true then mB else .ok (false, s0)) >>= k) P E) (e : Ex S H)
    (h1 : a = true → ∀ (PB : Bool × τ → Prop) (N : Bool → Hp → Prop), wpm mB PB E → (∀ c s S1 H1, Gx Lb S H S1 H1 → R s S1 H1 → PB (c, s) → N c H1) → uu σ H N)
    (h2 : ∀ c s S1 H1, Gx Lb S H S1 H1 → R s S1 H1 → wpm (k (c, s)) P E → QB c H1) : andK uu σ QB a H := by
  cases a with
  | true => exact h1 rfl _ _ (wb h) h2
  | false => exact h2 _ _ _ _ (Gx.refl e) h0 h
theorem or_z {mB : M (Bool × τ)} {s0 : τ} {k : Bool × τ → M γ} (R : τ → Hp → Hp → Prop) (h0 : R s0 S H) (h : wpm ((if a = true then .ok (true, s0) else mB) >>= k) P E) (e : Ex S H)
    (h1 : a = false → ∀ (PB : Bool × τ → Prop) (N : Bool → Hp → Prop), wpm mB PB E → (∀ c s S1 H1, Gx Lb S H S1 H1 → R s S1 H1 → PB (c, s) → N c H1) → uu σ H N)
    (h2 : ∀ c s S1 H1, Gx Lb S H S1 H1 → R s S1 H1 → wpm (k (c, s)) P E → QB c H1) : orK uu σ QB a H := by
  cases a with
  | true => exact h2 _ _ _ _ (Gx.refl e) h0 h
  | false => exact h1 rfl _ _ (wb h) h2
/-! an if whose ways meet -/
theorem i_ifJ {m : M τ} {k : τ → M γ} (R : τ → St → Hp → Hp → Prop) (h : wpm (m >>= k) P E)
    (h1 : ∀ (PJ : τ → Prop) (N : St → Hp → Prop), (∀ s σ' S' H', PJ s → R s σ' S' H' → N σ' H') → wpm m PJ E → tt σ H fun b H1 => if b = true then ts { D with nx := N } σ H1 else tw { D with nx := N } σ H1)
    (h2 : ∀ s σ' S' H', R s σ' S' H' → wpm (k s) P E → tu D σ' H') : tSeq (tIfS tt ts tw) tu D σ H :=
  h1 _ _ (fun s σ' S' H' hp hr => h2 s σ' S' H' hr hp) (wb h)
/-- the same as the last statement -/
theorem i_ifJ1 {m : M τ} {k : τ → M γ} (R : τ → St → Hp → Hp → Prop) (h : wpm (m >>= k) P E)
    (h1 : ∀ (PJ : τ → Prop) (N : St → Hp → Prop), (∀ s σ' S' H', PJ s → R s σ' S' H' → N σ' H') → wpm m PJ E → tt σ H fun b H1 => if b = true then ts { D with nx := N } σ H1 else tw { D with nx := N } σ H1)
    (h2 : ∀ s σ' S' H', R s σ' S' H' → wpm (k s) P E → D.nx σ' H') : tIfS tt ts tw D σ H :=
  h1 _ _ (fun s σ' S' H' hp hr => h2 s σ' S' H' hr hp) (wb h)
/-- .. and may return -/
theorem i_ifR1 {ρ : Type} {m : M (ρ ⊕ τ)} {k : ρ ⊕ τ → M γ} (R : τ → St → Hp → Hp → Prop) (h : wpm (m >>= k) P E)
    (h1 : ∀ (PJ : ρ ⊕ τ → Prop) (N : St → Hp → Prop), (∀ r, PJ (.inl r) → wpm (k (.inl r)) P E) → (∀ s σ' S' H', PJ (.inr s) → R s σ' S' H' → N σ' H') → wpm m PJ E → tt σ H fun b H1 => if b = true then ts { D with nx := N } σ H1 else tw { D with nx := N } σ H1)
    (h2 : ∀ s σ' S' H', R s σ' S' H' → wpm (k (.inr s)) P E → D.nx σ' H') : tIfS tt ts tw D σ H :=
  h1 _ _ (fun r h => h) (fun s σ' S' H' hp hr => h2 s σ' S' H' hr hp) (wb h)
end
theorem Gx.back {L : List Addr} {S H S' H' : Hp} {p : Addr} (g : Gx L S H S' H') (h : H' p = none) : H p = none := by
  cases e : H p with
  | none => rfl
  | some o => exact absurd h (g.th p (by rw [e]; simp))
/-! ### a def of the text, by its name -/
structure Dfn (P : Program) (w : World) (K : Fr) (mg : PySem.Str → Option Value) (base : Heap) (x : PySem.Str) (k : Nat) (ps : List PySem.Str) (sp : Sp) : Prop where
  ex : ∃ f fd, mg x = some (.ref f) ∧ PySem.W.keepIn K (.ref f) = true ∧ Binds K fd ps [] ∧ FnOk P w K mg base (L2.CX P w) k f fd ps sp
/-- where it stands -/
structure At (K : Fr) (mg : PySem.Str → Option Value) (x : PySem.Str) (st : PySem.Stmt) (ps : List PySem.Str) : Prop where
  ex : ∃ f fd, mg x = some (.ref f) ∧ FunD K x x (defArgs st) (defBody st) (defScope st) [] [] f fd ∧ Binds K fd ps []
theorem Dfn.mk' {P : Program} {w : World} {K : Fr} {mg : PySem.Str → Option Value} {base : Heap} {x : PySem.Str} {k : Nat} {ps : List PySem.Str} {sp : Sp} {st : PySem.Stmt} (A : At K mg x st ps)
    (h : ∀ f fd, FunD K x x (defArgs st) (defBody st) (defScope st) [] [] f fd → FnOk P w K mg base (L2.CX P w) k f fd ps sp) : Dfn P w K mg base x k ps sp := by
  obtain ⟨f, fd, h1, h2, h3⟩ := A.ex
  exact ⟨f, fd, h1, h2.kp, h3, h f fd h2⟩
end G
/-! GRule: rules that the layer lacks. -/
namespace G
open PySem L2 Evl PySem.Spec PyProof.Rows
section
variable {X : Cx} {a b c d : PySem.Expr} {ta tb tc td : TE} {pos : Pos}
/-- a op1 b op2 c op3 d -/
def tChain3 (r r' r'' : R2) (ta tb tc td : TE) : TE := fun σ H Q => ta σ H fun x H1 => tb σ H1 fun y H2 => r x y H2 fun z H3 => ∃ k, z = .bl k ∧
  (if k = true then tc σ H3 fun w' H4 => r' y w' H4 fun z H5 => ∃ k, z = .bl k ∧ (if k = true then td σ H5 fun u' H6 => r'' w' u' H6 Q else Q (.bl false) H5) else Q (.bl false) H3)
theorem pe_chain3 {op op' op'' : CmpOp} {r r' r'' : R2} (ho : OpR X (compareOp op) r) (ho' : OpR X (compareOp op') r') (ho'' : OpR X (compareOp op'') r'') (ha : PE X a ta) (hb : PE X b tb) (hc : PE X c tc) (hd : PE X d td)
    (hm : lastMarks [op, op', op''] [b, c, d] = false := by with_unfolding_all rfl) : PE X (.Compare a [op, op', op''] [b, c, d] pos) (tChain3 r r' r'' ta tb tc td) := by
  refine ⟨fun pins s σ H Q I h => ?_⟩
  refine Compare_chain (thn (ha.run pins s σ H _ I h) fun v s1 ⟨x, H1, I1, r1, q1⟩ => chain_link (thn (hb.run pins s1 σ H1 _ I1 q1) fun u s2 ⟨y, H2, I2, r2, q2⟩ =>
    thn (ho pins s2 σ H2 x y v u _ I2 r1 r2 q2) fun e s3 ⟨z, H3, I3, r3, k, e1, q3⟩ => ?_)) hm
  subst e1
  cases r3
  refine wpAny_truthy_bool ?_
  cases k with
  | false => exact ite_ff ⟨.bl false, H3, I3, rfl, q3⟩
  | true =>
    refine ite_tt (chain_link (thn (hc.run pins s3 σ H3 _ I3 q3) fun w' s4 ⟨z', H4, I4, r4, q4⟩ => thn (ho' pins s4 σ H4 y z' u w' _ I4 r2 r4 q4) fun e s5 ⟨z5, H5, I5, r5, k5, e5, q5⟩ => ?_))
    subst e5
    cases r5
    refine wpAny_truthy_bool ?_
    cases k5 with
    | false => exact ite_ff ⟨.bl false, H5, I5, rfl, q5⟩
    | true => exact ite_tt (chain_last (thn (hd.run pins s5 σ H5 _ I5 q5) fun w6 s6 ⟨z6, H6, I6, r6, q6⟩ => ho'' pins s6 σ H6 z' z6 w' w6 Q I6 r4 r6 q6))
theorem pt_chain3 {op op' op'' : CmpOp} {r r' r'' : R2} (ho : OpR X (compareOp op) r) (ho' : OpR X (compareOp op') r') (ho'' : OpR X (compareOp op'') r'') (ha : PE X a ta) (hb : PE X b tb) (hc : PE X c tc) (hd : PE X d td)
    (hm : lastMarks [op, op', op''] [b, c, d] = false := by with_unfolding_all rfl) : PT X (.Compare a [op, op', op''] [b, c, d] pos) (tTest (tChain3 r r' r'' ta tb tc td)) := by
  refine ⟨fun pins s σ H Q I h => ?_⟩
  refine isTrue_chain (thn (ha.run pins s σ H _ I h) fun v s1 ⟨x, H1, I1, r1, q1⟩ => test_link (thn (hb.run pins s1 σ H1 _ I1 q1) fun u s2 ⟨y, H2, I2, r2, q2⟩ =>
    thn (ho pins s2 σ H2 x y v u _ I2 r1 r2 q2) fun e s3 ⟨z, H3, I3, r3, k, e1, q3⟩ => ?_)) hm
  subst e1
  cases r3
  refine wpAny_truthy_bool ?_
  cases k with
  | false =>
    obtain ⟨k', e', q'⟩ := q3
    cases e'
    exact ite_ff ⟨H3, I3, q'⟩
  | true =>
    refine ite_tt (test_link (thn (hc.run pins s3 σ H3 _ I3 q3) fun w' s4 ⟨z', H4, I4, r4, q4⟩ => thn (ho' pins s4 σ H4 y z' u w' _ I4 r2 r4 q4) fun e s5 ⟨z5, H5, I5, r5, k5, e5, q5⟩ => ?_))
    subst e5
    cases r5
    refine wpAny_truthy_bool ?_
    cases k5 with
    | false =>
      obtain ⟨k', e', q'⟩ := q5
      cases e'
      exact ite_ff ⟨H5, I5, q'⟩
    | true =>
      refine ite_tt (test_last (thn (hd.run pins s5 σ H5 _ I5 q5) fun w6 s6 ⟨z6, H6, I6, r6, q6⟩ => thn (ho'' pins s6 σ H6 z' z6 w' w6 _ I6 r4 r6 q6) fun d' s7 ⟨z7, H7, I7, r7, k7, e7, q7⟩ => ?_))
      subst e7
      cases r7
      exact wpAny_truthy_bool ⟨H7, I7, q7⟩
end
def chain3K (r' r'' : R2) (tc td : TE) (σ : St) (Q : VK) (y z : V) (H3 : Hp) : Prop := ∃ k, z = .bl k ∧
  (if k = true then tc σ H3 fun w' H4 => r' y w' H4 fun z H5 => ∃ k, z = .bl k ∧ (if k = true then td σ H5 fun u' H6 => r'' w' u' H6 Q else Q (.bl false) H5) else Q (.bl false) H3)
section
variable {σ : St} {H : Hp} {Q : VK} {ta tb tc td : TE}
theorem i_chain3 {r r' r'' : R2} (q : ta σ H fun x H1 => tb σ H1 fun y H2 => r x y H2 fun z H3 => chain3K r' r'' tc td σ Q y z H3) : tChain3 r r' r'' ta tb tc td σ H Q := q
theorem chain3_s {a : Bool} {r' r'' : R2} {y w : V} (b c : Bool) (h1 : ∀ N : V → Hp → Prop, N w H → tc σ H N) (hb : ∀ N : VK, N (.bl b) H → r' y w H N) (h2 : ∀ N : VK, N (.bl c) H → td σ H fun u' H6 => r'' w u' H6 N) (q : Q (.bl (a && b && c)) H) :
    chain3K r' r'' tc td σ Q y (.bl a) H := by
  refine ⟨a, rfl, ?_⟩
  cases a with
  | false => exact q
  | true =>
    refine h1 _ (hb _ ⟨b, rfl, ?_⟩)
    cases b with
    | false => exact q
    | true => exact h2 _ q
end
end G
/-! GAux: more steps. -/
namespace G
open PySem L2 Evl
def fuelW : Nat := 1000000
def kR {ρ τ : Type} (z : ρ ⊕ τ) (f : τ → M ρ) : M ρ := match z with
  | .inl r => .ok r
  | .inr s => f s
def kRR {ρ τ υ : Type} (z : ρ ⊕ τ) (f : τ → M (ρ ⊕ υ)) : M (ρ ⊕ υ) := match z with
  | .inl r => .ok (.inl r)
  | .inr s => f s
def bint (b : Bool) : Int := if b = true then 1 else 0
def iabs (i : Int) : Int := if i < 0 then -i else i
def partK (R : Option Int → Hp → Prop) (x : V) (H : Hp) : Prop := ∃ i, x = .int i ∧ R (some i) H
def newK (Q : VK) (o : HO) (H : Hp) : Prop := ∀ p, H p = none → Q (.ref p) (upd H p o)
def lstK (Q : VK) (xs : List V) (H : Hp) : Prop := xs.length ≤ sizeLine ∧ newK Q (.lst xs) H
def tupK (Q : VK) (xs : List V) (H : Hp) : Prop := xs.length ≤ sizeLine ∧ newK Q (.tup xs) H
def revK (K : Fr) (Q : VK) (x : V) (H1 : Hp) : Prop := ∃ a xs, x = .ref a ∧ SqL K H1 a xs ∧ newK Q (.lst xs.reverse) H1
def rIsNG : R2 := fun x y H Q => y = .non ∧ Q (.bl (decide (x = .non))) H
def rNotNG : R2 := fun x y H Q => y = .non ∧ Q (.bl (!decide (x = .non))) H
theorem op_isNG {X : Cx} : OpR X (compareOp .Is) rIsNG := op_isN
theorem op_notNG {X : Cx} : OpR X (compareOp .IsNot) rNotNG := op_notN
def rAbsG : List V → Hp → VK → Prop := fun xs H Q => ∃ i, xs = [.int i] ∧ Q (.int (if i < 0 then -i else i)) H
theorem call_absG {X : Cx} : CallR X (.builtin "abs") rAbsG := call_abs
def rMax2G : List V → Hp → VK → Prop := fun xs H Q => ∃ i j, xs = [.int i, .int j] ∧ Q (.int (if j > i then j else i)) H
theorem call_max2G {X : Cx} (hc : X.calm = true) : CallR X (.builtin "max") rMax2G := call_max2 hc
def rMin2G : List V → Hp → VK → Prop := fun xs H Q => ∃ i j, xs = [.int i, .int j] ∧ Q (.int (if j < i then j else i)) H
theorem call_min2G {X : Cx} (hc : X.calm = true) : CallR X (.builtin "min") rMin2G := call_min2 hc
def rInt1G : List V → Hp → VK → Prop := fun xs H Q => (∃ i, xs = [.int i] ∧ Q (.int i) H) ∨ ∃ k, xs = [.bl k] ∧ Q (.int (if k then 1 else 0)) H
theorem call_int1G {X : Cx} : CallR X (.type "int") rInt1G := call_int1
section
variable {σ σ' : St} {H S : Hp} {Q : VK} {D : Ends} {K : Fr} {v x y : V} {ta tb tc te : TE} {t : TA} {ts : TS} {QA : List V → Hp → Prop} {b : Bool}
theorem i_start {N : List PySem.Str} {vs : List V} (e : start N vs = σ) (q : ts D σ H) : ts D (start N vs) H := by rw [e]; exact q
theorem i_nameE {i : Nat} {Qs : St → Hp → Prop} (e : σ.set i (some v) = σ') (q : Qs σ' H) : gName i v σ H Qs := by
  show Qs (σ.set i (some v)) H
  rw [e]; exact q
theorem i_aug {i : Nat} {ti : TIp} (h : σ[i]? = some (some x)) (q : te σ H fun y H1 => ti x y H1 fun z H2 => D.nx (σ.set i (some z)) H2) : tAug i te ti D σ H := ⟨x, h, q⟩
theorem i_ipI {f : Int → Int → Int} {i j : Int} (q : Q (.int (f i j)) H) : ipI f (.int i) (.int j) H Q := ⟨i, j, rfl, rfl, q⟩
theorem i_sig {i : Nat} {Qs : St → Hp → Prop} (e : σ.set i (some v) = σ') (q : Qs σ' H) : Qs (σ.set i (some v)) H := by rw [e]; exact q
theorem s_pow {i j k : Int} (hc : CPow i j) (e : i ^ j.toNat = k) (q : Q (.int k) H) : rI CPow (fun i j => .int (i ^ j.toNat)) (.int i) (.int j) H Q := ⟨i, j, rfl, rfl, hc, by show Q (.int (i ^ j.toNat)) H; rw [e]; exact q⟩
theorem i_varU {i : Nat} {o : Option Int} {k : Int} (h : σ[i]? = some (some (optV o))) (e : o = some k) (q : Q (.int k) H) : tVar i σ H Q := ⟨_, h, by rw [e]; exact q⟩
theorem i_cast {u v : V} (w : V) (e : u = w) (q : Q w H) : Q u H := by rw [e]; exact q
theorem i_unw {o : Option Int} {i : Int} (e : o = some i) (q : Q (.int i) H) : Q (optV o) H := by rw [e]; exact q
theorem i_noPart {R : Option Int → Hp → Prop} (q : R none H) : tNoPart σ H R := q
theorem i_part {R : Option Int → Hp → Prop} (q : te σ H fun x H1 => partK R x H1) : tPart te σ H R := q
theorem i_partI {R : Option Int → Hp → Prop} {i : Int} (q : R (some i) H) : partK R (.int i) H := ⟨i, rfl, q⟩
theorem i_sl {r : V → Option Int → Option Int → Hp → VK → Prop} {tl th : TO} (q : te σ H fun x H1 => tl σ H1 fun l H2 => th σ H2 fun u H3 => r x l u H3 Q) : tSl r te tl th σ H Q := q
theorem i_revL (q : te σ H fun x H1 => revK K Q x H1) : tRevL K te σ H Q := q
theorem i_lst (q : t σ H fun xs H1 => lstK Q xs H1) : tLst t σ H Q := q
theorem i_tup (q : t σ H fun xs H1 => tupK Q xs H1) : tTup t σ H Q := q
theorem s_isN {c : Bool} (e : decide (x = .non) = c) (q : Q (.bl c) H) : rIsNG x .non H Q := ⟨rfl, by rw [e]; exact q⟩
theorem s_notN {c : Bool} (e : decide (x = .non) = c) (q : Q (.bl (!c)) H) : rNotNG x .non H Q := ⟨rfl, by rw [e]; exact q⟩
theorem s_abs {i : Int} (q : Q (.int (iabs i)) H) : rAbsG [.int i] H Q := ⟨i, rfl, q⟩
theorem s_intB {b : Bool} (q : Q (.int (bint b)) H) : rInt1G [.bl b] H Q := .inr ⟨b, rfl, by
  have e : (if b = true then (1 : Int) else 0) = bint b := by cases b <;> rfl
  rw [e]; exact q⟩
theorem s_intI {i : Int} (q : Q (.int i) H) : rInt1G [.int i] H Q := .inl ⟨i, rfl, q⟩
theorem s_max2 {i j : Int} (q : Q (.int (max i j)) H) : rMax2G [.int i, .int j] H Q := ⟨i, j, rfl, by
  rw [show (if j > i then j else i) = max i j by split <;> omega]; exact q⟩
theorem s_min2 {i j : Int} (q : Q (.int (min i j)) H) : rMin2G [.int i, .int j] H Q := ⟨i, j, rfl, by
  rw [show (if j < i then j else i) = min i j by split <;> omega]; exact q⟩
end
section
variable {α γ : Type} [Py α] {K : Fr} {P : γ → Prop} {E : XC → Prop} {S H S0 H0 S' H' : Hp} {L : List Addr} {a b p : Addr} {xs ys : List α} {vs : List V} {Q : VK}
theorem s_lstS (g : Gx L S0 H0 S H) (hr : Reps K S vs xs) (hl : vs.length ≤ 16777216) (q : ∀ p S1 H1, Gx L S0 H0 S1 H1 → Gx [] S H S1 H1 → RepL K S1 p xs → Q (.ref p) H1) :
    lstK Q vs H := ⟨by rw [sizeLine_eq]; exact hl, newL_S g hr q⟩
theorem s_lstO (g : Gx L S0 H0 S H) (hr : Reps K S vs xs) (hl : vs.length ≤ 16777216) (q : ∀ p H1, Gx L S0 H0 S H1 → Gx [] S H S H1 → H p = none → OwnL K S H1 p xs → Q (.ref p) H1) :
    lstK Q vs H := ⟨by rw [sizeLine_eq]; exact hl, newL_O g hr q⟩
theorem s_tup {τ υ : Type} [Py τ] [PyT υ] {t : τ × υ} (g : Gx L S0 H0 S H) (hr : PyT.rept K S vs t) (hl : vs.length ≤ 16777216) (q : ∀ p S1 H1, Gx L S0 H0 S1 H1 → Gx [] S H S1 H1 → Py.rep K S1 (.ref p) t → Q (.ref p) H1) :
    tupK Q vs H := ⟨by rw [sizeLine_eq]; exact hl, newT_S g hr fun p S1 H1 g1 g2 h => q p S1 H1 g1 g2 ⟨p, vs, rfl, h.1, h.2⟩⟩
theorem s_idxFU {xs : List (Option Int)} {i : Int} {k : Int → M γ} (r : RepH K S H a xs) (h : wpm (idx xs i >>= fun x => unwrap x >>= k) P E) (q : ∀ x, wpm (k x) P E → Q (.int x) H) : rIxL K (.ref a) (.int i) H Q :=
  s_idxF r h fun x h => by
    obtain ⟨y, e, h⟩ := wpm_unwrap h
    subst e
    exact q y h
theorem s_revS (g : Gx L S0 H0 S H) (r : RepH K S H a xs) (q : ∀ p S1 H1, Gx L S0 H0 S1 H1 → Gx [] S H S1 H1 → RepL K S1 p xs.reverse → Q (.ref p) H1) :
    revK K Q (.ref a) H := by
  obtain ⟨vs, h1, h2⟩ := r
  exact ⟨a, vs, rfl, h1, newL_S g (All2.reverse h2) q⟩
theorem s_revO (g : Gx L S0 H0 S H) (r : RepH K S H a xs) (q : ∀ p H1, Gx L S0 H0 S H1 → Gx [] S H S H1 → H p = none → OwnL K S H1 p xs.reverse → Q (.ref p) H1) :
    revK K Q (.ref a) H := by
  obtain ⟨vs, h1, h2⟩ := r
  exact ⟨a, vs, rfl, h1, newL_O g (All2.reverse h2) q⟩
/-- an item of a tuple -/
theorem s_ixT {i : Nat} {v : V} (hs : SqT K H a vs) (e : vs[i]? = some v) (q : Q v H) : rIxT K (.ref a) (.int ((i : Nat) : Int)) H Q :=
  ⟨a, vs, _, v, rfl, rfl, hs, atI_nat e, q⟩
theorem s_ixTn {i : Int} {v : V} (hs : SqT K H a vs) (e : atI vs i = some v) (q : Q v H) : rIxT K (.ref a) (.int i) H Q :=
  ⟨a, vs, _, v, rfl, rfl, hs, e, q⟩
theorem Reps.opt (h : Reps K S vs xs) : Reps K S vs (xs.map some) := by
  induction h with
  | nil => exact .nil
  | cons h _ ih => exact .cons h ih
theorem RepL.opt (h : RepL K S a xs) : RepL K S a (xs.map some) := by
  obtain ⟨vs, h1, h2⟩ := h
  exact ⟨vs, h1, Reps.opt h2⟩
theorem rept_nil : PyT.rept K S [] () := rfl
theorem rept_cons {β υ : Type} [Py β] [PyT υ] {v : V} {r : List V} {x : β} {y : υ} (h : Py.rep K S v x) (h2 : PyT.rept K S r y) : PyT.rept K S (v :: r) (x, y) := ⟨v, r, rfl, h, h2⟩
theorem rep_ref {β υ : Type} [Py β] [PyT υ] {v : V} {t : β × υ} (h : Py.rep K S v t) : ∃ a, v = .ref a := by
  obtain ⟨a, vs, e, _⟩ := h
  exact ⟨a, e⟩
theorem rep_at {β υ : Type} [Py β] [PyT υ] {t : β × υ} (h : Py.rep K S (.ref a) t) : ∃ vs, SqT K S a vs ∧ PyT.rept K S vs t := by
  obtain ⟨b, vs, e, h1, h2⟩ := h
  cases e
  exact ⟨vs, h1, h2⟩
theorem OwnL.there (o : OwnL K S H a xs) : H a ≠ none := by
  obtain ⟨vs, h1, _⟩ := o
  rw [h1.at_]; simp
theorem OwnL.lift2 (o : OwnL K S H a xs) (hb : ∀ b, b ≠ p → S' b = S b) (e : Ex S S') (hne : a ≠ p) : OwnL K S' H a xs := by
  obtain ⟨vs, h1, h2⟩ := o
  exact ⟨vs, ⟨h1.at_, by rw [hb a hne]; exact h1.free⟩, h2.mono e⟩
theorem ex_frz {o : HO} (w : Own S H a o) (e : Ex S H) : Ex (upd S a o) H := fun b u h => by
  unfold upd at h
  split at h
  · rename_i q; subst q; cases h; exact w.at_
  · exact e b u h
/-- the call told nothing new -/
theorem Gx.undo {S1 S2 : Hp} (g : Gx [] S1 H S2 H') (e : Ex S H) : Gx [] S H S H' := ⟨Ex.refl S, g.h, e.trans g.ex, g.th, fun _ _ h => h⟩
theorem line_le {β : Type} {ys : List β} (h : decide (ys.length ≤ line) = true) : ys.length ≤ sizeLine := by rw [line_eq]; exact of_decide_eq_true h
theorem wh_split2 {G : Bool → Hp → Prop} {A B PT PF : Prop} {b : Bool} (hT : A → G true H) (hF : PF → B → G false H) (h : wpm (M.ok b) (fun b => if b = true then PT else PF) E)
    (h1 : PT → A) (h2 : PF → PF ∧ B) : G b H := by
  cases b with
  | true => exact hT (h1 h)
  | false => exact hF (h2 h).1 (h2 h).2
end
/-! ### members -/
theorem eqV_int {i j : Int} : eqV (.int i) (.int j) = decide (i = j) := by
  show (i == j) = decide (i = j)
  by_cases h : i = j <;> simp [h]
theorem eqV_opt {i j : Option Int} : eqV (optV i) (optV j) = decide (i = j) := by
  cases i <;> cases j
  · rfl
  · rfl
  · rfl
  · rename_i a b
    show (a == b) = decide (some a = some b)
    by_cases h : a = b <;> simp [h]
class FlatEq (α : Type) extends Flat α where
  fl : ∀ x : α, flatV (Flat.toV x) = true
  eqv : ∀ x y : α, eqV (Flat.toV x) (Flat.toV y) = true ↔ x = y
instance : FlatEq Int where
  fl := fun _ => rfl
  eqv := fun x y => by show eqV (.int x) (.int y) = true ↔ _; rw [eqV_int, decide_eq_true_eq]
instance : FlatEq (Option Int) where
  fl := fun x => by cases x <;> rfl
  eqv := fun x y => by show eqV (optV x) (optV y) = true ↔ _; rw [eqV_opt, decide_eq_true_eq]
instance : FlatEq Bool where
  fl := fun _ => rfl
  eqv := fun x y => by cases x <;> cases y <;> decide
theorem reps_flat {α : Type} [Flat α] {K : Fr} {S : Hp} : ∀ {vs : List V} {xs : List α}, Reps K S vs xs → vs = xs.map Flat.toV
  | _, _, .nil => rfl
  | _, _, .cons h t => by rw [Flat.is.1 h, reps_flat t]; rfl
theorem flat_reps {α : Type} [Flat α] {K : Fr} {S : Hp} : ∀ xs : List α, Reps K S (xs.map Flat.toV) xs
  | [] => .nil
  | x :: xs => .cons (Flat.is.2 rfl) (flat_reps xs)
theorem inV_flat {α : Type} [FlatEq α] [DecidableEq α] (x : α) : ∀ xs : List α, inV (Flat.toV x) (xs.map Flat.toV) = decide (x ∈ xs)
  | [] => rfl
  | y :: ys => by
    have ih := inV_flat x ys
    unfold inV at ih ⊢
    rw [List.map_cons, List.any_cons, ih]
    by_cases h : x = y
    · subst h; rw [(FlatEq.eqv x x).2 rfl]; simp
    · have : eqV (Flat.toV y) (Flat.toV x) = false := by
        cases e : eqV (Flat.toV y) (Flat.toV x) with
        | false => rfl
        | true => exact absurd ((FlatEq.eqv y x).1 e).symm h
      rw [this]; simp [h]
section
variable {α γ : Type} [FlatEq α] [DecidableEq α] {K : Fr} {S H : Hp} {a : Addr} {xs : List α} {Q : VK}
theorem s_inY {x : α} (r : RepH K S H a xs) (q : Q (.bl (decide (x ∈ xs))) H) : rIn K false (Flat.toV x) (.ref a) H Q := by
  obtain ⟨vs, h1, h2⟩ := r
  have e := reps_flat h2
  subst e
  refine ⟨a, _, rfl, .inl h1, FlatEq.fl x, by rw [List.all_map]; exact List.all_eq_true.2 fun y _ => FlatEq.fl y, ?_⟩
  show Q (.bl (inV _ _)) H
  rw [inV_flat]; exact q
theorem s_inN {x : α} (r : RepH K S H a xs) (q : Q (.bl (!decide (x ∈ xs))) H) : rIn K true (Flat.toV x) (.ref a) H Q := by
  obtain ⟨vs, h1, h2⟩ := r
  have e := reps_flat h2
  subst e
  refine ⟨a, _, rfl, .inl h1, FlatEq.fl x, by rw [List.all_map]; exact List.all_eq_true.2 fun y _ => FlatEq.fl y, ?_⟩
  show Q (.bl (!inV _ _)) H
  rw [inV_flat]; exact q
end
/-! ### the own classes of error, as they stand -/
structure XcOk (K : Fr) (mg : PySem.Str → Option Value) (ca : XC → Addr) (c : XC) (x : PySem.Str) : Prop where
  ex : PySem.W.excIn K (ca c) [.type "ValueError", .type "Exception", .type "BaseException", .type "object"] "ValueError.__new__" = true
  mg : mg x = some (.ref (ca c))
  kp : PySem.W.keepIn K (.ref (ca c)) = true
  sb : PySem.W.subIn K (.ref (ca c)) (.type "BaseException") = some true
  ty : PySem.W.typeIn K (.ref (ca c)) = some (.type "type")
end G
/-! GDict: dicts with whole numbers as keys. -/
namespace G
open PySem L2 Evl
def dfind {α : Type} (kvs : List (Int × α)) (k : Int) : Option α := (kvs.find? fun p => decide (p.1 = k)).map (·.2)
def dput {α : Type} (kvs : List (Int × α)) (k : Int) (v : α) : List (Int × α) := if (kvs.any fun p => decide (p.1 = k)) = true then kvs.map fun p => if p.1 = k then (p.1, v) else p else kvs ++ [(k, v)]
def pdput {α : Type} (kvs : List (Int × α)) (k : Int) (v : α) : M (List (Int × α)) := if kvs.length < line then .ok (dput kvs k v) else .stuck
def ditem {α : Type} (kvs : List (Int × α)) (k : Int) : M α := match dfind kvs k with
  | some x => .ok x
  | none => .stuck
def RelD {α : Type} [Py α] (K : Fr) (S : Hp) (p : Key × V) (q : Int × α) : Prop := p.1 = .inl q.1 ∧ Py.rep K S p.2 q.2
def OwnD {α : Type} [Py α] (K : Fr) (S H : Hp) (a : Addr) (kvs : List (Int × α)) : Prop := ∃ ws, Own S H a (.dK ws) ∧ All2 (RelD K S) ws kvs
section
variable {α γ : Type} [Py α] {K : Fr} {P : γ → Prop} {E : XC → Prop} {S H S0 H0 S' H' : Hp} {L L' : List Addr} {a b p : Addr} {kvs : List (Int × α)} {ws : List (Key × V)} {Q : VK}
theorem reld_mono (e : Ex S S') (h : All2 (RelD K S) ws kvs) : All2 (RelD K S') ws kvs := h.imp fun _ _ h => ⟨h.1, Py.mono e h.2⟩
theorem OwnD.keep (o : OwnD K S H a kvs) (g : Gx L' S H S' H') (h : a ∉ L') : OwnD K S' H' a kvs := by
  obtain ⟨vs, h1, h2⟩ := o
  exact ⟨vs, h1.keep g h, reld_mono g.s h2⟩
theorem OwnD.keep0 (o : OwnD K S H a kvs) (g : Gx [] S H S' H') : OwnD K S' H' a kvs := o.keep g (fun h => nomatch h)
theorem OwnD.ne (o : OwnD K S H a kvs) (h : H p = none) : a ≠ p := by
  obtain ⟨vs, h1, h2⟩ := o
  exact h1.ne h
theorem OwnD.there (o : OwnD K S H a kvs) : H a ≠ none := by
  obtain ⟨vs, h1, _⟩ := o
  rw [h1.at_]; simp
theorem OwnD.other (o : OwnD K S H b kvs) (hne : b ≠ a) (e : ∀ c, c ≠ a → H' c = H c) : OwnD K S H' b kvs := by
  obtain ⟨vs, h1, h2⟩ := o
  exact ⟨vs, ⟨by rw [e b hne]; exact h1.at_, h1.free⟩, h2⟩
theorem OwnD.lift2 (o : OwnD K S H a kvs) (hb : ∀ b, b ≠ p → S' b = S b) (e : Ex S S') (hne : a ≠ p) : OwnD K S' H a kvs := by
  obtain ⟨vs, h1, h2⟩ := o
  exact ⟨vs, ⟨h1.at_, by rw [hb a hne]; exact h1.free⟩, reld_mono e h2⟩
theorem key_dec (k : Int) (p : Key × V) (q : Int × α) (h : RelD K S p q) : decide (p.1 = (Sum.inl k : Key)) = decide (q.1 = k) := by
  rw [h.1]
  by_cases e : q.1 = k
  · rw [e]; simp
  · rw [decide_eq_false e, decide_eq_false (fun z => e (Sum.inl.inj z))]
theorem valV_rel (k : Int) : ∀ {ws : List (Key × V)} {kvs : List (Int × α)}, All2 (RelD K S) ws kvs → (dfind kvs k = none ∧ valV ws (.inl k) = none) ∨ ∃ v x, dfind kvs k = some x ∧ valV ws (.inl k) = some v ∧ Py.rep K S v x
  | _, _, .nil => .inl ⟨rfl, rfl⟩
  | _, _, .cons (a := p) (b := q) h t => by
    have hk := key_dec k p q h
    by_cases e : q.1 = k
    · have e1 : decide (q.1 = k) = true := decide_eq_true e
      have e2 : p.1 = (Sum.inl k : Key) := of_decide_eq_true (hk.trans e1)
      exact .inr ⟨p.2, q.2, by simp [dfind, e], by simp [valV, e2], h.2⟩
    · have e1 : decide (q.1 = k) = false := decide_eq_false e
      have e2 : ¬ p.1 = (Sum.inl k : Key) := of_decide_eq_false (hk.trans e1)
      rcases valV_rel k t with ⟨h1, h2⟩ | ⟨v, x, h1, h2, h3⟩
      · exact .inl ⟨by simpa [dfind, e] using h1, by simpa [valV, e2] using h2⟩
      · exact .inr ⟨v, x, by simpa [dfind, e] using h1, by simpa [valV, e2] using h2, h3⟩
theorem any_rel (k : Int) : ∀ {ws : List (Key × V)} {kvs : List (Int × α)}, All2 (RelD K S) ws kvs → (ws.any fun p => decide (p.1 = (Sum.inl k : Key))) = kvs.any fun p => decide (p.1 = k)
  | _, _, .nil => rfl
  | _, _, .cons h t => by rw [List.any_cons, List.any_cons, key_dec k _ _ h, any_rel k t]
theorem put_one (k : Int) {v : V} {x : α} (r : Py.rep K S v x) {p : Key × V} {q : Int × α} (h : RelD K S p q) : RelD K S (if p.1 = (Sum.inl k : Key) then (p.1, v) else p) (if q.1 = k then (q.1, x) else q) := by
  have hk := key_dec k p q h
  by_cases e : q.1 = k
  · rw [if_pos (of_decide_eq_true (hk.trans (decide_eq_true e))), if_pos e]; exact ⟨h.1, r⟩
  · rw [if_neg (of_decide_eq_false (hk.trans (decide_eq_false e))), if_neg e]; exact h
theorem put_map (k : Int) {v : V} {x : α} (r : Py.rep K S v x) : ∀ {ws : List (Key × V)} {kvs : List (Int × α)}, All2 (RelD K S) ws kvs →
    All2 (RelD K S) (ws.map fun kv => if kv.1 = (Sum.inl k : Key) then (kv.1, v) else kv) (kvs.map fun p => if p.1 = k then (p.1, x) else p)
  | _, _, .nil => .nil
  | _, _, .cons h t => .cons (put_one k r h) (put_map k r t)
theorem put_rel (k : Int) {v : V} {x : α} (r : Py.rep K S v x) {ws : List (Key × V)} {kvs : List (Int × α)} (h : All2 (RelD K S) ws kvs) : All2 (RelD K S) (putK ws (.inl k) v) (dput kvs k x) := by
  unfold putK dput
  rw [any_rel k h]
  split
  · exact put_map k r h
  · exact h.snoc ⟨rfl, r⟩
/-! ### the steps -/
def dg1K (ty : TE) (σ : St) (Q : VK) (x : V) (H1 : Hp) : Prop := ∃ a, x = .ref a ∧ IsD H1 a ∧ ty σ H1 fun y H2 => ∃ o, DGet H2 a y o ∧ Q (o.getD .non) H2
def dgetK (a : Addr) (Q : VK) (y : V) (H2 : Hp) : Prop := ∃ o, DGet H2 a y o ∧ Q (o.getD .non) H2
def dg2K (ty tx : TE) (σ : St) (Q : VK) (x : V) (H1 : Hp) : Prop := ∃ a, x = .ref a ∧ IsD H1 a ∧ ty σ H1 fun y H2 => tx σ H2 fun z H3 => ∃ o, DGet H3 a y o ∧ Q (o.getD z) H3
def dget2K (a : Addr) (Q : VK) (y z : V) (H2 : Hp) : Prop := ∃ o, DGet H2 a y o ∧ Q (o.getD z) H2
variable {σ : St} {td ty tx tv : TE} {D : Ends}
theorem i_dget1 (q : td σ H fun x H1 => dg1K ty σ Q x H1) : tDGet1 td ty σ H Q := q
theorem i_dget2 (q : td σ H fun x H1 => dg2K ty tx σ Q x H1) : tDGet2 td ty tx σ H Q := q
theorem OwnD.isD (o : OwnD K S H a kvs) : IsD H a := by
  obtain ⟨ws, h1, _⟩ := o
  exact .inl ⟨ws, .inl h1.at_⟩
theorem s_dg1 (o : OwnD K S H a kvs) (q : ty σ H fun y H2 => dgetK a Q y H2) : dg1K ty σ Q (.ref a) H := ⟨a, rfl, o.isD, q⟩
theorem s_dg2 (o : OwnD K S H a kvs) (q : ty σ H fun y H2 => tx σ H2 fun z H3 => dget2K a Q y z H3) : dg2K ty tx σ Q (.ref a) H := ⟨a, rfl, o.isD, q⟩
theorem s_dget {k : Int} (o : OwnD K S H a kvs) (q : ∀ v, Py.rep K S v (dfind kvs k) → Q v H) : dgetK a Q (.int k) H := by
  obtain ⟨ws, h1, h2⟩ := o
  refine ⟨valV ws (.inl k), DGet.k (k := Sum.inl k) h1.at_, q _ ?_⟩
  rcases valV_rel k h2 with ⟨e1, e2⟩ | ⟨v, x, e1, e2, e3⟩
  · rw [e1, e2]; rfl
  · rw [e1, e2]; exact e3
theorem s_dgetF {α : Type} [Flat α] {kvs : List (Int × α)} {k : Int} (o : OwnD K S H a kvs) (q : Q (optV (dfind kvs k)) H) : dgetK a Q (.int k) H := s_dget o fun v r => by
  rw [Flat.is.1 r]; exact q
theorem s_dget2 {k : Int} {z : V} {x : α} (o : OwnD K S H a kvs) (rz : Py.rep K S z x) (q : ∀ v, Py.rep K S v ((dfind kvs k).getD x) → Q v H) : dget2K a Q (.int k) z H := by
  obtain ⟨ws, h1, h2⟩ := o
  refine ⟨valV ws (.inl k), DGet.k (k := Sum.inl k) h1.at_, q _ ?_⟩
  rcases valV_rel k h2 with ⟨e1, e2⟩ | ⟨v, x, e1, e2, e3⟩
  · rw [e1, e2]; exact rz
  · rw [e1, e2]; exact e3
theorem s_dget2F {α : Type} [Flat α] {kvs : List (Int × α)} {k : Int} {x : α} (o : OwnD K S H a kvs) (q : Q (Flat.toV ((dfind kvs k).getD x)) H) : dget2K a Q (.int k) (Flat.toV x) H := s_dget2 o (Flat.is.2 rfl) fun v r => by
  rw [Flat.is.1 r]; exact q
/-- d[k] -/
def ditemK (Q : VK) (x y : V) (H2 : Hp) : Prop := ∃ a v, x = .ref a ∧ DGet H2 a y (some v) ∧ Q v H2
theorem i_ditem (q : td σ H fun x H1 => ty σ H1 fun y H2 => ditemK Q x y H2) : tDGet td ty σ H Q := q
theorem s_ditem {k : Int} {f : α → M γ} (o : OwnD K S H a kvs) (h : wpm (ditem kvs k >>= f) P E) (q : ∀ x v, Py.rep K S v x → wpm (f x) P E → Q v H) : ditemK Q (.ref a) (.int k) H := by
  obtain ⟨ws, h1, h2⟩ := o
  unfold ditem at h
  rcases valV_rel k h2 with ⟨e1, e2⟩ | ⟨v, x, e1, e2, e3⟩
  · rw [e1] at h; exact h.elim
  · rw [e1] at h; exact ⟨a, v, rfl, e2 ▸ DGet.k (k := Sum.inl k) h1.at_, q x v e3 h⟩
theorem s_ditemF {α : Type} [Flat α] {kvs : List (Int × α)} {k : Int} {f : α → M γ} (o : OwnD K S H a kvs) (h : wpm (ditem kvs k >>= f) P E) (q : ∀ x, wpm (f x) P E → Q (Flat.toV x) H) : ditemK Q (.ref a) (.int k) H :=
  s_ditem o h fun x v r h => by rw [Flat.is.1 r]; exact q x h
/-- k in d -/
def dinK (neg : Bool) (Q : VK) (y x : V) (H2 : Hp) : Prop := ∃ a o, x = .ref a ∧ DGet H2 a y o ∧ Q (.bl (if neg then !o.isSome else o.isSome)) H2
theorem i_din (q : ty σ H fun y H1 => td σ H1 fun x H2 => dinK false Q y x H2) : tDIn ty td σ H Q := q
theorem i_dnin (q : ty σ H fun y H1 => td σ H1 fun x H2 => dinK true Q y x H2) : tDNotIn ty td σ H Q := q
theorem dfind_some {k : Int} (h2 : All2 (RelD K S) ws kvs) : (valV ws (.inl k)).isSome = (dfind kvs k).isSome := by
  rcases valV_rel k h2 with ⟨e1, e2⟩ | ⟨v, x, e1, e2, e3⟩
  · rw [e1, e2]; rfl
  · rw [e1, e2]; rfl
theorem s_din {k : Int} (o : OwnD K S H a kvs) (q : Q (.bl (dfind kvs k).isSome) H) : dinK false Q (.int k) (.ref a) H := by
  obtain ⟨ws, h1, h2⟩ := o
  refine ⟨a, valV ws (.inl k), rfl, DGet.k (k := Sum.inl k) h1.at_, ?_⟩
  show Q (.bl (valV ws (.inl k)).isSome) H
  rw [dfind_some h2]; exact q
theorem s_dnin {k : Int} (o : OwnD K S H a kvs) (q : Q (.bl (!(dfind kvs k).isSome)) H) : dinK true Q (.int k) (.ref a) H := by
  obtain ⟨ws, h1, h2⟩ := o
  refine ⟨a, valV ws (.inl k), rfl, DGet.k (k := Sum.inl k) h1.at_, ?_⟩
  show Q (.bl (!(valV ws (.inl k)).isSome)) H
  rw [dfind_some h2]; exact q
/-- d[k] = v -/
def dputK (D : Ends) (σ : St) (v x y : V) (H3 : Hp) : Prop := ∃ a H4, x = .ref a ∧ DPut H3 a y v H4 ∧ D.nx σ H4
theorem i_dput (q : tv σ H fun v H1 => td σ H1 fun x H2 => ty σ H2 fun y H3 => dputK D σ v x y H3) : sDPut td ty tv D σ H := q
theorem s_dput {k : Int} {v : V} {x : α} {f : List (Int × α) → M γ} (g : Gx L S0 H0 S H) (o : OwnD K S H a kvs) (h0 : H0 a = none ∨ a ∈ L) (r : Py.rep K S v x) (h : wpm (pdput kvs k x >>= f) P E)
    (q : ∀ H1, Gx L S0 H0 S H1 → OwnD K S H1 a (dput kvs k x) → (∀ c, c ≠ a → H1 c = H c) → wpm (f (dput kvs k x)) P E → D.nx σ H1) : dputK D σ v (.ref a) (.int k) H := by
  obtain ⟨ws, h1, h2⟩ := o
  obtain ⟨hc, h⟩ := wpm_ite h
  exact ⟨a, _, rfl, DPut.k (k := Sum.inl k) h1.at_ (by rw [h2.len, line_eq]; exact hc), q _ (g.put h1 h0) ⟨_, h1.set, put_rel k r h2⟩ (fun c hc => upd_ne hc) h⟩
/-- {} -/
theorem i_dnew (q : newK Q (.dK []) H) : tDNewK σ H Q := q
theorem s_dnew (g : Gx L S0 H0 S H) (q : ∀ p H1, Gx L S0 H0 S H1 → Gx [] S H S H1 → H p = none → OwnD K S H1 p ([] : List (Int × α)) → Q (.ref p) H1) : newK Q (.dK []) H := fun p hp =>
  q p _ (g.newO hp) ((Gx.refl g.sh).newO hp) hp ⟨[], ⟨upd_same, fresh_back g.sh hp⟩, .nil⟩
end
end G
/-! GSet: len(set(..)), sorted(set(..)) of whole numbers. -/
namespace G
open PySem L2 Evl PySem.Spec PyProof.Rows
def setLine : Nat := 4000
/-- each number once, where it is met first -/
def dedup (ns : List Int) : List Int := ns.foldl step_dedup []
theorem firstMet_dedup (ns : List Int) : firstMet (fun i => ns.getD i 0) ns.length = dedup ns := by
  unfold firstMet dedup
  congr 1
  refine List.ext_getElem (by simp) fun i h1 h2 => ?_
  simp [List.getElem?_eq_getElem h2]
def tLenSetG (K : Fr) (ta : TE) : TE := fun σ H Q => ta σ H fun x H1 => ∃ (l : Addr) (ns : List Int), x = V.ref l ∧ SqL K H1 l (ns.map V.int) ∧ ns.length < setLine ∧ Q (.int (dedup ns).length) H1
theorem pe_lenSetL {X : Cx} {a : PySem.Expr} {ta : TE} {p p2 q pos : Pos} (hc : X.calm = true) (g1 : Gl X "len") (m1 : X.mg "len" = none) (g2 : Gl X "set") (m2 : X.mg "set" = none) (ha : PE X a ta)
    (na : starEach [a] X.env = (false, eval a X.env) :: starEach [] X.env := by rfl) : PE X (.Call (.Name "len" p) [.Call (.Name "set" p2) [a] [] q] [] pos) (tLenSetG X.K ta) := by
  constructor
  intro pins s σ H Q J hq
  refine Call_ (ld_blt J g1 m1 boot_len (callWith_builtin1 (args_cons (Call_ (ld_blt J g2 m2 boot_set (callWith_type1 (args_cons ?_ na) na rfl))) rfl) rfl rfl))
  refine thn (ha.run pins s σ H _ J hq) ?_
  rintro v s1 ⟨x, H1, J1, rx, l, ns, rfl, hl, hz, hQ⟩
  refine args_nil ?_
  cases rx
  obtain ⟨its, rv, pl, _⟩ := J1.list hl
  have es : its.toArray.size = ns.length := by rw [List.size_toArray, ← rv.length, List.length_map]
  refine call_set_list (J1.ok.hd hc) pl.isList (by simpa using rv.ints) (by rw [es]; unfold scanBound setLine at *; omega) ?_
  intro h' tk hS hk
  refine args_nil ?_
  rw [es, firstMet_dedup] at hS
  obtain ⟨o, ee, ep, t, ho, hx, hd, _, _, _, hf, hn⟩ := hS
  have J2 : Inv X pins σ H1 { s1 with heap := h', toks := tk } := J1.kept fun b o e => hk b o (Heap.lt_size e) e
  have hle : (dedup ns).length ≤ ns.length := by
    rw [← firstMet_dedup]; exact firstMet_length_le _ _
  refine call_len_set ho hx hd hf (by rw [hn]; unfold setLine at hz; omega) ?_
  exact ⟨.int (dedup ns).length, H1, J2.tok _, ⟨_, by rw [hn]⟩, hQ⟩
section
variable {γ : Type} {K : Fr} {P : γ → Prop} {E : XC → Prop} {S H S0 H0 : Hp} {L : List Addr} {a : Addr} {ns : List Int} {Q : VK} {σ : St} {ta : TE}
def lenSetK (K : Fr) (Q : VK) (x : V) (H1 : Hp) : Prop := ∃ (l : Addr) (ns : List Int), x = V.ref l ∧ SqL K H1 l (ns.map V.int) ∧ ns.length < setLine ∧ Q (.int (dedup ns).length) H1
theorem i_lenSet (q : ta σ H fun x H1 => lenSetK K Q x H1) : tLenSetG K ta σ H Q := q
theorem s_lenSet {k : Unit → M γ} (r : RepH K S H a ns) (h : wpm (guardM (decide (ns.length < setLine)) >>= k) P E) (q : wpm (k ()) P E → Q (.int ((dedup ns).length : Int)) H) : lenSetK K Q (.ref a) H := by
  obtain ⟨vs, h1, h2⟩ := r
  obtain ⟨hc, h⟩ := wpm_guard h
  have e := reps_flat h2
  subst e
  exact ⟨a, ns, rfl, h1, of_decide_eq_true hc, q h⟩
end
end G
/-! GDat: values of any kind. -/
namespace G
open PySem L2 Evl
def dNone : PyData → Bool
  | .none => true
  | _ => false
def tIs (t T : String) : Bool := t == T || (t == "bool" && T == "int")
def deq (x y : PyData) : M Bool := if (SeqAt.shaped x && SeqAt.shaped y) = true then .ok (PyData.eqv x y) else .stuck
def dlen : PyData → M Int
  | .list xs => .ok xs.length
  | .tuple xs => .ok xs.length
  | _ => .stuck
def didx (d : PyData) (i : Int) : M PyData := match d with
  | .list xs => idx xs i
  | .tuple xs => idx xs i
  | _ => .stuck
def tyD : PyData → String
  | .none => "NoneType"
  | .bool _ => "bool"
  | .int _ => "int"
  | .str _ => "str"
  | .list _ => "list"
  | .tuple _ => "tuple"
  | .dict _ => "dict"
def dIs (T : String) (d : PyData) : Bool := tIs (tyD d) T
theorem dpAll2 {K : Fr} {H : Hp} : ∀ {vs : List V} {ds : List PyData}, DpAll K H vs ds → All2 (Dp K H) vs ds
  | _, _, .nil => .nil
  | _, _, .cons h t => .cons h (dpAll2 t)
section
variable {γ : Type} {K : Fr} {P : γ → Prop} {E : XC → Prop} {S H : Hp} {u v : V} {d e : PyData} {Q : VK} {σ : St}
theorem isN_dat (h : Dp K H v d) : decide (v = .non) = dNone d := by
  cases h <;> simp [dNone]
theorem tyX_of (h : Dp K H v d) : TyX K H v (.type (tyD d)) := by
  cases h with
  | non => exact .base .non
  | bl b => exact .base (.bl b)
  | int i => exact .base (.int i)
  | str x => exact .base (.str x)
  | lst h _ =>
    rcases h with (h | ⟨o, h⟩) | ⟨o, its, n, h1, h2, _⟩
    · exact .base (.lst h)
    · exact .base (.frz h)
    · exact .kList h1 h2
  | tup h _ =>
    rcases h with (h | ⟨o, h⟩) | ⟨o, its, n, h1, h2, _⟩
    · exact .base (.tup h)
    · exact .fTuple h
    · exact .kTuple h1 h2
/-- what isinstance answers of data, for a built-in type -/
structure IsTy (T : String) : Prop where
  none : kitB "NoneType" T = some (tIs "NoneType" T)
  bool : kitB "bool" T = some (tIs "bool" T)
  int : kitB "int" T = some (tIs "int" T)
  str : kitB "str" T = some (tIs "str" T)
  list : kitB "list" T = some (tIs "list" T)
  tuple : kitB "tuple" T = some (tIs "tuple" T)
theorem isTy_bool : IsTy "bool" := ⟨by decide +kernel, by decide +kernel, by decide +kernel, by decide +kernel, by decide +kernel, by decide +kernel⟩
theorem isTy_int : IsTy "int" := ⟨by decide +kernel, by decide +kernel, by decide +kernel, by decide +kernel, by decide +kernel, by decide +kernel⟩
theorem isTy_str : IsTy "str" := ⟨by decide +kernel, by decide +kernel, by decide +kernel, by decide +kernel, by decide +kernel, by decide +kernel⟩
theorem isTy_list : IsTy "list" := ⟨by decide +kernel, by decide +kernel, by decide +kernel, by decide +kernel, by decide +kernel, by decide +kernel⟩
theorem isTy_tuple : IsTy "tuple" := ⟨by decide +kernel, by decide +kernel, by decide +kernel, by decide +kernel, by decide +kernel, by decide +kernel⟩
theorem s_isi {T : String} (t : IsTy T) (ex : Ex S H) (h : Dp K S v d) (q : Q (.bl (dIs T d)) H) : rIsi K [v, .ty T] H Q := by
  have h := Dp.mono ex h
  refine ⟨v, .ty T, .type (tyD d), .type T, dIs T d, rfl, .ty T, tyX_of h, kit_ty ?_, q⟩
  cases h with
  | non => exact t.none
  | bl b => exact t.bool
  | int b => exact t.int
  | str b => exact t.str
  | lst _ _ => exact t.list
  | tup _ _ => exact t.tuple
theorem s_eqDat {k : Bool → M γ} (ex : Ex S H) (h1 : Dp K S u d) (h2 : Dp K S v e) (h : wpm (deq d e >>= k) P E) (q : ∀ b, wpm (k b) P E → Q (.bl b) H) : rEqD K u v H Q := by
  obtain ⟨hc, h⟩ := wpm_ite h
  have hc' : SeqAt.shaped d = true ∧ SeqAt.shaped e = true := by simpa using hc
  exact ⟨d, e, Dp.mono ex h1, Dp.mono ex h2, hc'.1, hc'.2, q _ h⟩
theorem s_neDat {k : Bool → M γ} (ex : Ex S H) (h1 : Dp K S u d) (h2 : Dp K S v e) (h : wpm (deq d e >>= k) P E) (q : ∀ b, wpm (k b) P E → Q (.bl (!b)) H) : rNeD K u v H Q := by
  obtain ⟨hc, h⟩ := wpm_ite h
  have hc' : SeqAt.shaped d = true ∧ SeqAt.shaped e = true := by simpa using hc
  exact ⟨d, e, Dp.mono ex h1, Dp.mono ex h2, hc'.1, hc'.2, q _ h⟩
theorem s_dlen {k : Int → M γ} (ex : Ex S H) (h1 : Dp K S v d) (h : wpm (dlen d >>= k) P E) (q : ∀ n, wpm (k n) P E → Q (.int n) H) : rLenG K [v] H Q := by
  cases Dp.mono ex h1 with
  | non => exact h.elim
  | bl b => exact h.elim
  | int b => exact h.elim
  | str b => exact h.elim
  | lst h2 h3 => exact ⟨_, _, rfl, .inl h2, by rw [(dpAll2 h3).len]; exact q _ h⟩
  | tup h2 h3 => exact ⟨_, _, rfl, .inr h2, by rw [(dpAll2 h3).len]; exact q _ h⟩
theorem s_didx {k : PyData → M γ} {i : Int} (ex : Ex S H) (h1 : Dp K S v d) (h : wpm (didx d i >>= k) P E) (q : ∀ x w, Dp K S w x → wpm (k x) P E → Q w H) : rIx K v (.int i) H Q := by
  cases h1 with
  | non => exact h.elim
  | bl b => exact h.elim
  | int b => exact h.elim
  | str b => exact h.elim
  | lst h2 h3 =>
    obtain ⟨x, hx, h⟩ := wpm_idx h
    obtain ⟨w, hw, rw_⟩ := All2.atI (dpAll2 h3) hx
    exact .inl ⟨_, _, i, w, rfl, rfl, ex_l ex h2, hw, q x w rw_ h⟩
  | tup h2 h3 =>
    obtain ⟨x, hx, h⟩ := wpm_idx h
    obtain ⟨w, hw, rw_⟩ := All2.atI (dpAll2 h3) hx
    exact .inr (.inl ⟨_, _, i, w, rfl, rfl, ex_t ex h2, hw, q x w rw_ h⟩)
end
end G
/-! GK: rules whose reading names the written part, told apart. -/
namespace G
open PySem L2 Evl PySem.Spec PyProof.Rows
section
variable {X : Cx} {K : Fr} {a b e iter tg : PySem.Expr} {ta te tl : TE} {pos p p2 q : Pos}
theorem ix_listK (e : X.K = K := by rfl) : IxR X (rIxL K) := e ▸ ix_list
theorem ix_tupK (e : X.K = K := by rfl) : IxR X (rIxT K) := e ▸ ix_tup
theorem ix_seqK (e : X.K = K := by rfl) : IxR X (rIx K) := e ▸ ix_seq
theorem sl_listK (e : X.K = K := by rfl) : SlR X (rSlL K) := e ▸ sl_list
theorem call_lenK (e : X.K = K := by rfl) : CallR X (.builtin "len") (rLenG K) := e ▸ call_lenG
theorem call_listK (e : X.K = K := by rfl) : CallR X (.type "list") (rListG K) := e ▸ call_listG
theorem op_eqK (hu : X.A.units + 64 < cLine) (e : X.K = K := by rfl) : OpR X (compareOp .Eq) (rEqD K) := e ▸ op_eqD hu
theorem op_neK (hu : X.A.units + 64 < cLine) (e : X.K = K := by rfl) : OpR X (compareOp .NotEq) (rNeD K) := e ▸ op_neD hu
theorem op_inK (e : X.K = K := by rfl) : OpR X (compareOp .In) (rIn K false) := e ▸ op_in_seq
theorem op_notInK (e : X.K = K := by rfl) : OpR X (compareOp .NotIn) (rIn K true) := e ▸ op_notIn_seq
theorem call_isK (e : X.K = K := by rfl) : CallR X (.builtin "isinstance") (rIsi K) := e ▸ call_isi
theorem pi_listK (h : PE X iter tl) (e : X.K = K := by rfl) : PI X tg iter (iList K tl) := e ▸ pi_list h
theorem pi_lenK {wi : TI} (h : PI X tg iter wi) (e : X.K = K := by rfl) : PI X tg iter (iLen K wi) := e ▸ pi_len h
theorem pi_enumK {p pos tpos : Pos} {elts : List PySem.Expr} {kk : Nat} {ta : TA} (hg : Gl X "enumerate") (hm : X.mg "enumerate" = none) (ha : PA X [a] ta) (hs : starEach [a] X.env = [(false, eval a X.env)] := by rfl) (e : X.K = K := by rfl) :
    PI X (.Tuple elts kk tpos) (.Call (.Name "enumerate" p) [a] [] pos) (iEnum K ta) := e ▸ pi_enum hg hm ha hs
theorem pi_zipK {p pos tpos : Pos} {elts : List PySem.Expr} {kk : Nat} {ta : TA} (hg : Gl X "zip") (hm : X.mg "zip" = none) (ha : PA X [a, b] ta) (e : X.K = K := by rfl) (hi : PI X (.Tuple elts kk tpos) (.Call (.Name "zip" p) [a, b] [] pos) (iZip X.K ta) := by exact pi_zip (by assumption) (by assumption) (by assumption)) :
    PI X (.Tuple elts kk tpos) (.Call (.Name "zip" p) [a, b] [] pos) (iZip K ta) := e ▸ hi
theorem pg_tupK {es : List PySem.Expr} {k : Nat} {t : TGs} {n : Nat} (hc : X.calm = true) (h : PGs X es t) (hn : (assignEach es X.env).length = n := by rfl) (hst : (assignEach es X.env).findIdx? (·.1) = none := by rfl) (e : X.K = K := by rfl) :
    PG X (.Tuple es k pos) (gTup K n t) := e ▸ pg_tup hc h hn hst
theorem pe_K {x : PySem.Expr} {T : String} {r : V → List V → Hp → VK → Prop} {to : TE} {t : TA} (h : PE X x (tBM X.K T r to t)) (ek : X.K = K := by rfl) : PE X x (tBM K T r to t) := ek ▸ h
theorem pe_K0 {x : PySem.Expr} {T : String} {r : V → List V → Hp → VK → Prop} {to : TE} (h : PE X x (tBM0 X.K T r to)) (ek : X.K = K := by rfl) : PE X x (tBM0 K T r to) := ek ▸ h
theorem pe_revK {te : TE} {k : Nat} {p1 p2 p3 pos : Pos} (he : PE X e te) (ek : X.K = K := by rfl) : PE X (.Subscript e (.Slice none none (some (.UnaryOp .USub (.Constant (.int 1) k p1) p2)) p3) pos) (tRevL K te) := ek ▸ pe_revL he
theorem pe_lenSetK (hc : X.calm = true) (g1 : Gl X "len") (m1 : X.mg "len" = none) (g2 : Gl X "set") (m2 : X.mg "set" = none) (ha : PE X a ta)
    (na : starEach [a] X.env = (false, eval a X.env) :: starEach [] X.env := by rfl) (e : X.K = K := by rfl) : PE X (.Call (.Name "len" p) [.Call (.Name "set" p2) [a] [] q] [] pos) (tLenSetG K ta) := e ▸ pe_lenSetL hc g1 m1 g2 m2 ha na
end
end G
/-! GEnd: the end of a law. -/
namespace G
open PySem L2 Evl
def xcName : XC → PySem.Str
  | .hue => "HueError" | .tree => "NoTree" | .hues => "NoHues" | .place => "NoPlace" | .part => "NoPart" | .number => "NoNumber" | .leaf => "NoLeaf" | .text => "NoText" | .form => "NoForm" | .yet => "NoneYet"
def caOf (K : Fr) (c : XC) : Addr := He.ga K (xcName c)
theorem fnOk_nox {P : Program} {w : World} {K : Fr} {mg : PySem.Str → Option Value} {base : Heap} {k : Nat} {f : Addr} {fd : FuncData} {ps : List PySem.Str} {sp : Sp} (F : FnOk P w K mg base (L2.CX P w) k f fd ps sp) :
    FnOk P w K mg base CX0 k f fd ps (fun vs H Q _ => sp vs H Q fun _ _ _ => False) where
  len := fun vs H Q _ h => F.len vs H Q _ h
  run := fun A outer s H args us vs Q E hr e0 hb rv h => by
    refine codeAny_mono (F.run A outer s H args us vs Q (fun _ _ _ => False) hr e0 hb rv h) fun r s' hr' => ?_
    cases r with
    | ok fl => cases fl <;> exact hr'
    | error e =>
      obtain ⟨a, B, H', cls, d, _, _, _, _, _, _, _, hf⟩ := hr'
      exact hf.elim
/-- the top's def x, by the head's facts -/
theorem at_of {fa : List He.Fa} {fn : List He.DefD} {K : Fr} {h : Heap} {mg : PySem.Str → Option Value} (X : K.In h) (G : h.Ns mainGlobals mg) (c : He.SaysD fa fn K) (i j : Nat) {x : PySem.Str} {st : PySem.Stmt} {ps : List PySem.Str}
    (hd : fn[i]? = some ⟨(x, none), x, x, defArgs st, defBody st, defScope st, [], []⟩) (hf : fa[j]? = some (.glo x))
    (hb : ∀ (kV doc pm : Value) (an : Option Addr) (cdv ct : Value) (us : List Value), us.length = ps.length → bindArgs (PySem.W.fnOf x x (defArgs st) (defBody st) (defScope st) .none kV doc pm an cdv ct) ⟨us, []⟩ = pure (ps.zip us)) : At K mg x st ps := by
  obtain ⟨fd, F⟩ := c.def_ i hd
  exact ⟨_, fd, He.glo_ok X G (c.fact j hf), F, FunD.bindsN F hb⟩
theorem xc_of {fa : List He.Fa} {fn : List He.DefD} {K : Fr} {h : Heap} {mg : PySem.Str → Option Value} (X : K.In h) (G : h.Ns mainGlobals mg) (c : He.SaysD fa fn K) (i j : Nat) (e : XC) (hi : fa[i]? = some (.exc (xcName e))) (hj : fa[j]? = some (.glo (xcName e))) : XcOk K mg (caOf K) e (xcName e) := by
  obtain ⟨h1, h2, h3, h4⟩ := He.exc_ok (c.fact i hi)
  exact ⟨h1, He.glo_ok X G (c.fact j hj), h2, h3, h4⟩
/-- the law holds where its mirror says True -/
theorem law_end {l : PySem.W.OpenLaw} {n k : Nat} {q : Program} {loose : List PySem.Str} {XP : (PySem.Str → Option Value) → Heap → Prop} {fa : List He.Fa} {fn : List He.DefD} {d : DefRec} {m : List Int → M Bool} {st : PySem.Stmt}
    (hn : l.most = some n) (hn2 : n ≤ sizeLine) (hdf : d.params.defaults = []) (hr : Room k callerA) (hm : ∀ ns : List Int, ns.length ≤ n → m ns = .ok true) (hd : d.name = ("law" : PySem.Str))
    (hb : ∀ (kV doc pm : Value) (an : Option Addr) (cdv ct : Value) (us : List Value), us.length = (["script"] : List PySem.Str).length → bindArgs (PySem.W.fnOf "law" "law" (defArgs st) (defBody st) (defScope st) .none kV doc pm an cdv ct) ⟨us, []⟩ = pure ((["script"] : List PySem.Str).zip us))
    (i j : Nat) (hfi : fn[i]? = some ⟨("law", none), "law", "law", defArgs st, defBody st, defScope st, [], []⟩) (hfj : fa[j]? = some (.glo "law"))
    (F : ∀ (w : World) (K : Fr) (mg : PySem.Str → Option Value) (h : Heap), K.In h → h.Ns mainGlobals mg → He.SaysD fa fn K → ∀ (base : Heap) (f : Addr) (fd : FuncData), FunD K "law" "law" (defArgs st) (defBody st) (defScope st) [] [] f fd →
      FnOk l.prog w K mg base (L2.CX l.prog w) k f fd ["script"] (fun vs H Q E => ∃ (S0 : Hp) (a_script : Addr) (script : List Int), vs = [(V.ref a_script)] ∧ Ex S0 H ∧ RepQ K S0 a_script script ∧ wpm (m script) (fun r => ∀ S' H', Gx [] S0 H S' H' → Q (V.bl (r)) H') (fun c => ∀ S' H', Gx [] S0 H S' H' → E (.ref (caOf K c)) none H'))) :
    PySem.W.WalkO q loose XP (He.hookD 6 fa fn).says l.row.toRowW d [] (fun f vs => PySem.call f vs) := by
  refine L2.walk_ofE (l := l) (n := n) (k := k) (x := "script") (CX := L2.CX0) hn hn2 hdf hr ?_ (fun _ _ _ _ z => z)
  intro w mg fa' h Y G hmg0
  obtain ⟨K, KX, c⟩ := Y
  have hmg : mg ("law" : PySem.Str) = some (.ref fa') := by rw [← hd]; exact hmg0
  obtain ⟨fd, FD⟩ := c.def_ i hfi
  have e := hmg.symm.trans (He.glo_ok KX G (c.fact j hfj))
  cases e
  refine ⟨K, fd, _, KX, fun s u => FunD.bindsA (ps := ["script"]) FD hb s [u] rfl, ?_, fun base KB GB => fnOk_nox (F w K mg h KX G c base _ fd FD)⟩
  intro H a ns hl _ hS
  exact ⟨H, a, ns, rfl, Ex.refl H, ⟨_, hS, flat_reps ns⟩, wpm_of (hm ns hl) fun S' H' _ => rfl⟩
end G
namespace G
open PySem L2 Evl
def m_last_places (row : List Int) : M (List (Option Int)) :=
  forM' (en 0 row) (([] : List (Option Int)), ([] : List (Int × (Int)))) (fun y6 st6 => papp st6.1 (dfind st6.2 y6.2.1) >>= fun _ => pdput st6.2 y6.2.1 y6.1 >>= fun _ => .ok ((st6.1 ++ [(dfind st6.2 y6.2.1)]), (dput st6.2 y6.2.1 y6.1))) >>= fun st6 => .ok st6.1

def m_counted_in (lasts : List (Option Int)) (first : Int) (beyond : Int) : M Int :=
  compM (β := Option Int) (cut lasts (some first) (some beyond)) (fun y1 => (if (y1.isNone) = true then .ok true else (unwrap y1 >>= fun t10 => .ok (decide (t10 < first)))) >>= fun t7 => if t7 = true then (.ok (some y1)) else .ok none) >>= fun t13 => .ok (t13.length : Int)

def m_unlike_in (row : List Int) (stretch : (Int × Int × Unit)) : M Int :=
  if (!(decide (0 ≤ stretch.1) && decide (stretch.1 < stretch.2.1) && decide (stretch.2.1 ≤ (row.length : Int)))) = true then (.err .part) else (m_last_places row >>= fun t8 => m_counted_in t8 stretch.1 stretch.2.1 >>= fun t13 => .ok t13)

def m_law_cell_at (script : List Int) (k : Int) : M Int :=
  if (decide (k < (script.length : Int))) = true then (idx script k >>= fun t2 => .ok t2) else (.ok 0)

def m_law_reel (cell : Int) : M (List Int) :=
  .ok ([(iabs cell), ((((cell % 2147483647) + 1) * 742938285) % 2147483647)] : List Int)

def m_law_take (reel : List Int) (many : Int) : M (Int × List Int) :=
  idx reel 0 >>= fun t1 => if (decide (1000000000000000000 ≤ t1)) = true then (idx reel 0 >>= fun t3 => pmod t3 many >>= fun _ => idx reel 0 >>= fun t4 => pdiv t4 many >>= fun _ => pset reel 0 (t4 / many) >>= fun t5 => .ok ((t3 % many), t5)) else (idx reel 1 >>= fun t7 => pset reel 1 (((t7 * 48271) + 11) % 2147483647) >>= fun t8 => idx t8 1 >>= fun t10 => idx t8 1 >>= fun t11 => pmul t10 t11 >>= fun _ => pmod (((((t10 * t11) % 2147483629) * 69621) % 2147483587) / 8) many >>= fun _ => .ok (((((((t10 * t11) % 2147483629) * 69621) % 2147483587) / 8) % many), t8))

def m_law_alike : Nat → PyData → PyData → M Bool
  | 0 => fun _ _ => .stuck
  | fuel + 1 => fun found due => if (dNone due) = true then (.ok (dNone found)) else (if (dIs "bool" due) = true then ((if (dIs "bool" found) = true then (deq found due >>= fun t8 => .ok t8) else .ok false) >>= fun t5 => .ok t5) else (if (dIs "int" due) = true then ((if (dIs "int" found) = true then ((if (!(dIs "bool" found)) = true then (deq found due >>= fun t20 => .ok t20) else .ok false) >>= fun t17 => .ok t17) else .ok false) >>= fun t12 => .ok t12) else (if (dIs "str" due) = true then ((if (dIs "str" found) = true then (deq found due >>= fun t27 => .ok t27) else .ok false) >>= fun t24 => .ok t24) else ((if (dIs "tuple" due) = true then (if (!(dIs "tuple" found)) = true then (.ok (.inl false)) else (.ok (.inr ()))) else (if (!(dIs "list" found)) = true then (.ok (.inl false)) else (.ok (.inr ()))) : M (Bool ⊕ (Unit))) >>= fun z28 => kR z28 fun st28 => dlen found >>= fun t32 => dlen due >>= fun t33 => if (!decide (t32 = t33)) = true then (.ok false) else (dlen due >>= fun t36 => prng 0 t36 >>= fun _ => forR (ρ := Bool) (rng 0 t36) () (fun y35 st35 => didx found y35 >>= fun t37 => didx due y35 >>= fun t40 => m_law_alike fuel t37 t40 >>= fun t43 => if (!t43) = true then (.ok (.inl false)) else (.ok (.inr ()))) >>= fun z35 => kR z35 fun st35 => .ok true)))))

def m_law_row (reel : List Int) (most : Int) : M (List Int × List Int) :=
  m_law_take reel (most + 1) >>= fun t1 => m_law_take t1.2 5 >>= fun t4 => m_law_take t4.2 3 >>= fun t10 => idx ([t1.1, most, t4.1] : List Int) t10.1 >>= fun t13 => m_law_take t10.2 5 >>= fun t17 => idx ([1, 2, 5, (t13 + 1), 1000] : List Int) t17.1 >>= fun t20 => m_law_take t17.2 5 >>= fun t21 => prng 0 t13 >>= fun _ => forM' (rng 0 t13) (t21.2, ([] : List (Int))) (fun y27 st27 => m_law_take st27.1 t20 >>= fun t28 => pmul (t28.1 - 1) 100000000000000000000000000 >>= fun _ => pmod y27 t20 >>= fun _ => idx ([t28.1, (t28.1 - (t20 / 2)), (((t28.1 - 1) * 100000000000000000000000000) + t28.1), y27, (y27 % t20)] : List Int) t21.1 >>= fun t34 => papp st27.2 t34 >>= fun _ => .ok (t28.2, (st27.2 ++ [t34]))) >>= fun st27 => .ok (st27.2, st27.1)

def m_law (script : List Int) : M Bool :=
  pcat (cut script none (some 5)) ([(script.length : Int)] : List Int) >>= fun _ => forR (ρ := Bool) (en 0 ((cut script none (some 5)) ++ ([(script.length : Int)] : List Int))) () (fun y1 st1 => m_law_reel y1.2.1 >>= fun t19 => (if (decide (y1.1 = 0)) = true then (m_law_take t19 8 >>= fun t31 => .ok ((decide (t31.1 = 0)), t31.2)) else .ok (false, t19)) >>= fun u35 => idx ([60, 200] : List Int) (bint u35.1) >>= fun t36 => m_law_row u35.2 t36 >>= fun t37 => forM' (en 0 t37.1) ([] : List (Option Int)) (fun y45 st45 => prng 0 y45.1 >>= fun _ => guardM (decide ((rng 0 y45.1).length ≤ line)) >>= fun _ => compM (β := Int) (rng 0 y45.1) (fun y53 => idx t37.1 y53 >>= fun t54 => if (decide (t54 = y45.2.1)) = true then (.ok (some y53)) else .ok none) >>= fun t56 => pcat ([(none : Option Int)] : List (Option Int)) (t56.map some) >>= fun _ => idx (([(none : Option Int)] : List (Option Int)) ++ (t56.map some)) (-1) >>= fun t67 => papp st45 t67 >>= fun _ => .ok (st45 ++ [t67])) >>= fun st45 => prng 0 2 >>= fun _ => forR (ρ := Bool) (rng 0 2) () (fun y72 st72 => m_last_places t37.1 >>= fun t73 => m_law_alike 4 (PyD.toD (α := List (Option Int)) t73) (PyD.toD (α := List (Option Int)) st45) >>= fun t83 => if ((!t83) || (!decide (t37.1 = t37.1))) = true then (.ok (.inl false)) else (papp t73 (some 0) >>= fun _ => .ok (.inr ()))) >>= fun z72 => kRR z72 fun st72 => prng 0 (6 * (bint (!decide (t37.1 = ([] : List Int))))) >>= fun _ => forR (ρ := Bool) (rng 0 (6 * (bint (!decide (t37.1 = ([] : List Int)))))) t37.2 (fun y88 st88 => m_law_take st88 (t37.1.length : Int) >>= fun t92 => m_law_take t92.2 ((t37.1.length : Int) - t92.1) >>= fun t95 => forR (ρ := Bool) ([(t92.1, ((t92.1 + 1) + t95.1), ()), (0, (t37.1.length : Int), ()), (t92.1, (t92.1 + 1), ())] : List (Int × Int × Unit)) () (fun y98 st98 => guardM (decide ((cut t37.1 (some y98.1) (some y98.2.1)).length < setLine)) >>= fun _ => m_unlike_in t37.1 y98 >>= fun t129 => m_law_alike 4 (PyD.toD (α := Int) t129) (PyD.toD (α := Int) ((dedup (cut t37.1 (some y98.1) (some y98.2.1))).length : Int)) >>= fun t132 => if ((!t132) || (!decide (t37.1 = t37.1))) = true then (.ok (.inl false)) else (.ok (.inr ()))) >>= fun z98 => kRR z98 fun st98 => .ok (.inr t95.2)) >>= fun z88 => kRR z88 fun st88 => .ok (.inr ())) >>= fun z1 => kR z1 fun st1 => .ok true

end G
/-! PLib: what mirrors give, in plain Lean. -/
namespace G
open PySem L2
section
variable {α β γ τ ρ : Type} {P : α → Prop} {E : XC → Prop}
theorem w_guard {b : Bool} {Q : Unit → Prop} (h : b = true) (q : Q ()) : wpm (guardM b) Q E := by subst h; exact q
theorem w_ite {c : Prop} [Decidable c] {a : α} (h : c) (q : P a) : wpm (if c then M.ok a else .stuck) P E := by rw [if_pos h]; exact q
theorem w_pmod {x y : Int} {Q : Int → Prop} (h : 0 < y) (q : Q (x % y)) : wpm (pmod x y) Q E := w_ite h q
theorem w_pdiv {x y : Int} {Q : Int → Prop} (h : 0 < y ∧ y < 1073741824) (q : Q (x / y)) : wpm (pdiv x y) Q E := by unfold pdiv; exact w_ite h q
theorem w_pmul {x y : Int} {Q : Int → Prop} (h : (-(2 ^ 64) < x ∧ x < 2 ^ 64) ∨ (-(2 ^ 64) < y ∧ y < 2 ^ 64)) (q : Q (x * y)) : wpm (pmul x y) Q E := by unfold pmul; exact w_ite h q
theorem w_pshr {x y : Int} {Q : Int → Prop} (h : 0 ≤ y) (q : Q (x / 2 ^ y.toNat)) : wpm (pshr x y) Q E := w_ite h q
theorem w_pcat {xs ys : List α} {Q : List α → Prop} (h : xs.length + ys.length ≤ line) (q : Q (xs ++ ys)) : wpm (pcat xs ys) Q E := w_ite h q
theorem w_papp {xs : List α} {x : α} {Q : List α → Prop} (h : xs.length < line) (q : Q (xs ++ [x])) : wpm (papp xs x) Q E := w_ite h q
theorem w_prng {a b : Int} {Q : List Int → Prop} (h : -(2 ^ 62) ≤ a ∧ a < 2 ^ 62 ∧ -(2 ^ 62) ≤ b ∧ b < 2 ^ 62) (q : Q (rng a b)) : wpm (prng a b) Q E := by unfold prng; exact w_ite h q
theorem w_pdput {kvs : List (Int × α)} {k : Int} {v : α} {Q : List (Int × α) → Prop} (h : kvs.length < line) (q : Q (dput kvs k v)) : wpm (pdput kvs k v) Q E := w_ite h q
theorem w_idx {xs : List α} {i : Int} {x : α} (h : atI xs i = some x) (q : P x) : wpm (idx xs i) P E := by unfold idx; rw [h]; exact q
theorem w_idxN {xs : List α} {i : Nat} {x : α} (h : xs[i]? = some x) (q : P x) : wpm (idx xs (i : Int)) P E := w_idx (atI_nat h) q
theorem w_unwrap {o : Option α} {x : α} (h : o = some x) (q : P x) : wpm (unwrap o) P E := by subst h; exact q
theorem w_ok {a : α} (q : P a) : wpm (M.ok a) P E := q
/-- a loop, by what holds behind the items gone through -/
theorem w_for {xs : List α} {s0 : τ} {f : α → τ → M τ} {Q : τ → Prop} (I : List α → τ → Prop) (h0 : I [] s0)
    (hs : ∀ pre x post s, xs = pre ++ x :: post → I pre s → wpm (f x s) (I (pre ++ [x])) E) (hd : ∀ s, I xs s → Q s) : wpm (forM' xs s0 f) Q E := by
  suffices H : ∀ post pre s, xs = pre ++ post → I pre s → wpm (forM' post s f) Q E from H xs [] s0 rfl h0
  intro post
  induction post with
  | nil => intro pre s e h; rw [List.append_nil] at e; subst e; exact hd s h
  | cons x post ih =>
    intro pre s e h
    exact bw (wpm_imp (hs pre x post s e h) fun s' h' => ih (pre ++ [x]) s' (by rw [e]; simp) h')
theorem w_forR {xs : List α} {s0 : τ} {f : α → τ → M (ρ ⊕ τ)} {Q : ρ ⊕ τ → Prop} (I : List α → τ → Prop) (h0 : I [] s0)
    (hs : ∀ pre x post s, xs = pre ++ x :: post → I pre s → wpm (f x s) (fun z => match z with
      | .inl r => Q (.inl r)
      | .inr s' => I (pre ++ [x]) s') E) (hd : ∀ s, I xs s → Q (.inr s)) : wpm (forR xs s0 f) Q E := by
  suffices H : ∀ post pre s, xs = pre ++ post → I pre s → wpm (forR post s f) Q E from H xs [] s0 rfl h0
  intro post
  induction post with
  | nil => intro pre s e h; rw [List.append_nil] at e; subst e; exact hd s h
  | cons x post ih =>
    intro pre s e h
    refine bw (wpm_imp (hs pre x post s e h) fun z hz => ?_)
    cases z with
    | inl r => exact hz
    | inr s' => exact ih (pre ++ [x]) s' (by rw [e]; simp) hz
/-- a loop over a, a + 1, .. below b -/
theorem rng_nil {a b : Int} (h : b ≤ a) : rng a b = [] := by
  unfold rng
  rw [show (b - a).toNat = 0 by omega]; rfl
theorem rng_succ {a b : Int} (h : a < b) : rng a b = a :: rng (a + 1) b := by
  unfold rng
  rw [show (b - a).toNat = (b - (a + 1)).toNat + 1 by omega, List.range_succ_eq_map, List.map_cons, List.map_map]
  congr 1
  · simp
  · refine List.map_congr_left fun k _ => ?_
    show a + ((k + 1 : Nat) : Int) = a + 1 + (k : Int)
    omega
theorem mem_rng {a b k : Int} : k ∈ rng a b ↔ a ≤ k ∧ k < b := by
  unfold rng
  rw [List.mem_map]
  constructor
  · rintro ⟨i, hi, rfl⟩
    rw [List.mem_range] at hi
    omega
  · rintro ⟨h1, h2⟩
    exact ⟨(k - a).toNat, by rw [List.mem_range]; omega, by omega⟩
theorem w_forRng {a b : Int} {s0 : τ} {f : Int → τ → M τ} {Q : τ → Prop} (I : Int → τ → Prop) (hab : a ≤ b) (h0 : I a s0)
    (hs : ∀ k s, a ≤ k → k < b → I k s → wpm (f k s) (I (k + 1)) E) (hd : ∀ s, I b s → Q s) : wpm (forM' (rng a b) s0 f) Q E := by
  obtain ⟨n, hn⟩ : ∃ n : Nat, b - a = n := ⟨(b - a).toNat, by omega⟩
  induction n generalizing a s0 with
  | zero =>
    have : a = b := by omega
    subst this
    rw [rng_nil (Int.le_refl _)]
    exact hd s0 h0
  | succ n ih =>
    rw [rng_succ (by omega)]
    exact bw (wpm_imp (hs a s0 (Int.le_refl _) (by omega) h0) fun s' h' => ih (by omega) h' (fun k s h1 h2 h3 => hs k s (by omega) h2 h3) (by omega))
theorem w_forRRng {a b : Int} {s0 : τ} {f : Int → τ → M (ρ ⊕ τ)} {Q : ρ ⊕ τ → Prop} (I : Int → τ → Prop) (hab : a ≤ b) (h0 : I a s0)
    (hs : ∀ k s, a ≤ k → k < b → I k s → wpm (f k s) (fun z => match z with
      | .inl r => Q (.inl r)
      | .inr s' => I (k + 1) s') E) (hd : ∀ s, I b s → Q (.inr s)) : wpm (forR (rng a b) s0 f) Q E := by
  obtain ⟨n, hn⟩ : ∃ n : Nat, b - a = n := ⟨(b - a).toNat, by omega⟩
  induction n generalizing a s0 with
  | zero =>
    have : a = b := by omega
    subst this
    rw [rng_nil (Int.le_refl _)]
    exact hd s0 h0
  | succ n ih =>
    rw [rng_succ (by omega)]
    refine bw (wpm_imp (hs a s0 (Int.le_refl _) (by omega) h0) fun z hz => ?_)
    cases z with
    | inl r => exact hz
    | inr s' => exact ih (by omega) hz (fun k s h1 h2 h3 => hs k s (by omega) h2 h3) (by omega)
/-- a comprehension whose turns are known -/
theorem compM_eq {xs : List α} {f : α → M (Option β)} {g : α → Option β} (h : ∀ x ∈ xs, f x = .ok (g x)) : compM xs f = .ok (xs.filterMap g) := by
  induction xs with
  | nil => rfl
  | cons x xs ih =>
    have h1 := h x List.mem_cons_self
    have h2 := ih fun y hy => h y (List.mem_cons_of_mem _ hy)
    unfold compM
    rw [h1, ok_bind, h2]
    cases e : g x with
    | none => simp [e]
    | some y => simp [e]
theorem w_comp {xs : List α} {f : α → M (Option β)} {g : α → Option β} {Q : List β → Prop} (h : ∀ x ∈ xs, f x = .ok (g x)) (q : Q (xs.filterMap g)) : wpm (compM xs f) Q E := wpm_of (compM_eq h) q
/-- .. of which something is known -/
theorem w_compP {xs : List α} {f : α → M (Option β)} {Q : List β → Prop} (R : α → Option β → Prop) (h : ∀ x ∈ xs, wpm (f x) (R x) E) (q : ∀ os : List (Option β), All2 R xs os → Q (os.filterMap id)) : wpm (compM xs f) Q E := by
  induction xs generalizing Q with
  | nil => exact q [] .nil
  | cons x xs ih =>
    unfold compM
    refine bw (wpm_imp (h x List.mem_cons_self) fun o ho => ?_)
    cases o with
    | none => exact ih (fun y hy => h y (List.mem_cons_of_mem _ hy)) fun os hos => q (none :: os) (.cons ho hos)
    | some y => exact bw (ih (fun y hy => h y (List.mem_cons_of_mem _ hy)) fun os hos => q (some y :: os) (.cons ho hos))
end
theorem atI_some {α : Type} {xs : List α} {i : Int} (h0 : 0 ≤ i) (h1 : i < xs.length) : atI xs i = some xs[i.toNat] := by
  unfold L2.atI ixN
  rw [if_pos h0, if_pos h1]
  show xs[i.toNat]? = _
  exact List.getElem?_eq_getElem (by omega)
theorem en_eq {α : Type} (j : Int) (xs : List α) : ∀ y ∈ en j xs, j ≤ y.1 ∧ y.1 < j + xs.length ∧ xs[(y.1 - j).toNat]? = some y.2.1 := by
  intro y hy
  obtain ⟨i, hi⟩ := List.getElem?_of_mem hy
  obtain ⟨x, h1, h2⟩ := en_get j xs i y hi
  subst h2
  have := (List.getElem?_eq_some_iff.mp h1).1
  refine ⟨by simp; omega, by simp; omega, ?_⟩
  simp only
  rw [show (j + (i : Int) - j).toNat = i by omega]
  exact h1
end G
namespace G
open PySem L2
section
variable {α : Type}
theorem dfind_nil (k : Int) : dfind ([] : List (Int × α)) k = none := rfl
theorem dfind_cons (p : Int × α) (r : List (Int × α)) (k : Int) : dfind (p :: r) k = if p.1 = k then some p.2 else dfind r k := by
  unfold dfind
  by_cases h : p.1 = k <;> simp [h]
theorem dfind_snoc (r : List (Int × α)) (k j : Int) (v : α) (h : dfind r k = none) : dfind (r ++ [(k, v)]) j = if j = k then some v else dfind r j := by
  induction r with
  | nil =>
    rw [List.nil_append, dfind_cons]
    by_cases e : j = k
    · subst e; simp
    · rw [if_neg (fun z => e z.symm), if_neg e]
  | cons p r ih =>
    rw [dfind_cons] at h
    rw [List.cons_append, dfind_cons, dfind_cons]
    by_cases e : p.1 = k
    · rw [if_pos e] at h; cases h
    · rw [if_neg e] at h
      rw [ih h]
      by_cases e2 : p.1 = j
      · rw [if_pos e2, if_pos e2, if_neg (fun z => e (e2.trans z))]
      · rw [if_neg e2, if_neg e2]
theorem dfind_map (r : List (Int × α)) (k j : Int) (v : α) : dfind (r.map fun p => if p.1 = k then (p.1, v) else p) j = if j = k then (dfind r j).map (fun _ => v) else dfind r j := by
  induction r with
  | nil => by_cases e : j = k <;> simp [e, dfind_nil]
  | cons p r ih =>
    rw [List.map_cons, dfind_cons, dfind_cons, ih]
    by_cases e : p.1 = k
    · rw [if_pos e]
      by_cases e2 : p.1 = j
      · simp [e2, e2.symm.trans e]
      · simp [e2]
    · rw [if_neg e]
      by_cases e2 : p.1 = j
      · have : ¬ j = k := fun z => e (e2.trans z)
        rw [if_pos e2, if_neg this, if_pos e2]
      · rw [if_neg e2, if_neg e2]
theorem any_dfind (r : List (Int × α)) (k : Int) : (r.any fun p => decide (p.1 = k)) = (dfind r k).isSome := by
  induction r with
  | nil => rfl
  | cons p r ih =>
    rw [List.any_cons, dfind_cons, ih]
    by_cases e : p.1 = k <;> simp [e]
theorem dfind_dput (r : List (Int × α)) (k j : Int) (v : α) : dfind (dput r k v) j = if j = k then some v else dfind r j := by
  unfold dput
  rw [any_dfind]
  cases h : dfind r k with
  | none => rw [if_neg (by simp)]; exact dfind_snoc r k j v h
  | some x =>
    rw [if_pos (show (some x).isSome = true from rfl), dfind_map]
    by_cases e : j = k
    · subst e; rw [if_pos rfl, if_pos rfl, h]; rfl
    · rw [if_neg e, if_neg e]
theorem length_dput (r : List (Int × α)) (k : Int) (v : α) : (dput r k v).length ≤ r.length + 1 := by
  unfold dput; split <;> simp
theorem snoc_ind {P : List α → Prop} (h0 : P []) (h1 : ∀ xs x, P xs → P (xs ++ [x])) (xs : List α) : P xs := by
  have H : ∀ n (xs : List α), xs.length = n → P xs := by
    intro n
    induction n with
    | zero => intro xs h; rw [List.length_eq_zero_iff.mp h]; exact h0
    | succ n ih =>
      intro xs h
      have hne : xs ≠ [] := fun z => by rw [z] at h; cases h
      rw [← List.dropLast_concat_getLast hne]
      exact h1 _ _ (ih _ (by rw [List.length_dropLast, h]; rfl))
  exact H _ xs rfl
theorem cut_nat (xs : List α) (f b : Nat) : cut xs (some (f : Int)) (some (b : Int)) = (xs.drop (min f xs.length)).take (min b xs.length - min f xs.length) := by
  unfold cut; rw [HT.sIx_nat, HT.sIx_nat]
theorem cut_in (xs : List α) {f b : Nat} (h1 : f ≤ b) (h2 : b ≤ xs.length) : cut xs (some (f : Int)) (some (b : Int)) = (xs.drop f).take (b - f) := by
  rw [cut_nat, Nat.min_eq_left h2, Nat.min_eq_left (Nat.le_trans h1 h2)]
theorem cut_to (xs : List α) (b : Nat) : cut xs none (some (b : Int)) = xs.take b := by
  unfold cut
  rw [HT.sIx_nat, HT.sIx_none, List.drop_zero, Nat.sub_zero]
  by_cases h : b ≤ xs.length
  · rw [Nat.min_eq_left h]
  · rw [Nat.min_eq_right (by omega), List.take_length, List.take_of_length_le (by omega)]
end
end G
/-! the reel -/
namespace G
open PySem L2
def ReelOk (r : List Int) : Prop := ∃ a b : Int, r = [a, b] ∧ 0 ≤ b ∧ b < 2147483647
theorem w_reel {E : XC → Prop} {Q : List Int → Prop} (cell : Int) (q : ∀ r, ReelOk r → Q r) : wpm (m_law_reel cell) Q E :=
  q _ ⟨_, _, rfl, by omega, by omega⟩
theorem w_take {E : XC → Prop} {Q : Int × List Int → Prop} {r : List Int} {many : Int} (h : ReelOk r) (h0 : 0 < many) (h1 : many < 1073741824)
    (q : ∀ x r', 0 ≤ x → x < many → ReelOk r' → Q (x, r')) : wpm (m_law_take r many) Q E := by
  obtain ⟨a, b, rfl, hb0, hb1⟩ := h
  unfold m_law_take
  refine bw (w_idx (x := a) rfl ?_)
  by_cases c : decide (1000000000000000000 ≤ a) = true
  · rw [if_pos c]
    refine bw (w_idx (x := a) rfl (bw (w_pmod h0 (bw (w_idx (x := a) rfl (bw (w_pdiv ⟨h0, h1⟩ ?_)))))))
    exact q _ _ (Int.emod_nonneg _ (by omega)) (Int.emod_lt_of_pos _ h0) ⟨_, _, rfl, hb0, hb1⟩
  · rw [if_neg c]
    refine bw (w_idx (x := b) rfl ?_)
    generalize hv : (b * 48271 + 11) % 2147483647 = v
    have hv0 : 0 ≤ v := by omega
    have hv1 : v < 2147483647 := by omega
    show wpm (pset [a, b] 1 v >>= _) _ _
    refine bw (m := M.ok [a, v]) ?_
    refine bw (w_idx (x := v) rfl (bw (w_idx (x := v) rfl (bw (w_pmul (.inl ⟨by omega, by omega⟩) (bw (w_pmod h0 ?_)))))))
    exact q _ _ (Int.emod_nonneg _ (by omega)) (Int.emod_lt_of_pos _ h0) ⟨_, _, rfl, hv0, hv1⟩
end G
namespace G
open PySem L2
/-! ### alike: the same data are -/
/-- data that the law's own look goes through: no texts, no dicts -/
inductive Plain : Nat → PyData → Prop
  | none {n : Nat} : Plain (n + 1) .none
  | bool {n : Nat} (b : Bool) : Plain (n + 1) (.bool b)
  | int {n : Nat} (i : Int) : Plain (n + 1) (.int i)
  | list {n : Nat} {xs : List PyData} (hl : xs.length ≤ 1000000) (h : ∀ x ∈ xs, Plain n x) : Plain (n + 1) (.list xs)
  | tuple {n : Nat} {xs : List PyData} (hl : xs.length ≤ 1000000) (h : ∀ x ∈ xs, Plain n x) : Plain (n + 1) (.tuple xs)
theorem tIs_bool_bool : tIs "bool" "bool" = true := by decide +kernel
theorem tIs_int_bool : tIs "int" "bool" = false := by decide +kernel
theorem tIs_int_int : tIs "int" "int" = true := by decide +kernel
theorem tIs_list_bool : tIs "list" "bool" = false := by decide +kernel
theorem tIs_list_int : tIs "list" "int" = false := by decide +kernel
theorem tIs_list_str : tIs "list" "str" = false := by decide +kernel
theorem tIs_list_tuple : tIs "list" "tuple" = false := by decide +kernel
theorem tIs_list_list : tIs "list" "list" = true := by decide +kernel
theorem tIs_tuple_bool : tIs "tuple" "bool" = false := by decide +kernel
theorem tIs_tuple_int : tIs "tuple" "int" = false := by decide +kernel
theorem tIs_tuple_str : tIs "tuple" "str" = false := by decide +kernel
theorem tIs_tuple_tuple : tIs "tuple" "tuple" = true := by decide +kernel
theorem small_prng {k : Int} (h0 : 0 ≤ k) (h1 : k ≤ 1000000) : -(2 ^ 62) ≤ (0 : Int) ∧ (0 : Int) < 2 ^ 62 ∧ -(2 ^ 62) ≤ k ∧ k < 2 ^ 62 := by
  have : (2 : Int) ^ 62 = 4611686018427387904 := by decide +kernel
  rw [this]; omega
theorem alike_items {n : Nat} {xs : List PyData} {k : Int} (hk : k = xs.length) (hl : xs.length ≤ 1000000) (ih : ∀ x ∈ xs, m_law_alike n x x = .ok true) (d : PyData) (hx : ∀ i : Int, didx d i = idx xs i) :
    (prng 0 k >>= fun _ => forR (ρ := Bool) (rng 0 k) () (fun y35 st35 => didx d y35 >>= fun t37 => didx d y35 >>= fun t40 => m_law_alike n t37 t40 >>= fun t43 => if (!t43) = true then (.ok (.inl false)) else (.ok (.inr ()))) >>= fun z35 => kR z35 fun st35 => (.ok true : M Bool)) = .ok true := by
  simp only [hx]
  have H : wpm (prng 0 k >>= fun _ => forR (ρ := Bool) (rng 0 k) () (fun y35 st35 => idx xs y35 >>= fun t37 => idx xs y35 >>= fun t40 => m_law_alike n t37 t40 >>= fun t43 => if (!t43) = true then (.ok (.inl false)) else (.ok (.inr ()))) >>= fun z35 => kR z35 fun st35 => (.ok true : M Bool)) (fun b => b = true) (fun _ => False) := by
    refine bw (w_prng (small_prng (by omega) (by omega)) (bw (w_forRRng (I := fun _ _ => True) (by omega) trivial ?_ (fun _ _ => rfl))))
    intro k' s h1 h2 _
    have h3 := atI_some (xs := xs) h1 (hk ▸ h2)
    refine bw (w_idx h3 (bw (w_idx h3 ?_)))
    rw [ih _ (List.getElem_mem _)]
    trivial
  obtain ⟨a, e1, e2⟩ := ok_of H
  rw [e1, e2]
theorem kR_go {ρ τ : Type} (s : τ) (k : τ → M ρ) : kR (.inr s) k = k s := rfl
theorem kRR_go {ρ τ υ : Type} (s : τ) (k : τ → M (ρ ⊕ υ)) : kRR (.inr s) k = k s := rfl
theorem alike_none (n : Nat) : m_law_alike (n + 1) .none .none = .ok true := by
  unfold m_law_alike; simp only [dNone, if_true]
theorem alike_bool (n : Nat) (b : Bool) : m_law_alike (n + 1) (.bool b) (.bool b) = .ok true := by
  unfold m_law_alike
  have e : deq (.bool b) (.bool b) = .ok true := by cases b <;> rfl
  simp only [dNone, dIs, tyD, tIs_bool_bool, if_true, Bool.false_eq_true, if_false, e, ok_bind]
theorem alike_int (n : Nat) (i : Int) : m_law_alike (n + 1) (.int i) (.int i) = .ok true := by
  unfold m_law_alike
  have e : deq (.int i) (.int i) = .ok true := by
    have : PyData.eqv (.int i) (.int i) = true := by show (i == i) = true; simp
    show M.ok (PyData.eqv (.int i) (.int i)) = _
    rw [this]
  simp only [dNone, dIs, tyD, tIs_int_bool, tIs_int_int, Bool.not_false, if_true, Bool.false_eq_true, if_false, e, ok_bind]
theorem alike_listK {n : Nat} {xs : List PyData} (k : Int) (hk : dlen (.list xs) = .ok k) (hk2 : k = xs.length) (hl : xs.length ≤ 1000000) (ih : ∀ x ∈ xs, m_law_alike n x x = .ok true) : m_law_alike (n + 1) (.list xs) (.list xs) = .ok true := by
  have H := alike_items hk2 hl ih (.list xs) (fun i => rfl)
  unfold m_law_alike
  simp only [dNone, dIs, tyD, tIs_list_bool, tIs_list_int, tIs_list_str, tIs_list_tuple, tIs_list_list, Bool.not_true, if_true, Bool.false_eq_true, if_false]
  rw [ok_bind, kR_go, hk, ok_bind, ok_bind, if_neg (by simp), ok_bind]
  exact H
theorem alike_list {n : Nat} {xs : List PyData} (hl : xs.length ≤ 1000000) (ih : ∀ x ∈ xs, m_law_alike n x x = .ok true) : m_law_alike (n + 1) (.list xs) (.list xs) = .ok true := alike_listK _ rfl rfl hl ih
theorem alike_tupleK {n : Nat} {xs : List PyData} (k : Int) (hk : dlen (.tuple xs) = .ok k) (hk2 : k = xs.length) (hl : xs.length ≤ 1000000) (ih : ∀ x ∈ xs, m_law_alike n x x = .ok true) : m_law_alike (n + 1) (.tuple xs) (.tuple xs) = .ok true := by
  have H := alike_items hk2 hl ih (.tuple xs) (fun i => rfl)
  unfold m_law_alike
  simp only [dNone, dIs, tyD, tIs_tuple_bool, tIs_tuple_int, tIs_tuple_str, tIs_tuple_tuple, Bool.not_true, if_true, Bool.false_eq_true, if_false]
  rw [ok_bind, kR_go, hk, ok_bind, ok_bind, if_neg (by simp), ok_bind]
  exact H
theorem alike_tuple {n : Nat} {xs : List PyData} (hl : xs.length ≤ 1000000) (ih : ∀ x ∈ xs, m_law_alike n x x = .ok true) : m_law_alike (n + 1) (.tuple xs) (.tuple xs) = .ok true := alike_tupleK _ rfl rfl hl ih
theorem alike_refl {n : Nat} {d : PyData} (h : Plain n d) : m_law_alike n d d = .ok true := by
  induction h with
  | none => exact alike_none _
  | bool b => exact alike_bool _ b
  | int i => exact alike_int _ i
  | list hl _ ih => exact alike_list hl ih
  | tuple hl _ ih => exact alike_tuple hl ih
theorem plain_int {n : Nat} (i : Int) : Plain (n + 1) (PyD.toD i) := .int i
theorem plain_opt {n : Nat} (o : Option Int) : Plain (n + 1) (PyD.toD o) := by cases o <;> constructor
theorem plain_list {α : Type} [PyD α] {n : Nat} {xs : List α} (hl : xs.length ≤ 1000000) (h : ∀ x : α, Plain n (PyD.toD x)) : Plain (n + 1) (PyD.toD xs) := by
  refine .list (by simpa using hl) fun d hd => ?_
  obtain ⟨x, _, rfl⟩ := List.mem_map.mp hd
  exact h x
end G
namespace G
open PySem L2
/-! ### last places -/
def lastIdx (row : List Int) : Nat → Int → Option Int
  | 0, _ => none
  | i + 1, h => if row[i]? = some h then some (i : Int) else lastIdx row i h
def lastsOf (row : List Int) : List (Option Int) := (List.range row.length).map fun i => lastIdx row i (row.getD i 0)
theorem getD_of {row : List Int} {i : Nat} {x : Int} (h : row[i]? = some x) : row.getD i 0 = x := by
  rw [List.getD_eq_getElem?_getD, h]; rfl
theorem last_places_eq (row : List Int) (hl : row.length ≤ 1000) : m_last_places row = .ok (lastsOf row) := by
  have H : wpm (m_last_places row) (fun r => r = lastsOf row) (fun _ => False) := by
    unfold m_last_places
    refine bw (w_for (I := fun pre st => st.1 = (List.range pre.length).map (fun i => lastIdx row i (row.getD i 0)) ∧ st.2.length ≤ pre.length ∧ ∀ h, dfind st.2 h = lastIdx row pre.length h) ⟨rfl, Nat.le_refl _, fun h => rfl⟩ ?_ ?_)
    · intro pre y post st e ⟨h1, h2, h3⟩
      have hlen : pre.length < row.length := by
        have := congrArg List.length e
        rw [en_len, List.length_append, List.length_cons] at this
        omega
      have hy : (en 0 row)[pre.length]? = some y := by rw [e]; simp
      obtain ⟨x, hx, rfl⟩ := en_get 0 row _ _ hy
      refine bw (w_papp (by rw [h1]; simp [line]; omega) (bw (w_pdput (by unfold line; omega) ⟨?_, ?_, fun h => ?_⟩)))
      · simp only [List.length_append, List.length_cons, List.length_nil, Nat.zero_add, List.range_succ, List.map_append, List.map_cons, List.map_nil, h1, h3, getD_of hx]
      · have := length_dput st.2 x ((0 : Int) + (pre.length : Int))
        simp only [List.length_append, List.length_cons, List.length_nil]
        omega
      · simp only [List.length_append, List.length_cons, List.length_nil, Nat.zero_add, dfind_dput, h3, lastIdx, hx, Int.zero_add]
        by_cases e : h = x
        · subst e; simp
        · have : ¬ some x = some h := fun z => e (Option.some.inj z).symm
          rw [if_neg e, if_neg this]
    · intro st ⟨h1, _, _⟩
      rw [en_len] at h1
      exact h1
  obtain ⟨a, h1, h2⟩ := ok_of H
  rw [h1, h2]
theorem ahead_last (row : List Int) (h : Int) : ∀ n : Nat, ((none : Option Int) :: ((List.range n).filterMap fun (j : Nat) => if row[j]? = some h then some (j : Int) else none).map some).getLast? = some (lastIdx row n h)
  | 0 => rfl
  | n + 1 => by
    have ih := ahead_last row h n
    rw [List.range_succ, List.filterMap_append, List.map_append, ← List.cons_append, List.getLast?_append]
    unfold lastIdx
    by_cases e : row[n]? = some h
    · simp [e]
    · simp only [List.filterMap_cons, List.filterMap_nil, if_neg e, List.map_nil, List.getLast?_nil, Option.none_or]
      exact ih
/-! ### unlike hues in a stretch -/
theorem any_mem (l : List Int) (k : Int) : (l.any (· == k)) = decide (k ∈ l) := by
  induction l with
  | nil => rfl
  | cons x l ih =>
    rw [List.any_cons, ih]
    by_cases e : x = k
    · subst e; simp
    · have : ¬ k = x := fun z => e z.symm
      simp [e, this]
theorem mem_step (σ : List Int) (v k : Int) : k ∈ PyProof.Rows.step_dedup σ v ↔ k ∈ σ ∨ k = v := by
  have := PyProof.Rows.step_any σ v k
  rw [any_mem, any_mem, ← Bool.decide_or] at this
  exact (decide_eq_decide.mp this)
theorem step_len (σ : List Int) (v : Int) : (PyProof.Rows.step_dedup σ v).length = if v ∈ σ then σ.length else σ.length + 1 := by
  rw [PyProof.Rows.step_length, any_mem]
  by_cases h : v ∈ σ <;> simp [h]
theorem dedup_snoc (ns : List Int) (x : Int) : dedup (ns ++ [x]) = PyProof.Rows.step_dedup (dedup ns) x := by
  unfold dedup; rw [List.foldl_append]; rfl
theorem mem_dedup (ns : List Int) (k : Int) : k ∈ dedup ns ↔ k ∈ ns := by
  refine snoc_ind (P := fun ns => k ∈ dedup ns ↔ k ∈ ns) Iff.rfl (fun ns x ih => ?_) ns
  rw [dedup_snoc, mem_step, ih, List.mem_append, List.mem_singleton]
/-- a last place ahead of i, from f on: the hue stands there -/
theorem lastIdx_lt (row : List Int) (h : Int) : ∀ n j, lastIdx row n h = some j → 0 ≤ j ∧ j < n ∧ row[j.toNat]? = some h
  | 0, j, e => by cases e
  | n + 1, j, e => by
    unfold lastIdx at e
    by_cases c : row[n]? = some h
    · rw [if_pos c] at e
      cases e
      exact ⟨by omega, by omega, by simpa using c⟩
    · rw [if_neg c] at e
      have := lastIdx_lt row h n j e
      exact ⟨this.1, by omega, this.2.2⟩
theorem lastIdx_no (row : List Int) (h : Int) (f : Nat) : ∀ n, (∀ j, lastIdx row n h = some j → j < f) ↔ ∀ i, f ≤ i → i < n → row[i]? ≠ some h
  | 0 => ⟨fun _ i _ h => by omega, fun _ j e => by cases e⟩
  | n + 1 => by
    have ih := lastIdx_no row h f n
    unfold lastIdx
    by_cases c : row[n]? = some h
    · rw [if_pos c]
      constructor
      · intro H i h1 h2
        have := H n rfl
        omega
      · intro H j e
        cases e
        have := H n
        by_cases q : f ≤ n
        · exact absurd c (this q (by omega))
        · omega
    · rw [if_neg c]
      constructor
      · intro H i h1 h2
        by_cases q : i = n
        · subst q; exact c
        · exact ih.1 H i h1 (by omega)
      · intro H
        exact ih.2 fun i h1 h2 => H i h1 (by omega)
/-- new in the stretch from f on -/
def isNew (row : List Int) (f : Nat) (o : Option Int) : Bool := match o with
  | none => true
  | some j => decide (j < f)
theorem isNew_iff (row : List Int) (f n : Nat) (h : Int) : isNew row f (lastIdx row n h) = true ↔ ∀ i, f ≤ i → i < n → row[i]? ≠ some h := by
  rw [← lastIdx_no]
  cases e : lastIdx row n h with
  | none => simp [isNew]
  | some j => simp [isNew]
theorem count_new (row : List Int) (f : Nat) : ∀ n, f + n ≤ row.length → (((List.range' f n).map fun i => lastIdx row i (row.getD i 0)).filter (isNew row f)).length = (dedup ((row.drop f).take n)).length
  | 0, _ => by simp [dedup]
  | n + 1, h => by
    have ih := count_new row f n (by omega)
    have hlt : f + n < row.length := by omega
    have hx : row[f + n]? = some row[f + n] := List.getElem?_eq_getElem hlt
    rw [List.range'_concat, List.map_append, List.filter_append, List.length_append, ih]
    have et : (row.drop f).take (n + 1) = (row.drop f).take n ++ [row[f + n]] := by
      rw [List.take_add_one, List.getElem?_drop, hx]; rfl
    rw [et, dedup_snoc, step_len]
    have hm : row[f + n] ∈ dedup ((row.drop f).take n) ↔ ¬ isNew row f (lastIdx row (f + n) row[f + n]) = true := by
      rw [mem_dedup, isNew_iff]
      constructor
      · intro hm H
        obtain ⟨i, hi, e⟩ := List.getElem_of_mem hm
        rw [List.length_take, List.length_drop] at hi
        refine H (f + i) (by omega) (by omega) ?_
        rw [← e, List.getElem_take, List.getElem_drop]
        exact List.getElem?_eq_getElem (by omega)
      · intro H
        by_cases q : row[f + n] ∈ (row.drop f).take n
        · exact q
        · exfalso
          apply H
          intro i h1 h2 e
          apply q
          have : i < row.length := by omega
          rw [List.getElem?_eq_getElem this] at e
          have e' := Option.some.inj e
          rw [List.mem_iff_getElem]
          refine ⟨i - f, by rw [List.length_take, List.length_drop]; omega, ?_⟩
          rw [List.getElem_take, List.getElem_drop]
          rw [← e']
          congr 1
          omega
    simp only [Nat.one_mul, List.map_cons, List.map_nil, getD_of hx]
    by_cases q : isNew row f (lastIdx row (f + n) row[f + n]) = true
    · rw [List.filter_cons, if_pos q, if_neg (fun z => hm.1 z q)]; rfl
    · rw [List.filter_cons, if_neg q, if_pos (hm.2 q)]; rfl
theorem counted_eq (row : List Int) {f b : Nat} (h1 : f ≤ b) (h2 : b ≤ row.length) : m_counted_in (lastsOf row) (f : Int) (b : Int) = .ok ((dedup (cut row (some (f : Int)) (some (b : Int)))).length : Int) := by
  unfold m_counted_in
  rw [compM_eq (g := fun o => if isNew row f o = true then some o else none)]
  · rw [ok_bind, cut_in row h1 h2]
    have hl : (lastsOf row).length = row.length := by simp [lastsOf]
    rw [cut_in _ h1 (by rw [hl]; exact h2)]
    have e : ((lastsOf row).drop f).take (b - f) = (List.range' f (b - f)).map fun i => lastIdx row i (row.getD i 0) := by
      unfold lastsOf
      rw [← List.map_drop, ← List.map_take]
      congr 1
      refine List.ext_getElem (by simp; omega) fun i i1 i2 => by simp
    rw [e, ← count_new row f (b - f) (by omega)]
    congr 2
    generalize (List.range' f (b - f)).map (fun i => lastIdx row i (row.getD i 0)) = os
    induction os with
    | nil => rfl
    | cons o os ih =>
      by_cases q : isNew row f o = true
      · simp [q, ih]
      · simp [q, ih]
  · intro o _
    cases o with
    | none => rfl
    | some j =>
      show (M.ok (decide (j < (f : Int))) >>= _) = _
      rw [ok_bind]
      show (if decide (j < (f : Int)) = true then _ else _) = M.ok (if decide (j < (f : Int)) = true then _ else _)
      split <;> rfl
theorem unlike_eq (row : List Int) (hl : row.length ≤ 1000) {f b : Nat} (h1 : f < b) (h2 : b ≤ row.length) : m_unlike_in row ((f : Int), (b : Int), ()) = .ok ((dedup (cut row (some (f : Int)) (some (b : Int)))).length : Int) := by
  unfold m_unlike_in
  rw [if_neg]
  · rw [last_places_eq row hl, ok_bind, counted_eq row (by omega) h2, ok_bind]
  · simp; omega
end G
namespace G
open PySem L2
section
variable {α : Type} {P : α → Prop} {E : XC → Prop}
theorem w_idxAll {xs : List α} {i : Int} (h0 : 0 ≤ i) (h1 : i < xs.length) (h : ∀ x ∈ xs, P x) : wpm (idx xs i) P E := w_idx (atI_some h0 h1) (h _ (List.getElem_mem _))
end
theorem w_row {E : XC → Prop} {Q : List Int × List Int → Prop} {r : List Int} {most : Int} (hr : ReelOk r) (h0 : 4 ≤ most) (h1 : most ≤ 200)
    (q : ∀ row r', row.length ≤ 200 → ReelOk r' → Q (row, r')) : wpm (m_law_row r most) Q E := by
  unfold m_law_row
  refine bw (w_take hr (by omega) (by omega) fun x1 r1 a1 b1 hr => ?_)
  refine bw (w_take hr (by omega) (by omega) fun x2 r2 a2 b2 hr => ?_)
  refine bw (w_take hr (by omega) (by omega) fun x3 r3 a3 b3 hr => ?_)
  refine bw (wpm_imp (P := fun x => 0 ≤ x ∧ x ≤ most) (w_idxAll a3 (by simpa using b3) ?_) fun n hn => ?_)
  · intro x hx
    simp only [List.mem_cons, List.not_mem_nil, or_false] at hx
    omega
  refine bw (w_take hr (by omega) (by omega) fun x4 r4 a4 b4 hr => ?_)
  refine bw (wpm_imp (P := fun x => 1 ≤ x ∧ x ≤ 1000) (w_idxAll a4 (by simpa using b4) ?_) fun hue hh => ?_)
  · intro x hx
    simp only [List.mem_cons, List.not_mem_nil, or_false] at hx
    omega
  refine bw (w_take hr (by omega) (by omega) fun x5 r5 a5 b5 hr => ?_)
  refine bw (w_prng (small_prng (by omega) (by omega)) (bw (w_forRng (I := fun k s => ReelOk s.1 ∧ (s.2.length : Int) = k) (by omega) ⟨hr, rfl⟩ ?_ ?_)))
  · intro k s k0 k1 hs
    refine bw (w_take hs.1 (by omega) (by omega) fun x6 r6 a6 b6 hr6 => ?_)
    refine bw (w_pmul (.inl ⟨?_, ?_⟩) (bw (w_pmod (by omega) (bw (w_idxAll a5 (by simpa using b5) ?_)))))
    · have : (2 : Int) ^ 64 = 18446744073709551616 := by decide +kernel
      rw [this]; show _ < x6 - 1; omega
    · have : (2 : Int) ^ 64 = 18446744073709551616 := by decide +kernel
      rw [this]; show x6 - 1 < _; omega
    · intro x _
      refine bw (w_papp ?_ ⟨hr6, ?_⟩)
      · have := hs.2; unfold line; omega
      · have := hs.2
        simp only [List.length_append, List.length_cons, List.length_nil]
        omega
  · intro s hs
    refine q _ _ ?_ hs.1
    have := hs.2
    omega
end G
namespace G
open PySem L2
theorem lastsOf_len (row : List Int) : (lastsOf row).length = row.length := by simp [lastsOf]
theorem atI_last {α : Type} {xs : List α} {x : α} (h : xs.getLast? = some x) : atI xs (-1) = some x := by
  have hne : xs ≠ [] := fun z => by rw [z] at h; cases h
  have hl : 0 < xs.length := List.length_pos_iff.mpr hne
  unfold L2.atI ixN
  rw [if_neg (by omega), if_pos (by omega)]
  rw [List.getLast?_eq_getElem?] at h
  show xs[((xs.length : Int) + -1).toNat]? = _
  rw [show ((xs.length : Int) + -1).toNat = xs.length - 1 by omega]
  exact h
/-- the due, as the law counts it -/
theorem due_eq (row : List Int) (hl : row.length ≤ 200) :
    (forM' (en 0 row) ([] : List (Option Int)) (fun y45 st45 => prng 0 y45.1 >>= fun _ => guardM (decide ((rng 0 y45.1).length ≤ line)) >>= fun _ => compM (β := Int) (rng 0 y45.1) (fun y53 => idx row y53 >>= fun t54 => if (decide (t54 = y45.2.1)) = true then (.ok (some y53)) else .ok none) >>= fun t56 => pcat ([(none : Option Int)] : List (Option Int)) (t56.map some) >>= fun _ => idx (([(none : Option Int)] : List (Option Int)) ++ (t56.map some)) (-1) >>= fun t67 => papp st45 t67 >>= fun _ => .ok (st45 ++ [t67]))) = .ok (lastsOf row) := by
  have H : wpm (forM' (en 0 row) ([] : List (Option Int)) (fun y45 st45 => prng 0 y45.1 >>= fun _ => guardM (decide ((rng 0 y45.1).length ≤ line)) >>= fun _ => compM (β := Int) (rng 0 y45.1) (fun y53 => idx row y53 >>= fun t54 => if (decide (t54 = y45.2.1)) = true then (.ok (some y53)) else .ok none) >>= fun t56 => pcat ([(none : Option Int)] : List (Option Int)) (t56.map some) >>= fun _ => idx (([(none : Option Int)] : List (Option Int)) ++ (t56.map some)) (-1) >>= fun t67 => papp st45 t67 >>= fun _ => .ok (st45 ++ [t67]))) (fun r => r = lastsOf row) (fun _ => False) := by
    refine w_for (I := fun pre st => st = (List.range pre.length).map (fun i => lastIdx row i (row.getD i 0))) rfl ?_ ?_
    · intro pre y post st e h1
      have hlen : pre.length < row.length := by
        have := congrArg List.length e
        rw [en_len, List.length_append, List.length_cons] at this
        omega
      have hy : (en 0 row)[pre.length]? = some y := by rw [e]; simp
      obtain ⟨x, hx, rfl⟩ := en_get 0 row _ _ hy
      generalize hn : pre.length = n at *
      simp only [Int.zero_add]
      have er : rng 0 (n : Int) = (List.range n).map fun (k : Nat) => (k : Int) := by
        unfold rng; simp
      have el : (rng 0 (n : Int)).length = n := by rw [er]; simp
      refine bw (w_prng (small_prng (by omega) (by omega)) (bw (w_guard (by rw [el]; unfold line; simp; omega) ?_)))
      refine bw (w_comp (g := fun k => if row[k.toNat]? = some x then some k else none) ?_ ?_)
      · intro k hk
        have hk' := mem_rng.mp hk
        have ha := atI_some (xs := row) hk'.1 (by omega)
        have hb : row[k.toNat]? = some row[k.toNat] := List.getElem?_eq_getElem (by omega)
        unfold idx
        rw [ha, ok_bind, hb]
        by_cases q : row[k.toNat] = x
        · simp [q]
        · have : ¬ some row[k.toNat] = some x := fun z => q (Option.some.inj z)
          rw [if_neg this, if_neg (by simpa using q)]
      · have ef : (rng 0 (n : Int)).filterMap (fun k => if row[k.toNat]? = some x then some k else none) = (List.range n).filterMap fun (j : Nat) => if row[j]? = some x then some (j : Int) else none := by
          rw [er, List.filterMap_map]; rfl
        rw [ef]
        have hll : ((List.range n).filterMap fun (j : Nat) => if row[j]? = some x then some (j : Int) else none).length ≤ n := by
          have := List.length_filterMap_le (fun (j : Nat) => if row[j]? = some x then some (j : Int) else none) (List.range n)
          rw [List.length_range] at this
          exact this
        refine bw (w_pcat (by simp only [List.length_map, List.length_cons, List.length_nil]; unfold line; omega) ?_)
        refine bw (w_idx (x := lastIdx row n x) (atI_last (ahead_last row x n)) ?_)
        refine bw (w_papp (by rw [h1]; simp [line]; omega) ?_)
        show _ = _
        simp only [List.length_append, List.length_cons, List.length_nil, Nat.zero_add, hn, List.range_succ, List.map_append, List.map_cons, List.map_nil, h1, getD_of hx]
    · intro st h1
      rw [en_len] at h1
      exact h1
  obtain ⟨a, h1, h2⟩ := ok_of H
  rw [h1, h2]
theorem law_true (ns : List Int) (hns : ns.length ≤ 63) : m_law ns = .ok true := by
  have H : wpm (m_law ns) (fun b => b = true) (fun _ => False) := by
    unfold m_law
    have hcut : (cut ns none (some 5)).length ≤ 5 := by
      have := cut_to ns 5
      rw [show ((5 : Nat) : Int) = 5 from rfl] at this
      rw [this, List.length_take]; omega
    refine bw (w_pcat (by simp only [List.length_cons, List.length_nil]; unfold line; omega) ?_)
    refine bw (w_forR (I := fun _ _ => True) trivial ?_ (fun _ _ => rfl))
    intro pre y post st _ _
    refine bw (w_reel _ fun r0 hr0 => ?_)
    refine bw (wpm_imp (P := fun u : Bool × List Int => ReelOk u.2) ?_ fun u hu => ?_)
    · by_cases c : decide (y.1 = 0) = true
      · rw [if_pos c]
        exact bw (w_take hr0 (by omega) (by omega) fun x r' _ _ hr => hr)
      · rw [if_neg c]; exact hr0
    refine bw (wpm_imp (P := fun k : Int => k = 60 ∨ k = 200) ?_ fun most hm => ?_)
    · cases u.1
      · exact w_idx (x := 60) rfl (.inl rfl)
      · exact w_idx (x := 200) rfl (.inr rfl)
    refine bw (w_row hu (by omega) (by omega) fun row r1 hrow hr1 => ?_)
    simp only
    rw [due_eq row hrow, ok_bind]
    have hlast := last_places_eq row (by omega)
    have hal : m_law_alike 4 (PyD.toD (α := List (Option Int)) (lastsOf row)) (PyD.toD (α := List (Option Int)) (lastsOf row)) = .ok true :=
      alike_refl (plain_list (by rw [lastsOf_len]; omega) fun o => plain_opt o)
    refine bw (w_prng (small_prng (by omega) (by omega)) (bw (w_forRRng (I := fun _ _ => True) (by omega) trivial ?_ ?_)))
    · intro k s _ _ _
      rw [hlast, ok_bind, hal, ok_bind]
      rw [if_neg (by simp)]
      exact bw (w_papp (by rw [lastsOf_len]; unfold line; omega) trivial)
    intro s _
    by_cases hne : row = []
    · subst hne
      have e0 : (6 * bint (!decide (([] : List Int) = []))) = 0 := rfl
      rw [kRR_go, e0]
      refine bw (w_prng (small_prng (by omega) (by omega)) ?_)
      rw [rng_nil (Int.le_refl 0)]
      trivial
    have hpos : 0 < row.length := List.length_pos_iff.mpr hne
    have e0 : (6 * bint (!decide (row = ([] : List Int)))) = 6 := by
      rw [decide_eq_false hne]; rfl
    rw [kRR_go, e0]
    refine bw (w_prng (small_prng (by omega) (by omega)) (bw (w_forRRng (I := fun _ s => ReelOk s) (by omega) hr1 ?_ ?_)))
    · intro k s _ _ hs
      refine bw (w_take hs (by omega) (by omega) fun x1 r2 a1 b1 hr2 => ?_)
      refine bw (w_take hr2 (by omega) (by omega) fun x2 r3 a2 b2 hr3 => ?_)
      refine bw (w_forR (I := fun _ _ => True) trivial ?_ ?_)
      · intro pre y post st e _
        have hy : y ∈ ([(x1, ((x1 + 1) + x2), ()), (0, (row.length : Int), ()), (x1, (x1 + 1), ())] : List (Int × Int × Unit)) := by
          rw [e]; simp
        have hfb : ∃ f b : Nat, y = ((f : Int), (b : Int), ()) ∧ f < b ∧ b ≤ row.length := by
          simp only [List.mem_cons, List.not_mem_nil, or_false] at hy
          rcases hy with rfl | rfl | rfl
          · exact ⟨x1.toNat, (x1 + 1 + x2).toNat, by rw [Int.toNat_of_nonneg a1, Int.toNat_of_nonneg (by omega)], by omega, by omega⟩
          · exact ⟨0, row.length, rfl, hpos, Nat.le_refl _⟩
          · exact ⟨x1.toNat, (x1 + 1).toNat, by rw [Int.toNat_of_nonneg a1, Int.toNat_of_nonneg (by omega)], by omega, by omega⟩
        obtain ⟨f, b, rfl, h1, h2⟩ := hfb
        simp only
        have hcl : (cut row (some (f : Int)) (some (b : Int))).length ≤ 200 := by
          rw [cut_in row (by omega) h2, List.length_take, List.length_drop]; omega
        refine bw (w_guard (by simp only [decide_eq_true_eq]; unfold setLine; omega) ?_)
        rw [unlike_eq row (by omega) h1 h2, ok_bind]
        rw [alike_refl (plain_int _), ok_bind, if_neg (by simp)]
        trivial
      · intro s _
        exact hr3
    · intro s _
      trivial
  obtain ⟨a, h1, h2⟩ := ok_of H
  rw [h1, h2]
end G
namespace G
open PySem L2 Evl
def topS (i : Nat) : PySem.Stmt := PySem.Challenge.pw_huesbelow_k08_last_places.main.body.getD i (.Pass ⟨0, 0, 0, 0⟩)
abbrev slast_places : PySem.Stmt := topS 4
theorem sclast_places : FnScope ["row", "last", "found", "number", "hue"] ["row"] (defScope slast_places) := ⟨rfl, rfl, rfl, by decide +kernel, rfl, by decide +kernel, by decide +kernel⟩

def splast_places (K : Fr) (ca : XC → Addr) : Sp := fun vs H Q E => ∃ (S0 : Hp) (a_row : Addr) (row : List Int), vs = [(V.ref a_row)] ∧ Ex S0 H ∧ RepL K S0 a_row row ∧ wpm (m_last_places row) (fun r => ∀ p S' H', Gx [] S0 H S' H' → H p = none → OwnL K S' H' p r → Q (.ref p) H') (fun c => ∀ S' H', Gx [] S0 H S' H' → E (.ref (ca c)) none H')

theorem oklast_places {P : Program} {w : World} {K : Fr} {mg : PySem.Str → Option Value} {base : Heap} {ca : XC → Addr} (A0 : At K mg "last_places" slast_places ["row"]) (n_enumerate : mg "enumerate" = none) : Dfn P w K mg base "last_places" 1 ["row"] (splast_places K ca) := by
  refine Dfn.mk' A0 fun f fd F => F.ok (CX := L2.CX P w) sclast_places (fun vs H Q E h => ?_) (fun cdv A outer s H vs Q E hr h => ?_)
  · obtain ⟨S0, a_row, row, rfl, e0, r_row, h⟩ := h
    rfl
  · obtain ⟨S0, a_row, row, rfl, e0, r_row, h⟩ := h
    unfold m_last_places at h
    have g : Gx [] S0 H S0 H := Gx.refl e0
    refine ⟨_, pss_cons (ps_set (i := 1) sclast_places.nd rfl (by first | exact Or.inl rfl | exact Or.inr rfl) pe_dnewK) (pss_cons (ps_set (i := 2) sclast_places.nd rfl (by first | exact Or.inl rfl | exact Or.inr rfl) (pe_lst pa_nil)) (pss_cons (ps_for (passes_of rfl) rfl (pi_enumK (K := K) (by rfl) n_enumerate (pa_cons (pv 0) pa_nil)) (pg_tupK (K := K) rfl (pgs_cons (pg_name (i := 3) sclast_places.nd rfl (by first | exact Or.inl rfl | exact Or.inr rfl)) (pgs_cons (pg_name (i := 4) sclast_places.nd rfl (by first | exact Or.inl rfl | exact Or.inr rfl)) pgs_nil))) (pss_cons (ps_expr (pe_K (K := K) (pe_bm PySem.F.plainAttrs_list PySem.F.slot_list_append PySem.F.type_list_append mt_append (pv 2) (pa_cons (pe_dget1 (hu_of hr) (pv 1) (pv 4) ⟨rfl, rfl, rfl, rfl⟩) pa_nil)))) (pss_one (ps_dput (hu_of hr) (pv 1) (pv 4) (pv 3) rfl)))) (pss_one (ps_ret (pv 2))))), ?_⟩
    refine i_start (σ := [some (V.ref a_row), none, none, none, none]) rfl ?_
    refine i_seq ?_
    refine i_asg ?_
    refine i_dnew ?_
    refine s_dnew (α := (Int)) (K := K) g (fun p1 H2 gA gs hp_p1 o_p1 => ?_)
    have f0_p1 := Gx.back g hp_p1
    replace r_row := RepL.mono gs.s r_row
    replace g := gA
    refine i_nameE (σ' := [_, some (V.ref p1), _, _, _]) rfl ?_
    refine nx_seq ?_
    refine i_seq ?_
    refine i_asg ?_
    refine i_lst ?_
    refine i_nil ?_
    refine s_lstO (K := K) (xs := ([] : List (Option Int))) g All2.nil (show (0 : Nat) ≤ 16777216 by decide) (fun p3 H5 gA gs hp_p3 o_p3 => ?_)
    have ne_p1_p3 := OwnD.ne o_p1 hp_p3
    have f0_p3 := Gx.back g hp_p3
    replace r_row := RepL.mono gs.s r_row
    replace o_p1 := OwnD.keep0 o_p1 gs
    replace g := gA
    refine i_nameE (σ' := [_, _, some (V.ref p3), _, _]) rfl ?_
    refine nx_seq ?_
    refine i_seq ?_
    refine i_for ?_
    refine i_enum (i_cons ?_)
    refine i_var rfl ?_
    refine i_nil ?_
    refine i_enumA (r_row.hp g.sh) ?_
    have hm6 : ∀ x ∈ [p3, p1], x ∈ [] ∨ H x = none := by
      intro x hx
      simp only [List.mem_cons, List.not_mem_nil, or_false] at hx
      rcases hx with rfl | rfl
      · exact (Or.symm (.inl f0_p3))
      · exact (Or.symm (.inl f0_p1))
    have wk6 : Wk K (Ite K a_row) (en 0 row) (fun (st6 : (List (Option Int)) × (List (Int × (Int)))) σ' S' H' => ∃ (j_number : Option V) (j_hue : Option V), σ' = [some (V.ref a_row), some (V.ref p1), some (V.ref p3), j_number, j_hue] ∧ Gx [p3, p1] S0 H5 S' H' ∧ OwnL K S' H' p3 st6.1 ∧ OwnD K S' H' p1 st6.2) := by
      refine wk_enum fun st σ2 S2 H2 hR => ?_
      obtain ⟨j_number, j_hue, rfl, gl6, o_p3, o_p1⟩ := hR
      exact ⟨gl6.sh, (RepL.hp (RepL.mono gl6.s r_row) gl6.sh)⟩
    refine s_forM (R := (fun (st6 : (List (Option Int)) × (List (Int × (Int)))) σ' S' H' => ∃ (j_number : Option V) (j_hue : Option V), σ' = [some (V.ref a_row), some (V.ref p1), some (V.ref p3), j_number, j_hue] ∧ Gx [p3, p1] S0 H5 S' H' ∧ OwnL K S' H' p3 st6.1 ∧ OwnD K S' H' p1 st6.2)) wk6 ⟨_, _, rfl, (Gx.refl g.sh), o_p3, o_p1⟩ h (fun y6 v6 st6 σ1 S6a H6a S6b H6b P6 hR gs rv h => ?_) (fun st6 σ1 S6j H6j hR h => ?_)
    · obtain ⟨j_number, j_hue, rfl, gl6, o_p3, o_p1⟩ := hR
      replace r_row := RepL.mono gl6.s r_row
      replace r_row := RepL.mono gs.s r_row
      replace o_p1 := OwnD.keep0 o_p1 gs
      replace o_p3 := OwnL.keep0 o_p3 gs
      replace gl6 := gl6.trans0 gs
      have r7 := rv
      obtain ⟨a8, rfl⟩ := rep_ref r7
      obtain ⟨_, hs9, _, _, rfl, rfl, _, _, rfl, rfl, rfl⟩ := rep_at r7
      refine i_gtup (ex_t gl6.sh hs9) rfl ?_
      refine i_gcons ?_
      refine i_nameE (σ' := [_, _, _, some (V.int (y6.1)), _]) rfl ?_
      refine i_gcons ?_
      refine i_nameE (σ' := [_, _, _, _, some (V.int (y6.2.1))]) rfl ?_
      refine i_gnil ?_
      refine i_seq ?_
      refine i_drop ?_
      refine i_bm ?_
      refine i_var rfl ?_
      refine s_bmL o_p3.hp ?_
      refine i_cons ?_
      refine i_dget1 ?_
      refine i_var rfl ?_
      refine s_dg1 o_p1 ?_
      refine i_var rfl ?_
      refine s_dgetF o_p1 ?_
      refine i_nil ?_
      refine s_app (x := (dfind st6.2 y6.2.1)) gl6 o_p3 (.inr (by simp)) (Flat.is.2 rfl) h (fun H14 gA oA heq h => ?_)
      replace gl6 := gA
      replace o_p3 := oA
      replace o_p1 := o_p1.other ne_p1_p3 heq
      refine nx_seq ?_
      refine i_dput ?_
      refine i_var rfl ?_
      refine i_var rfl ?_
      refine i_var rfl ?_
      refine s_dput (x := y6.1) gl6 o_p1 (.inr (by simp)) rfl h (fun H15 gA oA heq h => ?_)
      replace gl6 := gA
      replace o_p1 := oA
      replace o_p3 := o_p3.other (Ne.symm ne_p1_p3) heq
      exact ⟨_, _, h, _, _, rfl, gl6, o_p3, o_p1⟩
    obtain ⟨j_number, j_hue, rfl, gl6, o_p3, o_p1⟩ := hR
    replace r_row := RepL.mono gl6.s r_row
    replace g := g.trans gl6 hm6
    refine nx_seq ?_
    refine i_ret ?_
    refine i_var rfl ?_
    exact h _ _ _ g f0_p3 o_p3

abbrev scounted_in : PySem.Stmt := topS 6
theorem sccounted_in : FnScope ["lasts", "first", "beyond", "last"] ["lasts", "first", "beyond"] (defScope scounted_in) := ⟨rfl, rfl, rfl, by decide +kernel, rfl, by decide +kernel, by decide +kernel⟩

def spcounted_in (K : Fr) (ca : XC → Addr) : Sp := fun vs H Q E => ∃ (S0 : Hp) (a_lasts : Addr) (lasts : List (Option Int)) (first : Int) (beyond : Int), vs = [(V.ref a_lasts), (V.int (first)), (V.int (beyond))] ∧ Ex S0 H ∧ RepL K S0 a_lasts lasts ∧ wpm (m_counted_in lasts first beyond) (fun r => ∀ S' H', Gx [] S0 H S' H' → Q (V.int (r)) H') (fun c => ∀ S' H', Gx [] S0 H S' H' → E (.ref (ca c)) none H')

theorem okcounted_in {P : Program} {w : World} {K : Fr} {mg : PySem.Str → Option Value} {base : Heap} {ca : XC → Addr} (A0 : At K mg "counted_in" scounted_in ["lasts", "first", "beyond"]) (n_len : mg "len" = none) : Dfn P w K mg base "counted_in" 1 ["lasts", "first", "beyond"] (spcounted_in K ca) := by
  refine Dfn.mk' A0 fun f fd F => F.ok (CX := L2.CX P w) sccounted_in (fun vs H Q E h => ?_) (fun cdv A outer s H vs Q E hr h => ?_)
  · obtain ⟨S0, a_lasts, lasts, first, beyond, rfl, e0, r_lasts, h⟩ := h
    rfl
  · obtain ⟨S0, a_lasts, lasts, first, beyond, rfl, e0, r_lasts, h⟩ := h
    unfold m_counted_in at h
    have g : Gx [] S0 H S0 H := Gx.refl e0
    refine ⟨_, pss_one (ps_ret (pe_callB (call_lenK (K := K)) (by rfl) n_len (by decide +kernel) (pa_cons (pe_lc (own := [("last", 3)]) (by rfl) sccounted_in.nd (pi_lenK (K := K) (pi_listK (K := K) (pe_slice (sl_listK (K := K)) (pv 0) (po_some (pv 1)) (po_some (pv 2))))) (blkOk_by (own := [("last", 3)]) (N := ["lasts", "first", "beyond", "last"]) (sc := defScope scounted_in) (by decide +kernel)) (fun _ _ _ _ _ => (pg_name (i := 3) sccounted_in.nd rfl (by first | exact Or.inl rfl | exact Or.inr rfl))) (fun _ _ _ _ _ => pts_one (PW.pt (pw_or (pt_cmpR op_isNG (pv 3) pe_non (nomark _)) (pw_or1 (pt_cmpR op_lt (pv 3) (pv 1) (nomark _)))))) (fun _ _ _ _ _ => (pv 3))) pa_nil))), ?_⟩
    refine i_start (σ := [some (V.ref a_lasts), some (V.int (first)), some (V.int (beyond)), none]) rfl ?_
    refine i_ret ?_
    refine i_cb ?_
    refine i_cons ?_
    refine i_lc ?_
    refine i_len ?_
    refine i_list ?_
    refine i_sl ?_
    refine i_var rfl ?_
    refine i_part ?_
    refine i_var rfl ?_
    refine i_partI ?_
    refine i_part ?_
    refine i_var rfl ?_
    refine i_partI ?_
    refine s_slS g (r_lasts.hp g.sh) (fun p2 S3 H4 gA gs r_p2 => ?_)
    replace r_lasts := RepL.mono gs.s r_lasts
    replace g := gA
    refine i_listA (r_p2.hp g.sh) ?_
    intro hlen
    have wk1 : Wk K (Itl K p2) (cut lasts (some first) (some beyond)) (fun (_ : Unit) (_ : St) S' H' => Gx [] S3 H4 S' H') := by
      refine wk_list fun st σ2 S2 H2 gl => ?_
      exact ⟨gl.sh, (RepL.hp (RepL.mono gl.s r_p2) gl.sh)⟩
    refine s_compS (β := Option Int) wk1 (RepH.len (r_p2.hp g.sh) hlen) g h (fun y1 v1 S1c H1c P1 T F gc1 rv h hT hF => ?_) (fun p14 S15 H16 t13 gA gs r_p14 h => ?_)
    · replace r_lasts := RepL.mono gc1.s r_lasts
      obtain rfl := (Flat.is.1 rv)
      refine i_nameE (σ' := [_, _, _, some (optV (y1))]) rfl ?_
      refine ⟨rfl, ?_⟩
      have gt1 : Gx [] S1c H1c S1c H1c := Gx.refl gc1.sh
      refine i_or ?_
      refine i_test ?_
      refine i_op ?_
      refine i_var rfl ?_
      refine i_c ?_
      refine s_isN (isN_opt) ?_
      refine i_bl ?_
      refine or_m h gt1.sh (fun ha6 PB N h hN => ?_) (fun t7 S8 H9 gs h => ?_)
      · have gm5 : Gx [] S1c H1c S1c H1c := Gx.refl gt1.sh
        refine i_test ?_
        refine i_op ?_
        obtain ⟨t10, e11, h⟩ := wpm_unwrap h
        refine i_varU rfl e11 ?_
        refine i_var rfl ?_
        refine i_I0 ?_
        refine i_bl ?_
        exact hN _ _ _ gm5 h
      replace r_lasts := RepL.mono gs.s r_lasts
      replace gt1 := gt1.trans0 gs
      refine ite2b (fun hb12 => ?_) (fun hb12 => ?_)
      · replace h := wpm_t hb12 h
        refine i_var rfl ?_
        exact hT _ _ _ _ h gt1 (Flat.is.2 rfl)
      · replace h := wpm_f hb12 h
        exact hF _ _ h gt1
    replace r_lasts := RepL.mono gs.s r_lasts
    replace g := gA
    refine i_nil ?_
    refine s_len (r_p14.hp g.sh) ?_
    exact h _ _ g

abbrev sunlike_in : PySem.Stmt := topS 5
theorem scunlike_in : FnScope ["row", "stretch", "first", "beyond"] ["row", "stretch"] (defScope sunlike_in) := ⟨rfl, rfl, rfl, by decide +kernel, rfl, by decide +kernel, by decide +kernel⟩

def spunlike_in (K : Fr) (ca : XC → Addr) : Sp := fun vs H Q E => ∃ (S0 : Hp) (a_row : Addr) (row : List Int) (v_stretch : V) (stretch : (Int × Int × Unit)), vs = [(V.ref a_row), v_stretch] ∧ Ex S0 H ∧ RepL K S0 a_row row ∧ Py.rep K S0 v_stretch stretch ∧ wpm (m_unlike_in row stretch) (fun r => ∀ S' H', Gx [] S0 H S' H' → Q (V.int (r)) H') (fun c => ∀ S' H', Gx [] S0 H S' H' → E (.ref (ca c)) none H')

theorem okunlike_in {P : Program} {w : World} {K : Fr} {mg : PySem.Str → Option Value} {base : Heap} {ca : XC → Addr} (A0 : At K mg "unlike_in" sunlike_in ["row", "stretch"]) (Dcounted_in : Dfn P w K mg base "counted_in" 1 ["lasts", "first", "beyond"] (spcounted_in K ca)) (Dlast_places : Dfn P w K mg base "last_places" 1 ["row"] (splast_places K ca)) (n_len : mg "len" = none) (xc_NoPart : XcOk K mg ca .part "NoPart") : Dfn P w K mg base "unlike_in" 2 ["row", "stretch"] (spunlike_in K ca) := by
  obtain ⟨fcounted_in, fdcounted_in, mgcounted_in, kpcounted_in, bdcounted_in, okcounted_in'⟩ := Dcounted_in.ex
  obtain ⟨flast_places, fdlast_places, mglast_places, kplast_places, bdlast_places, oklast_places'⟩ := Dlast_places.ex
  refine Dfn.mk' A0 fun f fd F => F.ok (CX := L2.CX P w) scunlike_in (fun vs H Q E h => ?_) (fun cdv A outer s H vs Q E hr h => ?_)
  · obtain ⟨S0, a_row, row, v_stretch, stretch, rfl, e0, r_row, r_stretch, h⟩ := h
    rfl
  · obtain ⟨S0, a_row, row, v_stretch, stretch, rfl, e0, r_row, r_stretch, h⟩ := h
    unfold m_unlike_in at h
    have g : Gx [] S0 H S0 H := Gx.refl e0
    refine ⟨_, pss_cons (ps_asg (pv 1) (pg_tupK (K := K) rfl (pgs_cons (pg_name (i := 2) scunlike_in.nd rfl (by first | exact Or.inl rfl | exact Or.inr rfl)) (pgs_cons (pg_name (i := 3) scunlike_in.nd rfl (by first | exact Or.inl rfl | exact Or.inr rfl)) pgs_nil)))) (pss_cons (ps_if (pt_not (pt_chain3 op_le op_lt op_le pe_int (pv 2) (pv 3) (pe_callB (call_lenK (K := K)) (by rfl) n_len (by decide +kernel) (pa_cons (pv 0) pa_nil)))) (pss_one (ps_raise rfl (takes_of rfl rfl rfl rfl) (pmk_own PySem.F.excBase_ValueError xc_NoPart.ex xc_NoPart.mg xc_NoPart.kp (raises_own xc_NoPart.sb xc_NoPart.ty) (by rfl)))) pss_nil) (pss_one (ps_ret (pe_call okcounted_in' (hr.mono (by decide)) (by rfl) mgcounted_in kpcounted_in bdcounted_in .nil (passes_call (takes_of rfl rfl rfl rfl) fun _ _ _ _ h => h) (pa_cons (pe_call oklast_places' (hr.mono (by decide)) (by rfl) mglast_places kplast_places bdlast_places .nil (passes_call (takes_of rfl rfl rfl rfl) fun _ _ _ _ h => h) (pa_cons (pv 0) pa_nil)) (pa_cons (pv 2) (pa_cons (pv 3) pa_nil))))))), ?_⟩
    refine i_start (σ := [some (V.ref a_row), some v_stretch, none, none]) rfl ?_
    refine i_seq ?_
    refine i_asg ?_
    refine i_var rfl ?_
    obtain ⟨a1, rfl⟩ := rep_ref r_stretch
    obtain ⟨_, hs2, _, _, rfl, rfl, _, _, rfl, rfl, rfl⟩ := rep_at r_stretch
    refine i_gtup (ex_t g.sh hs2) rfl ?_
    refine i_gcons ?_
    refine i_nameE (σ' := [_, _, some (V.int (stretch.1)), _]) rfl ?_
    refine i_gcons ?_
    refine i_nameE (σ' := [_, _, _, some (V.int (stretch.2.1))]) rfl ?_
    refine i_gnil ?_
    refine nx_seq ?_
    refine i_seq ?_
    refine i_if ?_
    refine i_not ?_
    refine i_test ?_
    refine i_chain3 ?_
    refine i_c ?_
    refine i_var rfl ?_
    refine i_I0 ?_
    refine chain3_s (w := (V.int (stretch.2.1))) (decide (stretch.1 < stretch.2.1)) (decide (stretch.2.1 ≤ (row.length : Int))) (fun N q => ?_) (fun N q => ?_) (fun N q => ?_) ?_
    · refine i_var rfl ?_
      exact q
    · exact i_I0 q
    · refine i_cb ?_
      refine i_cons ?_
      refine i_var rfl ?_
      refine i_nil ?_
      refine s_len (r_row.hp g.sh) ?_
      exact i_I0 q
    refine i_bl ?_
    refine ite2b (fun hb7 => ?_) (fun hb7 => ?_)
    · replace h := wpm_t hb7 h
      exact h _ _ g
    · replace h := wpm_f hb7 h
      refine i_next ?_
      refine nx_seq ?_
      refine i_ret ?_
      refine i_call ?_
      refine i_cons ?_
      refine i_call ?_
      refine i_cons ?_
      refine i_var rfl ?_
      refine i_nil ?_
      refine ⟨S0, a_row, row, rfl, g.sh, r_row, wpm_mono (wb h) (fun t8 h p11 S9 H10 gs hp_p11 o_p11 => ?_) (fun c he S1 H1 gs => he _ _ (g.trans0 gs))⟩
      refine OwnL.frz o_p11 gs hp_p11 (fun S12 gs2 eS hbS r_p11 => ?_)
      replace gs := gs2
      replace r_row := RepL.mono gs.s r_row
      replace r_stretch := Py.mono gs.s r_stretch
      replace g := g.trans0 gs
      refine i_cons ?_
      refine i_var rfl ?_
      refine i_cons ?_
      refine i_var rfl ?_
      refine i_nil ?_
      refine ⟨S12, p11, t8, stretch.1, stretch.2.1, rfl, g.sh, r_p11, wpm_mono (wb h) (fun t13 h S14 H15 gs => ?_) (fun c he S1 H1 gs => he _ _ (g.trans0 gs))⟩
      replace r_row := RepL.mono gs.s r_row
      replace r_stretch := Py.mono gs.s r_stretch
      replace g := g.trans0 gs
      exact h _ _ g

abbrev s_law_cell_at : PySem.Stmt := topS 8
theorem sc_law_cell_at : FnScope ["script", "k"] ["script", "k"] (defScope s_law_cell_at) := ⟨rfl, rfl, rfl, by decide +kernel, rfl, by decide +kernel, by decide +kernel⟩

def sp_law_cell_at (K : Fr) (ca : XC → Addr) : Sp := fun vs H Q E => ∃ (S0 : Hp) (a_script : Addr) (script : List Int) (k : Int), vs = [(V.ref a_script), (V.int (k))] ∧ Ex S0 H ∧ RepQ K S0 a_script script ∧ wpm (m_law_cell_at script k) (fun r => ∀ S' H', Gx [] S0 H S' H' → Q (V.int (r)) H') (fun c => ∀ S' H', Gx [] S0 H S' H' → E (.ref (ca c)) none H')

theorem ok_law_cell_at {P : Program} {w : World} {K : Fr} {mg : PySem.Str → Option Value} {base : Heap} {ca : XC → Addr} (A0 : At K mg "_law_cell_at" s_law_cell_at ["script", "k"]) (n_len : mg "len" = none) : Dfn P w K mg base "_law_cell_at" 1 ["script", "k"] (sp_law_cell_at K ca) := by
  refine Dfn.mk' A0 fun f fd F => F.ok (CX := L2.CX P w) sc_law_cell_at (fun vs H Q E h => ?_) (fun cdv A outer s H vs Q E hr h => ?_)
  · obtain ⟨S0, a_script, script, k, rfl, e0, r_script, h⟩ := h
    rfl
  · obtain ⟨S0, a_script, script, k, rfl, e0, r_script, h⟩ := h
    unfold m_law_cell_at at h
    have g : Gx [] S0 H S0 H := Gx.refl e0
    refine ⟨_, pss_cons (ps_if (pt_cmpR op_lt (pv 1) (pe_callB (call_lenK (K := K)) (by rfl) n_len (by decide +kernel) (pa_cons (pv 0) pa_nil)) (nomark _)) (pss_one (ps_ret (pe_ix (ix_listK (K := K)) (pv 0) (pv 1) (fun _ _ => rfl)))) pss_nil) (pss_one (ps_ret pe_int)), ?_⟩
    refine i_start (σ := [some (V.ref a_script), some (V.int (k))]) rfl ?_
    refine i_seq ?_
    refine i_if ?_
    refine i_test ?_
    refine i_op ?_
    refine i_var rfl ?_
    refine i_cb ?_
    refine i_cons ?_
    refine i_var rfl ?_
    refine i_nil ?_
    refine s_len (r_script.hp g.sh) ?_
    refine i_I0 ?_
    refine i_bl ?_
    refine ite2b (fun hb1 => ?_) (fun hb1 => ?_)
    · replace h := wpm_t hb1 h
      refine i_ret ?_
      refine i_op ?_
      refine i_var rfl ?_
      refine i_var rfl ?_
      refine s_idxF (r_script.hp g.sh) h (fun t2 h => ?_)
      exact h _ _ g
    · replace h := wpm_f hb1 h
      refine i_next ?_
      refine nx_seq ?_
      refine i_ret ?_
      refine i_c ?_
      exact h _ _ g

abbrev s_law_reel : PySem.Stmt := topS 9
theorem sc_law_reel : FnScope ["cell"] ["cell"] (defScope s_law_reel) := ⟨rfl, rfl, rfl, by decide +kernel, rfl, by decide +kernel, by decide +kernel⟩

def sp_law_reel (K : Fr) (ca : XC → Addr) : Sp := fun vs H Q E => ∃ (S0 : Hp) (cell : Int), vs = [(V.int (cell))] ∧ Ex S0 H ∧ wpm (m_law_reel cell) (fun r => ∀ p S' H', Gx [] S0 H S' H' → H p = none → OwnL K S' H' p r → Q (.ref p) H') (fun c => ∀ S' H', Gx [] S0 H S' H' → E (.ref (ca c)) none H')

theorem ok_law_reel {P : Program} {w : World} {K : Fr} {mg : PySem.Str → Option Value} {base : Heap} {ca : XC → Addr} (A0 : At K mg "_law_reel" s_law_reel ["cell"]) (n_abs : mg "abs" = none) : Dfn P w K mg base "_law_reel" 1 ["cell"] (sp_law_reel K ca) := by
  refine Dfn.mk' A0 fun f fd F => F.ok (CX := L2.CX P w) sc_law_reel (fun vs H Q E h => ?_) (fun cdv A outer s H vs Q E hr h => ?_)
  · obtain ⟨S0, cell, rfl, e0, h⟩ := h
    rfl
  · obtain ⟨S0, cell, rfl, e0, h⟩ := h
    unfold m_law_reel at h
    have g : Gx [] S0 H S0 H := Gx.refl e0
    refine ⟨_, pss_one (ps_ret (pe_lst (pa_cons (pe_callB call_absG (by rfl) n_abs (by decide +kernel) (pa_cons (pv 0) pa_nil)) (pa_cons (pe_op op_mod (pe_op op_mul (pe_op op_add (pe_op op_mod (pv 0) pe_int) pe_int) pe_int) pe_int) pa_nil)))), ?_⟩
    refine i_start (σ := [some (V.int (cell))]) rfl ?_
    refine i_ret ?_
    refine i_lst ?_
    refine i_cons ?_
    refine i_cb ?_
    refine i_cons ?_
    refine i_var rfl ?_
    refine i_nil ?_
    refine s_abs ?_
    refine i_cons ?_
    refine i_op ?_
    refine i_op ?_
    refine i_op ?_
    refine i_op ?_
    refine i_var rfl ?_
    refine i_c ?_
    refine i_I (by decide) ?_
    refine i_c ?_
    refine i_I0 ?_
    refine i_c ?_
    refine i_I (by first | exact .inl (by decide) | exact .inr (by decide)) ?_
    refine i_c ?_
    refine i_I (by decide) ?_
    refine i_nil ?_
    refine s_lstO (K := K) (xs := ([(iabs cell), ((((cell % 2147483647) + 1) * 742938285) % 2147483647)] : List Int)) g (All2.cons rfl (All2.cons rfl All2.nil)) (show (2 : Nat) ≤ 16777216 by decide) (fun p1 H3 gA gs hp_p1 o_p1 => ?_)
    have f0_p1 := Gx.back g hp_p1
    replace g := gA
    exact h _ _ _ g f0_p1 o_p1

abbrev s_law_take : PySem.Stmt := topS 10
theorem sc_law_take : FnScope ["reel", "many", "stir", "found"] ["reel", "many"] (defScope s_law_take) := ⟨rfl, rfl, rfl, by decide +kernel, rfl, by decide +kernel, by decide +kernel⟩

def sp_law_take (K : Fr) (ca : XC → Addr) : Sp := fun vs H Q E => ∃ (S0 : Hp) (a_reel : Addr) (reel : List Int) (many : Int), vs = [(V.ref a_reel), (V.int (many))] ∧ Ex S0 H ∧ OwnL K S0 H a_reel reel ∧ wpm (m_law_take reel many) (fun r => ∀ S' H', Gx [a_reel] S0 H S' H' → OwnL K S' H' a_reel r.2 → Q (V.int (r.1)) H') (fun c => ∀ S' H', Gx [a_reel] S0 H S' H' → E (.ref (ca c)) none H')

theorem ok_law_take {P : Program} {w : World} {K : Fr} {mg : PySem.Str → Option Value} {base : Heap} {ca : XC → Addr} (A0 : At K mg "_law_take" s_law_take ["reel", "many"])  : Dfn P w K mg base "_law_take" 1 ["reel", "many"] (sp_law_take K ca) := by
  refine Dfn.mk' A0 fun f fd F => F.ok (CX := L2.CX P w) sc_law_take (fun vs H Q E h => ?_) (fun cdv A outer s H vs Q E hr h => ?_)
  · obtain ⟨S0, a_reel, reel, many, rfl, e0, o_reel, h⟩ := h
    rfl
  · obtain ⟨S0, a_reel, reel, many, rfl, e0, o_reel, h⟩ := h
    unfold m_law_take at h
    have g : Gx [a_reel] S0 H S0 H := Gx.refl e0
    refine ⟨_, pss_cons (ps_if (pt_cmpR op_ge (pe_ix (ix_listK (K := K)) (pv 0) pe_int (fun _ _ => rfl)) (pe_op op_pow pe_int pe_int) (nomark _)) (pss_cons (ps_set (i := 3) sc_law_take.nd rfl (by first | exact Or.inl rfl | exact Or.inr rfl) (pe_op op_mod (pe_ix (ix_listK (K := K)) (pv 0) pe_int (fun _ _ => rfl)) (pv 1))) (pss_cons (ps_asg (pe_op op_fdiv (pe_ix (ix_listK (K := K)) (pv 0) pe_int (fun _ _ => rfl)) (pv 1)) (pg_sub (pv 0) pe_int set_list)) (pss_one (ps_ret (pv 3))))) pss_nil) (pss_cons (ps_asg (pe_op op_mod (pe_op op_add (pe_op op_mul (pe_ix (ix_listK (K := K)) (pv 0) pe_int (fun _ _ => rfl)) pe_int) pe_int) pe_int) (pg_sub (pv 0) pe_int set_list)) (pss_cons (ps_set (i := 2) sc_law_take.nd rfl (by first | exact Or.inl rfl | exact Or.inr rfl) (pe_op op_mod (pe_op op_mul (pe_ix (ix_listK (K := K)) (pv 0) pe_int (fun _ _ => rfl)) (pe_ix (ix_listK (K := K)) (pv 0) pe_int (fun _ _ => rfl))) pe_int)) (pss_one (ps_ret (pe_op op_mod (pe_op op_fdiv (pe_op op_mod (pe_op op_mul (pv 2) pe_int) pe_int) pe_int) (pv 1)))))), ?_⟩
    refine i_start (σ := [some (V.ref a_reel), some (V.int (many)), none, none]) rfl ?_
    refine i_seq ?_
    refine i_if ?_
    refine i_test ?_
    refine i_op ?_
    refine i_op ?_
    refine i_var rfl ?_
    refine i_c ?_
    refine s_idxF o_reel.hp h (fun t1 h => ?_)
    refine i_op ?_
    refine i_c ?_
    refine i_c ?_
    refine s_pow (k := 1000000000000000000) ⟨by decide, by decide, by decide⟩ (by decide +kernel) ?_
    refine i_I0 ?_
    refine i_bl ?_
    refine ite2b (fun hb2 => ?_) (fun hb2 => ?_)
    · replace h := wpm_t hb2 h
      refine i_seq ?_
      refine i_asg ?_
      refine i_op ?_
      refine i_op ?_
      refine i_var rfl ?_
      refine i_c ?_
      refine s_idxF o_reel.hp h (fun t3 h => ?_)
      refine i_var rfl ?_
      refine s_mod h (fun h => ?_)
      refine i_nameE (σ' := [_, _, _, some (V.int ((t3 % many)))]) rfl ?_
      refine nx_seq ?_
      refine i_seq ?_
      refine i_asg ?_
      refine i_op ?_
      refine i_op ?_
      refine i_var rfl ?_
      refine i_c ?_
      refine s_idxF o_reel.hp h (fun t4 h => ?_)
      refine i_var rfl ?_
      refine s_div h (fun h => ?_)
      refine i_gsub ?_
      refine i_var rfl ?_
      refine i_c ?_
      refine s_set g o_reel (.inr (by simp)) rfl h (fun H6 t5 g o_reel heq h => ?_)
      refine nx_seq ?_
      refine i_ret ?_
      refine i_var rfl ?_
      exact h _ _ g o_reel
    · replace h := wpm_f hb2 h
      refine i_next ?_
      refine nx_seq ?_
      refine i_seq ?_
      refine i_asg ?_
      refine i_op ?_
      refine i_op ?_
      refine i_op ?_
      refine i_op ?_
      refine i_var rfl ?_
      refine i_c ?_
      refine s_idxF o_reel.hp h (fun t7 h => ?_)
      refine i_c ?_
      refine i_I (by first | exact .inl (by decide) | exact .inr (by decide)) ?_
      refine i_c ?_
      refine i_I0 ?_
      refine i_c ?_
      refine i_I (by decide) ?_
      refine i_gsub ?_
      refine i_var rfl ?_
      refine i_c ?_
      refine s_set g o_reel (.inr (by simp)) rfl h (fun H9 t8 g o_reel heq h => ?_)
      refine nx_seq ?_
      refine i_seq ?_
      refine i_asg ?_
      refine i_op ?_
      refine i_op ?_
      refine i_op ?_
      refine i_var rfl ?_
      refine i_c ?_
      refine s_idxF o_reel.hp h (fun t10 h => ?_)
      refine i_op ?_
      refine i_var rfl ?_
      refine i_c ?_
      refine s_idxF o_reel.hp h (fun t11 h => ?_)
      refine s_mul h (fun h => ?_)
      refine i_c ?_
      refine i_I (by decide) ?_
      refine i_nameE (σ' := [_, _, some (V.int (((t10 * t11) % 2147483629))), _]) rfl ?_
      refine nx_seq ?_
      refine i_ret ?_
      refine i_op ?_
      refine i_op ?_
      refine i_op ?_
      refine i_op ?_
      refine i_var rfl ?_
      refine i_c ?_
      refine i_I (by first | exact .inl (by decide) | exact .inr (by decide)) ?_
      refine i_c ?_
      refine i_I (by decide) ?_
      refine i_c ?_
      refine i_I ⟨by decide, by decide⟩ ?_
      refine i_var rfl ?_
      refine s_mod h (fun h => ?_)
      exact h _ _ g o_reel

abbrev s_law_alike : PySem.Stmt := topS 11
theorem sc_law_alike : FnScope ["found", "due", "k"] ["found", "due"] (defScope s_law_alike) := ⟨rfl, rfl, rfl, by decide +kernel, rfl, by decide +kernel, by decide +kernel⟩

def sp_law_alike (K : Fr) (ca : XC → Addr) (fuel : Nat) : Sp := fun vs H Q E => ∃ (S0 : Hp) (v_found : V) (found : PyData) (v_due : V) (due : PyData), vs = [v_found, v_due] ∧ Ex S0 H ∧ Py.rep K S0 v_found found ∧ Py.rep K S0 v_due due ∧ wpm (m_law_alike fuel found due) (fun r => ∀ S' H', Gx [] S0 H S' H' → Q (V.bl (r)) H') (fun c => ∀ S' H', Gx [] S0 H S' H' → E (.ref (ca c)) none H')

theorem ok_law_alike {P : Program} {w : World} {K : Fr} {mg : PySem.Str → Option Value} {base : Heap} {ca : XC → Addr} (A0 : At K mg "_law_alike" s_law_alike ["found", "due"]) (n_isinstance : mg "isinstance" = none) (n_bool : mg "bool" = none) (n_int : mg "int" = none) (n_str : mg "str" = none) (n_tuple : mg "tuple" = none) (n_list : mg "list" = none) (n_len : mg "len" = none) (n_range : mg "range" = none) : ∀ fuel, Dfn P w K mg base "_law_alike" (fuel + 1) ["found", "due"] (sp_law_alike K ca fuel) := by
  intro fuel
  induction fuel with
  | zero =>
    refine Dfn.mk' A0 fun f fd F => F.ok (CX := L2.CX P w) sc_law_alike (fun vs H Q E h => ?_) (fun cdv A outer s H vs Q E hr h => ?_)
    · obtain ⟨S0, v_found, found, v_due, due, rfl, e0, r_found, r_due, h⟩ := h
      rfl
    · obtain ⟨S0, v_found, found, v_due, due, rfl, e0, r_found, r_due, h⟩ := h
      exact h.elim
  | succ fuel ih =>
    obtain ⟨f_law_alike, fd_law_alike, mg_law_alike, kp_law_alike, bd_law_alike, ok_law_alike'⟩ := ih.ex
    refine Dfn.mk' A0 fun f fd F => F.ok (CX := L2.CX P w) sc_law_alike (fun vs H Q E h => ?_) (fun cdv A outer s H vs Q E hr h => ?_)
    · obtain ⟨S0, v_found, found, v_due, due, rfl, e0, r_found, r_due, h⟩ := h
      rfl
    · obtain ⟨S0, v_found, found, v_due, due, rfl, e0, r_found, r_due, h⟩ := h
      rw [m_law_alike] at h
      have g : Gx [] S0 H S0 H := Gx.refl e0
      refine ⟨_, pss_cons (ps_if (pt_cmpR op_isNG (pv 1) pe_non (nomark _)) (pss_one (ps_ret (pe_cmpR op_isNG (pv 0) pe_non (nomark _)))) pss_nil) (pss_cons (ps_if (pt_val (pe_callB (call_isK (K := K)) (by rfl) n_isinstance (by decide +kernel) (pa_cons (pv 1) (pa_cons (pe_bltn (v := .ty "bool") (by rfl) n_bool (by decide +kernel) rfl) pa_nil)))) (pss_one (ps_ret (pe_and (pe_callB (call_isK (K := K)) (by rfl) n_isinstance (by decide +kernel) (pa_cons (pv 0) (pa_cons (pe_bltn (v := .ty "bool") (by rfl) n_bool (by decide +kernel) rfl) pa_nil))) (pe_one (pe_cmpR (op_eqK (K := K) hr.units) (pv 0) (pv 1) (nomark _)))))) pss_nil) (pss_cons (ps_if (pt_val (pe_callB (call_isK (K := K)) (by rfl) n_isinstance (by decide +kernel) (pa_cons (pv 1) (pa_cons (pe_bltn (v := .ty "int") (by rfl) n_int (by decide +kernel) rfl) pa_nil)))) (pss_one (ps_ret (pe_and (pe_callB (call_isK (K := K)) (by rfl) n_isinstance (by decide +kernel) (pa_cons (pv 0) (pa_cons (pe_bltn (v := .ty "int") (by rfl) n_int (by decide +kernel) rfl) pa_nil))) (pe_and (pe_not (pe_callB (call_isK (K := K)) (by rfl) n_isinstance (by decide +kernel) (pa_cons (pv 0) (pa_cons (pe_bltn (v := .ty "bool") (by rfl) n_bool (by decide +kernel) rfl) pa_nil)))) (pe_one (pe_cmpR (op_eqK (K := K) hr.units) (pv 0) (pv 1) (nomark _))))))) pss_nil) (pss_cons (ps_if (pt_val (pe_callB (call_isK (K := K)) (by rfl) n_isinstance (by decide +kernel) (pa_cons (pv 1) (pa_cons (pe_bltn (v := .ty "str") (by rfl) n_str (by decide +kernel) rfl) pa_nil)))) (pss_one (ps_ret (pe_and (pe_callB (call_isK (K := K)) (by rfl) n_isinstance (by decide +kernel) (pa_cons (pv 0) (pa_cons (pe_bltn (v := .ty "str") (by rfl) n_str (by decide +kernel) rfl) pa_nil))) (pe_one (pe_cmpR (op_eqK (K := K) hr.units) (pv 0) (pv 1) (nomark _)))))) pss_nil) (pss_cons (ps_if (pt_val (pe_callB (call_isK (K := K)) (by rfl) n_isinstance (by decide +kernel) (pa_cons (pv 1) (pa_cons (pe_bltn (v := .ty "tuple") (by rfl) n_tuple (by decide +kernel) rfl) pa_nil)))) (pss_one (ps_if (pt_not (pt_val (pe_callB (call_isK (K := K)) (by rfl) n_isinstance (by decide +kernel) (pa_cons (pv 0) (pa_cons (pe_bltn (v := .ty "tuple") (by rfl) n_tuple (by decide +kernel) rfl) pa_nil))))) (pss_one (ps_ret pe_bl)) pss_nil)) (pss_one (ps_if (pt_not (pt_val (pe_callB (call_isK (K := K)) (by rfl) n_isinstance (by decide +kernel) (pa_cons (pv 0) (pa_cons (pe_bltn (v := .ty "list") (by rfl) n_list (by decide +kernel) rfl) pa_nil))))) (pss_one (ps_ret pe_bl)) pss_nil))) (pss_cons (ps_if (pt_cmpR op_ne (pe_callB (call_lenK (K := K)) (by rfl) n_len (by decide +kernel) (pa_cons (pv 0) pa_nil)) (pe_callB (call_lenK (K := K)) (by rfl) n_len (by decide +kernel) (pa_cons (pv 1) pa_nil)) (nomark _)) (pss_one (ps_ret pe_bl)) pss_nil) (pss_cons (ps_for (passes_of rfl) rfl (pi_range1 (by rfl) n_range (pa_cons (pe_callB (call_lenK (K := K)) (by rfl) n_len (by decide +kernel) (pa_cons (pv 1) pa_nil)) pa_nil)) (pg_name (i := 2) sc_law_alike.nd rfl (by first | exact Or.inl rfl | exact Or.inr rfl)) (pss_one (ps_if (pt_not (pt_val (pe_call ok_law_alike' hr (by rfl) mg_law_alike kp_law_alike bd_law_alike .nil (passes_call (takes_of rfl rfl rfl rfl) fun _ _ _ _ h => h) (pa_cons (pe_ix (ix_seqK (K := K)) (pv 0) (pv 2) (fun _ _ => rfl)) (pa_cons (pe_ix (ix_seqK (K := K)) (pv 1) (pv 2) (fun _ _ => rfl)) pa_nil))))) (pss_one (ps_ret pe_bl)) pss_nil))) (pss_one (ps_ret pe_bl)))))))), ?_⟩
      refine i_start (σ := [some v_found, some v_due, none]) rfl ?_
      refine i_seq ?_
      refine i_if ?_
      refine i_test ?_
      refine i_op ?_
      refine i_var rfl ?_
      refine i_c ?_
      refine s_isN (isN_dat r_due) ?_
      refine i_bl ?_
      refine ite2b (fun hb1 => ?_) (fun hb1 => ?_)
      · replace h := wpm_t hb1 h
        refine i_ret ?_
        refine i_op ?_
        refine i_var rfl ?_
        refine i_c ?_
        refine s_isN (isN_dat r_found) ?_
        exact h _ _ g
      · replace h := wpm_f hb1 h
        refine i_next ?_
        refine nx_seq ?_
        refine i_seq ?_
        refine i_if ?_
        refine i_B ?_
        refine i_cb (i_cons ?_)
        refine i_var rfl ?_
        refine i_cons (i_c (i_nil ?_))
        refine s_isi isTy_bool g.sh r_due ?_
        refine i_bl ?_
        refine ite2b (fun hb2 => ?_) (fun hb2 => ?_)
        · replace h := wpm_t hb2 h
          refine i_ret ?_
          refine i_andV ?_
          refine i_cb (i_cons ?_)
          refine i_var rfl ?_
          refine i_cons (i_c (i_nil ?_))
          refine s_isi isTy_bool g.sh r_found ?_
          refine andV_m h g.sh (fun ha4 PB N h hN => ?_) (fun t5 S6 H7 gs h => ?_)
          · have gm3 : Gx [] S0 H S0 H := Gx.refl g.sh
            refine i_op ?_
            refine i_var rfl ?_
            refine i_var rfl ?_
            refine s_eqDat gm3.sh r_found r_due h (fun t8 h => ?_)
            exact hN _ _ _ gm3 h
          replace r_found := Py.mono gs.s r_found
          replace r_due := Py.mono gs.s r_due
          replace g := g.trans0 gs
          exact h _ _ g
        · replace h := wpm_f hb2 h
          refine i_next ?_
          refine nx_seq ?_
          refine i_seq ?_
          refine i_if ?_
          refine i_B ?_
          refine i_cb (i_cons ?_)
          refine i_var rfl ?_
          refine i_cons (i_c (i_nil ?_))
          refine s_isi isTy_int g.sh r_due ?_
          refine i_bl ?_
          refine ite2b (fun hb9 => ?_) (fun hb9 => ?_)
          · replace h := wpm_t hb9 h
            refine i_ret ?_
            refine i_andV ?_
            refine i_cb (i_cons ?_)
            refine i_var rfl ?_
            refine i_cons (i_c (i_nil ?_))
            refine s_isi isTy_int g.sh r_found ?_
            refine andV_m h g.sh (fun ha11 PB N h hN => ?_) (fun t12 S13 H14 gs h => ?_)
            · have gm10 : Gx [] S0 H S0 H := Gx.refl g.sh
              refine i_andV ?_
              refine i_notV ?_
              refine i_cb (i_cons ?_)
              refine i_var rfl ?_
              refine i_cons (i_c (i_nil ?_))
              refine s_isi isTy_bool gm10.sh r_found ?_
              refine i_blN ?_
              refine andV_m h gm10.sh (fun ha16 PB N h hN => ?_) (fun t17 S18 H19 gs h => ?_)
              · have gm15 : Gx [] S0 H S0 H := Gx.refl gm10.sh
                refine i_op ?_
                refine i_var rfl ?_
                refine i_var rfl ?_
                refine s_eqDat gm15.sh r_found r_due h (fun t20 h => ?_)
                exact hN _ _ _ gm15 h
              replace r_found := Py.mono gs.s r_found
              replace r_due := Py.mono gs.s r_due
              replace gm10 := gm10.trans0 gs
              exact hN _ _ _ gm10 h
            replace r_found := Py.mono gs.s r_found
            replace r_due := Py.mono gs.s r_due
            replace g := g.trans0 gs
            exact h _ _ g
          · replace h := wpm_f hb9 h
            refine i_next ?_
            refine nx_seq ?_
            refine i_seq ?_
            refine i_if ?_
            refine i_B ?_
            refine i_cb (i_cons ?_)
            refine i_var rfl ?_
            refine i_cons (i_c (i_nil ?_))
            refine s_isi isTy_str g.sh r_due ?_
            refine i_bl ?_
            refine ite2b (fun hb21 => ?_) (fun hb21 => ?_)
            · replace h := wpm_t hb21 h
              refine i_ret ?_
              refine i_andV ?_
              refine i_cb (i_cons ?_)
              refine i_var rfl ?_
              refine i_cons (i_c (i_nil ?_))
              refine s_isi isTy_str g.sh r_found ?_
              refine andV_m h g.sh (fun ha23 PB N h hN => ?_) (fun t24 S25 H26 gs h => ?_)
              · have gm22 : Gx [] S0 H S0 H := Gx.refl g.sh
                refine i_op ?_
                refine i_var rfl ?_
                refine i_var rfl ?_
                refine s_eqDat gm22.sh r_found r_due h (fun t27 h => ?_)
                exact hN _ _ _ gm22 h
              replace r_found := Py.mono gs.s r_found
              replace r_due := Py.mono gs.s r_due
              replace g := g.trans0 gs
              exact h _ _ g
            · replace h := wpm_f hb21 h
              refine i_next ?_
              refine nx_seq ?_
              refine i_seq ?_
              have hm28 : ∀ x ∈ ([] : List Addr), x ∈ [] ∨ H x = none := fun x hx => nomatch hx
              refine i_ifR1 (R := (fun (st28 : Unit) σ' S' H' => σ' = [some v_found, some v_due, none] ∧ Gx [] S0 H S' H')) h (fun PJ N hret28 hN h => ?_) (fun st28 σ1 S28j H28j hR h => ?_)
              · have gj28 : Gx [] S0 H S0 H := Gx.refl g.sh
                refine i_B ?_
                refine i_cb (i_cons ?_)
                refine i_var rfl ?_
                refine i_cons (i_c (i_nil ?_))
                refine s_isi isTy_tuple gj28.sh r_due ?_
                refine i_bl ?_
                refine ite2b (fun hb29 => ?_) (fun hb29 => ?_)
                · replace h := wpm_t hb29 h
                  refine i_if ?_
                  refine i_not ?_
                  refine i_B ?_
                  refine i_cb (i_cons ?_)
                  refine i_var rfl ?_
                  refine i_cons (i_c (i_nil ?_))
                  refine s_isi isTy_tuple gj28.sh r_found ?_
                  refine i_bl ?_
                  refine ite2b (fun hb30 => ?_) (fun hb30 => ?_)
                  · replace h := wpm_t hb30 h
                    refine i_ret ?_
                    refine i_c ?_
                    exact (hret28 _ h) _ _ (g.trans gj28 hm28)
                  · replace h := wpm_f hb30 h
                    refine i_next ?_
                    exact hN _ _ _ _ h ⟨rfl, gj28⟩
                · replace h := wpm_f hb29 h
                  refine i_if ?_
                  refine i_not ?_
                  refine i_B ?_
                  refine i_cb (i_cons ?_)
                  refine i_var rfl ?_
                  refine i_cons (i_c (i_nil ?_))
                  refine s_isi isTy_list gj28.sh r_found ?_
                  refine i_bl ?_
                  refine ite2b (fun hb31 => ?_) (fun hb31 => ?_)
                  · replace h := wpm_t hb31 h
                    refine i_ret ?_
                    refine i_c ?_
                    exact (hret28 _ h) _ _ (g.trans gj28 hm28)
                  · replace h := wpm_f hb31 h
                    refine i_next ?_
                    exact hN _ _ _ _ h ⟨rfl, gj28⟩
              obtain ⟨rfl, gj28⟩ := hR
              replace r_found := Py.mono gj28.s r_found
              replace r_due := Py.mono gj28.s r_due
              replace g := g.trans gj28 hm28
              refine nx_seq ?_
              refine i_seq ?_
              refine i_if ?_
              refine i_test ?_
              refine i_op ?_
              refine i_cb ?_
              refine i_cons ?_
              refine i_var rfl ?_
              refine i_nil ?_
              refine s_dlen g.sh r_found h (fun t32 h => ?_)
              refine i_cb ?_
              refine i_cons ?_
              refine i_var rfl ?_
              refine i_nil ?_
              refine s_dlen g.sh r_due h (fun t33 h => ?_)
              refine i_neI ?_
              refine i_bl ?_
              refine ite2b (fun hb34 => ?_) (fun hb34 => ?_)
              · replace h := wpm_t hb34 h
                refine i_ret ?_
                refine i_c ?_
                exact h _ _ g
              · replace h := wpm_f hb34 h
                refine i_next ?_
                refine nx_seq ?_
                refine i_seq ?_
                refine i_for ?_
                refine i_rng1 (i_cons ?_)
                refine i_cb ?_
                refine i_cons ?_
                refine i_var rfl ?_
                refine i_nil ?_
                refine s_dlen g.sh r_due h (fun t36 h => ?_)
                refine i_nil ?_
                refine i_rng1A h (fun h => ?_)
                have hm35 : ∀ x ∈ ([] : List Addr), x ∈ [] ∨ H x = none := fun x hx => nomatch hx
                have wk35 : Wk K (Itr 0 ((t36 : Int) - 0).toNat) (rng 0 t36) (fun (st35 : Unit) σ' S' H' => ∃ (j_k : Option V), σ' = [some v_found, some v_due, j_k] ∧ Gx [] S28j H28j S' H') := by
                  refine wk_rng fun st σ2 S2 H2 hR => ?_
                  obtain ⟨j_k, rfl, gl35⟩ := hR
                  exact gl35.sh
                refine s_forR (R := (fun (st35 : Unit) σ' S' H' => ∃ (j_k : Option V), σ' = [some v_found, some v_due, j_k] ∧ Gx [] S28j H28j S' H')) wk35 ⟨_, rfl, (Gx.refl g.sh)⟩ h (fun y35 v35 st35 σ1 S35a H35a S35b H35b P35 hret35 hR gs rv h => ?_) (fun st35 σ1 S35j H35j hR h => ?_)
                · obtain ⟨j_k, rfl, gl35⟩ := hR
                  replace r_found := Py.mono gl35.s r_found
                  replace r_due := Py.mono gl35.s r_due
                  replace r_found := Py.mono gs.s r_found
                  replace r_due := Py.mono gs.s r_due
                  replace gl35 := gl35.trans0 gs
                  obtain rfl := rv
                  refine i_nameE (σ' := [_, _, some (V.int (y35))]) rfl ?_
                  refine i_if ?_
                  refine i_not ?_
                  refine i_B ?_
                  refine i_call ?_
                  refine i_cons ?_
                  refine i_op ?_
                  refine i_var rfl ?_
                  refine i_var rfl ?_
                  refine s_didx gl35.sh r_found h (fun t37 v38 r39 h => ?_)
                  refine i_cons ?_
                  refine i_op ?_
                  refine i_var rfl ?_
                  refine i_var rfl ?_
                  refine s_didx gl35.sh r_due h (fun t40 v41 r42 h => ?_)
                  refine i_nil ?_
                  refine ⟨S35b, v38, t37, v41, t40, rfl, gl35.sh, r39, r42, wpm_mono (wb h) (fun t43 h S44 H45 gs => ?_) (fun c he S1 H1 gs => he _ _ (g.trans (gl35.trans0 gs) hm35))⟩
                  replace r_found := Py.mono gs.s r_found
                  replace r_due := Py.mono gs.s r_due
                  replace gl35 := gl35.trans0 gs
                  refine i_bl ?_
                  refine ite2b (fun hb46 => ?_) (fun hb46 => ?_)
                  · replace h := wpm_t hb46 h
                    refine i_ret ?_
                    refine i_c ?_
                    exact (hret35 _ h) _ _ (g.trans gl35 hm35)
                  · replace h := wpm_f hb46 h
                    refine i_next ?_
                    exact ⟨_, _, h, _, rfl, gl35⟩
                obtain ⟨j_k, rfl, gl35⟩ := hR
                replace r_found := Py.mono gl35.s r_found
                replace r_due := Py.mono gl35.s r_due
                replace g := g.trans gl35 hm35
                refine nx_seq ?_
                refine i_ret ?_
                refine i_c ?_
                exact h _ _ g

abbrev s_law_row : PySem.Stmt := topS 12
theorem sc_law_row : FnScope ["reel", "most", "many", "wide", "kind", "found", "k", "number"] ["reel", "most"] (defScope s_law_row) := ⟨rfl, rfl, rfl, by decide +kernel, rfl, by decide +kernel, by decide +kernel⟩

def sp_law_row (K : Fr) (ca : XC → Addr) : Sp := fun vs H Q E => ∃ (S0 : Hp) (a_reel : Addr) (reel : List Int) (most : Int), vs = [(V.ref a_reel), (V.int (most))] ∧ Ex S0 H ∧ OwnL K S0 H a_reel reel ∧ wpm (m_law_row reel most) (fun r => ∀ p S' H', Gx [a_reel] S0 H S' H' → OwnL K S' H' a_reel r.2 → H p = none → OwnL K S' H' p r.1 → Q (.ref p) H') (fun c => ∀ S' H', Gx [a_reel] S0 H S' H' → E (.ref (ca c)) none H')

theorem ok_law_row {P : Program} {w : World} {K : Fr} {mg : PySem.Str → Option Value} {base : Heap} {ca : XC → Addr} (A0 : At K mg "_law_row" s_law_row ["reel", "most"]) (D_law_take : Dfn P w K mg base "_law_take" 1 ["reel", "many"] (sp_law_take K ca)) (n_range : mg "range" = none) : Dfn P w K mg base "_law_row" 2 ["reel", "most"] (sp_law_row K ca) := by
  obtain ⟨f_law_take, fd_law_take, mg_law_take, kp_law_take, bd_law_take, ok_law_take'⟩ := D_law_take.ex
  refine Dfn.mk' A0 fun f fd F => F.ok (CX := L2.CX P w) sc_law_row (fun vs H Q E h => ?_) (fun cdv A outer s H vs Q E hr h => ?_)
  · obtain ⟨S0, a_reel, reel, most, rfl, e0, o_reel, h⟩ := h
    rfl
  · obtain ⟨S0, a_reel, reel, most, rfl, e0, o_reel, h⟩ := h
    unfold m_law_row at h
    have g : Gx [a_reel] S0 H S0 H := Gx.refl e0
    refine ⟨_, pss_cons (ps_set (i := 2) sc_law_row.nd rfl (by first | exact Or.inl rfl | exact Or.inr rfl) (pe_ix (ix_listK (K := K)) (pe_lst (pa_cons (pe_call ok_law_take' (hr.mono (by decide)) (by rfl) mg_law_take kp_law_take bd_law_take .nil (passes_call (takes_of rfl rfl rfl rfl) fun _ _ _ _ h => h) (pa_cons (pv 0) (pa_cons (pe_op op_add (pv 1) pe_int) pa_nil))) (pa_cons (pv 1) (pa_cons (pe_call ok_law_take' (hr.mono (by decide)) (by rfl) mg_law_take kp_law_take bd_law_take .nil (passes_call (takes_of rfl rfl rfl rfl) fun _ _ _ _ h => h) (pa_cons (pv 0) (pa_cons pe_int pa_nil))) pa_nil)))) (pe_call ok_law_take' (hr.mono (by decide)) (by rfl) mg_law_take kp_law_take bd_law_take .nil (passes_call (takes_of rfl rfl rfl rfl) fun _ _ _ _ h => h) (pa_cons (pv 0) (pa_cons pe_int pa_nil))) (fun _ _ => rfl))) (pss_cons (ps_set (i := 3) sc_law_row.nd rfl (by first | exact Or.inl rfl | exact Or.inr rfl) (pe_ix (ix_listK (K := K)) (pe_lst (pa_cons pe_int (pa_cons pe_int (pa_cons pe_int (pa_cons (pe_op op_add (pv 2) pe_int) (pa_cons pe_int pa_nil)))))) (pe_call ok_law_take' (hr.mono (by decide)) (by rfl) mg_law_take kp_law_take bd_law_take .nil (passes_call (takes_of rfl rfl rfl rfl) fun _ _ _ _ h => h) (pa_cons (pv 0) (pa_cons pe_int pa_nil))) (fun _ _ => rfl))) (pss_cons (ps_set (i := 4) sc_law_row.nd rfl (by first | exact Or.inl rfl | exact Or.inr rfl) (pe_call ok_law_take' (hr.mono (by decide)) (by rfl) mg_law_take kp_law_take bd_law_take .nil (passes_call (takes_of rfl rfl rfl rfl) fun _ _ _ _ h => h) (pa_cons (pv 0) (pa_cons pe_int pa_nil)))) (pss_cons (ps_set (i := 5) sc_law_row.nd rfl (by first | exact Or.inl rfl | exact Or.inr rfl) (pe_lst pa_nil)) (pss_cons (ps_for (passes_of rfl) rfl (pi_range1 (by rfl) n_range (pa_cons (pv 2) pa_nil)) (pg_name (i := 6) sc_law_row.nd rfl (by first | exact Or.inl rfl | exact Or.inr rfl)) (pss_cons (ps_set (i := 7) sc_law_row.nd rfl (by first | exact Or.inl rfl | exact Or.inr rfl) (pe_call ok_law_take' (hr.mono (by decide)) (by rfl) mg_law_take kp_law_take bd_law_take .nil (passes_call (takes_of rfl rfl rfl rfl) fun _ _ _ _ h => h) (pa_cons (pv 0) (pa_cons (pv 3) pa_nil)))) (pss_one (ps_expr (pe_K (K := K) (pe_bm PySem.F.plainAttrs_list PySem.F.slot_list_append PySem.F.type_list_append mt_append (pv 5) (pa_cons (pe_ix (ix_listK (K := K)) (pe_lst (pa_cons (pv 7) (pa_cons (pe_op op_sub (pv 7) (pe_op op_fdiv (pv 3) pe_int)) (pa_cons (pe_op op_add (pe_op op_mul (pe_op op_sub (pv 7) pe_int) (pe_op op_pow pe_int pe_int)) (pv 7)) (pa_cons (pv 6) (pa_cons (pe_op op_mod (pv 6) (pv 3)) pa_nil)))))) (pv 4) (fun _ _ => rfl)) pa_nil))))))) (pss_one (ps_ret (pv 5))))))), ?_⟩
    refine i_start (σ := [some (V.ref a_reel), some (V.int (most)), none, none, none, none, none, none]) rfl ?_
    refine i_seq ?_
    refine i_asg ?_
    refine i_op ?_
    refine i_lst ?_
    refine i_cons ?_
    refine i_call ?_
    refine i_cons ?_
    refine i_var rfl ?_
    refine i_cons ?_
    refine i_op ?_
    refine i_var rfl ?_
    refine i_c ?_
    refine i_I0 ?_
    refine i_nil ?_
    refine ⟨S0, a_reel, reel, (most + 1), rfl, g.sh, o_reel, wpm_mono (wb h) (fun t1 h S2 H3 gs o_reel => ?_) (fun c he S1 H1 gs => he _ _ (g.trans gs (by intro x hx; simp only [List.mem_cons, List.not_mem_nil, or_false] at hx; subst hx; exact (Or.symm (.inr (by simp))))))⟩
    replace g := g.trans gs (by intro x hx; simp only [List.mem_cons, List.not_mem_nil, or_false] at hx; subst hx; exact (Or.symm (.inr (by simp))))
    refine i_cons ?_
    refine i_var rfl ?_
    refine i_cons ?_
    refine i_call ?_
    refine i_cons ?_
    refine i_var rfl ?_
    refine i_cons ?_
    refine i_c ?_
    refine i_nil ?_
    refine ⟨S2, a_reel, t1.2, 5, rfl, g.sh, o_reel, wpm_mono (wb h) (fun t4 h S5 H6 gs o_reel => ?_) (fun c he S1 H1 gs => he _ _ (g.trans gs (by intro x hx; simp only [List.mem_cons, List.not_mem_nil, or_false] at hx; subst hx; exact (Or.symm (.inr (by simp))))))⟩
    replace g := g.trans gs (by intro x hx; simp only [List.mem_cons, List.not_mem_nil, or_false] at hx; subst hx; exact (Or.symm (.inr (by simp))))
    refine i_nil ?_
    refine s_lstS (K := K) (xs := ([t1.1, most, t4.1] : List Int)) g (All2.cons rfl (All2.cons rfl (All2.cons rfl All2.nil))) (show (3 : Nat) ≤ 16777216 by decide) (fun p7 S8 H9 gA gs r_p7 => ?_)
    replace o_reel := OwnL.keep0 o_reel gs
    replace g := gA
    refine i_call ?_
    refine i_cons ?_
    refine i_var rfl ?_
    refine i_cons ?_
    refine i_c ?_
    refine i_nil ?_
    refine ⟨S8, a_reel, t4.2, 3, rfl, g.sh, o_reel, wpm_mono (wb h) (fun t10 h S11 H12 gs o_reel => ?_) (fun c he S1 H1 gs => he _ _ (g.trans gs (by intro x hx; simp only [List.mem_cons, List.not_mem_nil, or_false] at hx; subst hx; exact (Or.symm (.inr (by simp))))))⟩
    replace r_p7 := RepL.mono gs.s r_p7
    replace g := g.trans gs (by intro x hx; simp only [List.mem_cons, List.not_mem_nil, or_false] at hx; subst hx; exact (Or.symm (.inr (by simp))))
    refine s_idxF (r_p7.hp g.sh) h (fun t13 h => ?_)
    refine i_nameE (σ' := [_, _, some (V.int (t13)), _, _, _, _, _]) rfl ?_
    refine nx_seq ?_
    refine i_seq ?_
    refine i_asg ?_
    refine i_op ?_
    refine i_lst ?_
    refine i_cons ?_
    refine i_c ?_
    refine i_cons ?_
    refine i_c ?_
    refine i_cons ?_
    refine i_c ?_
    refine i_cons ?_
    refine i_op ?_
    refine i_var rfl ?_
    refine i_c ?_
    refine i_I0 ?_
    refine i_cons ?_
    refine i_c ?_
    refine i_nil ?_
    refine s_lstS (K := K) (xs := ([1, 2, 5, (t13 + 1), 1000] : List Int)) g (All2.cons rfl (All2.cons rfl (All2.cons rfl (All2.cons rfl (All2.cons rfl All2.nil))))) (show (5 : Nat) ≤ 16777216 by decide) (fun p14 S15 H16 gA gs r_p14 => ?_)
    replace o_reel := OwnL.keep0 o_reel gs
    replace g := gA
    refine i_call ?_
    refine i_cons ?_
    refine i_var rfl ?_
    refine i_cons ?_
    refine i_c ?_
    refine i_nil ?_
    refine ⟨S15, a_reel, t10.2, 5, rfl, g.sh, o_reel, wpm_mono (wb h) (fun t17 h S18 H19 gs o_reel => ?_) (fun c he S1 H1 gs => he _ _ (g.trans gs (by intro x hx; simp only [List.mem_cons, List.not_mem_nil, or_false] at hx; subst hx; exact (Or.symm (.inr (by simp))))))⟩
    replace r_p14 := RepL.mono gs.s r_p14
    replace g := g.trans gs (by intro x hx; simp only [List.mem_cons, List.not_mem_nil, or_false] at hx; subst hx; exact (Or.symm (.inr (by simp))))
    refine s_idxF (r_p14.hp g.sh) h (fun t20 h => ?_)
    refine i_nameE (σ' := [_, _, _, some (V.int (t20)), _, _, _, _]) rfl ?_
    refine nx_seq ?_
    refine i_seq ?_
    refine i_asg ?_
    refine i_call ?_
    refine i_cons ?_
    refine i_var rfl ?_
    refine i_cons ?_
    refine i_c ?_
    refine i_nil ?_
    refine ⟨S18, a_reel, t17.2, 5, rfl, g.sh, o_reel, wpm_mono (wb h) (fun t21 h S22 H23 gs o_reel => ?_) (fun c he S1 H1 gs => he _ _ (g.trans gs (by intro x hx; simp only [List.mem_cons, List.not_mem_nil, or_false] at hx; subst hx; exact (Or.symm (.inr (by simp))))))⟩
    replace g := g.trans gs (by intro x hx; simp only [List.mem_cons, List.not_mem_nil, or_false] at hx; subst hx; exact (Or.symm (.inr (by simp))))
    refine i_nameE (σ' := [_, _, _, _, some (V.int (t21.1)), _, _, _]) rfl ?_
    refine nx_seq ?_
    refine i_seq ?_
    refine i_asg ?_
    refine i_lst ?_
    refine i_nil ?_
    refine s_lstO (K := K) (xs := ([] : List (Int))) g All2.nil (show (0 : Nat) ≤ 16777216 by decide) (fun p24 H26 gA gs hp_p24 o_p24 => ?_)
    have ne_a_reel_p24 := OwnL.ne o_reel hp_p24
    have f0_p24 := Gx.back g hp_p24
    replace o_reel := OwnL.keep0 o_reel gs
    replace g := gA
    refine i_nameE (σ' := [_, _, _, _, _, some (V.ref p24), _, _]) rfl ?_
    refine nx_seq ?_
    refine i_seq ?_
    refine i_for ?_
    refine i_rng1 (i_cons ?_)
    refine i_var rfl ?_
    refine i_nil ?_
    refine i_rng1A h (fun h => ?_)
    have hm27 : ∀ x ∈ [a_reel, p24], x ∈ [a_reel] ∨ H x = none := by
      intro x hx
      simp only [List.mem_cons, List.not_mem_nil, or_false] at hx
      rcases hx with rfl | rfl
      · exact (Or.symm (.inr (by simp)))
      · exact (Or.symm (.inl f0_p24))
    have wk27 : Wk K (Itr 0 ((t13 : Int) - 0).toNat) (rng 0 t13) (fun (st27 : (List Int) × (List (Int))) σ' S' H' => ∃ (j_number : Option V) (j_k : Option V), σ' = [some (V.ref a_reel), some (V.int (most)), some (V.int (t13)), some (V.int (t20)), some (V.int (t21.1)), some (V.ref p24), j_k, j_number] ∧ Gx [a_reel, p24] S22 H26 S' H' ∧ OwnL K S' H' a_reel st27.1 ∧ OwnL K S' H' p24 st27.2) := by
      refine wk_rng fun st σ2 S2 H2 hR => ?_
      obtain ⟨j_number, j_k, rfl, gl27, o_reel, o_p24⟩ := hR
      exact gl27.sh
    refine s_forM (R := (fun (st27 : (List Int) × (List (Int))) σ' S' H' => ∃ (j_number : Option V) (j_k : Option V), σ' = [some (V.ref a_reel), some (V.int (most)), some (V.int (t13)), some (V.int (t20)), some (V.int (t21.1)), some (V.ref p24), j_k, j_number] ∧ Gx [a_reel, p24] S22 H26 S' H' ∧ OwnL K S' H' a_reel st27.1 ∧ OwnL K S' H' p24 st27.2)) wk27 ⟨_, _, rfl, (Gx.refl g.sh), o_reel, o_p24⟩ h (fun y27 v27 st27 σ1 S27a H27a S27b H27b P27 hR gs rv h => ?_) (fun st27 σ1 S27j H27j hR h => ?_)
    · obtain ⟨j_number, j_k, rfl, gl27, o_reel, o_p24⟩ := hR
      replace o_reel := OwnL.keep0 o_reel gs
      replace o_p24 := OwnL.keep0 o_p24 gs
      replace gl27 := gl27.trans0 gs
      obtain rfl := rv
      refine i_nameE (σ' := [_, _, _, _, _, _, some (V.int (y27)), _]) rfl ?_
      refine i_seq ?_
      refine i_asg ?_
      refine i_call ?_
      refine i_cons ?_
      refine i_var rfl ?_
      refine i_cons ?_
      refine i_var rfl ?_
      refine i_nil ?_
      refine ⟨S27b, a_reel, st27.1, t20, rfl, gl27.sh, o_reel, wpm_mono (wb h) (fun t28 h S29 H30 gs o_reel => ?_) (fun c he S1 H1 gs => he _ _ (g.trans (gl27.trans gs (by intro x hx; simp only [List.mem_cons, List.not_mem_nil, or_false] at hx; subst hx; exact (Or.symm (.inr (by simp))))) hm27))⟩
      replace o_p24 := OwnL.keep o_p24 gs (by simp only [List.mem_cons, List.not_mem_nil, or_false, not_or]; exact (Ne.symm ne_a_reel_p24))
      replace gl27 := gl27.trans gs (by intro x hx; simp only [List.mem_cons, List.not_mem_nil, or_false] at hx; subst hx; exact (Or.symm (.inr (by simp))))
      refine i_nameE (σ' := [_, _, _, _, _, _, _, some (V.int (t28.1))]) rfl ?_
      refine nx_seq ?_
      refine i_drop ?_
      refine i_bm ?_
      refine i_var rfl ?_
      refine s_bmL o_p24.hp ?_
      refine i_cons ?_
      refine i_op ?_
      refine i_lst ?_
      refine i_cons ?_
      refine i_var rfl ?_
      refine i_cons ?_
      refine i_op ?_
      refine i_var rfl ?_
      refine i_op ?_
      refine i_var rfl ?_
      refine i_c ?_
      refine i_I ⟨by decide, by decide⟩ ?_
      refine i_I0 ?_
      refine i_cons ?_
      refine i_op ?_
      refine i_op ?_
      refine i_op ?_
      refine i_var rfl ?_
      refine i_c ?_
      refine i_I0 ?_
      refine i_op ?_
      refine i_c ?_
      refine i_c ?_
      refine s_pow (k := 100000000000000000000000000) ⟨by decide, by decide, by decide⟩ (by decide +kernel) ?_
      refine s_mul h (fun h => ?_)
      refine i_var rfl ?_
      refine i_I0 ?_
      refine i_cons ?_
      refine i_var rfl ?_
      refine i_cons ?_
      refine i_op ?_
      refine i_var rfl ?_
      refine i_var rfl ?_
      refine s_mod h (fun h => ?_)
      refine i_nil ?_
      refine s_lstS (K := K) (xs := ([t28.1, (t28.1 - (t20 / 2)), (((t28.1 - 1) * 100000000000000000000000000) + t28.1), y27, (y27 % t20)] : List Int)) gl27 (All2.cons rfl (All2.cons rfl (All2.cons rfl (All2.cons rfl (All2.cons rfl All2.nil))))) (show (5 : Nat) ≤ 16777216 by decide) (fun p31 S32 H33 gA gs r_p31 => ?_)
      replace o_reel := OwnL.keep0 o_reel gs
      replace o_p24 := OwnL.keep0 o_p24 gs
      replace gl27 := gA
      refine i_var rfl ?_
      refine s_idxF (r_p31.hp gl27.sh) h (fun t34 h => ?_)
      refine i_nil ?_
      refine s_app (x := t34) gl27 o_p24 (.inr (by simp)) rfl h (fun H35 gA oA heq h => ?_)
      replace gl27 := gA
      replace o_p24 := oA
      replace o_reel := o_reel.other ne_a_reel_p24 heq
      exact ⟨_, _, h, _, _, rfl, gl27, o_reel, o_p24⟩
    obtain ⟨j_number, j_k, rfl, gl27, o_reel, o_p24⟩ := hR
    replace g := g.trans gl27 hm27
    refine nx_seq ?_
    refine i_ret ?_
    refine i_var rfl ?_
    exact h _ _ _ g o_reel f0_p24 o_p24

abbrev slaw : PySem.Stmt := topS 13
theorem sclaw : FnScope ["script", "k", "cell", "reel", "row", "due", "handed", "turn", "number", "hue", "ahead", "found", "first", "beyond", "stretch", "many", "other"] ["script"] (defScope slaw) := ⟨rfl, rfl, rfl, by decide +kernel, rfl, by decide +kernel, by decide +kernel⟩

def splaw (K : Fr) (ca : XC → Addr) : Sp := fun vs H Q E => ∃ (S0 : Hp) (a_script : Addr) (script : List Int), vs = [(V.ref a_script)] ∧ Ex S0 H ∧ RepQ K S0 a_script script ∧ wpm (m_law script) (fun r => ∀ S' H', Gx [] S0 H S' H' → Q (V.bl (r)) H') (fun c => ∀ S' H', Gx [] S0 H S' H' → E (.ref (ca c)) none H')

theorem oklaw {P : Program} {w : World} {K : Fr} {mg : PySem.Str → Option Value} {base : Heap} {ca : XC → Addr} (D_law_reel : Dfn P w K mg base "_law_reel" 1 ["cell"] (sp_law_reel K ca)) (D_law_row : Dfn P w K mg base "_law_row" 2 ["reel", "most"] (sp_law_row K ca)) (D_law_take : Dfn P w K mg base "_law_take" 1 ["reel", "many"] (sp_law_take K ca)) (Dlast_places : Dfn P w K mg base "last_places" 1 ["row"] (splast_places K ca)) (D_law_alike : Dfn P w K mg base "_law_alike" 5 ["found", "due"] (sp_law_alike K ca 4)) (Dunlike_in : Dfn P w K mg base "unlike_in" 2 ["row", "stretch"] (spunlike_in K ca)) (n_enumerate : mg "enumerate" = none) (n_len : mg "len" = none) (n_int : mg "int" = none) (n_range : mg "range" = none) (n_list : mg "list" = none) (n_set : mg "set" = none) : ∀ f fd, FunD K "law" "law" (defArgs slaw) (defBody slaw) (defScope slaw) [] [] f fd → FnOk P w K mg base (L2.CX P w) 6 f fd ["script"] (splaw K ca) := by
  obtain ⟨f_law_reel, fd_law_reel, mg_law_reel, kp_law_reel, bd_law_reel, ok_law_reel'⟩ := D_law_reel.ex
  obtain ⟨f_law_row, fd_law_row, mg_law_row, kp_law_row, bd_law_row, ok_law_row'⟩ := D_law_row.ex
  obtain ⟨f_law_take, fd_law_take, mg_law_take, kp_law_take, bd_law_take, ok_law_take'⟩ := D_law_take.ex
  obtain ⟨flast_places, fdlast_places, mglast_places, kplast_places, bdlast_places, oklast_places'⟩ := Dlast_places.ex
  obtain ⟨f_law_alike, fd_law_alike, mg_law_alike, kp_law_alike, bd_law_alike, ok_law_alike'⟩ := D_law_alike.ex
  obtain ⟨funlike_in, fdunlike_in, mgunlike_in, kpunlike_in, bdunlike_in, okunlike_in'⟩ := Dunlike_in.ex
  refine fun f fd F => F.ok (CX := L2.CX P w) sclaw (fun vs H Q E h => ?_) (fun cdv A outer s H vs Q E hr h => ?_)
  · obtain ⟨S0, a_script, script, rfl, e0, r_script, h⟩ := h
    rfl
  · obtain ⟨S0, a_script, script, rfl, e0, r_script, h⟩ := h
    unfold m_law at h
    have g : Gx [] S0 H S0 H := Gx.refl e0
    refine ⟨_, pss_cons (ps_for (passes_of rfl) rfl (pi_enumK (K := K) (by rfl) n_enumerate (pa_cons (pe_op op_cat (pe_slice (sl_listK (K := K)) (pv 0) po_none (po_some pe_int)) (pe_lst (pa_cons (pe_callB (call_lenK (K := K)) (by rfl) n_len (by decide +kernel) (pa_cons (pv 0) pa_nil)) pa_nil))) pa_nil)) (pg_tupK (K := K) rfl (pgs_cons (pg_name (i := 1) sclaw.nd rfl (by first | exact Or.inl rfl | exact Or.inr rfl)) (pgs_cons (pg_name (i := 2) sclaw.nd rfl (by first | exact Or.inl rfl | exact Or.inr rfl)) pgs_nil))) (pss_cons (ps_set (i := 3) sclaw.nd rfl (by first | exact Or.inl rfl | exact Or.inr rfl) (pe_call ok_law_reel' (hr.mono (by decide)) (by rfl) mg_law_reel kp_law_reel bd_law_reel .nil (passes_call (takes_of rfl rfl rfl rfl) fun _ _ _ _ h => h) (pa_cons (pv 2) pa_nil))) (pss_cons (ps_set (i := 4) sclaw.nd rfl (by first | exact Or.inl rfl | exact Or.inr rfl) (pe_call ok_law_row' (hr.mono (by decide)) (by rfl) mg_law_row kp_law_row bd_law_row .nil (passes_call (takes_of rfl rfl rfl rfl) fun _ _ _ _ h => h) (pa_cons (pv 3) (pa_cons (pe_ix (ix_listK (K := K)) (pe_lst (pa_cons pe_int (pa_cons pe_int pa_nil))) (pe_callTy call_int1G (by rfl) n_int (by decide +kernel) (pa_cons (pe_and (pe_cmpR op_eq (pv 1) pe_int (nomark _)) (pe_one (pe_cmpR op_eq (pe_call ok_law_take' (hr.mono (by decide)) (by rfl) mg_law_take kp_law_take bd_law_take .nil (passes_call (takes_of rfl rfl rfl rfl) fun _ _ _ _ h => h) (pa_cons (pv 3) (pa_cons pe_int pa_nil))) pe_int (nomark _)))) pa_nil)) (fun _ _ => rfl)) pa_nil)))) (pss_cons (ps_set (i := 5) sclaw.nd rfl (by first | exact Or.inl rfl | exact Or.inr rfl) (pe_lst pa_nil)) (pss_cons (ps_for (passes_of rfl) rfl (pi_enumK (K := K) (by rfl) n_enumerate (pa_cons (pv 4) pa_nil)) (pg_tupK (K := K) rfl (pgs_cons (pg_name (i := 8) sclaw.nd rfl (by first | exact Or.inl rfl | exact Or.inr rfl)) (pgs_cons (pg_name (i := 9) sclaw.nd rfl (by first | exact Or.inl rfl | exact Or.inr rfl)) pgs_nil))) (pss_cons (ps_setLc (i := 10) (own := [("other", 16)]) (by rfl) sclaw.nd rfl rfl (sw_true rfl rfl rfl (by decide +kernel)) (pi_lenK (K := K) (pi_range1 (by rfl) n_range (pa_cons (pv 8) pa_nil))) (blkOk_by (own := [("other", 16)]) (N := ["script", "k", "cell", "reel", "row", "due", "handed", "turn", "number", "hue", "ahead", "found", "first", "beyond", "stretch", "many", "other"]) (sc := defScope slaw) (by decide +kernel)) (fun _ _ _ _ _ => (pg_name (i := 16) sclaw.nd rfl (by first | exact Or.inl rfl | exact Or.inr rfl))) (fun _ _ _ _ _ => pts_one (pt_cmpR op_eq (pe_ix (ix_listK (K := K)) (pv 4) (pv 16) (fun _ _ => rfl)) (pv 9) (nomark _))) (fun _ _ _ _ _ => (pv 16))) (pss_one (ps_expr (pe_K (K := K) (pe_bm PySem.F.plainAttrs_list PySem.F.slot_list_append PySem.F.type_list_append mt_append (pv 5) (pa_cons (pe_ix (ix_listK (K := K)) (pe_op op_cat (pe_lst (pa_cons pe_non pa_nil)) (pv 10)) (pe_un un_neg pe_int) (fun _ _ => rfl)) pa_nil))))))) (pss_cons (ps_set (i := 6) sclaw.nd rfl (by first | exact Or.inl rfl | exact Or.inr rfl) (pe_callTy (call_listK (K := K)) (by rfl) n_list (by decide +kernel) (pa_cons (pv 4) pa_nil))) (pss_cons (ps_for (passes_of rfl) rfl (pi_range1 (by rfl) n_range (pa_cons pe_int pa_nil)) (pg_name (i := 7) sclaw.nd rfl (by first | exact Or.inl rfl | exact Or.inr rfl)) (pss_cons (ps_set (i := 11) sclaw.nd rfl (by first | exact Or.inl rfl | exact Or.inr rfl) (pe_call oklast_places' (hr.mono (by decide)) (by rfl) mglast_places kplast_places bdlast_places .nil (passes_call (takes_of rfl rfl rfl rfl) fun _ _ _ _ h => h) (pa_cons (pv 6) pa_nil))) (pss_cons (ps_if (PW.pt (pw_or (pt_not (pt_val (pe_call ok_law_alike' (hr.mono (by decide)) (by rfl) mg_law_alike kp_law_alike bd_law_alike .nil (passes_call (takes_of rfl rfl rfl rfl) fun _ _ _ _ h => h) (pa_cons (pv 11) (pa_cons (pv 5) pa_nil))))) (pw_or1 (pt_cmpR (op_neK (K := K) hr.units) (pv 6) (pv 4) (nomark _))))) (pss_one (ps_ret pe_bl)) pss_nil) (pss_one (ps_expr (pe_K (K := K) (pe_bm PySem.F.plainAttrs_list PySem.F.slot_list_append PySem.F.type_list_append mt_append (pv 11) (pa_cons pe_int pa_nil)))))))) (pss_one (ps_for (passes_of rfl) rfl (pi_range1 (by rfl) n_range (pa_cons (pe_op op_mul pe_int (pe_callTy call_int1G (by rfl) n_int (by decide +kernel) (pa_cons (pe_cmpR (op_neK (K := K) hr.units) (pv 4) (pe_lst pa_nil) (nomark _)) pa_nil))) pa_nil)) (pg_name (i := 7) sclaw.nd rfl (by first | exact Or.inl rfl | exact Or.inr rfl)) (pss_cons (ps_set (i := 12) sclaw.nd rfl (by first | exact Or.inl rfl | exact Or.inr rfl) (pe_call ok_law_take' (hr.mono (by decide)) (by rfl) mg_law_take kp_law_take bd_law_take .nil (passes_call (takes_of rfl rfl rfl rfl) fun _ _ _ _ h => h) (pa_cons (pv 3) (pa_cons (pe_callB (call_lenK (K := K)) (by rfl) n_len (by decide +kernel) (pa_cons (pv 4) pa_nil)) pa_nil)))) (pss_cons (ps_set (i := 13) sclaw.nd rfl (by first | exact Or.inl rfl | exact Or.inr rfl) (pe_op op_add (pe_op op_add (pv 12) pe_int) (pe_call ok_law_take' (hr.mono (by decide)) (by rfl) mg_law_take kp_law_take bd_law_take .nil (passes_call (takes_of rfl rfl rfl rfl) fun _ _ _ _ h => h) (pa_cons (pv 3) (pa_cons (pe_op op_sub (pe_callB (call_lenK (K := K)) (by rfl) n_len (by decide +kernel) (pa_cons (pv 4) pa_nil)) (pv 12)) pa_nil))))) (pss_one (ps_for (passes_of rfl) rfl (pi_listK (K := K) (pe_lst (pa_cons (pe_tup (pa_cons (pv 12) (pa_cons (pv 13) pa_nil))) (pa_cons (pe_tup (pa_cons pe_int (pa_cons (pe_callB (call_lenK (K := K)) (by rfl) n_len (by decide +kernel) (pa_cons (pv 4) pa_nil)) pa_nil))) (pa_cons (pe_tup (pa_cons (pv 12) (pa_cons (pe_op op_add (pv 12) pe_int) pa_nil))) pa_nil))))) (pg_name (i := 14) sclaw.nd rfl (by first | exact Or.inl rfl | exact Or.inr rfl)) (pss_cons (ps_set (i := 15) sclaw.nd rfl (by first | exact Or.inl rfl | exact Or.inr rfl) (pe_lenSetK (K := K) rfl (by rfl) n_len (by rfl) n_set (pe_slice (sl_listK (K := K)) (pv 4) (po_some (pe_ix (ix_tupK (K := K)) (pv 14) pe_int (fun _ _ => rfl))) (po_some (pe_ix (ix_tupK (K := K)) (pv 14) pe_int (fun _ _ => rfl)))))) (pss_one (ps_if (PW.pt (pw_or (pt_not (pt_val (pe_call ok_law_alike' (hr.mono (by decide)) (by rfl) mg_law_alike kp_law_alike bd_law_alike .nil (passes_call (takes_of rfl rfl rfl rfl) fun _ _ _ _ h => h) (pa_cons (pe_call okunlike_in' (hr.mono (by decide)) (by rfl) mgunlike_in kpunlike_in bdunlike_in .nil (passes_call (takes_of rfl rfl rfl rfl) fun _ _ _ _ h => h) (pa_cons (pv 6) (pa_cons (pv 14) pa_nil))) (pa_cons (pv 15) pa_nil))))) (pw_or1 (pt_cmpR (op_neK (K := K) hr.units) (pv 6) (pv 4) (nomark _))))) (pss_one (ps_ret pe_bl)) pss_nil)))))))))))))))) (pss_one (ps_ret pe_bl)), ?_⟩
    refine i_start (σ := [some (V.ref a_script), none, none, none, none, none, none, none, none, none, none, none, none, none, none, none, none]) rfl ?_
    refine i_seq ?_
    refine i_for ?_
    refine i_enum (i_cons ?_)
    refine i_op ?_
    refine i_sl ?_
    refine i_var rfl ?_
    refine i_noPart ?_
    refine i_part ?_
    refine i_c ?_
    refine i_partI ?_
    refine s_slS g (r_script.hp g.sh) (fun p2 S3 H4 gA gs r_p2 => ?_)
    replace r_script := RepQ.mono gs.s r_script
    replace g := gA
    refine i_lst ?_
    refine i_cons ?_
    refine i_cb ?_
    refine i_cons ?_
    refine i_var rfl ?_
    refine i_nil ?_
    refine s_len (r_script.hp g.sh) ?_
    refine i_nil ?_
    refine s_lstS (K := K) (xs := ([(script.length : Int)] : List Int)) g (All2.cons rfl All2.nil) (show (1 : Nat) ≤ 16777216 by decide) (fun p5 S6 H7 gA gs r_p5 => ?_)
    replace r_script := RepQ.mono gs.s r_script
    replace r_p2 := RepL.mono gs.s r_p2
    replace g := gA
    refine s_catS g (r_p2.tp g.sh) (r_p5.tp g.sh) h (fun p9 S10 H11 gA gs r_p9 h => ?_)
    replace r_script := RepQ.mono gs.s r_script
    replace g := gA
    refine i_nil ?_
    refine i_enumA (r_p9.hp g.sh) ?_
    have hm1 : ∀ x ∈ ([] : List Addr), x ∈ [] ∨ H x = none := fun x hx => nomatch hx
    have wk1 : Wk K (Ite K p9) (en 0 ((cut script none (some 5)) ++ ([(script.length : Int)] : List Int))) (fun (st1 : Unit) σ' S' H' => ∃ (j_reel : Option V) (j_row : Option V) (j_due : Option V) (j_number : Option V) (j_hue : Option V) (j_ahead : Option V) (j_handed : Option V) (j_turn : Option V) (j_found : Option V) (j_first : Option V) (j_beyond : Option V) (j_stretch : Option V) (j_many : Option V) (j_k : Option V) (j_cell : Option V), σ' = [some (V.ref a_script), j_k, j_cell, j_reel, j_row, j_due, j_handed, j_turn, j_number, j_hue, j_ahead, j_found, j_first, j_beyond, j_stretch, j_many, none] ∧ Gx [] S10 H11 S' H') := by
      refine wk_enum fun st σ2 S2 H2 hR => ?_
      obtain ⟨j_reel, j_row, j_due, j_number, j_hue, j_ahead, j_handed, j_turn, j_found, j_first, j_beyond, j_stretch, j_many, j_k, j_cell, rfl, gl1⟩ := hR
      exact ⟨gl1.sh, (RepL.hp (RepL.mono gl1.s r_p9) gl1.sh)⟩
    refine s_forR (R := (fun (st1 : Unit) σ' S' H' => ∃ (j_reel : Option V) (j_row : Option V) (j_due : Option V) (j_number : Option V) (j_hue : Option V) (j_ahead : Option V) (j_handed : Option V) (j_turn : Option V) (j_found : Option V) (j_first : Option V) (j_beyond : Option V) (j_stretch : Option V) (j_many : Option V) (j_k : Option V) (j_cell : Option V), σ' = [some (V.ref a_script), j_k, j_cell, j_reel, j_row, j_due, j_handed, j_turn, j_number, j_hue, j_ahead, j_found, j_first, j_beyond, j_stretch, j_many, none] ∧ Gx [] S10 H11 S' H')) wk1 ⟨_, _, _, _, _, _, _, _, _, _, _, _, _, _, _, rfl, (Gx.refl g.sh)⟩ h (fun y1 v1 st1 σ1 S1a H1a S1b H1b P1 hret1 hR gs rv h => ?_) (fun st1 σ1 S1j H1j hR h => ?_)
    · obtain ⟨j_reel, j_row, j_due, j_number, j_hue, j_ahead, j_handed, j_turn, j_found, j_first, j_beyond, j_stretch, j_many, j_k, j_cell, rfl, gl1⟩ := hR
      replace r_script := RepQ.mono gl1.s r_script
      replace r_script := RepQ.mono gs.s r_script
      replace gl1 := gl1.trans0 gs
      have r12 := rv
      obtain ⟨a13, rfl⟩ := rep_ref r12
      obtain ⟨_, hs14, _, _, rfl, rfl, _, _, rfl, rfl, rfl⟩ := rep_at r12
      refine i_gtup (ex_t gl1.sh hs14) rfl ?_
      refine i_gcons ?_
      refine i_nameE (σ' := [_, some (V.int (y1.1)), _, _, _, _, _, _, _, _, _, _, _, _, _, _, _]) rfl ?_
      refine i_gcons ?_
      refine i_nameE (σ' := [_, _, some (V.int (y1.2.1)), _, _, _, _, _, _, _, _, _, _, _, _, _, _]) rfl ?_
      refine i_gnil ?_
      refine i_seq ?_
      refine i_asg ?_
      refine i_call ?_
      refine i_cons ?_
      refine i_var rfl ?_
      refine i_nil ?_
      refine ⟨S1b, y1.2.1, rfl, gl1.sh, wpm_mono (wb h) (fun t19 h p22 S20 H21 gs hp_p22 o_p22 => ?_) (fun c he S1 H1 gs => he _ _ (g.trans (gl1.trans0 gs) hm1))⟩
      replace r_script := RepQ.mono gs.s r_script
      have f1_p22 := Gx.back gl1 hp_p22
      replace gl1 := gl1.trans0 gs
      refine i_nameE (σ' := [_, _, _, some (V.ref p22), _, _, _, _, _, _, _, _, _, _, _, _, _]) rfl ?_
      refine nx_seq ?_
      refine i_seq ?_
      refine i_asg ?_
      refine i_call ?_
      refine i_cons ?_
      refine i_var rfl ?_
      refine i_cons ?_
      refine i_op ?_
      refine i_lst ?_
      refine i_cons ?_
      refine i_c ?_
      refine i_cons ?_
      refine i_c ?_
      refine i_nil ?_
      refine s_lstS (K := K) (xs := ([60, 200] : List Int)) gl1 (All2.cons rfl (All2.cons rfl All2.nil)) (show (2 : Nat) ≤ 16777216 by decide) (fun p23 S24 H25 gA gs r_p23 => ?_)
      replace r_script := RepQ.mono gs.s r_script
      replace o_p22 := OwnL.keep0 o_p22 gs
      replace gl1 := gA
      refine i_cb ?_
      refine i_cons ?_
      refine i_andV ?_
      refine i_op ?_
      refine i_var rfl ?_
      refine i_c ?_
      refine i_eqI ?_
      have hm26 : ∀ x ∈ [p22], x ∈ [] ∨ H11 x = none := by
        intro x hx
        simp only [List.mem_cons, List.not_mem_nil, or_false] at hx
        rcases hx with rfl
        · exact (Or.symm (.inl f1_p22))
      refine andV_z (Lb := [p22]) (R := (fun (st : (List Int)) S' H' => OwnL K S' H' p22 st)) o_p22 h gl1.sh (fun ha27 PB N h hN => ?_) (fun t28 st34 S29 H30 gs hR h => ?_)
      · have gm26 : Gx [p22] S24 H25 S24 H25 := Gx.refl gl1.sh
        refine i_op ?_
        refine i_call ?_
        refine i_cons ?_
        refine i_var rfl ?_
        refine i_cons ?_
        refine i_c ?_
        refine i_nil ?_
        refine ⟨S24, p22, t19, 8, rfl, gm26.sh, o_p22, wpm_mono (wb h) (fun t31 h S32 H33 gs o_p22 => ?_) (fun c he S1 H1 gs => he _ _ (g.trans (gl1.trans (gm26.trans gs (by intro x hx; simp only [List.mem_cons, List.not_mem_nil, or_false] at hx; subst hx; exact (Or.symm (.inr (by simp))))) hm26) hm1))⟩
        replace r_script := RepQ.mono gs.s r_script
        replace r_p23 := RepL.mono gs.s r_p23
        replace gm26 := gm26.trans gs (by intro x hx; simp only [List.mem_cons, List.not_mem_nil, or_false] at hx; subst hx; exact (Or.symm (.inr (by simp))))
        refine i_c ?_
        refine i_eqI ?_
        exact hN _ _ _ _ gm26 o_p22 h
      replace o_p22 := hR
      replace r_script := RepQ.mono gs.s r_script
      replace r_p23 := RepL.mono gs.s r_p23
      replace gl1 := gl1.trans gs hm26
      obtain ⟨u35, eu35⟩ : ∃ u35, u35 = (t28, st34) := ⟨_, rfl⟩
      obtain rfl : t28 = u35.1 := by rw [eu35]
      obtain rfl : st34 = u35.2 := by rw [eu35]
      clear eu35
      refine i_nil ?_
      refine s_intB ?_
      refine s_idxF (r_p23.hp gl1.sh) h (fun t36 h => ?_)
      refine i_nil ?_
      have hne_p22 := OwnL.there o_p22
      refine ⟨S29, p22, u35.2, t36, rfl, gl1.sh, o_p22, wpm_mono (wb h) (fun t37 h p40 S38 H39 gs o_p22 hp_p40 o_p40 => ?_) (fun c he S1 H1 gs => he _ _ (g.trans (gl1.trans gs (by intro x hx; simp only [List.mem_cons, List.not_mem_nil, or_false] at hx; subst hx; exact (Or.symm (.inl f1_p22)))) hm1))⟩
      refine OwnL.frz o_p40 gs hp_p40 (fun S41 gs2 eS hbS r_p40 => ?_)
      replace o_p22 := OwnL.lift2 o_p22 hbS eS (by intro e; exact absurd (e ▸ hp_p40) (hne_p22))
      replace gs := gs2
      replace r_script := RepQ.mono gs.s r_script
      replace gl1 := gl1.trans gs (by intro x hx; simp only [List.mem_cons, List.not_mem_nil, or_false] at hx; subst hx; exact (Or.symm (.inl f1_p22)))
      refine i_nameE (σ' := [_, _, _, _, some (V.ref p40), _, _, _, _, _, _, _, _, _, _, _, _]) rfl ?_
      refine nx_seq ?_
      refine i_seq ?_
      refine i_asg ?_
      refine i_lst ?_
      refine i_nil ?_
      refine s_lstO (K := K) (xs := ([] : List (Option Int))) gl1 All2.nil (show (0 : Nat) ≤ 16777216 by decide) (fun p42 H44 gA gs hp_p42 o_p42 => ?_)
      have ne_p22_p42 := OwnL.ne o_p22 hp_p42
      have f1_p42 := Gx.back gl1 hp_p42
      replace r_script := RepQ.mono gs.s r_script
      replace o_p22 := OwnL.keep0 o_p22 gs
      replace r_p40 := RepL.mono gs.s r_p40
      replace gl1 := gA
      refine i_nameE (σ' := [_, _, _, _, _, some (V.ref p42), _, _, _, _, _, _, _, _, _, _, _]) rfl ?_
      refine nx_seq ?_
      refine i_seq ?_
      refine i_for ?_
      refine i_enum (i_cons ?_)
      refine i_var rfl ?_
      refine i_nil ?_
      refine i_enumA (r_p40.hp gl1.sh) ?_
      have hm45 : ∀ x ∈ [p42], x ∈ [] ∨ H11 x = none := by
        intro x hx
        simp only [List.mem_cons, List.not_mem_nil, or_false] at hx
        rcases hx with rfl
        · exact (Or.symm (.inl f1_p42))
      have wk45 : Wk K (Ite K p40) (en 0 t37.1) (fun (st45 : (List (Option Int))) σ' S' H' => ∃ (j_ahead : Option V) (j_number : Option V) (j_hue : Option V), σ' = [some (V.ref a_script), some (V.int (y1.1)), some (V.int (y1.2.1)), some (V.ref p22), some (V.ref p40), some (V.ref p42), j_handed, j_turn, j_number, j_hue, j_ahead, j_found, j_first, j_beyond, j_stretch, j_many, none] ∧ Gx [p42] S41 H44 S' H' ∧ OwnL K S' H' p42 st45) := by
        refine wk_enum fun st σ2 S2 H2 hR => ?_
        obtain ⟨j_ahead, j_number, j_hue, rfl, gl45, o_p42⟩ := hR
        exact ⟨gl45.sh, (RepL.hp (RepL.mono gl45.s r_p40) gl45.sh)⟩
      refine s_forM (R := (fun (st45 : (List (Option Int))) σ' S' H' => ∃ (j_ahead : Option V) (j_number : Option V) (j_hue : Option V), σ' = [some (V.ref a_script), some (V.int (y1.1)), some (V.int (y1.2.1)), some (V.ref p22), some (V.ref p40), some (V.ref p42), j_handed, j_turn, j_number, j_hue, j_ahead, j_found, j_first, j_beyond, j_stretch, j_many, none] ∧ Gx [p42] S41 H44 S' H' ∧ OwnL K S' H' p42 st45)) wk45 ⟨_, _, _, rfl, (Gx.refl gl1.sh), o_p42⟩ h (fun y45 v45 st45 σ1 S45a H45a S45b H45b P45 hR gs rv h => ?_) (fun st45 σ1 S45j H45j hR h => ?_)
      · obtain ⟨j_ahead, j_number, j_hue, rfl, gl45, o_p42⟩ := hR
        replace r_script := RepQ.mono gl45.s r_script
        replace o_p22 := OwnL.keep o_p22 gl45 (by simp only [List.mem_cons, List.not_mem_nil, or_false, not_or]; exact ne_p22_p42)
        replace r_p40 := RepL.mono gl45.s r_p40
        replace r_script := RepQ.mono gs.s r_script
        replace o_p22 := OwnL.keep0 o_p22 gs
        replace r_p40 := RepL.mono gs.s r_p40
        replace o_p42 := OwnL.keep0 o_p42 gs
        replace gl45 := gl45.trans0 gs
        have r46 := rv
        obtain ⟨a47, rfl⟩ := rep_ref r46
        obtain ⟨_, hs48, _, _, rfl, rfl, _, _, rfl, rfl, rfl⟩ := rep_at r46
        refine i_gtup (ex_t gl45.sh hs48) rfl ?_
        refine i_gcons ?_
        refine i_nameE (σ' := [_, _, _, _, _, _, _, _, some (V.int (y45.1)), _, _, _, _, _, _, _, _]) rfl ?_
        refine i_gcons ?_
        refine i_nameE (σ' := [_, _, _, _, _, _, _, _, _, some (V.int (y45.2.1)), _, _, _, _, _, _, _]) rfl ?_
        refine i_gnil ?_
        refine i_seq ?_
        refine i_asg ?_
        refine i_lc ?_
        refine i_len ?_
        refine i_rng1 (i_cons ?_)
        refine i_var rfl ?_
        refine i_nil ?_
        refine i_rng1A h (fun h => ?_)
        intro hlen
        obtain ⟨hl, h⟩ := wpm_guard h
        have wk53 : Wk K (Itr 0 ((y45.1 : Int) - 0).toNat) (rng 0 y45.1) (fun (_ : Unit) (_ : St) S' H' => Gx [] S45b H45b S' H') := by
          refine wk_rng fun st σ2 S2 H2 gl => ?_
          exact gl.sh
        refine s_compS (β := Int) wk53 (line_le hl) gl45 h (fun y53 v53 S53c H53c P53 T F gc53 rv h hT hF => ?_) (fun p57 S58 H59 t56 gA gs r_p57 h => ?_)
        · replace r_script := RepQ.mono gc53.s r_script
          replace o_p22 := OwnL.keep0 o_p22 gc53
          replace r_p40 := RepL.mono gc53.s r_p40
          replace o_p42 := OwnL.keep0 o_p42 gc53
          obtain rfl := rv
          refine i_nameE (σ' := [_, _, _, _, _, _, _, _, _, _, _, _, _, _, _, _, some (V.int (y53))]) rfl ?_
          refine ⟨rfl, ?_⟩
          have gt53 : Gx [] S53c H53c S53c H53c := Gx.refl gc53.sh
          refine i_test ?_
          refine i_op ?_
          refine i_op ?_
          refine i_var rfl ?_
          refine i_var rfl ?_
          refine s_idxF (r_p40.hp gt53.sh) h (fun t54 h => ?_)
          refine i_var rfl ?_
          refine i_eqI ?_
          refine i_bl ?_
          refine ite2b (fun hb55 => ?_) (fun hb55 => ?_)
          · replace h := wpm_t hb55 h
            refine i_var rfl ?_
            exact hT _ _ _ _ h gt53 (Flat.is.2 rfl)
          · replace h := wpm_f hb55 h
            exact hF _ _ h gt53
        replace r_script := RepQ.mono gs.s r_script
        replace o_p22 := OwnL.keep0 o_p22 gs
        replace r_p40 := RepL.mono gs.s r_p40
        replace o_p42 := OwnL.keep0 o_p42 gs
        replace gl45 := gA
        refine i_nameE (σ' := [_, _, _, _, _, _, _, _, _, _, some (V.ref p57), _, _, _, _, _, _]) rfl ?_
        refine nx_seq ?_
        refine i_drop ?_
        refine i_bm ?_
        refine i_var rfl ?_
        refine s_bmL o_p42.hp ?_
        refine i_cons ?_
        refine i_op ?_
        refine i_op ?_
        refine i_lst ?_
        refine i_cons ?_
        refine i_c ?_
        refine i_nil ?_
        refine s_lstS (K := K) (xs := ([(none : Option Int)] : List (Option Int))) gl45 (All2.cons (Flat.is.2 rfl) All2.nil) (show (1 : Nat) ≤ 16777216 by decide) (fun p60 S61 H62 gA gs r_p60 => ?_)
        replace r_script := RepQ.mono gs.s r_script
        replace o_p22 := OwnL.keep0 o_p22 gs
        replace r_p40 := RepL.mono gs.s r_p40
        replace o_p42 := OwnL.keep0 o_p42 gs
        replace r_p57 := RepL.mono gs.s r_p57
        replace gl45 := gA
        refine i_var rfl ?_
        refine s_catS gl45 (r_p60.tp gl45.sh) ((RepL.opt r_p57).tp gl45.sh) h (fun p64 S65 H66 gA gs r_p64 h => ?_)
        replace r_script := RepQ.mono gs.s r_script
        replace o_p22 := OwnL.keep0 o_p22 gs
        replace r_p40 := RepL.mono gs.s r_p40
        replace o_p42 := OwnL.keep0 o_p42 gs
        replace r_p57 := RepL.mono gs.s r_p57
        replace gl45 := gA
        refine i_un ?_
        refine i_c ?_
        refine i_U ?_
        refine s_idxF (r_p64.hp gl45.sh) h (fun t67 h => ?_)
        refine i_nil ?_
        refine s_app (x := t67) gl45 o_p42 (.inr (by simp)) (Flat.is.2 rfl) h (fun H68 gA oA heq h => ?_)
        replace gl45 := gA
        replace o_p42 := oA
        replace o_p22 := o_p22.other ne_p22_p42 heq
        exact ⟨_, _, h, _, _, _, rfl, gl45, o_p42⟩
      obtain ⟨j_ahead, j_number, j_hue, rfl, gl45, o_p42⟩ := hR
      replace r_script := RepQ.mono gl45.s r_script
      replace o_p22 := OwnL.keep o_p22 gl45 (by simp only [List.mem_cons, List.not_mem_nil, or_false, not_or]; exact ne_p22_p42)
      replace r_p40 := RepL.mono gl45.s r_p40
      replace gl1 := gl1.trans gl45 hm45
      refine nx_seq ?_
      refine i_seq ?_
      refine i_asg ?_
      refine i_cb ?_
      refine i_cons ?_
      refine i_var rfl ?_
      refine i_nil ?_
      refine s_listS gl1 (r_p40.hp gl1.sh) (fun p69 S70 H71 gA gs r_p69 => ?_)
      replace r_script := RepQ.mono gs.s r_script
      replace o_p22 := OwnL.keep0 o_p22 gs
      replace r_p40 := RepL.mono gs.s r_p40
      replace o_p42 := OwnL.keep0 o_p42 gs
      replace gl1 := gA
      refine i_nameE (σ' := [_, _, _, _, _, _, some (V.ref p69), _, _, _, _, _, _, _, _, _, _]) rfl ?_
      refine nx_seq ?_
      refine i_seq ?_
      refine i_for ?_
      refine i_rng1 (i_cons ?_)
      refine i_c ?_
      refine i_nil ?_
      refine i_rng1A h (fun h => ?_)
      have hm72 : ∀ x ∈ ([] : List Addr), x ∈ [] ∨ H11 x = none := fun x hx => nomatch hx
      have wk72 : Wk K (Itr 0 ((2 : Int) - 0).toNat) (rng 0 2) (fun (st72 : Unit) σ' S' H' => ∃ (j_found : Option V) (j_turn : Option V), σ' = [some (V.ref a_script), some (V.int (y1.1)), some (V.int (y1.2.1)), some (V.ref p22), some (V.ref p40), some (V.ref p42), some (V.ref p69), j_turn, j_number, j_hue, j_ahead, j_found, j_first, j_beyond, j_stretch, j_many, none] ∧ Gx [] S70 H71 S' H') := by
        refine wk_rng fun st σ2 S2 H2 hR => ?_
        obtain ⟨j_found, j_turn, rfl, gl72⟩ := hR
        exact gl72.sh
      refine s_forR (R := (fun (st72 : Unit) σ' S' H' => ∃ (j_found : Option V) (j_turn : Option V), σ' = [some (V.ref a_script), some (V.int (y1.1)), some (V.int (y1.2.1)), some (V.ref p22), some (V.ref p40), some (V.ref p42), some (V.ref p69), j_turn, j_number, j_hue, j_ahead, j_found, j_first, j_beyond, j_stretch, j_many, none] ∧ Gx [] S70 H71 S' H')) wk72 ⟨_, _, rfl, (Gx.refl gl1.sh)⟩ h (fun y72 v72 st72 σ1 S72a H72a S72b H72b P72 hret72 hR gs rv h => ?_) (fun st72 σ1 S72j H72j hR h => ?_)
      · obtain ⟨j_found, j_turn, rfl, gl72⟩ := hR
        replace r_script := RepQ.mono gl72.s r_script
        replace o_p22 := OwnL.keep0 o_p22 gl72
        replace r_p40 := RepL.mono gl72.s r_p40
        replace o_p42 := OwnL.keep0 o_p42 gl72
        replace r_p69 := RepL.mono gl72.s r_p69
        replace r_script := RepQ.mono gs.s r_script
        replace o_p22 := OwnL.keep0 o_p22 gs
        replace r_p40 := RepL.mono gs.s r_p40
        replace o_p42 := OwnL.keep0 o_p42 gs
        replace r_p69 := RepL.mono gs.s r_p69
        replace gl72 := gl72.trans0 gs
        obtain rfl := rv
        refine i_nameE (σ' := [_, _, _, _, _, _, _, some (V.int (y72)), _, _, _, _, _, _, _, _, _]) rfl ?_
        refine i_seq ?_
        refine i_asg ?_
        refine i_call ?_
        refine i_cons ?_
        refine i_var rfl ?_
        refine i_nil ?_
        refine ⟨S72b, p69, t37.1, rfl, gl72.sh, r_p69, wpm_mono (wb h) (fun t73 h p76 S74 H75 gs hp_p76 o_p76 => ?_) (fun c he S1 H1 gs => he _ _ (g.trans (gl1.trans (gl72.trans0 gs) hm72) hm1))⟩
        replace r_script := RepQ.mono gs.s r_script
        have ne_p22_p76 := OwnL.ne o_p22 hp_p76
        replace o_p22 := OwnL.keep0 o_p22 gs
        replace r_p40 := RepL.mono gs.s r_p40
        have ne_p42_p76 := OwnL.ne o_p42 hp_p76
        replace o_p42 := OwnL.keep0 o_p42 gs
        replace r_p69 := RepL.mono gs.s r_p69
        have f2_p76 := Gx.back gl72 hp_p76
        replace gl72 := gl72.trans0 gs
        refine i_nameE (σ' := [_, _, _, _, _, _, _, _, _, _, _, some (V.ref p76), _, _, _, _, _]) rfl ?_
        refine nx_seq ?_
        refine i_seq ?_
        refine i_if ?_
        refine i_or ?_
        refine i_not ?_
        refine i_B ?_
        refine i_call ?_
        refine i_cons ?_
        refine i_var rfl ?_
        refine i_cons ?_
        refine i_var rfl ?_
        refine i_nil ?_
        obtain ⟨vs77, ow78, rs79⟩ := o_p76
        obtain ⟨vs80, ow81, rs82⟩ := o_p42
        refine ⟨(upd (upd S74 p76 (.lst vs77)) p42 (.lst vs80)), (.ref p76), (PyD.toD (α := List (Option Int)) t73), (.ref p42), (PyD.toD (α := List (Option Int)) st45), rfl, (ex_frz (Own.frzOther ow81 ne_p42_p76) (ex_frz ow78 gl72.sh)), (PyD.dp (α := List (Option Int)) ⟨_, rfl, ⟨vs77, ((upd_ne (Ne.symm ne_p42_p76)).trans upd_same), Reps.mono (Ex.trans (Ex.new ow78.free) (Ex.new (Own.frzOther ow81 ne_p42_p76).free)) rs79⟩⟩), (PyD.dp (α := List (Option Int)) ⟨_, rfl, ⟨vs80, upd_same, Reps.mono (Ex.trans (Ex.new ow78.free) (Ex.new (Own.frzOther ow81 ne_p42_p76).free)) rs82⟩⟩), wpm_mono (wb h) (fun t83 h S84 H85 gs => ?_) (fun c he S1 H1 gs => he _ _ (g.trans (gl1.trans (gl72.trans0 (gs.undo gl72.sh)) hm72) hm1))⟩
        replace gs := gs.undo gl72.sh
        have o_p76 : OwnL K S74 H75 p76 t73 := ⟨vs77, ow78, rs79⟩
        have o_p42 : OwnL K S74 H75 p42 st45 := ⟨vs80, ow81, rs82⟩
        replace r_script := RepQ.mono gs.s r_script
        replace o_p22 := OwnL.keep0 o_p22 gs
        replace r_p40 := RepL.mono gs.s r_p40
        replace o_p42 := OwnL.keep0 o_p42 gs
        replace r_p69 := RepL.mono gs.s r_p69
        replace o_p76 := OwnL.keep0 o_p76 gs
        replace gl72 := gl72.trans0 gs
        refine i_bl ?_
        refine or_s ((!decide (t37.1 = t37.1))) (fun N q => ?_) ?_
        · refine i_test ?_
          refine i_op ?_
          refine i_var rfl ?_
          refine i_var rfl ?_
          refine s_neDD (x := (t37.1 : List Int)) (y := (t37.1 : List Int)) (Dp.mono gl72.sh (PyD.dp (⟨_, rfl, r_p69⟩))) (Dp.mono gl72.sh (PyD.dp (⟨_, rfl, r_p40⟩))) ?_
          refine i_bl ?_
          exact q
        refine ite2b (fun hb86 => ?_) (fun hb86 => ?_)
        · replace h := wpm_t hb86 h
          refine i_ret ?_
          refine i_c ?_
          exact (hret1 _ (hret72 _ h)) _ _ (g.trans (gl1.trans gl72 hm72) hm1)
        · replace h := wpm_f hb86 h
          refine i_next ?_
          refine nx_seq ?_
          refine i_drop ?_
          refine i_bm ?_
          refine i_var rfl ?_
          refine s_bmL o_p76.hp ?_
          refine i_cons ?_
          refine i_c ?_
          refine i_nil ?_
          refine s_app (x := (some 0)) gl72 o_p76 (.inl f2_p76) (Flat.is.2 rfl) h (fun H87 gA oA heq h => ?_)
          replace gl72 := gA
          replace o_p76 := oA
          replace o_p22 := o_p22.other ne_p22_p76 heq
          replace o_p42 := o_p42.other ne_p42_p76 heq
          exact ⟨_, _, h, _, _, rfl, gl72⟩
      obtain ⟨j_found, j_turn, rfl, gl72⟩ := hR
      replace r_script := RepQ.mono gl72.s r_script
      replace o_p22 := OwnL.keep0 o_p22 gl72
      replace r_p40 := RepL.mono gl72.s r_p40
      replace o_p42 := OwnL.keep0 o_p42 gl72
      replace r_p69 := RepL.mono gl72.s r_p69
      replace gl1 := gl1.trans gl72 hm72
      refine nx_seq ?_
      refine i_for ?_
      refine i_rng1 (i_cons ?_)
      refine i_op ?_
      refine i_c ?_
      refine i_cb ?_
      refine i_cons ?_
      refine i_op ?_
      refine i_var rfl ?_
      refine i_lst ?_
      refine i_nil ?_
      refine s_lstS (K := K) (xs := ([] : List Int)) gl1 All2.nil (show (0 : Nat) ≤ 16777216 by decide) (fun p89 S90 H91 gA gs r_p89 => ?_)
      replace r_script := RepQ.mono gs.s r_script
      replace o_p22 := OwnL.keep0 o_p22 gs
      replace r_p40 := RepL.mono gs.s r_p40
      replace o_p42 := OwnL.keep0 o_p42 gs
      replace r_p69 := RepL.mono gs.s r_p69
      replace gl1 := gA
      refine s_neDD (x := (t37.1 : List Int)) (y := (([] : List Int) : List Int)) (Dp.mono gl1.sh (PyD.dp (⟨_, rfl, r_p40⟩))) (Dp.mono gl1.sh (PyD.dp (⟨_, rfl, r_p89⟩))) ?_
      refine i_nil ?_
      refine s_intB ?_
      refine i_I (by first | exact .inl (by decide) | exact .inr (by decide)) ?_
      refine i_nil ?_
      refine i_rng1A h (fun h => ?_)
      have hm88 : ∀ x ∈ [p22], x ∈ [] ∨ H11 x = none := by
        intro x hx
        simp only [List.mem_cons, List.not_mem_nil, or_false] at hx
        rcases hx with rfl
        · exact (Or.symm (.inl f1_p22))
      have wk88 : Wk K (Itr 0 (((6 * (bint (!decide (t37.1 = ([] : List Int))))) : Int) - 0).toNat) (rng 0 (6 * (bint (!decide (t37.1 = ([] : List Int)))))) (fun (st88 : (List Int)) σ' S' H' => ∃ (j_first : Option V) (j_beyond : Option V) (j_stretch : Option V) (j_many : Option V) (j_turn : Option V), σ' = [some (V.ref a_script), some (V.int (y1.1)), some (V.int (y1.2.1)), some (V.ref p22), some (V.ref p40), some (V.ref p42), some (V.ref p69), j_turn, j_number, j_hue, j_ahead, j_found, j_first, j_beyond, j_stretch, j_many, none] ∧ Gx [p22] S90 H91 S' H' ∧ OwnL K S' H' p22 st88) := by
        refine wk_rng fun st σ2 S2 H2 hR => ?_
        obtain ⟨j_first, j_beyond, j_stretch, j_many, j_turn, rfl, gl88, o_p22⟩ := hR
        exact gl88.sh
      refine s_forR (R := (fun (st88 : (List Int)) σ' S' H' => ∃ (j_first : Option V) (j_beyond : Option V) (j_stretch : Option V) (j_many : Option V) (j_turn : Option V), σ' = [some (V.ref a_script), some (V.int (y1.1)), some (V.int (y1.2.1)), some (V.ref p22), some (V.ref p40), some (V.ref p42), some (V.ref p69), j_turn, j_number, j_hue, j_ahead, j_found, j_first, j_beyond, j_stretch, j_many, none] ∧ Gx [p22] S90 H91 S' H' ∧ OwnL K S' H' p22 st88)) wk88 ⟨_, _, _, _, _, rfl, (Gx.refl gl1.sh), o_p22⟩ h (fun y88 v88 st88 σ1 S88a H88a S88b H88b P88 hret88 hR gs rv h => ?_) (fun st88 σ1 S88j H88j hR h => ?_)
      · obtain ⟨j_first, j_beyond, j_stretch, j_many, j_turn, rfl, gl88, o_p22⟩ := hR
        replace r_script := RepQ.mono gl88.s r_script
        replace r_p40 := RepL.mono gl88.s r_p40
        replace o_p42 := OwnL.keep o_p42 gl88 (by simp only [List.mem_cons, List.not_mem_nil, or_false, not_or]; exact (Ne.symm ne_p22_p42))
        replace r_p69 := RepL.mono gl88.s r_p69
        replace r_script := RepQ.mono gs.s r_script
        replace o_p22 := OwnL.keep0 o_p22 gs
        replace r_p40 := RepL.mono gs.s r_p40
        replace o_p42 := OwnL.keep0 o_p42 gs
        replace r_p69 := RepL.mono gs.s r_p69
        replace gl88 := gl88.trans0 gs
        obtain rfl := rv
        refine i_nameE (σ' := [_, _, _, _, _, _, _, some (V.int (y88)), _, _, _, _, _, _, _, _, _]) rfl ?_
        refine i_seq ?_
        refine i_asg ?_
        refine i_call ?_
        refine i_cons ?_
        refine i_var rfl ?_
        refine i_cons ?_
        refine i_cb ?_
        refine i_cons ?_
        refine i_var rfl ?_
        refine i_nil ?_
        refine s_len (r_p40.hp gl88.sh) ?_
        refine i_nil ?_
        refine ⟨S88b, p22, st88, (t37.1.length : Int), rfl, gl88.sh, o_p22, wpm_mono (wb h) (fun t92 h S93 H94 gs o_p22 => ?_) (fun c he S1 H1 gs => he _ _ (g.trans (gl1.trans (gl88.trans gs (by intro x hx; simp only [List.mem_cons, List.not_mem_nil, or_false] at hx; subst hx; exact (Or.symm (.inr (by simp))))) hm88) hm1))⟩
        replace r_script := RepQ.mono gs.s r_script
        replace r_p40 := RepL.mono gs.s r_p40
        replace o_p42 := OwnL.keep o_p42 gs (by simp only [List.mem_cons, List.not_mem_nil, or_false, not_or]; exact (Ne.symm ne_p22_p42))
        replace r_p69 := RepL.mono gs.s r_p69
        replace gl88 := gl88.trans gs (by intro x hx; simp only [List.mem_cons, List.not_mem_nil, or_false] at hx; subst hx; exact (Or.symm (.inr (by simp))))
        refine i_nameE (σ' := [_, _, _, _, _, _, _, _, _, _, _, _, some (V.int (t92.1)), _, _, _, _]) rfl ?_
        refine nx_seq ?_
        refine i_seq ?_
        refine i_asg ?_
        refine i_op ?_
        refine i_op ?_
        refine i_var rfl ?_
        refine i_c ?_
        refine i_I0 ?_
        refine i_call ?_
        refine i_cons ?_
        refine i_var rfl ?_
        refine i_cons ?_
        refine i_op ?_
        refine i_cb ?_
        refine i_cons ?_
        refine i_var rfl ?_
        refine i_nil ?_
        refine s_len (r_p40.hp gl88.sh) ?_
        refine i_var rfl ?_
        refine i_I0 ?_
        refine i_nil ?_
        refine ⟨S93, p22, t92.2, ((t37.1.length : Int) - t92.1), rfl, gl88.sh, o_p22, wpm_mono (wb h) (fun t95 h S96 H97 gs o_p22 => ?_) (fun c he S1 H1 gs => he _ _ (g.trans (gl1.trans (gl88.trans gs (by intro x hx; simp only [List.mem_cons, List.not_mem_nil, or_false] at hx; subst hx; exact (Or.symm (.inr (by simp))))) hm88) hm1))⟩
        replace r_script := RepQ.mono gs.s r_script
        replace r_p40 := RepL.mono gs.s r_p40
        replace o_p42 := OwnL.keep o_p42 gs (by simp only [List.mem_cons, List.not_mem_nil, or_false, not_or]; exact (Ne.symm ne_p22_p42))
        replace r_p69 := RepL.mono gs.s r_p69
        replace gl88 := gl88.trans gs (by intro x hx; simp only [List.mem_cons, List.not_mem_nil, or_false] at hx; subst hx; exact (Or.symm (.inr (by simp))))
        refine i_I0 ?_
        refine i_nameE (σ' := [_, _, _, _, _, _, _, _, _, _, _, _, _, some (V.int (((t92.1 + 1) + t95.1))), _, _, _]) rfl ?_
        refine nx_seq ?_
        refine i_for ?_
        refine i_list ?_
        refine i_lst ?_
        refine i_cons ?_
        refine i_tup ?_
        refine i_cons ?_
        refine i_var rfl ?_
        refine i_cons ?_
        refine i_var rfl ?_
        refine i_nil ?_
        refine s_tup (K := K) (τ := Int) (υ := Int × Unit) (t := ((t92.1, ((t92.1 + 1) + t95.1), ()) : (Int × Int × Unit))) gl88 (rept_cons rfl (rept_cons rfl rept_nil)) (show (2 : Nat) ≤ 16777216 by decide) (fun p99 S100 H101 gA gs r_p99 => ?_)
        replace r_script := RepQ.mono gs.s r_script
        replace o_p22 := OwnL.keep0 o_p22 gs
        replace r_p40 := RepL.mono gs.s r_p40
        replace o_p42 := OwnL.keep0 o_p42 gs
        replace r_p69 := RepL.mono gs.s r_p69
        replace gl88 := gA
        refine i_cons ?_
        refine i_tup ?_
        refine i_cons ?_
        refine i_c ?_
        refine i_cons ?_
        refine i_cb ?_
        refine i_cons ?_
        refine i_var rfl ?_
        refine i_nil ?_
        refine s_len (r_p40.hp gl88.sh) ?_
        refine i_nil ?_
        refine s_tup (K := K) (τ := Int) (υ := Int × Unit) (t := ((0, (t37.1.length : Int), ()) : (Int × Int × Unit))) gl88 (rept_cons rfl (rept_cons rfl rept_nil)) (show (2 : Nat) ≤ 16777216 by decide) (fun p102 S103 H104 gA gs r_p102 => ?_)
        replace r_script := RepQ.mono gs.s r_script
        replace o_p22 := OwnL.keep0 o_p22 gs
        replace r_p40 := RepL.mono gs.s r_p40
        replace o_p42 := OwnL.keep0 o_p42 gs
        replace r_p69 := RepL.mono gs.s r_p69
        replace r_p99 := Py.mono gs.s r_p99
        replace gl88 := gA
        refine i_cons ?_
        refine i_tup ?_
        refine i_cons ?_
        refine i_var rfl ?_
        refine i_cons ?_
        refine i_op ?_
        refine i_var rfl ?_
        refine i_c ?_
        refine i_I0 ?_
        refine i_nil ?_
        refine s_tup (K := K) (τ := Int) (υ := Int × Unit) (t := ((t92.1, (t92.1 + 1), ()) : (Int × Int × Unit))) gl88 (rept_cons rfl (rept_cons rfl rept_nil)) (show (2 : Nat) ≤ 16777216 by decide) (fun p105 S106 H107 gA gs r_p105 => ?_)
        replace r_script := RepQ.mono gs.s r_script
        replace o_p22 := OwnL.keep0 o_p22 gs
        replace r_p40 := RepL.mono gs.s r_p40
        replace o_p42 := OwnL.keep0 o_p42 gs
        replace r_p69 := RepL.mono gs.s r_p69
        replace r_p99 := Py.mono gs.s r_p99
        replace r_p102 := Py.mono gs.s r_p102
        replace gl88 := gA
        refine i_nil ?_
        refine s_lstS (K := K) (xs := ([(t92.1, ((t92.1 + 1) + t95.1), ()), (0, (t37.1.length : Int), ()), (t92.1, (t92.1 + 1), ())] : List (Int × Int × Unit))) gl88 (All2.cons r_p99 (All2.cons r_p102 (All2.cons r_p105 All2.nil))) (show (3 : Nat) ≤ 16777216 by decide) (fun p108 S109 H110 gA gs r_p108 => ?_)
        replace r_script := RepQ.mono gs.s r_script
        replace o_p22 := OwnL.keep0 o_p22 gs
        replace r_p40 := RepL.mono gs.s r_p40
        replace o_p42 := OwnL.keep0 o_p42 gs
        replace r_p69 := RepL.mono gs.s r_p69
        replace gl88 := gA
        refine i_listA (r_p108.hp gl88.sh) ?_
        have hm98 : ∀ x ∈ ([] : List Addr), x ∈ [p22] ∨ H91 x = none := fun x hx => nomatch hx
        have wk98 : Wk K (Itl K p108) ([(t92.1, ((t92.1 + 1) + t95.1), ()), (0, (t37.1.length : Int), ()), (t92.1, (t92.1 + 1), ())] : List (Int × Int × Unit)) (fun (st98 : Unit) σ' S' H' => ∃ (j_many : Option V) (j_stretch : Option V), σ' = [some (V.ref a_script), some (V.int (y1.1)), some (V.int (y1.2.1)), some (V.ref p22), some (V.ref p40), some (V.ref p42), some (V.ref p69), some (V.int (y88)), j_number, j_hue, j_ahead, j_found, some (V.int (t92.1)), some (V.int (((t92.1 + 1) + t95.1))), j_stretch, j_many, none] ∧ Gx [] S109 H110 S' H') := by
          refine wk_list fun st σ2 S2 H2 hR => ?_
          obtain ⟨j_many, j_stretch, rfl, gl98⟩ := hR
          exact ⟨gl98.sh, (RepL.hp (RepL.mono gl98.s r_p108) gl98.sh)⟩
        refine s_forR (R := (fun (st98 : Unit) σ' S' H' => ∃ (j_many : Option V) (j_stretch : Option V), σ' = [some (V.ref a_script), some (V.int (y1.1)), some (V.int (y1.2.1)), some (V.ref p22), some (V.ref p40), some (V.ref p42), some (V.ref p69), some (V.int (y88)), j_number, j_hue, j_ahead, j_found, some (V.int (t92.1)), some (V.int (((t92.1 + 1) + t95.1))), j_stretch, j_many, none] ∧ Gx [] S109 H110 S' H')) wk98 ⟨_, _, rfl, (Gx.refl gl88.sh)⟩ h (fun y98 v98 st98 σ1 S98a H98a S98b H98b P98 hret98 hR gs rv h => ?_) (fun st98 σ1 S98j H98j hR h => ?_)
        · obtain ⟨j_many, j_stretch, rfl, gl98⟩ := hR
          replace r_script := RepQ.mono gl98.s r_script
          replace o_p22 := OwnL.keep0 o_p22 gl98
          replace r_p40 := RepL.mono gl98.s r_p40
          replace o_p42 := OwnL.keep0 o_p42 gl98
          replace r_p69 := RepL.mono gl98.s r_p69
          replace r_script := RepQ.mono gs.s r_script
          replace o_p22 := OwnL.keep0 o_p22 gs
          replace r_p40 := RepL.mono gs.s r_p40
          replace o_p42 := OwnL.keep0 o_p42 gs
          replace r_p69 := RepL.mono gs.s r_p69
          replace gl98 := gl98.trans0 gs
          have r111 := rv
          refine i_nameE (σ' := [_, _, _, _, _, _, _, _, _, _, _, _, _, _, some v98, _, _]) rfl ?_
          refine i_seq ?_
          refine i_asg ?_
          refine i_lenSet ?_
          refine i_sl ?_
          refine i_var rfl ?_
          refine i_part ?_
          refine i_op ?_
          refine i_var rfl ?_
          refine i_c ?_
          obtain ⟨a112, rfl⟩ := rep_ref r111
          obtain ⟨_, hs113, _, _, rfl, rfl, _, _, rfl, rfl, rfl⟩ := rep_at r111
          refine s_ixT (ex_t gl98.sh hs113) (i := 0) rfl ?_
          refine i_partI ?_
          refine i_part ?_
          refine i_op ?_
          refine i_var rfl ?_
          refine i_c ?_
          obtain ⟨_, hs119, _, _, rfl, rfl, _, _, rfl, rfl, rfl⟩ := rep_at r111
          refine s_ixT (ex_t gl98.sh hs119) (i := 1) rfl ?_
          refine i_partI ?_
          refine s_slS gl98 (r_p40.hp gl98.sh) (fun p124 S125 H126 gA gs r_p124 => ?_)
          replace r_script := RepQ.mono gs.s r_script
          replace o_p22 := OwnL.keep0 o_p22 gs
          replace r_p40 := RepL.mono gs.s r_p40
          replace o_p42 := OwnL.keep0 o_p42 gs
          replace r_p69 := RepL.mono gs.s r_p69
          replace r111 := Py.mono gs.s r111
          replace gl98 := gA
          refine s_lenSet (r_p124.hp gl98.sh) h (fun h => ?_)
          refine i_nameE (σ' := [_, _, _, _, _, _, _, _, _, _, _, _, _, _, _, some (V.int (((dedup (cut t37.1 (some y98.1) (some y98.2.1))).length : Int))), _]) rfl ?_
          refine nx_seq ?_
          refine i_if ?_
          refine i_or ?_
          refine i_not ?_
          refine i_B ?_
          refine i_call ?_
          refine i_cons ?_
          refine i_call ?_
          refine i_cons ?_
          refine i_var rfl ?_
          refine i_cons ?_
          refine i_var rfl ?_
          refine i_nil ?_
          refine ⟨S125, p69, t37.1, (V.ref a112), y98, rfl, gl98.sh, r_p69, r111, wpm_mono (wb h) (fun t129 h S130 H131 gs => ?_) (fun c he S1 H1 gs => he _ _ (g.trans (gl1.trans (gl88.trans (gl98.trans0 gs) hm98) hm88) hm1))⟩
          replace r_script := RepQ.mono gs.s r_script
          replace o_p22 := OwnL.keep0 o_p22 gs
          replace r_p40 := RepL.mono gs.s r_p40
          replace o_p42 := OwnL.keep0 o_p42 gs
          replace r_p69 := RepL.mono gs.s r_p69
          replace r111 := Py.mono gs.s r111
          replace gl98 := gl98.trans0 gs
          refine i_cons ?_
          refine i_var rfl ?_
          refine i_nil ?_
          refine ⟨S130, (V.int (t129)), (PyD.toD (α := Int) t129), (V.int (((dedup (cut t37.1 (some y98.1) (some y98.2.1))).length : Int))), (PyD.toD (α := Int) ((dedup (cut t37.1 (some y98.1) (some y98.2.1))).length : Int)), rfl, gl98.sh, (PyD.dp rfl), (PyD.dp rfl), wpm_mono (wb h) (fun t132 h S133 H134 gs => ?_) (fun c he S1 H1 gs => he _ _ (g.trans (gl1.trans (gl88.trans (gl98.trans0 gs) hm98) hm88) hm1))⟩
          replace r_script := RepQ.mono gs.s r_script
          replace o_p22 := OwnL.keep0 o_p22 gs
          replace r_p40 := RepL.mono gs.s r_p40
          replace o_p42 := OwnL.keep0 o_p42 gs
          replace r_p69 := RepL.mono gs.s r_p69
          replace r111 := Py.mono gs.s r111
          replace gl98 := gl98.trans0 gs
          refine i_bl ?_
          refine or_s ((!decide (t37.1 = t37.1))) (fun N q => ?_) ?_
          · refine i_test ?_
            refine i_op ?_
            refine i_var rfl ?_
            refine i_var rfl ?_
            refine s_neDD (x := (t37.1 : List Int)) (y := (t37.1 : List Int)) (Dp.mono gl98.sh (PyD.dp (⟨_, rfl, r_p69⟩))) (Dp.mono gl98.sh (PyD.dp (⟨_, rfl, r_p40⟩))) ?_
            refine i_bl ?_
            exact q
          refine ite2b (fun hb135 => ?_) (fun hb135 => ?_)
          · replace h := wpm_t hb135 h
            refine i_ret ?_
            refine i_c ?_
            exact (hret1 _ (hret88 _ (hret98 _ h))) _ _ (g.trans (gl1.trans (gl88.trans gl98 hm98) hm88) hm1)
          · replace h := wpm_f hb135 h
            refine i_next ?_
            exact ⟨_, _, h, _, _, rfl, gl98⟩
        obtain ⟨j_many, j_stretch, rfl, gl98⟩ := hR
        replace r_script := RepQ.mono gl98.s r_script
        replace o_p22 := OwnL.keep0 o_p22 gl98
        replace r_p40 := RepL.mono gl98.s r_p40
        replace o_p42 := OwnL.keep0 o_p42 gl98
        replace r_p69 := RepL.mono gl98.s r_p69
        replace gl88 := gl88.trans gl98 hm98
        exact ⟨_, _, h, _, _, _, _, _, rfl, gl88, o_p22⟩
      obtain ⟨j_first, j_beyond, j_stretch, j_many, j_turn, rfl, gl88, o_p22⟩ := hR
      replace r_script := RepQ.mono gl88.s r_script
      replace r_p40 := RepL.mono gl88.s r_p40
      replace o_p42 := OwnL.keep o_p42 gl88 (by simp only [List.mem_cons, List.not_mem_nil, or_false, not_or]; exact (Ne.symm ne_p22_p42))
      replace r_p69 := RepL.mono gl88.s r_p69
      replace gl1 := gl1.trans gl88 hm88
      exact ⟨_, _, h, _, _, _, _, _, _, _, _, _, _, _, _, _, _, _, rfl, gl1⟩
    obtain ⟨j_reel, j_row, j_due, j_number, j_hue, j_ahead, j_handed, j_turn, j_found, j_first, j_beyond, j_stretch, j_many, j_k, j_cell, rfl, gl1⟩ := hR
    replace r_script := RepQ.mono gl1.s r_script
    replace g := g.trans gl1 hm1
    refine nx_seq ?_
    refine i_ret ?_
    refine i_c ?_
    exact h _ _ g

def fnL : List He.DefD := [⟨("last_places", none), "last_places", "last_places", defArgs slast_places, defBody slast_places, defScope slast_places, [], []⟩, ⟨("counted_in", none), "counted_in", "counted_in", defArgs scounted_in, defBody scounted_in, defScope scounted_in, [], []⟩, ⟨("unlike_in", none), "unlike_in", "unlike_in", defArgs sunlike_in, defBody sunlike_in, defScope sunlike_in, [], []⟩, ⟨("_law_cell_at", none), "_law_cell_at", "_law_cell_at", defArgs s_law_cell_at, defBody s_law_cell_at, defScope s_law_cell_at, [], []⟩, ⟨("_law_reel", none), "_law_reel", "_law_reel", defArgs s_law_reel, defBody s_law_reel, defScope s_law_reel, [], []⟩, ⟨("_law_take", none), "_law_take", "_law_take", defArgs s_law_take, defBody s_law_take, defScope s_law_take, [], []⟩, ⟨("_law_alike", none), "_law_alike", "_law_alike", defArgs s_law_alike, defBody s_law_alike, defScope s_law_alike, [], []⟩, ⟨("_law_row", none), "_law_row", "_law_row", defArgs s_law_row, defBody s_law_row, defScope s_law_row, [], []⟩, ⟨("law", none), "law", "law", defArgs slaw, defBody slaw, defScope slaw, [], []⟩]
def faL : List He.Fa := [.glo "last_places", .glo "counted_in", .glo "unlike_in", .glo "_law_cell_at", .glo "_law_reel", .glo "_law_take", .glo "_law_alike", .glo "_law_row", .glo "law", .free "enumerate", .free "len", .free "abs", .free "isinstance", .free "bool", .free "int", .free "str", .free "tuple", .free "list", .free "range", .free "set", .exc "NoPart", .glo "NoPart"]
abbrev RR : PySem.W.OpenRow := PySem.W.OpenLaw.row PySem.Challenge.rw_huesbelow_k08_last_places
abbrev hkL : PySem.W.Hook := He.hookD 6 faL fnL
def obL (s : PySem.W.SharedT) : He.AlD := He.obsDG 6 faL fnL (HandSHeadRun.getT s)
theorem obL_eq (s : PySem.W.SharedT) : obL s = hkL.obs s.abs := He.obsDG_eq (HandSHeadRun.getT_eq s)
theorem runL (w : World) : HandSHeadRun.RunEq RR (PySem.W.view RR.prog [13]) hkL obL 40000 ["HueError", "NoPart", "last_places", "unlike_in", "counted_in", "_law_cell_at", "_law_reel", "_law_take", "_law_alike", "_law_row"] w := by
  intro os
  kernel_rfl
theorem allL {w : World} {K : Fr} {mg : PySem.Str → Option Value} {h : Heap} (X : K.In h) (G : h.Ns mainGlobals mg) (c : He.SaysD faL fnL K) (base : Heap) (f : Addr) (fd : FuncData) (FD : FunD K "law" "law" (defArgs slaw) (defBody slaw) (defScope slaw) [] [] f fd) : FnOk (PySem.Challenge.rw_huesbelow_k08_last_places).prog w K mg base (L2.CX (PySem.Challenge.rw_huesbelow_k08_last_places).prog w) 6 f fd ["script"] (splaw K (caOf K)) := by
  have n_enumerate : mg "enumerate" = none := He.free_ok X G (c.fact 9 rfl)
  have n_len : mg "len" = none := He.free_ok X G (c.fact 10 rfl)
  have n_abs : mg "abs" = none := He.free_ok X G (c.fact 11 rfl)
  have n_isinstance : mg "isinstance" = none := He.free_ok X G (c.fact 12 rfl)
  have n_bool : mg "bool" = none := He.free_ok X G (c.fact 13 rfl)
  have n_int : mg "int" = none := He.free_ok X G (c.fact 14 rfl)
  have n_str : mg "str" = none := He.free_ok X G (c.fact 15 rfl)
  have n_tuple : mg "tuple" = none := He.free_ok X G (c.fact 16 rfl)
  have n_list : mg "list" = none := He.free_ok X G (c.fact 17 rfl)
  have n_range : mg "range" = none := He.free_ok X G (c.fact 18 rfl)
  have n_set : mg "set" = none := He.free_ok X G (c.fact 19 rfl)
  have xc_NoPart : XcOk K mg (caOf K) .part "NoPart" := xc_of X G c 20 21 .part rfl rfl
  have Alast_places : At K mg "last_places" slast_places ["row"] := at_of X G c 0 0 rfl rfl fun _ _ _ _ _ _ us hl => match us, hl with | [_], _ => rfl
  have Dlast_places := oklast_places (P := (PySem.Challenge.rw_huesbelow_k08_last_places).prog) (w := w) (base := base) (ca := caOf K) Alast_places n_enumerate
  have Acounted_in : At K mg "counted_in" scounted_in ["lasts", "first", "beyond"] := at_of X G c 1 1 rfl rfl fun _ _ _ _ _ _ us hl => match us, hl with | [_, _, _], _ => rfl
  have Dcounted_in := okcounted_in (P := (PySem.Challenge.rw_huesbelow_k08_last_places).prog) (w := w) (base := base) (ca := caOf K) Acounted_in n_len
  have Aunlike_in : At K mg "unlike_in" sunlike_in ["row", "stretch"] := at_of X G c 2 2 rfl rfl fun _ _ _ _ _ _ us hl => match us, hl with | [_, _], _ => rfl
  have Dunlike_in := okunlike_in (P := (PySem.Challenge.rw_huesbelow_k08_last_places).prog) (w := w) (base := base) (ca := caOf K) Aunlike_in Dcounted_in Dlast_places n_len xc_NoPart
  have A_law_cell_at : At K mg "_law_cell_at" s_law_cell_at ["script", "k"] := at_of X G c 3 3 rfl rfl fun _ _ _ _ _ _ us hl => match us, hl with | [_, _], _ => rfl
  have D_law_cell_at := ok_law_cell_at (P := (PySem.Challenge.rw_huesbelow_k08_last_places).prog) (w := w) (base := base) (ca := caOf K) A_law_cell_at n_len
  have A_law_reel : At K mg "_law_reel" s_law_reel ["cell"] := at_of X G c 4 4 rfl rfl fun _ _ _ _ _ _ us hl => match us, hl with | [_], _ => rfl
  have D_law_reel := ok_law_reel (P := (PySem.Challenge.rw_huesbelow_k08_last_places).prog) (w := w) (base := base) (ca := caOf K) A_law_reel n_abs
  have A_law_take : At K mg "_law_take" s_law_take ["reel", "many"] := at_of X G c 5 5 rfl rfl fun _ _ _ _ _ _ us hl => match us, hl with | [_, _], _ => rfl
  have D_law_take := ok_law_take (P := (PySem.Challenge.rw_huesbelow_k08_last_places).prog) (w := w) (base := base) (ca := caOf K) A_law_take
  have A_law_alike : At K mg "_law_alike" s_law_alike ["found", "due"] := at_of X G c 6 6 rfl rfl fun _ _ _ _ _ _ us hl => match us, hl with | [_, _], _ => rfl
  have D_law_alike := ok_law_alike (P := (PySem.Challenge.rw_huesbelow_k08_last_places).prog) (w := w) (base := base) (ca := caOf K) A_law_alike n_isinstance n_bool n_int n_str n_tuple n_list n_len n_range 4
  have A_law_row : At K mg "_law_row" s_law_row ["reel", "most"] := at_of X G c 7 7 rfl rfl fun _ _ _ _ _ _ us hl => match us, hl with | [_, _], _ => rfl
  have D_law_row := ok_law_row (P := (PySem.Challenge.rw_huesbelow_k08_last_places).prog) (w := w) (base := base) (ca := caOf K) A_law_row D_law_take n_range
  exact oklaw D_law_reel D_law_row D_law_take Dlast_places D_law_alike Dunlike_in n_enumerate n_len n_int n_range n_list n_set f fd FD
end G
open PySem PySem.W PySem.Calls PyProof.Rows
theorem PySem.Challenge.cw_huesbelow_k08_last_places_holds : PySem.Challenge.rw_huesbelow_k08_last_places.Holds := by
  w_on; o_law
  refine HandSHeadRun.head_any (r := OpenLaw.row PySem.Challenge.rw_huesbelow_k08_last_places) (q := view (OpenLaw.row PySem.Challenge.rw_huesbelow_k08_last_places).prog [13]) (H := G.hkL) (ob := G.obL) (M := 40000) (loose := ["HueError", "NoPart", "last_places", "unlike_in", "counted_in", "_law_cell_at", "_law_reel", "_law_take", "_law_alike", "_law_row"]) (d := HandSHeadRun.topDef (OpenLaw.row PySem.Challenge.rw_huesbelow_k08_last_places).prog 13) (kwd := []) G.obL_eq
    (by kernel_rfl) (fun s => by kernel_rfl) G.runL (by kernel_rfl) (by kernel_rfl) (by kernel_rfl) (by rfl) (by first | assumption | decide +kernel) (by decide +kernel) ⟨rfl, rfl, rfl, rfl, rfl, by decide +kernel⟩ ?hw ?hc
  case hw => w_witness2
  case hc =>
    exact G.law_end (l := PySem.Challenge.rw_huesbelow_k08_last_places) (n := 63) (k := 6) (m := G.m_law) (st := G.slaw) rfl (by decide) (by kernel_rfl) ⟨rfl, by decide, by decide⟩ G.law_true (by kernel_rfl) (fun _ _ _ _ _ _ us hl => match us, hl with | [_], _ => rfl) 8 8 rfl rfl
      fun w K mg h X G c base f fd FD => _root_.G.allL X G c base f fd FD
