import PyProof.Rows.All
import Wide.All
import OpenK.AllK
import Wide.FinOn
import HandS.ForMost
import HandS.ForExc
import HandS.Wide
import HandS.WideBits
import HandS.Walk
import HandS.HeadHook1
import PyProof.Rows.RuleB_pow
import HandS.IsInst
import HandS.SortInts
import HandS.SortRule
import HandS.More
import HandS.Conv
import HandS.Deep
import HandS.WordsExc
import HandS.Defaults
import HandS.EndBits
import HandS.HeadHook2
import HandS.ExcIs
import KE.DatumOrd
import KE.IntBitsLaws
import KE.RegMulBits
import HandS.Head0
import HandS.Head1
import HandS.Head2
import HandS.HeadEnd
import PySem.Challenge.RW_owinghall_k16_outside_and_groups
set_option Elab.async false
set_option linter.all false
set_option maxRecDepth 100000
/-! Wk1: outcomes, frozen parts of heaps, typed data, what stands in the slots. -/
namespace Wk
open PySem PySem.Spec PyProof.Rows L2

/-! ### outcomes -/
inductive Exc where
  | owing | badWeb | parted | badStanding | badHouse | badOrder | badNumber | tooWide | noBridge | noText
  deriving DecidableEq
def Exc.nm : Exc → Str
  | .owing => "OwingError" | .badWeb => "BadWeb" | .parted => "Parted" | .badStanding => "BadStanding" | .badHouse => "BadHouse"
  | .badOrder => "BadOrder" | .badNumber => "BadNumber" | .tooWide => "TooWide" | .noBridge => "NoBridge" | .noText => "NoText"
inductive R (α : Type) where
  | ok (a : α) | exc (c : Exc) | stuck
def R.bind {α β : Type} (m : R α) (f : α → R β) : R β := match m with
  | .ok a => f a
  | .exc c => .exc c
  | .stuck => .stuck
/-- a value by a name -/
def R.lt {α β : Type} (a : α) (f : α → R β) : R β := f a
/-- no exception may come out -/
def R.sure {α : Type} : R α → R α
  | .ok a => .ok a
  | _ => .stuck
def R.ofO {α : Type} : Option α → R α
  | some a => .ok a
  | none => .stuck
def R.chk {α : Type} (c : Bool) (a : α) : R α := if c = true then .ok a else .stuck
def PX {α : Type} (A : α → Prop) (B : Exc → Prop) : R α → Prop
  | .ok a => A a
  | .exc c => B c
  | .stuck => False
section
variable {α β : Type} {A A' : α → Prop} {B B' : Exc → Prop}
theorem PX.mono {m : R α} (h : PX A B m) (h1 : ∀ a, A a → A' a) (h2 : ∀ c, B c → B' c) : PX A' B' m := by
  cases m with
  | ok a => exact h1 a h
  | exc c => exact h2 c h
  | stuck => exact h
theorem PX.bind {A : β → Prop} {m : R α} {f : α → R β} (h : PX A B (m.bind f)) : PX (fun x => PX A B (f x)) B m := by
  cases m with
  | ok a => exact h
  | exc c => exact h
  | stuck => exact h
theorem PX.ofO {o : Option α} (h : PX A B (R.ofO o)) : ∃ a, o = some a ∧ A a := by
  cases o with
  | some a => exact ⟨a, rfl, h⟩
  | none => exact h.elim
theorem PX.chk {c : Bool} {a : α} (h : PX A B (R.chk c a)) : c = true ∧ A a := by
  cases c with
  | true => exact ⟨rfl, h⟩
  | false => exact (show False from h).elim
theorem PX.sure {m : R α} (h : PX A B m.sure) : PX A (fun _ => False) m := by
  cases m with
  | ok a => exact h
  | exc c => exact (show False from h).elim
  | stuck => exact (show False from h).elim
theorem PX.of_ok {m : R α} {a : α} (e : m = .ok a) (h : A a) : PX A B m := by
  rw [e]
  exact h
end

/-! ### heaps -/
/-- the heap without what stands at ps -/
def Fz (H : Hp) (ps : List Addr) : Hp := fun b => if b ∈ ps then none else H b
section
variable {H H' : Hp} {ps ps' : List Addr} {p b : Addr} {o : HO}
theorem Fz.at (h : b ∉ ps) : Fz H ps b = H b := by unfold Fz; rw [if_neg h]
theorem Fz.some_iff : Fz H ps b = some o ↔ b ∉ ps ∧ H b = some o := by
  unfold Fz
  by_cases h : b ∈ ps
  · rw [if_pos h]; simp [h]
  · rw [if_neg h]; simp [h]
theorem Fz.out : Same (Fz H ps) H := fun b o h => (Fz.some_iff.mp h).2
theorem Fz.go (h : ∀ b o, b ∉ ps → H b = some o → b ∉ ps' ∧ H' b = some o) : Same (Fz H ps) (Fz H' ps') := fun b o q =>
  let ⟨q1, q2⟩ := Fz.some_iff.mp q
  let ⟨q3, q4⟩ := h b o q1 q2
  Fz.some_iff.mpr ⟨q3, q4⟩
theorem Fz.mono (s : Same H H') : Same (Fz H ps) (Fz H' ps) := Fz.go fun b o h q => ⟨h, s b o q⟩
theorem Fz.sub (s : Same H H') (h : ∀ a ∈ ps', a ∈ ps) : Same (Fz H ps) (Fz H' ps') := Fz.go fun b o q r => ⟨fun z => q (h b z), s b o r⟩
theorem Fz.new (s : Same H H') (h : ∀ a ∈ ps', a ∈ ps ∨ H a = none) : Same (Fz H ps) (Fz H' ps') := Fz.go fun b o q r => ⟨fun z => (h b z).elim q fun n => (by rw [n] at r; cases r), s b o r⟩
theorem Fz.mut (hp : p ∈ ps) : Same (Fz H ps) (Fz (upd H p o) ps) := Fz.go fun b o q r => ⟨q, (upd_ne (fun e => q (by rw [e]; exact hp))).trans r⟩
theorem Fz.nil : Fz H [] = H := by
  funext b
  unfold Fz
  simp
theorem same_new (h : H p = none) : Same H (upd H p o) := fun b x e => by
  rw [upd_ne (ne_of_none e h)]
  exact e
theorem same_mut {H0 : Hp} (e : Same H0 H) (h : H0 p = none) : Same H0 (upd H p o) := fun b x q => by
  rw [upd_ne (ne_of_none q h)]
  exact e b x q
end
theorem sqL_mono {K : PySem.W.Frag} {F F' : Hp} {a : Addr} {xs : List V} (e : Same F F') (h : SqL K F a xs) : SqL K F' a xs := e.seq h
theorem sqT_mono {K : PySem.W.Frag} {F F' : Hp} {a : Addr} {xs : List V} (e : Same F F') (h : SqT K F a xs) : SqT K F' a xs := by
  rcases h with (h | ⟨o, h⟩) | h
  · exact .inl (.inl (e _ _ h))
  · exact .inl (.inr ⟨o, e _ _ h⟩)
  · exact .inr h

/-! ### typed data -/
class PyT (α : Type) where
  rep : PySem.W.Frag → Hp → V → α → Prop
  mono : ∀ {K : PySem.W.Frag} {F F' : Hp} {v : V} {x : α}, Same F F' → rep K F v x → rep K F' v x
abbrev rep {α : Type} [PyT α] (K : PySem.W.Frag) (F : Hp) (v : V) (x : α) : Prop := PyT.rep K F v x
def RepL {α : Type} [PyT α] (K : PySem.W.Frag) (F : Hp) : List V → List α → Prop
  | [], [] => True
  | v :: vs, x :: xs => rep K F v x ∧ RepL K F vs xs
  | _, _ => False
section
variable {α : Type} [PyT α] {K : PySem.W.Frag} {F F' : Hp}
theorem RepL.mono (e : Same F F') : ∀ {vs : List V} {xs : List α}, RepL K F vs xs → RepL K F' vs xs
  | [], [], _ => trivial
  | v :: vs, x :: xs, h => ⟨PyT.mono e h.1, RepL.mono e h.2⟩
  | [], _ :: _, h => h.elim
  | _ :: _, [], h => h.elim
theorem RepL.len : ∀ {vs : List V} {xs : List α}, RepL K F vs xs → vs.length = xs.length
  | [], [], _ => rfl
  | v :: vs, x :: xs, h => congrArg Nat.succ (RepL.len h.2)
  | [], _ :: _, h => h.elim
  | _ :: _, [], h => h.elim
theorem RepL.get : ∀ {vs : List V} {xs : List α} {i : Nat} {v : V}, RepL K F vs xs → vs[i]? = some v → ∃ x, xs[i]? = some x ∧ rep K F v x
  | v :: vs, x :: xs, 0, w, h, e => by
    have e2 : v = w := Option.some.inj e
    subst e2
    exact ⟨x, rfl, h.1⟩
  | v :: vs, x :: xs, i + 1, w, h, e => RepL.get (i := i) h.2 e
  | [], [], i, w, h, e => by simp at e
  | [], _ :: _, _, _, h, _ => h.elim
  | _ :: _, [], _, _, h, _ => h.elim
theorem RepL.get' : ∀ {vs : List V} {xs : List α} {i : Nat} {x : α}, RepL K F vs xs → xs[i]? = some x → ∃ v, vs[i]? = some v ∧ rep K F v x
  | v :: vs, x :: xs, 0, w, h, e => by
    have e2 : x = w := Option.some.inj e
    subst e2
    exact ⟨v, rfl, h.1⟩
  | v :: vs, x :: xs, i + 1, w, h, e => RepL.get' (i := i) h.2 e
  | [], [], i, w, h, e => by simp at e
  | [], _ :: _, _, _, h, _ => h.elim
  | _ :: _, [], _, _, h, _ => h.elim
theorem RepL.app : ∀ {vs ws : List V} {xs ys : List α}, RepL K F vs xs → RepL K F ws ys → RepL K F (vs ++ ws) (xs ++ ys)
  | [], _, [], _, _, h2 => h2
  | v :: vs, _, x :: xs, _, h, h2 => ⟨h.1, RepL.app h.2 h2⟩
  | [], _, _ :: _, _, h, _ => h.elim
  | _ :: _, _, [], _, h, _ => h.elim
theorem RepL.one {v : V} {x : α} (h : rep K F v x) : RepL K F [v] [x] := ⟨h, trivial⟩
theorem RepL.set : ∀ {vs : List V} {xs : List α} {i : Nat} {v : V} {x : α}, RepL K F vs xs → rep K F v x → RepL K F (vs.set i v) (xs.set i x)
  | [], [], _, _, _, _, _ => trivial
  | v :: vs, x :: xs, 0, _, _, h, h2 => ⟨h2, h.2⟩
  | v :: vs, x :: xs, i + 1, _, _, h, h2 => ⟨h.1, RepL.set h.2 h2⟩
  | [], _ :: _, _, _, _, h, _ => h.elim
  | _ :: _, [], _, _, _, h, _ => h.elim
theorem RepL.take : ∀ {vs : List V} {xs : List α} (n : Nat), RepL K F vs xs → RepL K F (vs.take n) (xs.take n)
  | _, _, 0, _ => by simp [RepL]
  | [], [], _ + 1, _ => trivial
  | v :: vs, x :: xs, n + 1, h => ⟨h.1, RepL.take n h.2⟩
  | [], _ :: _, _ + 1, h => h.elim
  | _ :: _, [], _ + 1, h => h.elim
theorem RepL.drop : ∀ {vs : List V} {xs : List α} (n : Nat), RepL K F vs xs → RepL K F (vs.drop n) (xs.drop n)
  | _, _, 0, h => h
  | [], [], _ + 1, _ => trivial
  | v :: vs, x :: xs, n + 1, h => RepL.drop n h.2
  | [], _ :: _, _ + 1, h => h.elim
  | _ :: _, [], _ + 1, h => h.elim
theorem RepL.rev : ∀ {vs : List V} {xs : List α}, RepL K F vs xs → RepL K F vs.reverse xs.reverse
  | [], [], _ => trivial
  | v :: vs, x :: xs, h => by
    rw [List.reverse_cons, List.reverse_cons]
    exact (RepL.rev h.2).app (RepL.one h.1)
  | [], _ :: _, h => h.elim
  | _ :: _, [], h => h.elim
theorem RepL.erase : ∀ {vs : List V} {xs : List α} (n : Nat), RepL K F vs xs → RepL K F (vs.eraseIdx n) (xs.eraseIdx n)
  | [], [], _, _ => trivial
  | v :: vs, x :: xs, 0, h => h.2
  | v :: vs, x :: xs, n + 1, h => ⟨h.1, RepL.erase n h.2⟩
  | [], _ :: _, _, h => h.elim
  | _ :: _, [], _, h => h.elim
theorem RepL.dropLast {vs : List V} {xs : List α} (h : RepL K F vs xs) : RepL K F vs.dropLast xs.dropLast := by
  rw [List.dropLast_eq_take, List.dropLast_eq_take, h.len]
  exact h.take _
theorem RepL.replicate {v : V} {x : α} (h : rep K F v x) : ∀ n : Nat, RepL K F (List.replicate n v) (List.replicate n x)
  | 0 => trivial
  | n + 1 => ⟨h, RepL.replicate h n⟩
theorem RepL.reps {vs : List V} {xs : List α} (h : RepL K F vs xs) : ∀ n : Nat, RepL K F (List.replicate n vs).flatten (List.replicate n xs).flatten
  | 0 => trivial
  | n + 1 => by
    rw [List.replicate_succ, List.replicate_succ, List.flatten_cons, List.flatten_cons]
    exact h.app (RepL.reps h n)
end
/-- data that stand in no heap -/
class PyF (α : Type) extends PyT α where
  flat : ∀ {K : PySem.W.Frag} {F F' : Hp} {v : V} {x : α}, rep K F v x → rep K F' v x
theorem RepL.flat {α : Type} [PyF α] {K : PySem.W.Frag} {F F' : Hp} : ∀ {vs : List V} {xs : List α}, RepL K F vs xs → RepL K F' vs xs
  | [], [], _ => trivial
  | v :: vs, x :: xs, h => ⟨PyF.flat h.1, RepL.flat h.2⟩
  | [], _ :: _, h => h.elim
  | _ :: _, [], h => h.elim
instance : PyF Int where
  rep := fun _ _ v x => v = .int x
  mono := fun _ h => h
  flat := fun h => h
instance : PyF Bool where
  rep := fun _ _ v x => v = .bl x
  mono := fun _ h => h
  flat := fun h => h
instance : PyF Str where
  rep := fun _ _ v x => v = .str x ∧ PyData.strOk x = true
  mono := fun _ h => h
  flat := fun h => h
instance : PyF Unit where
  rep := fun _ _ v _ => v = .non
  mono := fun _ h => h
  flat := fun h => h
instance {α : Type} [PyT α] : PyT (List α) where
  rep := fun K F v xs => ∃ a vs, v = .ref a ∧ F a = some (.lst vs) ∧ RepL K F vs xs
  mono := fun e ⟨a, vs, h1, h2, h3⟩ => ⟨a, vs, h1, e _ _ h2, h3.mono e⟩
/-- the script: a list that the law is handed -/
structure Scr where
  l : List Int
instance : PyT Scr where
  rep := fun K F v xs => ∃ a, v = .ref a ∧ SqL K F a (xs.l.map V.int)
  mono := fun e ⟨a, h1, h2⟩ => ⟨a, h1, sqL_mono e h2⟩
/-- a tuple of any length -/
structure Tu (α : Type) where
  l : List α
  deriving DecidableEq
instance {α : Type} [PyT α] : PyT (Tu α) where
  rep := fun K F v xs => ∃ a vs, v = .ref a ∧ SqT K F a vs ∧ RepL K F vs xs.l
  mono := fun e ⟨a, vs, h1, h2, h3⟩ => ⟨a, vs, h1, sqT_mono e h2, h3.mono e⟩
/-- tuples of one, three, four items (of two: a pair) -/
structure T1 (α : Type) where
  a : α
  deriving DecidableEq
structure T3 (α β γ : Type) where
  a : α
  b : β
  c : γ
  deriving DecidableEq
structure T4 (α β γ δ : Type) where
  a : α
  b : β
  c : γ
  d : δ
  deriving DecidableEq
section
variable {α β γ δ : Type} [PyT α] [PyT β] [PyT γ] [PyT δ]
instance : PyT (T1 α) where
  rep := fun K F v x => ∃ p w, v = .ref p ∧ SqT K F p [w] ∧ rep K F w x.a
  mono := fun e ⟨a, w, h1, h2, h3⟩ => ⟨a, w, h1, sqT_mono e h2, PyT.mono e h3⟩
instance : PyT (α × β) where
  rep := fun K F v x => ∃ p w u, v = .ref p ∧ SqT K F p [w, u] ∧ rep K F w x.1 ∧ rep K F u x.2
  mono := fun e ⟨a, w, u, h1, h2, h3, h4⟩ => ⟨a, w, u, h1, sqT_mono e h2, PyT.mono e h3, PyT.mono e h4⟩
instance : PyT (T3 α β γ) where
  rep := fun K F v x => ∃ p w u t, v = .ref p ∧ SqT K F p [w, u, t] ∧ rep K F w x.a ∧ rep K F u x.b ∧ rep K F t x.c
  mono := fun e ⟨a, w, u, t, h1, h2, h3, h4, h5⟩ => ⟨a, w, u, t, h1, sqT_mono e h2, PyT.mono e h3, PyT.mono e h4, PyT.mono e h5⟩
instance : PyT (T4 α β γ δ) where
  rep := fun K F v x => ∃ p w u t s, v = .ref p ∧ SqT K F p [w, u, t, s] ∧ rep K F w x.a ∧ rep K F u x.b ∧ rep K F t x.c ∧ rep K F s x.d
  mono := fun e ⟨a, w, u, t, s, h1, h2, h3, h4, h5, h6⟩ => ⟨a, w, u, t, s, h1, sqT_mono e h2, PyT.mono e h3, PyT.mono e h4, PyT.mono e h5, PyT.mono e h6⟩
/-- one or the other -/
instance : PyT (α ⊕ β) where
  rep := fun K F v x => match x with
    | .inl a => rep K F v a
    | .inr b => rep K F v b
  mono := fun {K F F' v x} e h => by
    cases x with
    | inl a => exact PyT.mono (α := α) e h
    | inr b => exact PyT.mono (α := β) e h
/-- nothing, or a thing -/
instance : PyT (Option α) where
  rep := fun K F v x => match x with
    | none => v = .non
    | some a => rep K F v a
  mono := fun {K F F' v x} e h => by
    cases x with
    | none => exact h
    | some a => exact PyT.mono (α := α) e h
end
/-! ### what stands in the slots -/
inductive Sl : Type 1 where
  | un
  /-- a value that isn't changed -/
  | fr {α : Type} [PyT α] (x : α)
  /-- a list of the def's own, of these items -/
  | ow {α : Type} [PyT α] (xs : List α)
  /-- a value that isn't changed as long as none of the def's own lists is -/
  | tm {α : Type} [PyT α] (x : α)
  /-- a table of the def's own: its rows' addresses, their items -/
  | ot {α : Type} [PyT α] (rs : List Addr) (xss : List (List α))
def Rows (K : PySem.W.Frag) (F H H0 : Hp) {α : Type} [PyT α] : List Addr → List (List α) → Prop
  | [], [] => True
  | r :: rs, xs :: xss => (∃ vs, H r = some (.lst vs) ∧ RepL K F vs xs) ∧ H0 r = none ∧ Rows K F H H0 rs xss
  | _, _ => False
section
variable {K : PySem.W.Frag} {F F' H H' H0 H1 : Hp} {α : Type} [PyT α] {p : Addr}
theorem Rows.grow (e : Same F F') (e2 : Same H H') : ∀ {rs : List Addr} {xss : List (List α)}, Rows K F H H0 rs xss → Rows K F' H' H0 rs xss
  | [], [], _ => trivial
  | r :: rs, xs :: xss, ⟨⟨vs, h1, h2⟩, h3, h4⟩ => ⟨⟨vs, e2 _ _ h1, h2.mono e⟩, h3, Rows.grow e e2 h4⟩
  | [], _ :: _, h => h.elim
  | _ :: _, [], h => h.elim
theorem Rows.base : ∀ {rs : List Addr} {xss : List (List α)}, Rows K F H H0 rs xss → (∀ r ∈ rs, H1 r = none) → Rows K F H H1 rs xss
  | [], [], _, _ => trivial
  | r :: rs, xs :: xss, ⟨h1, h3, h4⟩, h => ⟨h1, h r List.mem_cons_self, Rows.base h4 fun q hq => h q (List.mem_cons_of_mem _ hq)⟩
  | [], _ :: _, h, _ => h.elim
  | _ :: _, [], h, _ => h.elim
theorem Rows.upd {o : HO} (e : Same F F') : ∀ {rs : List Addr} {xss : List (List α)}, Rows K F H H0 rs xss → p ∉ rs → Rows K F' (L2.upd H p o) H0 rs xss
  | [], [], _, _ => trivial
  | r :: rs, xs :: xss, ⟨⟨vs, h1, h2⟩, h3, h4⟩, h => ⟨⟨vs, (upd_ne (fun z => h (by rw [← z]; exact List.mem_cons_self))).trans h1, h2.mono e⟩, h3, Rows.upd e h4 fun z => h (List.mem_cons_of_mem _ z)⟩
  | [], _ :: _, h, _ => h.elim
  | _ :: _, [], h, _ => h.elim
theorem Rows.mem : ∀ {rs : List Addr} {xss : List (List α)}, Rows K F H H0 rs xss → p ∈ rs → H p ≠ none ∧ H0 p = none
  | r :: rs, xs :: xss, ⟨⟨vs, h1, h2⟩, h3, h4⟩, h => by
    rcases List.mem_cons.mp h with e | h
    · subst e
      exact ⟨(by rw [h1]; intro z; cases z), h3⟩
    · exact Rows.mem h4 h
  | [], _, _, h => by cases h
  | _ :: _, [], h, _ => h.elim
theorem Rows.len : ∀ {rs : List Addr} {xss : List (List α)}, Rows K F H H0 rs xss → rs.length = xss.length
  | [], [], _ => rfl
  | r :: rs, xs :: xss, ⟨_, _, h4⟩ => congrArg Nat.succ (Rows.len h4)
  | [], _ :: _, h => h.elim
  | _ :: _, [], h => h.elim
/-- rows no more changed -/
theorem Rows.rep (G : Hp) : ∀ {rs : List Addr} {xss : List (List α)}, Rows K F H H0 rs xss → Same F G → (∀ r ∈ rs, ∀ o, H r = some o → G r = some o) → RepL K G (rs.map V.ref) xss
  | [], [], _, _, _ => trivial
  | r :: rs, xs :: xss, ⟨⟨vs, h1, h2⟩, h3, h4⟩, e, hg => ⟨⟨r, vs, rfl, hg r List.mem_cons_self _ h1, h2.mono e⟩, Rows.rep G h4 e fun q hq => hg q (List.mem_cons_of_mem _ hq)⟩
  | [], _ :: _, h, _, _ => h.elim
  | _ :: _, [], h, _, _ => h.elim
/-- one row -/
theorem Rows.get : ∀ {rs : List Addr} {xss : List (List α)} {i : Nat} {xs : List α}, Rows K F H H0 rs xss → xss[i]? = some xs → ∃ r vs, rs[i]? = some r ∧ H r = some (.lst vs) ∧ H0 r = none ∧ RepL K F vs xs
  | r :: rs, xs :: xss, 0, ys, ⟨⟨vs, h1, h2⟩, h3, h4⟩, e => by
    cases e
    exact ⟨r, vs, rfl, h1, h3, h2⟩
  | r :: rs, xs :: xss, i + 1, ys, ⟨_, _, h4⟩, e => Rows.get (i := i) h4 e
  | [], [], _, _, _, e => by simp at e
  | [], _ :: _, _, _, h, _ => h.elim
  | _ :: _, [], _, _, h, _ => h.elim
/-- .. changed -/
theorem Rows.set {vs' : List V} {xs' : List α} (e : Same F F') (hr : RepL K F' vs' xs') : ∀ {rs : List Addr} {xss : List (List α)} {i : Nat}, Rows K F H H0 rs xss → rs.Nodup → rs[i]? = some p → Rows K F' (L2.upd H p (.lst vs')) H0 rs (xss.set i xs')
  | r :: rs, xs :: xss, 0, ⟨_, h3, h4⟩, nd, hi => by
    cases hi
    exact ⟨⟨vs', upd_same, hr⟩, h3, h4.upd e (List.nodup_cons.mp nd).1⟩
  | r :: rs, xs :: xss, i + 1, ⟨⟨vs, h1, h2⟩, h3, h4⟩, nd, hi => by
    have hm : p ∈ rs := List.mem_of_getElem? (i := i) hi
    have ne : r ≠ p := fun z => (List.nodup_cons.mp nd).1 (by rw [z]; exact hm)
    exact ⟨⟨vs, (upd_ne ne).trans h1, h2.mono e⟩, h3, Rows.set (i := i) e hr h4 (List.nodup_cons.mp nd).2 hi⟩
  | [], _, _, _, _, hi => by simp at hi
  | _ :: _, [], _, h, _, _ => h.elim
theorem Rows.app : ∀ {rs : List Addr} {xss : List (List α)} {r : Addr} {vs : List V} {xs : List α}, Rows K F H H0 rs xss → H r = some (.lst vs) → H0 r = none → RepL K F vs xs → Rows K F H H0 (rs ++ [r]) (xss ++ [xs])
  | [], [], r, vs, xs, _, h1, h2, h3 => ⟨⟨vs, h1, h3⟩, h2, trivial⟩
  | r :: rs, xs :: xss, _, _, _, ⟨h1, h3, h4⟩, a, b, c => ⟨h1, h3, Rows.app h4 a b c⟩
  | [], _ :: _, _, _, _, h, _, _, _ => h.elim
  | _ :: _, [], _, _, _, h, _, _, _ => h.elim
end
def SlOk (K : PySem.W.Frag) (F H H0 : Hp) : Sl → Option V → Prop
  | .un, _ => True
  | @Sl.fr α i x, o => ∃ v, o = some v ∧ @PyT.rep α i K F v x
  | @Sl.ow α i xs, o => ∃ p vs, o = some (.ref p) ∧ H p = some (.lst vs) ∧ H0 p = none ∧ @RepL α i K F vs xs
  | @Sl.tm α i x, o => ∃ v, o = some v ∧ @PyT.rep α i K H v x
  | @Sl.ot α i rs xss, o => ∃ p, o = some (.ref p) ∧ H p = some (.lst (rs.map V.ref)) ∧ H0 p = none ∧ @Rows K F H H0 α i rs xss
/-- what a slot adds -/
def own1 : Sl → Option V → List Addr
  | @Sl.ow _ _ _, some (.ref p) => [p]
  | @Sl.ot _ _ rs _, some (.ref p) => p :: rs
  | _, _ => []
def tmF1 : Sl → Bool
  | @Sl.tm _ _ _ => false
  | _ => true
/-- nothing stands that leans on the def's own lists -/
def tmF (Γ : List Sl) : Bool := Γ.all tmF1
/-- the lists of the def's own -/
def owA : List Sl → L2.St → List Addr
  | s :: Γ, o :: σ => own1 s o ++ owA Γ σ
  | _, _ => []
def AllOk (K : PySem.W.Frag) (F H H0 : Hp) : List Sl → L2.St → Prop
  | [], [] => True
  | s :: Γ, o :: σ => SlOk K F H H0 s o ∧ AllOk K F H H0 Γ σ
  | _, _ => False
structure At (K : PySem.W.Frag) (H0 : Hp) (qs : List Addr) (Γ : List Sl) (σ : L2.St) (H : Hp) : Prop where
  ex : Same H0 H
  ok : AllOk K (Fz H (owA Γ σ ++ qs)) H H0 Γ σ
  nd : (owA Γ σ).Nodup
  sep : ∀ p ∈ owA Γ σ, p ∉ qs
  qd : ∀ q ∈ qs, H q ≠ none
section
variable {K : PySem.W.Frag} {F F' H H' H0 : Hp} {qs : List Addr} {Γ Γ' : List Sl} {σ : L2.St}
theorem SlOk.grow {s : Sl} {o : Option V} (h : SlOk K F H H0 s o) (e : Same F F') (e2 : Same H H') : SlOk K F' H' H0 s o := by
  cases s with
  | un => trivial
  | fr x =>
    obtain ⟨v, h1, h2⟩ := h
    exact ⟨v, h1, PyT.mono e h2⟩
  | ow xs =>
    obtain ⟨p, vs, h1, h2, h3, h4⟩ := h
    exact ⟨p, vs, h1, e2 _ _ h2, h3, h4.mono e⟩
  | tm x =>
    obtain ⟨v, h1, h2⟩ := h
    exact ⟨v, h1, PyT.mono e2 h2⟩
  | ot rs xss =>
    obtain ⟨p, h1, h2, h3, h4⟩ := h
    exact ⟨p, h1, e2 _ _ h2, h3, h4.grow e e2⟩
theorem AllOk.grow (e : Same F F') (e2 : Same H H') : ∀ {Γ : List Sl} {σ : L2.St}, AllOk K F H H0 Γ σ → AllOk K F' H' H0 Γ σ
  | [], [], _ => trivial
  | s :: Γ, o :: σ, h => ⟨h.1.grow e e2, AllOk.grow e e2 h.2⟩
  | [], _ :: _, h => h.elim
  | _ :: _, [], h => h.elim
theorem AllOk.len : ∀ {Γ : List Sl} {σ : L2.St}, AllOk K F H H0 Γ σ → Γ.length = σ.length
  | [], [], _ => rfl
  | s :: Γ, o :: σ, h => congrArg Nat.succ (AllOk.len h.2)
  | [], _ :: _, h => h.elim
  | _ :: _, [], h => h.elim
theorem AllOk.get : ∀ {Γ : List Sl} {σ : L2.St} {i : Nat} {s : Sl}, AllOk K F H H0 Γ σ → Γ[i]? = some s → ∃ o, σ[i]? = some o ∧ SlOk K F H H0 s o
  | s :: Γ, o :: σ, 0, t, h, e => by
    have e2 : s = t := Option.some.inj e
    subst e2
    exact ⟨o, rfl, h.1⟩
  | s :: Γ, o :: σ, i + 1, t, h, e => AllOk.get (i := i) h.2 e
  | [], [], _, _, _, e => by simp at e
  | [], _ :: _, _, _, h, _ => h.elim
  | _ :: _, [], _, _, h, _ => h.elim
theorem owA_cons {s : Sl} {o : Option V} : owA (s :: Γ) (o :: σ) = own1 s o ++ owA Γ σ := rfl
theorem owA_nil : owA Γ [] = [] := by cases Γ <;> rfl
theorem owA_mem : ∀ {Γ : List Sl} {σ : L2.St} {i : Nat} {α : Type} [PyT α] {xs : List α} {p : Addr}, Γ[i]? = some (.ow xs) → σ[i]? = some (some (.ref p)) → p ∈ owA Γ σ
  | s :: Γ, o :: σ, 0, _, _, _, p, e1, e2 => by
    have q1 := Option.some.inj e1
    have q2 := Option.some.inj e2
    subst q1 q2
    rw [owA_cons]
    exact List.mem_append_left _ (by simp [own1])
  | s :: Γ, o :: σ, i + 1, _, _, _, p, e1, e2 => by
    have ih := owA_mem (Γ := Γ) (σ := σ) (i := i) e1 e2
    rw [owA_cons]
    exact List.mem_append_right _ ih
  | [], _, _, _, _, _, _, e, _ => by simp at e
  | _ :: _, [], _, _, _, _, _, _, e => by simp at e
theorem owA_set_sub {s : Sl} {o : Option V} : ∀ {Γ : List Sl} {σ : L2.St} {i : Nat} {a : Addr}, a ∈ owA (Γ.set i s) (σ.set i o) → a ∈ own1 s o ∨ a ∈ owA Γ σ
  | [], [], _, _, h => .inr h
  | [], _ :: _, _, _, h => by cases h
  | t :: Γ, [], i, a, h => by
    rw [List.set_nil, owA_nil] at h
    cases h
  | t :: Γ, u :: σ, 0, a, h => by
    rw [List.set_cons_zero, List.set_cons_zero, owA_cons] at h
    rw [owA_cons]
    rcases List.mem_append.mp h with h | h
    · exact .inl h
    · exact .inr (List.mem_append_right _ h)
  | t :: Γ, u :: σ, i + 1, a, h => by
    rw [List.set_cons_succ, List.set_cons_succ, owA_cons] at h
    rw [owA_cons]
    rcases List.mem_append.mp h with h | h
    · exact .inr (List.mem_append_left _ h)
    · rcases owA_set_sub h with h | h
      · exact .inl h
      · exact .inr (List.mem_append_right _ h)
theorem owA_set_nd {s : Sl} {o : Option V} (h1 : (own1 s o).Nodup) : ∀ {Γ : List Sl} {σ : L2.St} {i : Nat}, (∀ a ∈ own1 s o, a ∉ owA Γ σ) → (owA Γ σ).Nodup → (owA (Γ.set i s) (σ.set i o)).Nodup
  | [], _, _, _, _ => by simp [owA]
  | t :: Γ, [], i, _, _ => by cases i <;> simp [owA]
  | t :: Γ, u :: σ, 0, hn, hd => by
    rw [List.set_cons_zero, List.set_cons_zero, owA_cons]
    rw [owA_cons] at hd hn
    refine List.nodup_append.mpr ⟨h1, (List.nodup_append.mp hd).2.1, fun a ha b hb e => ?_⟩
    subst e
    exact hn a ha (List.mem_append_right _ hb)
  | t :: Γ, u :: σ, i + 1, hn, hd => by
    rw [List.set_cons_succ, List.set_cons_succ, owA_cons]
    rw [owA_cons] at hd hn
    obtain ⟨d1, d2, d3⟩ := List.nodup_append.mp hd
    refine List.nodup_append.mpr ⟨d1, owA_set_nd h1 (fun a ha hb => hn a ha (List.mem_append_right _ hb)) d2, fun a ha b hb e => ?_⟩
    subst e
    rcases owA_set_sub hb with hb | hb
    · exact hn a hb (List.mem_append_left _ ha)
    · exact d3 a ha a hb rfl
theorem AllOk.set {s : Sl} {o : Option V} (hs : SlOk K F H H0 s o) : ∀ {Γ : List Sl} {σ : L2.St} {i : Nat}, AllOk K F H H0 Γ σ → AllOk K F H H0 (Γ.set i s) (σ.set i o)
  | [], [], _, _ => trivial
  | t :: Γ, u :: σ, 0, h => ⟨hs, h.2⟩
  | t :: Γ, u :: σ, i + 1, h => ⟨h.1, AllOk.set hs h.2⟩
  | [], _ :: _, _, h => h.elim
  | _ :: _, [], _, h => h.elim
theorem At.own_there (a : At K H0 qs Γ σ H) {p : Addr} (hp : p ∈ owA Γ σ) : H p ≠ none := by
  have go : ∀ {Γ : List Sl} {σ : L2.St} {F : Hp}, AllOk K F H H0 Γ σ → p ∈ owA Γ σ → H p ≠ none := by
    intro Γ
    induction Γ with
    | nil => intro σ F _ h; cases h
    | cons t Γ ih =>
      intro σ F ok h
      cases σ with
      | nil =>
        rw [owA_nil] at h
        cases h
      | cons u σ =>
        rw [owA_cons] at h
        rcases List.mem_append.mp h with h | h
        · cases t with
          | ow xs =>
            obtain ⟨q, vs, e1, e2, _⟩ := ok.1
            subst e1
            have e : p = q := by simpa [own1] using h
            rw [e, e2]
            exact fun z => by cases z
          | un => cases h
          | fr x => cases h
          | tm x => cases h
          | ot rs xss =>
            obtain ⟨q, e1, e2, e3, e4⟩ := ok.1
            subst e1
            rcases List.mem_cons.mp (show p ∈ q :: rs from h) with e | h
            · rw [e, e2]
              exact fun z => by cases z
            · exact (e4.mem h).1
        · exact ih ok.2 h
  exact go a.ok hp
theorem At.av_there (a : At K H0 qs Γ σ H) {p : Addr} (hp : p ∈ owA Γ σ ++ qs) : H p ≠ none := (List.mem_append.mp hp).elim a.own_there (a.qd p)
theorem At.grow (a : At K H0 qs Γ σ H) (e : Same H H') : At K H0 qs Γ σ H' :=
  ⟨a.ex.trans e, a.ok.grow (Fz.mono e) e, a.nd, a.sep, fun q hq z => by
    cases h : H q with
    | none => exact a.qd q hq h
    | some o => rw [e q o h] at z; cases z⟩
theorem At.len (a : At K H0 qs Γ σ H) : Γ.length = σ.length := a.ok.len
theorem At.fr {i : Nat} {α : Type} [PyT α] {x : α} (a : At K H0 qs Γ σ H) (h : Γ[i]? = some (.fr x)) : ∃ v, σ[i]? = some (some v) ∧ rep K (Fz H (owA Γ σ ++ qs)) v x := by
  obtain ⟨o, h1, v, h2, h3⟩ := a.ok.get h
  subst h2
  exact ⟨v, h1, h3⟩
theorem At.ow {i : Nat} {α : Type} [PyT α] {xs : List α} (a : At K H0 qs Γ σ H) (h : Γ[i]? = some (.ow xs)) :
    ∃ p vs, σ[i]? = some (some (.ref p)) ∧ p ∈ owA Γ σ ∧ H p = some (.lst vs) ∧ H0 p = none ∧ RepL K (Fz H (owA Γ σ ++ qs)) vs xs := by
  obtain ⟨o, h1, p, vs, h2, h3, h4, h5⟩ := a.ok.get h
  subst h2
  exact ⟨p, vs, h1, owA_mem h h1, h3, h4, h5⟩
theorem At.setFr {i : Nat} {α : Type} [PyT α] {x : α} {v : V} (a : At K H0 qs Γ σ H) (h : rep K (Fz H (owA Γ σ ++ qs)) v x) : At K H0 qs (Γ.set i (.fr x)) (σ.set i (some v)) H := by
  have sub : ∀ b ∈ owA (Γ.set i (.fr x)) (σ.set i (some v)), b ∈ owA Γ σ := fun b hb => (owA_set_sub hb).elim (fun z => by cases z) id
  have e : Same (Fz H (owA Γ σ ++ qs)) (Fz H (owA (Γ.set i (.fr x)) (σ.set i (some v)) ++ qs)) := Fz.sub (fun _ _ z => z) fun b hb => (List.mem_append.mp hb).elim (fun z => List.mem_append_left _ (sub b z)) (List.mem_append_right _)
  exact ⟨a.ex, (AllOk.grow e (fun _ _ z => z) a.ok).set (s := .fr x) (o := some v) ⟨v, rfl, PyT.mono e h⟩, owA_set_nd (s := .fr x) (o := some v) List.nodup_nil (fun b hb => by cases hb) a.nd, fun p hp => a.sep p (sub p hp), a.qd⟩
theorem At.setUn {i : Nat} {o : Option V} (a : At K H0 qs Γ σ H) : At K H0 qs (Γ.set i .un) (σ.set i o) H := by
  have sub : ∀ b ∈ owA (Γ.set i .un) (σ.set i o), b ∈ owA Γ σ := fun b hb => (owA_set_sub hb).elim (fun z => by cases z) id
  have e : Same (Fz H (owA Γ σ ++ qs)) (Fz H (owA (Γ.set i .un) (σ.set i o) ++ qs)) := Fz.sub (fun _ _ z => z) fun b hb => (List.mem_append.mp hb).elim (fun z => List.mem_append_left _ (sub b z)) (List.mem_append_right _)
  exact ⟨a.ex, (AllOk.grow e (fun _ _ z => z) a.ok).set (s := .un) (o := o) trivial, owA_set_nd (s := .un) (o := o) List.nodup_nil (fun b hb => by cases hb) a.nd, fun p hp => a.sep p (sub p hp), a.qd⟩
/-- a new list comes into a slot -/
theorem At.setOw {i : Nat} {α : Type} [PyT α] {xs : List α} {p : Addr} {vs : List V} (a : At K H0 qs Γ σ H) (e : Same H H') (hp : H p = none) (hp' : H' p = some (.lst vs)) (h : RepL K (Fz H' (p :: (owA Γ σ ++ qs))) vs xs) :
    At K H0 qs (Γ.set i (.ow xs)) (σ.set i (some (.ref p))) H' := by
  have a' := a.grow e
  have np : p ∉ owA Γ σ := fun z => a.own_there z hp
  have nq : p ∉ qs := fun z => a.qd p z hp
  have sub : ∀ b ∈ owA (Γ.set i (.ow xs)) (σ.set i (some (.ref p))), b = p ∨ b ∈ owA Γ σ := fun b hb => (owA_set_sub hb).imp (fun z => by simpa [own1] using z) id
  have e1 : Same (Fz H' (p :: (owA Γ σ ++ qs))) (Fz H' (owA (Γ.set i (.ow xs)) (σ.set i (some (.ref p))) ++ qs)) := Fz.sub (fun _ _ z => z) fun b hb => (List.mem_append.mp hb).elim
    (fun z => (sub b z).elim (fun q => by rw [q]; exact List.mem_cons_self) fun q => List.mem_cons_of_mem _ (List.mem_append_left _ q)) fun z => List.mem_cons_of_mem _ (List.mem_append_right _ z)
  have e2 : Same (Fz H (owA Γ σ ++ qs)) (Fz H' (owA (Γ.set i (.ow xs)) (σ.set i (some (.ref p))) ++ qs)) := Fz.new e fun b hb => (List.mem_append.mp hb).elim
    (fun z => (sub b z).elim (fun q => .inr (by rw [q]; exact hp)) fun q => .inl (List.mem_append_left _ q)) fun z => .inl (List.mem_append_right _ z)
  refine ⟨a'.ex, (AllOk.grow e2 e a.ok).set (s := .ow xs) (o := some (.ref p)) ⟨p, vs, rfl, hp', a.ex.free hp, h.mono e1⟩, owA_set_nd (s := .ow xs) (o := some (.ref p)) (by simp [own1]) (fun b hb => ?_) a.nd, fun b hb => (sub b hb).elim (fun q => by rw [q]; exact nq) (a.sep b), a'.qd⟩
  have q : b = p := by simpa [own1] using hb
  rw [q]; exact np
theorem SlOk.upd {s : Sl} {ov : Option V} {p : Addr} {o : HO} (h : SlOk K F H H0 s ov) (e : Same F F') (np : p ∉ own1 s ov) (ht : tmF1 s = true) : SlOk K F' (L2.upd H p o) H0 s ov := by
  cases s with
  | un => trivial
  | fr x =>
    obtain ⟨v, k1, k2⟩ := h
    exact ⟨v, k1, PyT.mono e k2⟩
  | ow ys =>
    obtain ⟨q, ws, k1, k2, k3, k4⟩ := h
    subst k1
    exact ⟨q, ws, rfl, (upd_ne (fun z => np (by rw [← z]; simp [own1]))).trans k2, k3, k4.mono e⟩
  | tm x => cases ht
  | ot rs xss =>
    obtain ⟨q, k1, k2, k3, k4⟩ := h
    subst k1
    exact ⟨q, rfl, (upd_ne (fun z => np (by rw [← z]; exact List.mem_cons_self))).trans k2, k3, k4.upd e fun z => np (List.mem_cons_of_mem _ z)⟩
theorem AllOk.upd {p : Addr} {o : HO} (e : Same F F') : ∀ {Γ : List Sl} {σ : L2.St}, AllOk K F H H0 Γ σ → p ∉ owA Γ σ → tmF Γ = true → AllOk K F' (L2.upd H p o) H0 Γ σ
  | [], [], _, _, _ => trivial
  | s :: Γ, ov :: σ, h, np, ht => by
    rw [owA_cons] at np
    obtain ⟨h1, h2⟩ := Bool.and_eq_true_iff.mp (show (tmF1 s && tmF Γ) = true from ht)
    exact ⟨h.1.upd e (fun z => np (List.mem_append_left _ z)) h1, AllOk.upd e h.2 (fun z => np (List.mem_append_right _ z)) h2⟩
  | [], _ :: _, h, _, _ => h.elim
  | _ :: _, [], h, _, _ => h.elim
theorem owA_mem1 {s : Sl} {ov : Option V} {p : Addr} : ∀ {Γ : List Sl} {σ : L2.St} {i : Nat}, Γ[i]? = some s → σ[i]? = some ov → p ∈ own1 s ov → p ∈ owA Γ σ
  | t :: Γ, o :: σ, 0, e1, e2, h => by
    cases e1
    cases e2
    rw [owA_cons]
    exact List.mem_append_left _ h
  | t :: Γ, o :: σ, i + 1, e1, e2, h => by
    rw [owA_cons]
    exact List.mem_append_right _ (owA_mem1 (i := i) e1 e2 h)
  | [], _, _, e, _, _ => by simp at e
  | _ :: _, [], _, _, e, _ => by simp at e
/-- the list of a slot changes -/
theorem AllOk.mut {p : Addr} {o : HO} {s s' : Sl} {ov : Option V} (e : Same F F') (hs : SlOk K F' (L2.upd H p o) H0 s' ov) (hp : p ∈ own1 s ov) : ∀ {Γ : List Sl} {σ : L2.St} {i : Nat}, AllOk K F H H0 Γ σ → (owA Γ σ).Nodup → tmF Γ = true →
    Γ[i]? = some s → σ[i]? = some ov → AllOk K F' (L2.upd H p o) H0 (Γ.set i s') σ
  | t :: Γ, w :: σ, 0, h, nd, ht, e1, e2 => by
    cases e1
    cases e2
    rw [owA_cons] at nd
    obtain ⟨d1, d2, d3⟩ := List.nodup_append.mp nd
    obtain ⟨h1, h2⟩ := Bool.and_eq_true_iff.mp (show (tmF1 s && tmF Γ) = true from ht)
    exact ⟨hs, h.2.upd e (fun z => d3 p hp p z rfl) h2⟩
  | t :: Γ, w :: σ, i + 1, h, nd, ht, e1, e2 => by
    rw [owA_cons] at nd
    obtain ⟨d1, d2, d3⟩ := List.nodup_append.mp nd
    obtain ⟨h1, h2⟩ := Bool.and_eq_true_iff.mp (show (tmF1 t && tmF Γ) = true from ht)
    have hm : p ∈ owA Γ σ := owA_mem1 (i := i) e1 e2 hp
    exact ⟨h.1.upd e (fun z => d3 p z p hm rfl) h1, AllOk.mut (i := i) e hs hp h.2 d2 h2 e1 e2⟩
  | [], _, _, _, _, _, e, _ => by simp at e
  | _ :: _, [], _, _, _, _, _, e => by simp at e
theorem owA_set_same {s s' : Sl} {ov : Option V} (hs : own1 s' ov = own1 s ov) : ∀ {Γ : List Sl} {σ : L2.St} {i : Nat}, Γ[i]? = some s → σ[i]? = some ov → owA (Γ.set i s') σ = owA Γ σ
  | t :: Γ, o :: σ, 0, e1, e2 => by
    cases e1
    cases e2
    rw [List.set_cons_zero, owA_cons, owA_cons, hs]
  | t :: Γ, o :: σ, i + 1, e1, e2 => by
    rw [List.set_cons_succ, owA_cons, owA_cons, owA_set_same (i := i) hs e1 e2]
  | [], _, _, e, _ => by simp at e
  | _ :: _, [], _, _, e => by simp at e
theorem At.mut {i : Nat} {α : Type} [PyT α] {xs xs' : List α} {p : Addr} {vs' : List V} (a : At K H0 qs Γ σ H) (h : Γ[i]? = some (.ow xs)) (hp : σ[i]? = some (some (.ref p))) (hv : RepL K (Fz H (owA Γ σ ++ qs)) vs' xs') (ht : tmF Γ = true) :
    At K H0 qs (Γ.set i (.ow xs')) σ (upd H p (.lst vs')) := by
  obtain ⟨p', vs, k1, k2, k3, k4, k5⟩ := a.ow h
  have e : p' = p := by rw [hp] at k1; exact (V.ref.inj (Option.some.inj (Option.some.inj k1))).symm
  subst e
  have eo : owA (Γ.set i (.ow xs')) σ = owA Γ σ := owA_set_same (s := .ow xs) (s' := .ow xs') (ov := some (.ref p')) rfl h hp
  have e1 : Same (Fz H (owA Γ σ ++ qs)) (Fz (upd H p' (.lst vs')) (owA Γ σ ++ qs)) := Fz.mut (List.mem_append_left _ k2)
  refine ⟨same_mut a.ex k4, ?_, by rw [eo]; exact a.nd, by rw [eo]; exact a.sep, fun q hq => ?_⟩
  · rw [eo]
    exact AllOk.mut (s := .ow xs) (s' := .ow xs') e1 ⟨p', vs', rfl, upd_same, k4, hv.mono e1⟩ List.mem_cons_self a.ok a.nd ht h hp
  · rw [upd_ne (fun z => a.sep p' k2 (by rw [← z]; exact hq))]
    exact a.qd q hq
/-- a table of the def's own -/
theorem At.ot {i : Nat} {α : Type} [PyT α] {rs : List Addr} {xss : List (List α)} (a : At K H0 qs Γ σ H) (h : Γ[i]? = some (.ot rs xss)) :
    ∃ p, σ[i]? = some (some (.ref p)) ∧ (∀ q ∈ p :: rs, q ∈ owA Γ σ) ∧ H p = some (.lst (rs.map V.ref)) ∧ H0 p = none ∧ Rows K (Fz H (owA Γ σ ++ qs)) H H0 rs xss := by
  obtain ⟨o, h1, p, h2, h3, h4, h5⟩ := a.ok.get h
  subst h2
  exact ⟨p, h1, fun q hq => owA_mem1 (ov := some (.ref p)) h h1 hq, h3, h4, h5⟩
/-- one of its rows changes -/
theorem At.mutT {i j : Nat} {α : Type} [PyT α] {rs : List Addr} {xss : List (List α)} {r : Addr} {vs' : List V} {xs' : List α} (a : At K H0 qs Γ σ H) (h : Γ[i]? = some (.ot rs xss)) (hr : rs[j]? = some r) (hv : RepL K (Fz H (owA Γ σ ++ qs)) vs' xs') (nd : rs.Nodup) (ht : tmF Γ = true) :
    At K H0 qs (Γ.set i (.ot rs (xss.set j xs'))) σ (upd H r (.lst vs')) := by
  obtain ⟨p, k1, k2, k3, k4, k5⟩ := a.ot h
  have rm : r ∈ rs := List.mem_of_getElem? hr
  have kr : r ∈ owA Γ σ := k2 r (List.mem_cons_of_mem _ rm)
  have eo : owA (Γ.set i (.ot rs (xss.set j xs'))) σ = owA Γ σ := owA_set_same (s := .ot rs xss) (s' := .ot rs (xss.set j xs')) (ov := some (.ref p)) rfl h k1
  have e1 : Same (Fz H (owA Γ σ ++ qs)) (Fz (upd H r (.lst vs')) (owA Γ σ ++ qs)) := Fz.mut (List.mem_append_left _ kr)
  have np : p ≠ r := by
    intro z
    have ndp : (own1 (.ot rs xss) (some (.ref p))).Nodup := by
      have go : ∀ {Γ : List Sl} {σ : L2.St} {i : Nat} {s : Sl} {ov : Option V}, Γ[i]? = some s → σ[i]? = some ov → (owA Γ σ).Nodup → (own1 s ov).Nodup := by
        intro Γ
        induction Γ with
        | nil => intro σ i s ov e; simp at e
        | cons t Γ ih =>
          intro σ i s ov e1 e2 nd
          cases σ with
          | nil => simp at e2
          | cons w σ =>
            rw [owA_cons] at nd
            cases i with
            | zero =>
              cases e1
              cases e2
              exact (List.nodup_append.mp nd).1
            | succ i => exact ih (i := i) e1 e2 (List.nodup_append.mp nd).2.1
      exact go h k1 a.nd
    exact (List.nodup_cons.mp ndp).1 (by rw [z]; exact rm)
  refine ⟨same_mut a.ex (k5.mem rm).2, ?_, by rw [eo]; exact a.nd, by rw [eo]; exact a.sep, fun q hq => ?_⟩
  · rw [eo]
    exact AllOk.mut (s := .ot rs xss) (s' := .ot rs (xss.set j xs')) e1 ⟨p, rfl, (upd_ne np).trans k3, k4, k5.set e1 (hv.mono e1) nd hr⟩ (List.mem_cons_of_mem _ rm) a.ok a.nd ht h k1
  · rw [upd_ne (fun z => a.sep r kr (by rw [← z]; exact hq))]
    exact a.qd q hq
theorem At.tm {i : Nat} {α : Type} [PyT α] {x : α} (a : At K H0 qs Γ σ H) (h : Γ[i]? = some (.tm x)) : ∃ v, σ[i]? = some (some v) ∧ rep K H v x := by
  obtain ⟨o, h1, v, h2, h3⟩ := a.ok.get h
  subst h2
  exact ⟨v, h1, h3⟩
theorem At.setTm {i : Nat} {α : Type} [PyT α] {x : α} {v : V} (a : At K H0 qs Γ σ H) (h : rep K H v x) : At K H0 qs (Γ.set i (.tm x)) (σ.set i (some v)) H := by
  have sub : ∀ b ∈ owA (Γ.set i (.tm x)) (σ.set i (some v)), b ∈ owA Γ σ := fun b hb => (owA_set_sub hb).elim (fun z => by cases z) id
  have e : Same (Fz H (owA Γ σ ++ qs)) (Fz H (owA (Γ.set i (.tm x)) (σ.set i (some v)) ++ qs)) := Fz.sub (fun _ _ z => z) fun b hb => (List.mem_append.mp hb).elim (fun z => List.mem_append_left _ (sub b z)) (List.mem_append_right _)
  exact ⟨a.ex, (AllOk.grow e (fun _ _ z => z) a.ok).set (s := .tm x) (o := some v) ⟨v, rfl, h⟩, owA_set_nd (s := .tm x) (o := some v) List.nodup_nil (fun b hb => by cases hb) a.nd, fun p hp => a.sep p (sub p hp), a.qd⟩
/-- a list no more changed -/
theorem frz_out {α : Type} [PyT α] {xs : List α} {p : Addr} : ∀ {Γ : List Sl} {σ : L2.St} {i : Nat}, Γ[i]? = some (.ow xs) → σ[i]? = some (some (.ref p)) → (owA Γ σ).Nodup → p ∉ owA (Γ.set i (.fr xs)) σ
  | s :: Γ, o :: σ, 0, e1, e2, nd => by
    have q1 := Option.some.inj e1
    have q2 := Option.some.inj e2
    subst q1 q2
    exact (List.nodup_cons.mp nd).1
  | s :: Γ, o :: σ, i + 1, e1, e2, nd => by
    rw [List.set_cons_succ, owA_cons]
    rw [owA_cons] at nd
    obtain ⟨_, d2, d3⟩ := List.nodup_append.mp nd
    intro h
    rcases List.mem_append.mp h with h | h
    · exact d3 p h p (owA_mem e1 e2) rfl
    · exact frz_out (i := i) e1 e2 d2 h
  | [], _, _, e, _, _ => by simp at e
  | _ :: _, [], _, _, e, _ => by simp at e
theorem At.frz {i : Nat} {α : Type} [PyT α] {xs : List α} (a : At K H0 qs Γ σ H) (h : Γ[i]? = some (.ow xs)) : At K H0 qs (Γ.set i (.fr xs)) σ H := by
  obtain ⟨p, vs, k1, k2, k3, k4, k5⟩ := a.ow h
  have es : σ.set i (some (.ref p)) = σ := by
    obtain ⟨hl, e⟩ := List.getElem?_eq_some_iff.mp k1
    rw [← e]
    exact List.set_getElem_self hl
  have sub : ∀ b ∈ owA (Γ.set i (.fr xs)) σ, b ∈ owA Γ σ := fun b hb => by
    have hb' : b ∈ owA (Γ.set i (.fr xs)) (σ.set i (some (.ref p))) := by rw [es]; exact hb
    exact (owA_set_sub hb').elim (fun z => by cases z) id
  have e : Same (Fz H (owA Γ σ ++ qs)) (Fz H (owA (Γ.set i (.fr xs)) σ ++ qs)) := Fz.sub (fun _ _ z => z) fun b hb => (List.mem_append.mp hb).elim (fun z => List.mem_append_left _ (sub b z)) (List.mem_append_right _)
  have np : p ∉ owA (Γ.set i (.fr xs)) σ := frz_out h k1 a.nd
  have hq : Fz H (owA (Γ.set i (.fr xs)) σ ++ qs) p = some (.lst vs) := Fz.some_iff.mpr ⟨fun z => (List.mem_append.mp z).elim np (a.sep p k2), k3⟩
  have ok := (AllOk.grow e (fun _ _ z => z) a.ok).set (s := .fr xs) (o := some (.ref p)) (i := i) ⟨.ref p, rfl, p, vs, rfl, hq, k5.mono e⟩
  rw [es] at ok
  have nd := owA_set_nd (s := .fr xs) (o := some (.ref p)) (i := i) List.nodup_nil (fun b hb => by cases hb) a.nd
  rw [es] at nd
  exact ⟨a.ex, ok, nd, fun b hb => a.sep b (sub b hb), a.qd⟩
end
end Wk
set_option Elab.async false
set_option linter.all false
set_option maxRecDepth 100000
/-! Wk2: what an expression comes to, by typed rules. -/
namespace Wk
open PySem PySem.Spec PyProof.Rows L2

/-! ### the weakest readings -/
def wE (X : Cx) (e : Expr) : TE := fun σ H Q => ∀ (pins : List (Addr × Obj)) (s : Shared), Inv X pins σ H s → wpAny (model X.prog X.w) X.A (eval e X.env) (EP X pins σ Q) X.xe s
def wT (X : Cx) (e : Expr) : TT := fun σ H Q => ∀ (pins : List (Addr × Obj)) (s : Shared), Inv X pins σ H s → wpAny (model X.prog X.w) X.A (isTrue e X.env (eval e X.env)) (TP X pins σ Q) X.xe s
def wA (X : Cx) (es : List Expr) : TA := fun σ H Q => ∀ (pos : Pos) (pins : List (Addr × Obj)) (s : Shared), Inv X pins σ H s → wpAny (model X.prog X.w) X.A (spliced (backTo pos (starEach es X.env))) (AP X pins σ Q) X.xe s
def wS (X : Cx) (st : Stmt) : TS := fun D σ H => ∀ (pins : List (Addr × Obj)) (s : Shared), Inv X pins σ H s → wpAny (model X.prog X.w) X.A (exec st X.env) (SP X pins D) X.xe s
def wSs (X : Cx) (st : List Stmt) : TS := fun D σ H => ∀ (pins : List (Addr × Obj)) (s : Shared), Inv X pins σ H s → wpAny (model X.prog X.w) X.A (execs st X.env) (SP X pins D) X.xe s
section
variable {X : Cx} {e : Expr} {es : List Expr} {st : Stmt} {ss : List Stmt} {σ : L2.St} {H : Hp} {Q : VK} {D : Ends}
theorem pe_w : PE X e (wE X e) := ⟨fun pins s _ _ _ I h => h pins s I⟩
theorem pt_w : PT X e (wT X e) := ⟨fun pins s _ _ _ I h => h pins s I⟩
theorem pa_w : PA X es (wA X es) := ⟨fun pos pins s _ _ _ I h => h pos pins s I⟩
theorem ps_w : PS X st (wS X st) := ⟨fun pins s _ _ _ I h => h pins s I⟩
theorem pss_w : PSs X ss (wSs X ss) := ⟨fun pins s _ _ _ I h => h pins s I⟩
theorem wE_of {t : TE} (h : PE X e t) (q : t σ H Q) : wE X e σ H Q := fun pins s I => h.run pins s σ H Q I q
theorem wT_of {t : TT} {Q : Bool → Hp → Prop} (h : PT X e t) (q : t σ H Q) : wT X e σ H Q := fun pins s I => h.run pins s σ H Q I q
theorem wA_of {t : TA} {Q : List V → Hp → Prop} (h : PA X es t) (q : t σ H Q) : wA X es σ H Q := fun pos pins s I => h.run pos pins s σ H Q I q
theorem wS_of {t : TS} (h : PS X st t) (q : t D σ H) : wS X st D σ H := fun pins s I => h.run pins s σ H D I q
theorem wSs_of {t : TS} (h : PSs X ss t) (q : t D σ H) : wSs X ss D σ H := fun pins s I => h.run pins s σ H D I q
end

/-! ### names -/
/-- the names of a context -/
structure XN (X : Cx) (N : List Str) (sc : Scope) : Prop where
  hN : X.N = N
  hs : X.env.scope = sc
  nd : X.N.Nodup
structure XOk (X : Cx) (N : List Str) (sc : Scope) : Prop extends XN X N sc where
  calm : X.calm = true
def visB (k : Option NameKind) : Bool := match k with
  | some .local => true
  | some .cell => true
  | some .free => true
  | _ => false
def nmC (N : List Str) (sc : Scope) (i : Nat) (x : Str) : Bool := decide (N[i]? = some x) && (visB (sc.names.lookup x) && (!(x == ("__debug__" : Str)) && !(x == ("__classdict__" : Str))))
structure Nm (X : Cx) (i : Nat) (x : Str) : Prop where
  hi : X.N[i]? = some x
  vis : Vis X.env.scope x
  hd : (x == ("__debug__" : Str)) = false
  hc : (x == ("__classdict__" : Str)) = false
theorem nm_mk {X : Cx} {N : List Str} {sc : Scope} {i : Nat} {x : Str} (hX : XN X N sc) (h : nmC N sc i x = true) : Nm X i x := by
  unfold nmC at h
  simp only [Bool.and_eq_true, Bool.not_eq_true', decide_eq_true_eq] at h
  obtain ⟨h1, h2, h3, h4⟩ := h
  refine ⟨by rw [hX.hN]; exact h1, ?_, h3, h4⟩
  rw [hX.hs]
  unfold visB at h2
  split at h2 <;> first | (rename_i q; first | exact .inl q | exact .inr (.inl q) | exact .inr (.inr q)) | cases h2
def glC (sc : Scope) (x : Str) : Bool := decide (sc.names.lookup x = some .globalImplicit) && !(x == ("__debug__" : Str))
structure Gn (X : Cx) (x : Str) : Prop where
  gl : Gl X x
  hd : (x == ("__debug__" : Str)) = false
theorem gn_mk {X : Cx} {N : List Str} {sc : Scope} {x : Str} (hX : XN X N sc) (h : glC sc x = true) : Gn X x := by
  unfold glC at h
  simp only [Bool.and_eq_true, Bool.not_eq_true', decide_eq_true_eq] at h
  exact ⟨by show X.env.scope.names.lookup x = _; rw [hX.hs]; exact h.1, h.2⟩

/-! ### judgements -/
/-- the lists that what is told doesn't lean on -/
def av (md : Bool) (Γ : List Sl) (σ : L2.St) (qs : List Addr) : List Addr := match md with
  | true => owA Γ σ ++ qs
  | false => []
/-- an exception goes out -/
def XW (X : Cx) (E : XK) (H : Hp) : Exc → Prop := fun c => ∀ H', Same H H' → E (.ref (He.ga X.K c.nm)) none H'
abbrev Pas (X : Cx) (σ : L2.St) (E : XK) : Prop := PassesAt (L2.CX X.prog X.w) X σ E
theorem XW.grow {X : Cx} {E : XK} {H H' : Hp} {c : Exc} (s : Same H H') (h : XW X E H c) : XW X E H' c := fun H2 s2 => h H2 (s.trans s2)
section
variable (X : Cx) (H0 : Hp) (qs : List Addr) (md : Bool) (Γ : List Sl)
/-- a value that isn't changed -/
def Ev {α : Type} [PyT α] (e : Expr) (m : R α) : Prop :=
  ∀ σ H, At X.K H0 qs Γ σ H → ∀ E : XK, Pas X σ E → ∀ Q : VK, PX (fun x => ∀ v H', Same H H' → rep X.K (Fz H' (av md Γ σ qs)) v x → Q v H') (XW X E H) m → wE X e σ H Q
/-- a new list -/
def EvO {α : Type} [PyT α] (e : Expr) (m : R (List α)) : Prop :=
  ∀ σ H, At X.K H0 qs Γ σ H → ∀ E : XK, Pas X σ E → ∀ Q : VK, PX (fun xs => ∀ p vs H', Same H H' → H p = none → H' p = some (.lst vs) → RepL X.K (Fz H' (p :: av md Γ σ qs)) vs xs → Q (.ref p) H') (XW X E H) m → wE X e σ H Q
/-- a test -/
def EvT (e : Expr) (m : R Bool) : Prop :=
  ∀ σ H, At X.K H0 qs Γ σ H → ∀ E : XK, Pas X σ E → ∀ Q : Bool → Hp → Prop, PX (fun b => ∀ H', Same H H' → Q b H') (XW X E H) m → wT X e σ H Q
end
/-- arguments -/
class PyA (τ : Type) where
  reps : PySem.W.Frag → Hp → List V → τ → Prop
  mono : ∀ {K : PySem.W.Frag} {F F' : Hp} {vs : List V} {x : τ}, Same F F' → reps K F vs x → reps K F' vs x
instance : PyA Unit where
  reps := fun _ _ vs _ => vs = []
  mono := fun _ h => h
instance {α τ : Type} [PyT α] [PyA τ] : PyA (α × τ) where
  reps := fun K F vs x => ∃ v ws, vs = v :: ws ∧ rep K F v x.1 ∧ PyA.reps K F ws x.2
  mono := fun e ⟨v, ws, h1, h2, h3⟩ => ⟨v, ws, h1, PyT.mono e h2, PyA.mono e h3⟩
def EvA (X : Cx) (H0 : Hp) (qs : List Addr) (md : Bool) (Γ : List Sl) {τ : Type} [PyA τ] (es : List Expr) (m : R τ) : Prop :=
  ∀ σ H, At X.K H0 qs Γ σ H → ∀ E : XK, Pas X σ E → ∀ Q : List V → Hp → Prop, PX (fun x => ∀ vs H', Same H H' → vs.length = es.length → PyA.reps X.K (Fz H' (av md Γ σ qs)) vs x → Q vs H') (XW X E H) m → wA X es σ H Q

section
variable {X : Cx} {H0 : Hp} {qs : List Addr} {md ma mb : Bool} {Γ : List Sl} {a b e : Expr} {es : List Expr} {pos : Pos}
theorem av_out {K : PySem.W.Frag} {α : Type} [PyT α] {x : α} {v : V} {H : Hp} {σ : L2.St} (h : rep K (Fz H (av md Γ σ qs)) v x) : rep K H v x := PyT.mono Fz.out h
theorem av_same {H H' : Hp} {σ : L2.St} (s : Same H H') : Same (Fz H (av md Γ σ qs)) (Fz H' (av md Γ σ qs)) := Fz.mono s
theorem av_there {H : Hp} {σ : L2.St} (a : At X.K H0 qs Γ σ H) : ∀ q ∈ av md Γ σ qs, H q ≠ none := fun q hq => by
  cases md with
  | true => exact a.av_there hq
  | false => cases hq
/-! leaves -/
theorem ev_var {i : Nat} {x : Str} {α : Type} [PyT α] {y : α} {m : R α} (n : Nm X i x) (h : Γ[i]? = some (.fr y) := by rfl) (he : m = .ok y := by rfl) : Ev X H0 qs md Γ (.Name x pos) m := by
  intro σ H at_ E pe Q q
  subst he
  obtain ⟨v, h1, h2⟩ := at_.fr h
  refine wE_of (pe_var n.hi n.vis n.hd n.hc) ⟨v, h1, q v H (Same.refl H) ?_⟩
  cases md with
  | true => exact h2
  | false => exact PyT.mono (Fz.sub (Same.refl _) fun _ z => by cases z) h2
/-- a list of the def's own, read -/
theorem ev_own {i : Nat} {x : Str} {α : Type} [PyT α] {ys : List α} {m : R (List α)} (n : Nm X i x) (h : Γ[i]? = some (.ow ys) := by rfl) (he : m = .ok ys := by rfl) : Ev X H0 qs false Γ (.Name x pos) m := by
  intro σ H at_ E pe Q q
  subst he
  obtain ⟨p, vs, h1, h2, h3, h4, h5⟩ := at_.ow h
  refine wE_of (pe_var n.hi n.vis n.hd n.hc) ⟨_, h1, q _ H (Same.refl H) ⟨p, vs, rfl, ?_, ?_⟩⟩
  · show Fz H [] p = some (.lst vs)
    rw [Fz.nil]
    exact h3
  · exact h5.mono (Fz.sub (Same.refl _) fun _ z => by cases z)
theorem ev_int {i : Int} {j : Nat} {m : R Int} (he : m = .ok i := by rfl) : Ev X H0 qs md Γ (.Constant (.int i) j pos) m := by
  intro σ H at_ E pe Q q
  subst he
  exact wE_of pe_int (q (.int i) H (Same.refl H) rfl)
theorem ev_bool {i : Bool} {j : Nat} {m : R Bool} (he : m = .ok i := by rfl) : Ev X H0 qs md Γ (.Constant (.bool i) j pos) m := by
  intro σ H at_ E pe Q q
  subst he
  exact wE_of pe_bl (q (.bl i) H (Same.refl H) rfl)
theorem ev_str {i : Str} {j : Nat} {m : R Str} (he : m = .ok i := by rfl) (hk : PyData.strOk i = true := by decide +kernel) : Ev X H0 qs md Γ (.Constant (.str i) j pos) m := by
  intro σ H at_ E pe Q q
  subst he
  exact wE_of pe_str (q (.str i) H (Same.refl H) ⟨rfl, hk⟩)
theorem ev_unit {j : Nat} {m : R Unit} (he : m = .ok () := by rfl) : Ev X H0 qs md Γ (.Constant .none j pos) m := by
  intro σ H at_ E pe Q q
  subst he
  exact wE_of pe_non (q .non H (Same.refl H) rfl)
theorem ev_none {α : Type} [PyT α] {j : Nat} {m : R (Option α)} (he : m = .ok none := by rfl) : Ev X H0 qs md Γ (.Constant .none j pos) m := by
  intro σ H at_ E pe Q q
  subst he
  exact wE_of pe_non (q .non H (Same.refl H) rfl)
/-- a module's constant -/
theorem ev_gint {x : Str} {i : Int} {t : Tok} {m : R Int} (g : Gn X x) (hm : X.mg x = some (.int i t)) (he : m = .ok i := by rfl) : Ev X H0 qs md Γ (.Name x pos) m := by
  intro σ H at_ E pe Q q
  subst he
  exact wE_of (pe_glob (v := .int i) g.gl hm ⟨t, rfl⟩ g.hd) (q (.int i) H (Same.refl H) rfl)
theorem ev_gstr {x : Str} {i : Str} {t : Tok} {m : R Str} (g : Gn X x) (hm : X.mg x = some (.str i t)) (he : m = .ok i := by rfl) (hk : PyData.strOk i = true := by decide +kernel) : Ev X H0 qs md Γ (.Name x pos) m := by
  intro σ H at_ E pe Q q
  subst he
  exact wE_of (pe_glob (v := .str i) g.gl hm ⟨t, rfl⟩ g.hd) (q (.str i) H (Same.refl H) ⟨rfl, hk⟩)
/-! turns of a judgement -/
theorem Ev.full {α : Type} [PyT α] {m : R α} (d : Ev X H0 qs true Γ e m) : Ev X H0 qs false Γ e m := fun σ H at_ E pe Q q =>
  d σ H at_ E pe Q (q.mono (fun x k v H' s r => k v H' s (PyT.mono (Fz.sub (Same.refl _) fun _ z => by cases z) r)) fun _ z => z)
theorem Ev.flat {α : Type} [PyF α] {m : R α} (d : Ev X H0 qs ma Γ e m) : Ev X H0 qs md Γ e m := fun σ H at_ E pe Q q =>
  d σ H at_ E pe Q (q.mono (fun x k v H' s r => k v H' s (PyF.flat r)) fun _ z => z)
theorem EvO.flat {α : Type} [PyF α] {m : R (List α)} (d : EvO X H0 qs ma Γ e m) : EvO X H0 qs md Γ e m := fun σ H at_ E pe Q q =>
  d σ H at_ E pe Q (q.mono (fun x k p vs H' s n l r => k p vs H' s n l r.flat) fun _ z => z)
theorem EvO.full {α : Type} [PyT α] {m : R (List α)} (d : EvO X H0 qs true Γ e m) : EvO X H0 qs false Γ e m := fun σ H at_ E pe Q q =>
  d σ H at_ E pe Q (q.mono (fun x k p vs H' s n l r => k p vs H' s n l (r.mono (Fz.sub (Same.refl _) fun b z => by
    rcases List.mem_cons.mp z with z | z
    · rw [z]; exact List.mem_cons_self
    · cases z))) fun _ z => z)
/-- a new list, no more changed -/
theorem EvO.fz {α : Type} [PyT α] {m : R (List α)} (d : EvO X H0 qs md Γ e m) : Ev X H0 qs md Γ e m := fun σ H at_ E pe Q q =>
  d σ H at_ E pe Q (q.mono (fun x k p vs H' s n l r => k (.ref p) H' s ⟨p, vs, rfl, Fz.some_iff.mpr ⟨fun z => av_there (X := X) (md := md) at_ p z n, l⟩, r.mono (Fz.sub (Same.refl _) fun b z => List.mem_cons_of_mem _ z)⟩) fun _ z => z)
/-- one side of a pair of types -/
theorem Ev.inl {α β : Type} [PyT α] [PyT β] {m : R α} {m' : R (α ⊕ β)} (d : Ev X H0 qs md Γ e m) (he : m' = m.bind fun x => .ok (.inl x) := by rfl) : Ev X H0 qs md Γ e m' := fun σ H at_ E pe Q q => by
  subst he
  exact d σ H at_ E pe Q ((PX.bind q).mono (fun x k v H' s r => k v H' s r) fun _ z => z)
theorem Ev.inr {α β : Type} [PyT α] [PyT β] {m : R β} {m' : R (α ⊕ β)} (d : Ev X H0 qs md Γ e m) (he : m' = m.bind fun x => .ok (.inr x) := by rfl) : Ev X H0 qs md Γ e m' := fun σ H at_ E pe Q q => by
  subst he
  exact d σ H at_ E pe Q ((PX.bind q).mono (fun x k v H' s r => k v H' s r) fun _ z => z)
theorem Ev.some {α : Type} [PyT α] {m : R α} {m' : R (Option α)} (d : Ev X H0 qs md Γ e m) (he : m' = m.bind fun x => .ok (some x) := by rfl) : Ev X H0 qs md Γ e m' := fun σ H at_ E pe Q q => by
  subst he
  exact d σ H at_ E pe Q ((PX.bind q).mono (fun x k v H' s r => k v H' s r) fun _ z => z)
/-- what is there of a thing that may be none -/
theorem Ev.there {α : Type} [PyT α] {m : R (Option α)} {m' : R α} (d : Ev X H0 qs md Γ e m) (he : m' = m.bind R.ofO := by rfl) : Ev X H0 qs md Γ e m' := fun σ H at_ E pe Q q => by
  subst he
  refine d σ H at_ E pe Q ((PX.bind q).mono (fun x k v H' s r => ?_) fun _ z => z)
  obtain ⟨y, rfl, k2⟩ := PX.ofO k
  exact k2 v H' s r
/-- a way that isn't come to -/
theorem Ev.stuck {α : Type} [PyT α] : Ev X H0 qs md Γ e (.stuck : R α) := fun σ H at_ E pe Q q => q.elim
theorem EvT.stuck : EvT X H0 qs Γ e .stuck := fun σ H at_ E pe Q q => q.elim

/-! two things, one behind another -/
theorem two {α β γ : Type} [PyT α] [PyT β] {m1 : R α} {m2 : R β} {f : α → β → R γ} (da : Ev X H0 qs ma Γ a m1) (db : Ev X H0 qs mb Γ b m2) {σ : L2.St} {H : Hp} (at_ : At X.K H0 qs Γ σ H) {E : XK} (pe : Pas X σ E)
    {A : γ → Prop} (q : PX A (XW X E H) (m1.bind fun x => m2.bind fun y => f x y)) {K : V → V → Hp → Prop}
    (k : ∀ x y v w H2, Same H H2 → rep X.K (Fz H2 (av ma Γ σ qs)) v x → rep X.K (Fz H2 (av mb Γ σ qs)) w y → PX A (XW X E H2) (f x y) → K v w H2) :
    wE X a σ H fun v H1 => wE X b σ H1 fun w H2 => K v w H2 := by
  refine da σ H at_ E pe _ ((PX.bind q).mono (fun x q2 v H1 s1 r1 => ?_) fun _ z => z)
  refine db σ H1 (at_.grow s1) E pe _ ((PX.bind q2).mono (fun y q3 w H2 s2 r2 => ?_) fun _ z => z.grow s1)
  exact k x y v w H2 (s1.trans s2) (PyT.mono (av_same s2) r1) r2 (q3.mono (fun _ z => z) fun _ z => z.grow (s1.trans s2))

/-- an operation of flat outcome, by values -/
def OpF (X : Cx) {α β γ : Type} [PyT α] [PyT β] [PyF γ] (r : R2) (f : α → β → R γ) : Prop :=
  ∀ (H : Hp) (x : α) (y : β) (v w : V) (Q : VK) (B : Exc → Prop), rep X.K H v x → rep X.K H w y → PX (fun z => ∀ u, (∀ F, rep X.K F u z) → ∀ H', Same H H' → Q u H') B (f x y) → r v w H Q
theorem flatAll {K : PySem.W.Frag} {γ : Type} [PyF γ] {z : γ} {u : V} {F : Hp} (h : rep K F u z) : ∀ F, rep K F u z := fun _ => PyF.flat h
theorem ev_op {α β γ : Type} [PyT α] [PyT β] [PyF γ] {op : Operator} {r : R2} {f : α → β → R γ} {m1 : R α} {m2 : R β} {m : R γ} (ho : OpR X (binaryOp op) r) (hf : OpF X r f) (da : Ev X H0 qs ma Γ a m1) (db : Ev X H0 qs mb Γ b m2)
    (he : m = m1.bind fun x => m2.bind fun y => f x y) : Ev X H0 qs md Γ (.BinOp a op b pos) m := by
  intro σ H at_ E pe Q q
  subst he
  refine wE_of (pe_op ho pe_w pe_w) (two da db at_ pe q fun x y v w H2 s rx ry q2 => ?_)
  exact hf H2 x y v w Q _ (av_out rx) (av_out ry) (q2.mono (fun z k u hu H' s' => k u H' (s.trans s') (hu _)) fun _ z => z)
theorem ev_cmp {α β : Type} [PyT α] [PyT β] {op : CmpOp} {r : R2} {f : α → β → R Bool} {m1 : R α} {m2 : R β} {m : R Bool} (ho : OpR X (compareOp op) r) (hf : OpF X r f) (da : Ev X H0 qs ma Γ a m1) (db : Ev X H0 qs mb Γ b m2)
    (he : m = m1.bind fun x => m2.bind fun y => f x y) (hm : behindInMarks op b = false) : Ev X H0 qs md Γ (.Compare a [op] [b] pos) m := by
  intro σ H at_ E pe Q q
  subst he
  refine wE_of (pe_cmpR ho pe_w pe_w hm) (two da db at_ pe q fun x y v w H2 s rx ry q2 => ?_)
  exact hf H2 x y v w Q _ (av_out rx) (av_out ry) (q2.mono (fun z k u hu H' s' => k u H' (s.trans s') (hu _)) fun _ z => z)
theorem et_cmp {α β : Type} [PyT α] [PyT β] {op : CmpOp} {r : R2} {f : α → β → R Bool} {m1 : R α} {m2 : R β} {m : R Bool} (ho : OpR X (compareOp op) r) (hf : OpF X r f) (da : Ev X H0 qs ma Γ a m1) (db : Ev X H0 qs mb Γ b m2)
    (he : m = m1.bind fun x => m2.bind fun y => f x y) (hm : behindInMarks op b = false) : EvT X H0 qs Γ (.Compare a [op] [b] pos) m := by
  intro σ H at_ E pe Q q
  subst he
  refine wT_of (pt_cmpR ho pe_w pe_w hm) (two da db at_ pe q fun x y v w H2 s rx ry q2 => ?_)
  refine hf H2 x y v w _ _ (av_out rx) (av_out ry) (q2.mono (fun z k u hu H' s' => ?_) fun _ z => z)
  exact ⟨z, hu H', k H' (s.trans s')⟩

/-! ### ints -/
def CFd (i j : Int) : Prop := j ≠ 0 ∧ j.natAbs.log2 < 9000
theorem cfd_of {x y : Int} (h : decide (y ≠ 0 ∧ y.natAbs.log2 < 9000) = true) : CFd x y := by
  have h2 : y ≠ 0 ∧ y.natAbs.log2 < 9000 := of_decide_eq_true h
  exact h2
theorem op_fdX : OpR X (binaryOp .FloorDiv) (rI CFd fun i j => .int (i.fdiv j)) := opI fun _ _ _ _ _ _ _ hc q => floordiv_int hc.1 q (.inl (PyProof.noPylong_of_log2 hc.2))
def CPw (i j : Int) : Prop := 0 ≤ j ∧ (Builtin.Int.intBits i : Int) * j ≤ 2 ^ 27
theorem op_pwX : OpR X (binaryOp .Pow) (rI CPw fun i j => .int (i ^ j.toNat)) := opI fun _ _ _ _ _ _ _ hc q => pow_int hc.1 hc.2 q
theorem opf_I0 {g : Int → Int → Int} : OpF X (rI0 fun i j => .int (g i j)) (fun x y => R.ok (g x y)) := fun H x y v w Q B hx hy k => ⟨x, y, hx, hy, k _ (fun _ => rfl) H (Same.refl H)⟩
theorem opf_B0 {g : Int → Int → Bool} : OpF X (rI0 fun i j => .bl (g i j)) (fun x y => R.ok (g x y)) := fun H x y v w Q B hx hy k => ⟨x, y, hx, hy, k _ (fun _ => rfl) H (Same.refl H)⟩
theorem opf_I {C : Int → Int → Prop} {c : Int → Int → Bool} {g : Int → Int → Int} (hc : ∀ x y, c x y = true → C x y) : OpF X (rI C fun i j => .int (g i j)) (fun x y => R.chk (c x y) (g x y)) := fun H x y v w Q B hx hy k => by
  obtain ⟨k1, k2⟩ := PX.chk k
  exact ⟨x, y, hx, hy, hc x y k1, k2 _ (fun _ => rfl) H (Same.refl H)⟩
/-- the bits of a factor, of both -/
def bits (i : Int) : Nat := Builtin.Int.intBits i
def mulR (x y : Int) : R Int := R.chk (decide (bits x + bits y ≤ 134217728)) (x * y)
def divR (x y : Int) : R Int := R.chk (decide (y ≠ 0 ∧ y.natAbs.log2 < 9000)) (x.fdiv y)
def modR (x y : Int) : R Int := R.chk (decide (y ≠ 0)) (x.fmod y)
def powR (x y : Int) : R Int := R.chk (decide (0 ≤ y ∧ (bits x : Int) * y ≤ 134217728)) (x ^ y.toNat)
variable {m1 m2 m : R Int}
theorem ev_add (da : Ev X H0 qs ma Γ a m1) (db : Ev X H0 qs mb Γ b m2) (he : m = m1.bind fun x => m2.bind fun y => .ok (x + y) := by rfl) : Ev X H0 qs md Γ (.BinOp a .Add b pos) m := ev_op op_add opf_I0 da db he
theorem ev_sub (da : Ev X H0 qs ma Γ a m1) (db : Ev X H0 qs mb Γ b m2) (he : m = m1.bind fun x => m2.bind fun y => .ok (x - y) := by rfl) : Ev X H0 qs md Γ (.BinOp a .Sub b pos) m := ev_op op_sub opf_I0 da db he
theorem ev_mul (da : Ev X H0 qs ma Γ a m1) (db : Ev X H0 qs mb Γ b m2) (he : m = m1.bind fun x => m2.bind fun y => mulR x y := by rfl) : Ev X H0 qs md Γ (.BinOp a .Mult b pos) m :=
  ev_op op_mulX (opf_I fun x y h => by have := of_decide_eq_true h; unfold bits at this; unfold CMulX; omega) da db he
theorem ev_div (da : Ev X H0 qs ma Γ a m1) (db : Ev X H0 qs mb Γ b m2) (he : m = m1.bind fun x => m2.bind fun y => divR x y := by rfl) : Ev X H0 qs md Γ (.BinOp a .FloorDiv b pos) m :=
  ev_op op_fdX (opf_I fun x y h => cfd_of h) da db he
theorem ev_mod (da : Ev X H0 qs ma Γ a m1) (db : Ev X H0 qs mb Γ b m2) (he : m = m1.bind fun x => m2.bind fun y => modR x y := by rfl) : Ev X H0 qs md Γ (.BinOp a .Mod b pos) m :=
  ev_op op_modN (opf_I fun x y h => of_decide_eq_true h) da db he
theorem ev_pow (da : Ev X H0 qs ma Γ a m1) (db : Ev X H0 qs mb Γ b m2) (he : m = m1.bind fun x => m2.bind fun y => powR x y := by rfl) : Ev X H0 qs md Γ (.BinOp a .Pow b pos) m :=
  ev_op op_pwX (opf_I fun x y h => by
    obtain ⟨h1, h2⟩ := of_decide_eq_true h
    have e : (2 : Int) ^ 27 = 134217728 := by decide
    exact ⟨h1, by rw [e]; exact h2⟩) da db he
theorem ev_neg (da : Ev X H0 qs ma Γ a m1) (he : m = m1.bind fun x => .ok (-x) := by rfl) : Ev X H0 qs md Γ (.UnaryOp .USub a pos) m := by
  intro σ H at_ E pe Q q
  subst he
  refine wE_of (pe_un un_neg pe_w) (da σ H at_ E pe _ ((PX.bind q).mono (fun x k v H' s r => ⟨x, r, k _ H' s rfl⟩) fun _ z => z))
variable {mB : R Bool}
theorem ev_lt (da : Ev X H0 qs ma Γ a m1) (db : Ev X H0 qs mb Γ b m2) (he : mB = m1.bind fun x => m2.bind fun y => .ok (decide (x < y)) := by rfl) : Ev X H0 qs md Γ (.Compare a [.Lt] [b] pos) mB := ev_cmp op_lt opf_B0 da db he (nomark _)
theorem ev_le (da : Ev X H0 qs ma Γ a m1) (db : Ev X H0 qs mb Γ b m2) (he : mB = m1.bind fun x => m2.bind fun y => .ok (decide (x ≤ y)) := by rfl) : Ev X H0 qs md Γ (.Compare a [.LtE] [b] pos) mB := ev_cmp op_le opf_B0 da db he (nomark _)
theorem ev_gt (da : Ev X H0 qs ma Γ a m1) (db : Ev X H0 qs mb Γ b m2) (he : mB = m1.bind fun x => m2.bind fun y => .ok (decide (y < x)) := by rfl) : Ev X H0 qs md Γ (.Compare a [.Gt] [b] pos) mB := ev_cmp op_gt opf_B0 da db he (nomark _)
theorem ev_ge (da : Ev X H0 qs ma Γ a m1) (db : Ev X H0 qs mb Γ b m2) (he : mB = m1.bind fun x => m2.bind fun y => .ok (decide (y ≤ x)) := by rfl) : Ev X H0 qs md Γ (.Compare a [.GtE] [b] pos) mB := ev_cmp op_ge opf_B0 da db he (nomark _)
theorem et_lt (da : Ev X H0 qs ma Γ a m1) (db : Ev X H0 qs mb Γ b m2) (he : mB = m1.bind fun x => m2.bind fun y => .ok (decide (x < y)) := by rfl) : EvT X H0 qs Γ (.Compare a [.Lt] [b] pos) mB := et_cmp op_lt opf_B0 da db he (nomark _)
theorem et_le (da : Ev X H0 qs ma Γ a m1) (db : Ev X H0 qs mb Γ b m2) (he : mB = m1.bind fun x => m2.bind fun y => .ok (decide (x ≤ y)) := by rfl) : EvT X H0 qs Γ (.Compare a [.LtE] [b] pos) mB := et_cmp op_le opf_B0 da db he (nomark _)
theorem et_gt (da : Ev X H0 qs ma Γ a m1) (db : Ev X H0 qs mb Γ b m2) (he : mB = m1.bind fun x => m2.bind fun y => .ok (decide (y < x)) := by rfl) : EvT X H0 qs Γ (.Compare a [.Gt] [b] pos) mB := et_cmp op_gt opf_B0 da db he (nomark _)
theorem et_ge (da : Ev X H0 qs ma Γ a m1) (db : Ev X H0 qs mb Γ b m2) (he : mB = m1.bind fun x => m2.bind fun y => .ok (decide (y ≤ x)) := by rfl) : EvT X H0 qs Γ (.Compare a [.GtE] [b] pos) mB := et_cmp op_ge opf_B0 da db he (nomark _)

/-! ### tests -/
theorem et_val {mB : R Bool} (d : Ev X H0 qs md Γ e mB) (hw : ∀ env whole, isTrue e env whole = (do let v ← whole; standAt e.pos; holding [v] (truthy v)) := by intro _ _; rfl) : EvT X H0 qs Γ e mB := by
  intro σ H at_ E pe Q q
  exact wT_of (pt_val pe_w (hw X.env)) (d σ H at_ E pe _ (q.mono (fun b k v H' s r => ⟨b, r, k H' s⟩) fun _ z => z))
theorem et_not {mB m : R Bool} (d : EvT X H0 qs Γ e mB) (he : m = mB.bind fun b => .ok (!b) := by rfl) : EvT X H0 qs Γ (.UnaryOp .Not e pos) m := by
  intro σ H at_ E pe Q q
  subst he
  exact wT_of (pt_not pt_w) (d σ H at_ E pe _ ((PX.bind q).mono (fun b k H' s => k H' s) fun _ z => z))
/-- a test whatever its whole is -/
def EvW (X : Cx) (H0 : Hp) (qs : List Addr) (Γ : List Sl) (e : Expr) (m : R Bool) : Prop :=
  ∀ σ H, At X.K H0 qs Γ σ H → ∀ E : XK, Pas X σ E → ∀ Q : Bool → Hp → Prop, PX (fun b => ∀ H', Same H H' → Q b H') (XW X E H) m →
    ∀ (whole : Sem Value) (pins : List (Addr × Obj)) (s : Shared), Inv X pins σ H s → wpAny (model X.prog X.w) X.A (isTrue e X.env whole) (TP X pins σ Q) X.xe s
theorem EvW.t {m : R Bool} (d : EvW X H0 qs Γ e m) : EvT X H0 qs Γ e m := fun σ H at_ E pe Q q pins s I => d σ H at_ E pe Q q _ pins s I
variable {ma' mb' m' : R Bool} {rest : List Expr}
theorem ew_and1 (d : EvT X H0 qs Γ a m') : EvW X H0 qs Γ (.BoolOp .And [a] pos) m' := fun σ H at_ E pe Q q wh pins s I =>
  (pw_and1 (pt_w (X := X) (e := a))).run wh pins s σ H Q I (d σ H at_ E pe Q q)
theorem ew_or1 (d : EvT X H0 qs Γ a m') : EvW X H0 qs Γ (.BoolOp .Or [a] pos) m' := fun σ H at_ E pe Q q wh pins s I =>
  (pw_or1 (pt_w (X := X) (e := a))).run wh pins s σ H Q I (d σ H at_ E pe Q q)
theorem ew_and (da : EvT X H0 qs Γ a ma') (db : EvW X H0 qs Γ (.BoolOp .And (b :: rest) pos) mb') (he : m' = ma'.bind fun x => if x = true then mb' else .ok false := by rfl) : EvW X H0 qs Γ (.BoolOp .And (a :: b :: rest) pos) m' := by
  intro σ H at_ E pe Q q wh pins s I
  subst he
  let tb : TT := fun σ H Q => ∀ (wh : Sem Value) (pins : List (Addr × Obj)) (s : Shared), Inv X pins σ H s → wpAny (model X.prog X.w) X.A (isTrue (.BoolOp .And (b :: rest) pos) X.env wh) (TP X pins σ Q) X.xe s
  have pb : PW X (.BoolOp .And (b :: rest) pos) tb := ⟨fun wh pins s σ H Q I h => h wh pins s I⟩
  refine (pw_and (pt_w (X := X) (e := a)) pb).run wh pins s σ H Q I ?_
  refine da σ H at_ E pe _ ((PX.bind q).mono (fun x k H' s' => ?_) fun _ z => z)
  cases x with
  | true =>
    show tb σ H' Q
    exact db σ H' (at_.grow s') E pe Q ((show PX _ _ mb' from k).mono (fun y k2 H2 s2 => k2 H2 (s'.trans s2)) fun _ z => z.grow s')
  | false =>
    show Q false H'
    exact (show ∀ H', Same H H' → Q false H' from k) H' s'
theorem ew_or (da : EvT X H0 qs Γ a ma') (db : EvW X H0 qs Γ (.BoolOp .Or (b :: rest) pos) mb') (he : m' = ma'.bind fun x => if x = true then .ok true else mb' := by rfl) : EvW X H0 qs Γ (.BoolOp .Or (a :: b :: rest) pos) m' := by
  intro σ H at_ E pe Q q wh pins s I
  subst he
  let tb : TT := fun σ H Q => ∀ (wh : Sem Value) (pins : List (Addr × Obj)) (s : Shared), Inv X pins σ H s → wpAny (model X.prog X.w) X.A (isTrue (.BoolOp .Or (b :: rest) pos) X.env wh) (TP X pins σ Q) X.xe s
  have pb : PW X (.BoolOp .Or (b :: rest) pos) tb := ⟨fun wh pins s σ H Q I h => h wh pins s I⟩
  refine (pw_or (pt_w (X := X) (e := a)) pb).run wh pins s σ H Q I ?_
  refine da σ H at_ E pe _ ((PX.bind q).mono (fun x k H' s' => ?_) fun _ z => z)
  cases x with
  | true =>
    show Q true H'
    exact (show ∀ H', Same H H' → Q true H' from k) H' s'
  | false =>
    show tb σ H' Q
    exact db σ H' (at_.grow s') E pe Q ((show PX _ _ mb' from k).mono (fun y k2 H2 s2 => k2 H2 (s'.trans s2)) fun _ z => z.grow s')
/-- and, or, not as values -/
theorem ev_one {op : BoolOp} (d : Ev X H0 qs md Γ a m') : Ev X H0 qs md Γ (.BoolOp op [a] pos) m' := fun σ H at_ E pe Q q => wE_of (pe_one pe_w) (d σ H at_ E pe Q q)
theorem ev_and (da : Ev X H0 qs ma Γ a ma') (db : Ev X H0 qs mb Γ (.BoolOp .And (b :: rest) pos) mb') (he : m' = ma'.bind fun x => if x = true then mb' else .ok false := by rfl) : Ev X H0 qs md Γ (.BoolOp .And (a :: b :: rest) pos) m' := by
  intro σ H at_ E pe Q q
  subst he
  refine wE_of (pe_and pe_w pe_w) (da σ H at_ E pe _ ((PX.bind q).mono (fun x k v H' s' r => ⟨x, r, ?_⟩) fun _ z => z))
  cases x with
  | true =>
    show wE X _ σ H' Q
    exact db σ H' (at_.grow s') E pe Q ((show PX _ _ mb' from k).mono (fun y k2 v2 H2 s2 r2 => k2 v2 H2 (s'.trans s2) r2) fun _ z => z.grow s')
  | false =>
    show Q (.bl false) H'
    exact (show ∀ v H', Same H H' → v = .bl false → Q v H' from k) _ H' s' rfl
theorem ev_or (da : Ev X H0 qs ma Γ a ma') (db : Ev X H0 qs mb Γ (.BoolOp .Or (b :: rest) pos) mb') (he : m' = ma'.bind fun x => if x = true then .ok true else mb' := by rfl) : Ev X H0 qs md Γ (.BoolOp .Or (a :: b :: rest) pos) m' := by
  intro σ H at_ E pe Q q
  subst he
  refine wE_of (pe_or pe_w pe_w) (da σ H at_ E pe _ ((PX.bind q).mono (fun x k v H' s' r => ⟨x, r, ?_⟩) fun _ z => z))
  cases x with
  | true =>
    show Q (.bl true) H'
    exact (show ∀ v H', Same H H' → v = .bl true → Q v H' from k) _ H' s' rfl
  | false =>
    show wE X _ σ H' Q
    exact db σ H' (at_.grow s') E pe Q ((show PX _ _ mb' from k).mono (fun y k2 v2 H2 s2 r2 => k2 v2 H2 (s'.trans s2) r2) fun _ z => z.grow s')
theorem ev_not (da : Ev X H0 qs ma Γ a ma') (he : m' = ma'.bind fun x => .ok (!x) := by rfl) : Ev X H0 qs md Γ (.UnaryOp .Not a pos) m' := by
  intro σ H at_ E pe Q q
  subst he
  exact wE_of (pe_not pe_w) (da σ H at_ E pe _ ((PX.bind q).mono (fun x k v H' s' r => ⟨x, r, k _ H' s' rfl⟩) fun _ z => z))
/-- a if t else b -/
theorem ev_ifx {α : Type} [PyT α] {c : Expr} {mc : R Bool} {mx my mz : R α} (dc : EvT X H0 qs Γ c mc) (da : Ev X H0 qs md Γ a mx) (db : Ev X H0 qs md Γ b my) (he : mz = mc.bind fun x => if x = true then mx else my := by rfl) : Ev X H0 qs md Γ (.IfExp c a b pos) mz := by
  intro σ H at_ E pe Q q
  subst he
  refine wE_of (pe_ifExp pt_w pe_w pe_w) (dc σ H at_ E pe _ ((PX.bind q).mono (fun x k H' s' => ?_) fun _ z => z))
  cases x with
  | true =>
    show wE X a σ H' Q
    exact da σ H' (at_.grow s') E pe Q ((show PX _ _ mx from k).mono (fun y k2 v2 H2 s2 r2 => k2 v2 H2 (s'.trans s2) r2) fun _ z => z.grow s')
  | false =>
    show wE X b σ H' Q
    exact db σ H' (at_.grow s') E pe Q ((show PX _ _ my from k).mono (fun y k2 v2 H2 s2 r2 => k2 v2 H2 (s'.trans s2) r2) fun _ z => z.grow s')
end
end Wk
set_option Elab.async false
set_option linter.all false
set_option maxRecDepth 100000
/-! Wk3: lists, tuples, built-ins, calls. -/
namespace Wk
open PySem PySem.Spec PyProof.Rows L2

/-! ### more of typed data -/
theorem repI {K : PySem.W.Frag} {F : Hp} : ∀ {vs : List V} {ns : List Int}, RepL K F vs ns → vs = ns.map V.int
  | [], [], _ => rfl
  | v :: vs, n :: ns, h => by
    have h1 : v = .int n := h.1
    rw [h1, repI h.2] <;> rfl
  | [], _ :: _, h => h.elim
  | _ :: _, [], h => h.elim
theorem iRep {K : PySem.W.Frag} {F : Hp} : ∀ ns : List Int, RepL K F (ns.map V.int) ns
  | [] => trivial
  | n :: ns => ⟨rfl, iRep ns⟩
theorem repB {K : PySem.W.Frag} {F : Hp} : ∀ {vs : List V} {ns : List Bool}, RepL K F vs ns → vs = ns.map V.bl
  | [], [], _ => rfl
  | v :: vs, n :: ns, h => by
    have h1 : v = .bl n := h.1
    rw [h1, repB h.2] <;> rfl
  | [], _ :: _, h => h.elim
  | _ :: _, [], h => h.elim
theorem repS {K : PySem.W.Frag} {F : Hp} : ∀ {vs : List V} {ns : List Str}, RepL K F vs ns → vs = ns.map V.str ∧ ∀ x ∈ ns, PyData.strOk x = true
  | [], [], _ => ⟨rfl, fun _ h => by cases h⟩
  | v :: vs, n :: ns, h => by
    obtain ⟨h1, h2⟩ := h.1
    obtain ⟨h3, h4⟩ := repS h.2
    refine ⟨by rw [h1, h3] <;> rfl, fun x hx => ?_⟩
    rcases List.mem_cons.mp hx with e | e
    · rw [e]; exact h2
    · exact h4 x e
  | [], _ :: _, h => h.elim
  | _ :: _, [], h => h.elim
theorem sRep {K : PySem.W.Frag} {F : Hp} : ∀ ns : List Str, (∀ x ∈ ns, PyData.strOk x = true) → RepL K F (ns.map V.str) ns
  | [], _ => trivial
  | n :: ns, h => ⟨⟨rfl, h n List.mem_cons_self⟩, sRep ns fun x hx => h x (List.mem_cons_of_mem _ hx)⟩
theorem RepL.atI {α : Type} [PyT α] {K : PySem.W.Frag} {F : Hp} {vs : List V} {xs : List α} {i : Int} {x : α} (h : RepL K F vs xs) (e : atI xs i = some x) : ∃ v, L2.atI vs i = some v ∧ rep K F v x := by
  unfold L2.atI at e ⊢
  rw [h.len]
  cases q : ixN xs.length i with
  | none => rw [q] at e; cases e
  | some j =>
    rw [q] at e
    exact h.get' (show xs[j]? = some x from e)
/-- the items of xs[lo:hi] -/
def cutL {α : Type} (xs : List α) (lo hi : Option Int) : List α := (xs.drop (HT.sIx xs.length 0 lo)).take (HT.sIx xs.length xs.length hi - HT.sIx xs.length 0 lo)
theorem RepL.cut {α : Type} [PyT α] {K : PySem.W.Frag} {F : Hp} {vs : List V} {xs : List α} (h : RepL K F vs xs) (lo hi : Option Int) : RepL K F (cutV vs lo hi) (cutL xs lo hi) := by
  unfold cutV cutL
  rw [h.len]
  exact (h.drop _).take _
def ixR {α : Type} (xs : List α) (i : Int) : R α := R.ofO (atI xs i)

section
variable {X : Cx} {H0 : Hp} {qs : List Addr} {md ma mb : Bool} {Γ : List Sl} {a b e : Expr} {es : List Expr} {pos : Pos} {α β γ : Type}
/-! ### one, two things to a thing that stands in the heap -/
theorem ev_ixL [PyT α] {m1 : R (List α)} {m2 : R Int} {m : R α} (da : Ev X H0 qs md Γ a m1) (db : Ev X H0 qs mb Γ b m2) (he : m = m1.bind fun xs => m2.bind fun i => ixR xs i := by rfl) (hs : PlainIx b := by exact fun _ _ => rfl) :
    Ev X H0 qs md Γ (.Subscript a b pos) m := by
  intro σ H at_ E pe Q q
  subst he
  refine wE_of (pe_ix ix_list pe_w pe_w hs) (two da db at_ pe q fun xs i v w H2 s rx ry q2 => ?_)
  obtain ⟨p, vs, e1, e2, e3⟩ := rx
  obtain ⟨x, k1, k2⟩ := PX.ofO q2
  obtain ⟨u, k3, k4⟩ := e3.atI k1
  exact ⟨p, vs, i, u, e1, ry, SqL.of (Fz.out _ _ e2), k3, k2 u H2 s k4⟩
theorem ev_ixS {m1 : R Scr} {m2 m : R Int} (da : Ev X H0 qs ma Γ a m1) (db : Ev X H0 qs mb Γ b m2) (he : m = m1.bind fun xs => m2.bind fun i => ixR xs.l i := by rfl) (hs : PlainIx b := by exact fun _ _ => rfl) :
    Ev X H0 qs md Γ (.Subscript a b pos) m := by
  intro σ H at_ E pe Q q
  subst he
  refine wE_of (pe_ix ix_list pe_w pe_w hs) (two da db at_ pe q fun xs i v w H2 s rx ry q2 => ?_)
  obtain ⟨p, e1, e2⟩ := rx
  obtain ⟨x, k1, k2⟩ := PX.ofO q2
  obtain ⟨u, k3, k4⟩ := (iRep (K := X.K) (F := H2) xs.l).atI k1
  exact ⟨p, _, i, u, e1, ry, sqL_mono Fz.out e2, k3, k2 u H2 s k4⟩
theorem ev_ixT [PyT α] {m1 : R (Tu α)} {m2 : R Int} {m : R α} (da : Ev X H0 qs md Γ a m1) (db : Ev X H0 qs mb Γ b m2) (he : m = m1.bind fun xs => m2.bind fun i => ixR xs.l i := by rfl) (hs : PlainIx b := by exact fun _ _ => rfl) :
    Ev X H0 qs md Γ (.Subscript a b pos) m := by
  intro σ H at_ E pe Q q
  subst he
  refine wE_of (pe_ix ix_tup pe_w pe_w hs) (two da db at_ pe q fun xs i v w H2 s rx ry q2 => ?_)
  obtain ⟨p, vs, e1, e2, e3⟩ := rx
  obtain ⟨x, k1, k2⟩ := PX.ofO q2
  obtain ⟨u, k3, k4⟩ := e3.atI k1
  exact ⟨p, vs, i, u, e1, ry, sqT_mono Fz.out e2, k3, k2 u H2 s k4⟩
/-- a written place of a tuple of written items -/
def IxP [PyT α] [PyT β] (i : Int) (f : α → Option β) : Prop := ∀ (K : PySem.W.Frag) (F : Hp) (v : V) (x : α) (z : β), rep K F v x → f x = some z → ∃ p xs w, v = .ref p ∧ SqT K F p xs ∧ atI xs i = some w ∧ rep K F w z
theorem ev_ixP [PyT α] [PyT β] {f : α → Option β} {i : Int} {m1 : R α} {m : R β} (hf : IxP i f) (da : Ev X H0 qs md Γ a m1) (db : Ev X H0 qs md Γ b (R.ok i)) (he : m = m1.bind fun t => R.ofO (f t) := by rfl) (hs : PlainIx b := by exact fun _ _ => rfl) :
    Ev X H0 qs md Γ (.Subscript a b pos) m := by
  intro σ H at_ E pe Q q
  have e2 : m = m1.bind fun t => (R.ok i).bind fun j => if j = i then R.ofO (f t) else .stuck := by
    rw [he]
    refine congrArg m1.bind (funext fun t => ?_)
    show _ = if i = i then R.ofO (f t) else .stuck
    rw [if_pos rfl]
  subst e2
  refine wE_of (pe_ix ix_tup pe_w pe_w hs) (two (f := fun t j => if j = i then R.ofO (f t) else .stuck) da db at_ pe q fun x j v w H2 s rx ry q2 => ?_)
  by_cases hj : j = i
  · rw [if_pos hj] at q2
    obtain ⟨z, k1, k2⟩ := PX.ofO q2
    obtain ⟨p, xs, u, e1, e2, e3, e4⟩ := hf _ _ v x z rx k1
    have ry' : w = .int j := ry
    exact ⟨p, xs, i, u, e1, by rw [ry', hj], sqT_mono Fz.out e2, e3, k2 u H2 s e4⟩
  · rw [if_neg hj] at q2
    exact (show False from q2).elim
theorem ix20 [PyT α] [PyT β] : IxP 0 (fun t : α × β => some t.1) := fun K F v x z ⟨p, w, u, h1, h2, h3, h4⟩ e => ⟨p, _, w, h1, h2, rfl, by cases e; exact h3⟩
theorem ix21 [PyT α] [PyT β] : IxP 1 (fun t : α × β => some t.2) := fun K F v x z ⟨p, w, u, h1, h2, h3, h4⟩ e => ⟨p, _, u, h1, h2, rfl, by cases e; exact h4⟩
theorem ix10 [PyT α] : IxP 0 (fun t : T1 α => some t.a) := fun K F v x z ⟨p, w, h1, h2, h3⟩ e => ⟨p, _, w, h1, h2, rfl, by cases e; exact h3⟩
theorem ix30 [PyT α] [PyT β] [PyT γ] : IxP 0 (fun t : T3 α β γ => some t.a) := fun K F v x z ⟨p, w, u, t, h1, h2, h3, h4, h5⟩ e => ⟨p, _, w, h1, h2, rfl, by cases e; exact h3⟩
theorem ix31 [PyT α] [PyT β] [PyT γ] : IxP 1 (fun t : T3 α β γ => some t.b) := fun K F v x z ⟨p, w, u, t, h1, h2, h3, h4, h5⟩ e => ⟨p, _, u, h1, h2, rfl, by cases e; exact h4⟩
theorem ix32 [PyT α] [PyT β] [PyT γ] : IxP 2 (fun t : T3 α β γ => some t.c) := fun K F v x z ⟨p, w, u, t, h1, h2, h3, h4, h5⟩ e => ⟨p, _, t, h1, h2, rfl, by cases e; exact h5⟩
theorem ixNo [PyT α] [PyT β] {i : Int} : IxP i (fun _ : α => (none : Option β)) := fun K F v x z _ e => by cases e
theorem ixSum [PyT α] [PyT β] [PyT γ] {i : Int} {f : α → Option γ} {g : β → Option γ} (h1 : IxP i f) (h2 : IxP i g) : IxP i (fun t : α ⊕ β => match t with | .inl x => f x | .inr x => g x) := fun K F v x z h e => by
  cases x with
  | inl a => exact h1 K F v a z h e
  | inr b => exact h2 K F v b z h e

/-! ### parts of slices -/
def EvP (X : Cx) (H0 : Hp) (qs : List Addr) (Γ : List Sl) (o : Option Expr) (m : R (Option Int)) : Prop := match o with
  | none => m = .ok none
  | some e => ∃ m1, Ev X H0 qs false Γ e m1 ∧ m = m1.bind fun i => .ok (some i)
theorem ep_no : EvP X H0 qs Γ none (.ok none) := rfl
theorem ep_of {m1 : R Int} {m : R (Option Int)} (d : Ev X H0 qs ma Γ e m1) (he : m = m1.bind fun i => .ok (some i) := by rfl) : EvP X H0 qs Γ (some e) m := ⟨m1, d.flat, he⟩
/-- the reading of a part -/
def wP (X : Cx) (o : Option Expr) : TO := match o with
  | none => tNoPart
  | some e => tPart (wE X e)
theorem po_w {o : Option Expr} : PO X o (wP X o) := by
  cases o with
  | none => exact po_none
  | some e => exact po_some pe_w
theorem EvP.use {o : Option Expr} {m : R (Option Int)} (d : EvP X H0 qs Γ o m) {σ : L2.St} {H : Hp} (at_ : At X.K H0 qs Γ σ H) {E : XK} (pe : Pas X σ E) {Q : Option Int → Hp → Prop}
    (q : PX (fun x => ∀ H', Same H H' → Q x H') (XW X E H) m) : wP X o σ H Q := by
  cases o with
  | none =>
    have e : m = .ok none := d
    subst e
    exact q H (Same.refl H)
  | some e =>
    obtain ⟨m1, d1, rfl⟩ := d
    exact d1 σ H at_ E pe _ ((PX.bind q).mono (fun i k v H' s r => ⟨i, r, k H' s⟩) fun _ z => z)
variable {p2 : Pos} {lo hi : Option Expr} {ml mh : R (Option Int)}
theorem ev_cut [PyT α] {m1 m : R (List α)} (da : Ev X H0 qs md Γ a m1) (dl : EvP X H0 qs Γ lo ml) (dh : EvP X H0 qs Γ hi mh) (he : m = m1.bind fun xs => ml.bind fun l => mh.bind fun h => .ok (cutL xs l h) := by rfl) :
    EvO X H0 qs md Γ (.Subscript a (.Slice lo hi none p2) pos) m := by
  intro σ H at_ E pe Q q
  subst he
  refine wE_of (pe_slice sl_list pe_w po_w po_w) (da σ H at_ E pe _ ((PX.bind q).mono (fun xs q2 v H1 s1 r1 => ?_) fun _ z => z))
  refine dl.use (at_.grow s1) pe ((PX.bind q2).mono (fun l q3 H2 s2 => ?_) fun _ z => z.grow s1)
  refine dh.use (at_.grow (s1.trans s2)) pe ((PX.bind q3).mono (fun h q4 H3 s3 => ?_) fun _ z => z.grow (s1.trans s2))
  have s := (s1.trans s2).trans s3
  obtain ⟨p, vs, e1, e2, e3⟩ := PyT.mono (av_same (qs := qs) (Γ := Γ) (σ := σ) (md := md) (s2.trans s3)) r1
  refine ⟨p, vs, e1, SqL.of (Fz.out _ _ e2), fun D hD => ?_⟩
  have h0 : H D = none := s.free hD
  refine (show ∀ p vs H', Same H H' → H p = none → H' p = some (.lst vs) → RepL X.K (Fz H' (p :: av md Γ σ qs)) vs (cutL xs l h) → Q (.ref p) H' from q4) D _ _ (s.trans (same_new hD)) h0 upd_same ?_
  exact (e3.cut l h).mono (Fz.new (same_new hD) fun b hb => (List.mem_cons.mp hb).elim (fun z => .inr (by rw [z]; exact hD)) .inl)

/-! ### new lists of two things -/
theorem fz_new {H : Hp} {D : Addr} {ps : List Addr} {o : HO} (hD : H D = none) : Same (Fz H ps) (Fz (upd H D o) (D :: ps)) := Fz.new (same_new hD) fun b hb => (List.mem_cons.mp hb).elim (fun z => .inr (by rw [z]; exact hD)) .inl
theorem fz_new' {H : Hp} {D : Addr} {ps : List Addr} {o : HO} (hD : H D = none) : Same (Fz H ps) (Fz (upd H D o) ps) := Fz.mono (same_new hD)
theorem ev_cutS {m1 : R Scr} {m : R (List Int)} (da : Ev X H0 qs ma Γ a m1) (dl : EvP X H0 qs Γ lo ml) (dh : EvP X H0 qs Γ hi mh) (he : m = m1.bind fun xs => ml.bind fun l => mh.bind fun h => .ok (cutL xs.l l h) := by rfl) :
    EvO X H0 qs md Γ (.Subscript a (.Slice lo hi none p2) pos) m := by
  intro σ H at_ E pe Q q
  subst he
  refine wE_of (pe_slice sl_list pe_w po_w po_w) (da σ H at_ E pe _ ((PX.bind q).mono (fun xs q2 v H1 s1 r1 => ?_) fun _ z => z))
  refine dl.use (at_.grow s1) pe ((PX.bind q2).mono (fun l q3 H2 s2 => ?_) fun _ z => z.grow s1)
  refine dh.use (at_.grow (s1.trans s2)) pe ((PX.bind q3).mono (fun h q4 H3 s3 => ?_) fun _ z => z.grow (s1.trans s2))
  have s := (s1.trans s2).trans s3
  obtain ⟨p, e1, e2⟩ := PyT.mono (av_same (qs := qs) (Γ := Γ) (σ := σ) (md := ma) (s2.trans s3)) r1
  refine ⟨p, _, e1, sqL_mono Fz.out e2, fun D hD => ?_⟩
  refine (show ∀ p vs H', Same H H' → H p = none → H' p = some (.lst vs) → RepL X.K (Fz H' (p :: av md Γ σ qs)) vs (cutL xs.l l h) → Q (.ref p) H' from q4) D _ _ (s.trans (same_new hD)) (s.free hD) upd_same ?_
  exact (iRep xs.l).cut l h
/-- an operation that gives a new list, by values -/
def OpN (X : Cx) {α β γ : Type} [PyT α] [PyT β] [PyT γ] (r : R2) (f : α → β → R (List γ)) : Prop :=
  ∀ (H : Hp) (ps pt : List Addr) (x : α) (y : β) (v w : V) (Q : VK) (B : Exc → Prop), rep X.K (Fz H ps) v x → rep X.K (Fz H pt) w y → (∀ b ∈ pt, b ∈ ps) →
    PX (fun z => ∀ p vs H', Same H H' → H p = none → H' p = some (.lst vs) → RepL X.K (Fz H' (p :: pt)) vs z → Q (.ref p) H') B (f x y) → r v w H Q
theorem ev_opN {δ : Type} [PyT α] [PyT β] [PyT δ] {op : Operator} {r : R2} {f : α → β → R (List δ)} {m1 : R α} {m2 : R β} {m : R (List δ)} (ho : OpR X (binaryOp op) r) (hf : OpN X r f) (da : Ev X H0 qs md Γ a m1) (db : Ev X H0 qs md Γ b m2)
    (he : m = m1.bind fun x => m2.bind fun y => f x y) : EvO X H0 qs md Γ (.BinOp a op b pos) m := by
  intro σ H at_ E pe Q q
  subst he
  refine wE_of (pe_op ho pe_w pe_w) (two da db at_ pe q fun x y v w H2 s rx ry q2 => ?_)
  exact hf H2 _ _ x y v w Q _ rx ry (fun _ z => z) (q2.mono (fun z k p vs H' s' n l r => k p vs H' (s.trans s') (s.free n) l r) fun _ z => z)
def catR (xs ys : List α) : R (List α) := R.chk (decide (xs.length + ys.length ≤ 16777216)) (xs ++ ys)
theorem ev_cat [PyT α] {m1 m2 m : R (List α)} (da : Ev X H0 qs md Γ a m1) (db : Ev X H0 qs md Γ b m2) (he : m = m1.bind fun x => m2.bind fun y => catR x y := by rfl) : EvO X H0 qs md Γ (.BinOp a .Add b pos) m :=
  ev_opN op_cat (fun H ps pt x y v w Q B hx hy hsub k => by
    obtain ⟨p, vs, rfl, h2, h3⟩ := hx
    obtain ⟨p', ws, rfl, k2, k3⟩ := hy
    obtain ⟨c, k⟩ := PX.chk k
    refine ⟨p, p', vs, ws, rfl, rfl, Fz.out _ _ h2, Fz.out _ _ k2, ?_, fun D hD => k D _ _ (same_new hD) hD upd_same ?_⟩
    · rw [h3.len, k3.len, sizeLine_eq]
      exact of_decide_eq_true c
    · exact ((h3.mono (Fz.sub (Same.refl H) hsub)).app k3).mono (fz_new hD)) da db he
/-- [x] * k -/
def repR (xs : List α) (k : Int) : R (List α) := R.chk (decide (-9223372036854775808 ≤ k ∧ k < 9223372036854775808 ∧ xs.length * k.toNat ≤ 16777216)) (List.replicate k.toNat xs).flatten
theorem ev_rep [PyT α] {m1 m : R (List α)} {m2 : R Int} (da : Ev X H0 qs md Γ a m1) (db : Ev X H0 qs mb Γ b m2) (he : m = m1.bind fun x => m2.bind fun y => repR x y := by rfl) : EvO X H0 qs md Γ (.BinOp a .Mult b pos) m :=
  ev_opN op_rep (fun H ps pt x y v w Q B hx hy hsub k => by
    obtain ⟨p, vs, rfl, h2, h3⟩ := hx
    obtain ⟨c, k⟩ := PX.chk k
    have c' : -9223372036854775808 ≤ y ∧ y < 9223372036854775808 ∧ x.length * y.toNat ≤ 16777216 := of_decide_eq_true c
    refine ⟨p, y, vs, rfl, hy, Fz.out _ _ h2, by omega, by omega, ?_, fun D hD => k D _ _ (same_new hD) hD upd_same ?_⟩
    · rw [h3.len, sizeLine_eq]
      exact c'.2.2
    · exact ((h3.mono (Fz.sub (Same.refl H) hsub)).reps _).mono (fz_new hD)) da db.flat he

/-! ### displays -/
/-- items of one kind -/
def EvLs (X : Cx) (H0 : Hp) (qs : List Addr) (md : Bool) (Γ : List Sl) [PyT α] (es : List Expr) (m : R (List α)) : Prop :=
  ∀ σ H, At X.K H0 qs Γ σ H → ∀ E : XK, Pas X σ E → ∀ Q : List V → Hp → Prop, PX (fun xs => ∀ vs H', Same H H' → vs.length = es.length → RepL X.K (Fz H' (av md Γ σ qs)) vs xs → Q vs H') (XW X E H) m → wA X es σ H Q
theorem el_nil [PyT α] {m : R (List α)} (he : m = .ok [] := by rfl) : EvLs X H0 qs md Γ [] m := fun σ H at_ E pe Q q => by
  subst he
  exact wA_of pa_nil (q [] H (Same.refl H) rfl trivial)
theorem el_cons [PyT α] {m1 : R α} {m2 m : R (List α)} (d : Ev X H0 qs md Γ e m1) (ds : EvLs X H0 qs md Γ es m2) (he : m = m1.bind fun x => m2.bind fun xs => .ok (x :: xs) := by rfl)
    (hs : ∀ env, starEach (e :: es) env = (false, eval e env) :: starEach es env := by intro _; rfl) : EvLs X H0 qs md Γ (e :: es) m := fun σ H at_ E pe Q q => by
  subst he
  refine wA_of (pa_cons pe_w pa_w (hs X.env)) (d σ H at_ E pe _ ((PX.bind q).mono (fun x q2 v H1 s1 r1 => ?_) fun _ z => z))
  refine ds σ H1 (at_.grow s1) E pe _ ((PX.bind q2).mono (fun xs q3 vs H2 s2 hl r2 => ?_) fun _ z => z.grow s1)
  exact (show ∀ vs H', Same H H' → vs.length = (e :: es).length → RepL X.K (Fz H' (av md Γ σ qs)) vs (x :: xs) → Q vs H' from q3) _ H2 (s1.trans s2) (by rw [List.length_cons, List.length_cons, hl]) ⟨PyT.mono (av_same s2) r1, r2⟩
theorem ev_lst [PyT α] {m : R (List α)} (ds : EvLs X H0 qs md Γ es m) (hl : es.length ≤ 100000 := by decide) : EvO X H0 qs md Γ (.List es pos) m := fun σ H at_ E pe Q q =>
  wE_of (pe_lst pa_w) (ds σ H at_ E pe _ (q.mono (fun xs k vs H1 s1 el r1 =>
    ⟨by rw [el, sizeLine_eq]; omega, fun D hD => k D vs _ (s1.trans (same_new hD)) (s1.free hD) upd_same (r1.mono (fz_new hD))⟩) fun _ z => z))
/-! arguments, tuples -/
theorem ea_nil {m : R Unit} (he : m = .ok () := by rfl) : EvA X H0 qs md Γ [] m := fun σ H at_ E pe Q q => by
  subst he
  exact wA_of pa_nil (q [] H (Same.refl H) rfl rfl)
theorem ea_cons {τ : Type} [PyT α] [PyA τ] {m1 : R α} {m2 : R τ} {m : R (α × τ)} (d : Ev X H0 qs md Γ e m1) (ds : EvA X H0 qs md Γ es m2) (he : m = m1.bind fun x => m2.bind fun xs => .ok (x, xs) := by rfl)
    (hs : ∀ env, starEach (e :: es) env = (false, eval e env) :: starEach es env := by intro _; rfl) : EvA X H0 qs md Γ (e :: es) m := fun σ H at_ E pe Q q => by
  subst he
  refine wA_of (pa_cons pe_w pa_w (hs X.env)) (d σ H at_ E pe _ ((PX.bind q).mono (fun x q2 v H1 s1 r1 => ?_) fun _ z => z))
  refine ds σ H1 (at_.grow s1) E pe _ ((PX.bind q2).mono (fun xs q3 vs H2 s2 hl r2 => ?_) fun _ z => z.grow s1)
  exact (show ∀ vs H', Same H H' → vs.length = (e :: es).length → PyA.reps X.K (Fz H' (av md Γ σ qs)) vs (x, xs) → Q vs H' from q3) _ H2 (s1.trans s2) (by rw [List.length_cons, List.length_cons, hl]) ⟨v, vs, rfl, PyT.mono (av_same s2) r1, r2⟩
/-- a tuple display of items told one by one -/
def TupP {τ : Type} [PyA τ] [PyT α] (f : τ → α) : Prop := ∀ (K : PySem.W.Frag) (F : Hp) (vs : List V) (t : τ) (p : Addr), PyA.reps K F vs t → F p = some (.tup vs) → rep K F (.ref p) (f t)
theorem ev_tup {τ : Type} [PyA τ] [PyT α] {f : τ → α} {k : Nat} {m1 : R τ} {m : R α} (hf : TupP f) (ds : EvA X H0 qs md Γ es m1) (he : m = m1.bind fun t => .ok (f t) := by rfl) (hl : es.length ≤ 100000 := by decide) : Ev X H0 qs md Γ (.Tuple es k pos) m := fun σ H at_ E pe Q q => by
  subst he
  refine wE_of (pe_tup pa_w) (ds σ H at_ E pe _ ((PX.bind q).mono (fun t q2 vs H1 s1 el r1 => ⟨by rw [el, sizeLine_eq]; omega, fun D hD => ?_⟩) fun _ z => z))
  have np : D ∉ av md Γ σ qs := fun z => av_there (X := X) (md := md) (at_.grow s1) D z hD
  exact (show ∀ v H', Same H H' → rep X.K (Fz H' (av md Γ σ qs)) v (f t) → Q v H' from q2) _ _ (s1.trans (same_new hD)) (hf X.K _ vs t D (PyA.mono (fz_new' hD) r1) (Fz.some_iff.mpr ⟨np, upd_same⟩))
theorem tup1 [PyT α] : TupP (fun t : α × Unit => T1.mk t.1) := fun K F vs t p ⟨v, ws, h1, h2, h3⟩ e => by
  have h4 : ws = [] := h3
  subst h1 h4
  exact ⟨p, v, rfl, SqT.of e, h2⟩
theorem tup2 [PyT α] [PyT β] : TupP (fun t : α × β × Unit => (t.1, t.2.1)) := fun K F vs t p ⟨v, ws, h1, h2, v2, ws2, h3, h4, h5⟩ e => by
  have h6 : ws2 = [] := h5
  subst h1 h3 h6
  exact ⟨p, v, v2, rfl, SqT.of e, h2, h4⟩
theorem tup3 [PyT α] [PyT β] [PyT γ] : TupP (fun t : α × β × γ × Unit => T3.mk t.1 t.2.1 t.2.2.1) := fun K F vs t p ⟨v, ws, h1, h2, v2, ws2, h3, h4, v3, ws3, h5, h6, h7⟩ e => by
  have h8 : ws3 = [] := h7
  subst h1 h3 h5 h8
  exact ⟨p, v, v2, v3, rfl, SqT.of e, h2, h4, h6⟩
theorem tup4 {δ : Type} [PyT α] [PyT β] [PyT γ] [PyT δ] : TupP (fun t : α × β × γ × δ × Unit => T4.mk t.1 t.2.1 t.2.2.1 t.2.2.2.1) := fun K F vs t p ⟨v, ws, h1, h2, v2, ws2, h3, h4, v3, ws3, h5, h6, v4, ws4, h7, h8, h9⟩ e => by
  have h10 : ws4 = [] := h9
  subst h1 h3 h5 h7 h10
  exact ⟨p, v, v2, v3, v4, rfl, SqT.of e, h2, h4, h6, h8⟩
/-- a tuple of items of one kind -/
theorem ev_tuL [PyT α] {k : Nat} {m1 : R (List α)} {m : R (Tu α)} (ds : EvLs X H0 qs md Γ es m1) (he : m = m1.bind fun xs => .ok (Tu.mk xs) := by rfl) (hl : es.length ≤ 100000 := by decide) : Ev X H0 qs md Γ (.Tuple es k pos) m := fun σ H at_ E pe Q q => by
  subst he
  refine wE_of (pe_tup pa_w) (ds σ H at_ E pe _ ((PX.bind q).mono (fun t q2 vs H1 s1 el r1 => ⟨by rw [el, sizeLine_eq]; omega, fun D hD => ?_⟩) fun _ z => z))
  have np : D ∉ av md Γ σ qs := fun z => av_there (X := X) (md := md) (at_.grow s1) D z hD
  exact (show ∀ v H', Same H H' → rep X.K (Fz H' (av md Γ σ qs)) v (Tu.mk t) → Q v H' from q2) _ _ (s1.trans (same_new hD)) ⟨D, vs, rfl, SqT.of (Fz.some_iff.mpr ⟨np, upd_same⟩), r1.mono (fz_new' hD)⟩
/-! tuples cut and put together -/
/-! ### built-ins by their names -/
/-- a built-in's call of flat outcome, by values -/
def CbF (X : Cx) {τ γ : Type} [PyA τ] [PyF γ] (r : List V → Hp → VK → Prop) (f : τ → R γ) : Prop :=
  ∀ (H : Hp) (t : τ) (vs : List V) (Q : VK) (B : Exc → Prop), PyA.reps X.K H vs t → PX (fun z => ∀ u, (∀ F, rep X.K F u z) → ∀ H', Same H H' → Q u H') B (f t) → r vs H Q
variable {p : Pos} {x : Str} {id T : String} {r : List V → Hp → VK → Prop}
theorem ev_callB {τ : Type} [PyA τ] [PyF γ] {f : τ → R γ} {m1 : R τ} {m : R γ} (hc : CallR X (.builtin id) r) (hf : CbF X r f) (g : Gn X x) (hm : X.mg x = none) (hv : bootBuiltins x = some (.builtin id)) (hn : x ≠ "__name__")
    (d : EvA X H0 qs ma Γ (a :: es) m1) (he : m = m1.bind f) (hs : ∀ env, starEach (a :: es) env = (false, eval a env) :: starEach es env) (hp : ∀ env, (backTo pos (starEach es env)).any (·.1) = false) :
    Ev X H0 qs md Γ (.Call (.Name x p) (a :: es) [] pos) m := by
  intro σ H at_ E pe Q q
  subst he
  refine wE_of (pe_callB hc g.gl hm hv pa_w hn g.hd (hs X.env) (hp X.env)) (d σ H at_ E pe _ ((PX.bind q).mono (fun t q2 vs H1 s1 _ r1 => ?_) fun _ z => z))
  exact hf H1 t vs Q _ (PyA.mono Fz.out r1) (q2.mono (fun z k u hu H' s' => k u H' (s1.trans s') (hu _)) fun _ z => z)
theorem ev_callTy {τ : Type} [PyA τ] [PyF γ] {f : τ → R γ} {m1 : R τ} {m : R γ} (hc : CallR X (.type T) r) (hf : CbF X r f) (g : Gn X x) (hm : X.mg x = none) (hv : bootBuiltins x = some (.type T)) (hn : x ≠ "__name__")
    (d : EvA X H0 qs ma Γ (a :: es) m1) (he : m = m1.bind f) (hs : ∀ env, starEach (a :: es) env = (false, eval a env) :: starEach es env) (hp : ∀ env, (backTo pos (starEach es env)).any (·.1) = false) :
    Ev X H0 qs md Γ (.Call (.Name x p) (a :: es) [] pos) m := by
  intro σ H at_ E pe Q q
  subst he
  refine wE_of (pe_callTy hc g.gl hm hv pa_w hn g.hd (hs X.env) (hp X.env)) (d σ H at_ E pe _ ((PX.bind q).mono (fun t q2 vs H1 s1 _ r1 => ?_) fun _ z => z))
  exact hf H1 t vs Q _ (PyA.mono Fz.out r1) (q2.mono (fun z k u hu H' s' => k u H' (s1.trans s') (hu _)) fun _ z => z)
theorem one_of [PyT α] {K : PySem.W.Frag} {F : Hp} {vs : List V} {t : α × Unit} (h : PyA.reps K F vs t) : ∃ v, vs = [v] ∧ rep K F v t.1 := by
  obtain ⟨v, ws, h1, h2, h3⟩ := h
  have h4 : ws = [] := h3
  subst h1 h4
  exact ⟨v, rfl, h2⟩
theorem two_of [PyT α] [PyT β] {K : PySem.W.Frag} {F : Hp} {vs : List V} {t : α × β × Unit} (h : PyA.reps K F vs t) : ∃ v w, vs = [v, w] ∧ rep K F v t.1 ∧ rep K F w t.2.1 := by
  obtain ⟨v, ws, h1, h2, w, ws2, h3, h4, h5⟩ := h
  have h6 : ws2 = [] := h5
  subst h1 h3 h6
  exact ⟨v, w, rfl, h2, h4⟩
theorem star1 (a : Expr) (h : ∀ env, starEach [a] env = [(false, eval a env)]) : ∀ env, starEach [a] env = (false, eval a env) :: starEach [] env := h
/-- len of a list, a tuple, a text, the script -/
theorem ev_lenL [PyT α] {m1 : R (List α)} {m : R Int} (g : Gn X "len") (hm : X.mg "len" = none) (d : Ev X H0 qs ma Γ a m1) (he : m = m1.bind fun xs => .ok (xs.length : Int) := by rfl) (hs : ∀ env, starEach [a] env = (false, eval a env) :: starEach [] env := by intro _; rfl) :
    Ev X H0 qs md Γ (.Call (.Name "len" p) [a] [] pos) m :=
  ev_callB (f := fun t => .ok (t.1.length : Int)) (m1 := m1.bind fun x => .ok (x, ())) call_len_seq (fun H t vs Q B h k => by
    obtain ⟨v, rfl, q, ws, rfl, h2, h3⟩ := one_of h
    exact ⟨q, ws, rfl, .inl (SqL.of h2), by rw [h3.len]; exact k _ (fun _ => rfl) H (Same.refl H)⟩) g hm PySem.boot_len (by decide) (ea_cons d ea_nil (by cases m1 <;> rfl) hs) (by rw [he]; cases m1 <;> rfl) hs (fun _ => rfl)
theorem ev_lenT [PyT α] {m1 : R (Tu α)} {m : R Int} (g : Gn X "len") (hm : X.mg "len" = none) (d : Ev X H0 qs ma Γ a m1) (he : m = m1.bind fun xs => .ok (xs.l.length : Int) := by rfl) (hs : ∀ env, starEach [a] env = (false, eval a env) :: starEach [] env := by intro _; rfl) :
    Ev X H0 qs md Γ (.Call (.Name "len" p) [a] [] pos) m :=
  ev_callB (f := fun t => .ok (t.1.l.length : Int)) (m1 := m1.bind fun x => .ok (x, ())) call_len_seq (fun H t vs Q B h k => by
    obtain ⟨v, rfl, q, ws, rfl, h2, h3⟩ := one_of h
    exact ⟨q, ws, rfl, .inr h2, by rw [h3.len]; exact k _ (fun _ => rfl) H (Same.refl H)⟩) g hm PySem.boot_len (by decide) (ea_cons d ea_nil (by cases m1 <;> rfl) hs) (by rw [he]; cases m1 <;> rfl) hs (fun _ => rfl)
theorem ev_lenS {m1 : R Scr} {m : R Int} (g : Gn X "len") (hm : X.mg "len" = none) (d : Ev X H0 qs ma Γ a m1) (he : m = m1.bind fun xs => .ok (xs.l.length : Int) := by rfl) (hs : ∀ env, starEach [a] env = (false, eval a env) :: starEach [] env := by intro _; rfl) :
    Ev X H0 qs md Γ (.Call (.Name "len" p) [a] [] pos) m :=
  ev_callB (f := fun t => .ok (t.1.l.length : Int)) (m1 := m1.bind fun x => .ok (x, ())) call_len_seq (fun H t vs Q B h k => by
    obtain ⟨v, rfl, q, rfl, h2⟩ := one_of h
    exact ⟨q, _, rfl, .inl h2, by rw [List.length_map]; exact k _ (fun _ => rfl) H (Same.refl H)⟩) g hm PySem.boot_len (by decide) (ea_cons d ea_nil (by cases m1 <;> rfl) hs) (by rw [he]; cases m1 <;> rfl) hs (fun _ => rfl)
/-- a tuple of two items has two -/
theorem ev_len2 [PyT α] [PyT β] {m1 : R (α × β)} {m : R Int} (g : Gn X "len") (hm : X.mg "len" = none) (d : Ev X H0 qs ma Γ a m1) (he : m = m1.bind fun _ => .ok 2 := by rfl) (hs : ∀ env, starEach [a] env = (false, eval a env) :: starEach [] env := by intro _; rfl) :
    Ev X H0 qs md Γ (.Call (.Name "len" p) [a] [] pos) m :=
  ev_callB (f := fun _ => .ok 2) (m1 := m1.bind fun x => .ok (x, ())) call_len_seq (fun H t vs Q B h k => by
    obtain ⟨v, rfl, q, w, u, rfl, h2, h3⟩ := one_of h
    exact ⟨q, _, rfl, .inr h2, k _ (fun _ => rfl) H (Same.refl H)⟩) g hm PySem.boot_len (by decide) (ea_cons d ea_nil (by cases m1 <;> rfl) hs) (by rw [he]; cases m1 <;> rfl) hs (fun _ => rfl)
end
end Wk
set_option Elab.async false
set_option linter.all false
set_option maxRecDepth 100000
/-! Wk4: more built-ins, ==, in, isinstance, calls of the text's own defs. -/
namespace Wk
open PySem PySem.Spec PyProof.Rows L2
section
variable {X : Cx} {H0 : Hp} {qs : List Addr} {md ma mb : Bool} {Γ : List Sl} {a b e : Expr} {es : List Expr} {pos p : Pos} {α β γ : Type}
variable {x : Str} {idn T : String} {r : List V → Hp → VK → Prop}
/-- what star says of one, two arguments -/
abbrev St1 (a : Expr) : Prop := ∀ env, starEach [a] env = (false, eval a env) :: starEach [] env
abbrev St2 (a b : Expr) : Prop := ∀ env, starEach [a, b] env = (false, eval a env) :: starEach [b] env
theorem ev_b1 [PyT α] [PyF γ] {f : α → R γ} {m1 : R α} {m : R γ} (hc : CallR X (.builtin idn) r)
    (hf : ∀ (H : Hp) (y : α) (v : V) (Q : VK) (B : Exc → Prop), rep X.K H v y → PX (fun z => ∀ u, (∀ F, rep X.K F u z) → ∀ H', Same H H' → Q u H') B (f y) → r [v] H Q)
    (g : Gn X x) (hm : X.mg x = none) (hv : bootBuiltins x = some (.builtin idn)) (hn : x ≠ "__name__") (d : Ev X H0 qs ma Γ a m1) (he : m = m1.bind f) (hs : St1 a) :
    Ev X H0 qs md Γ (.Call (.Name x p) [a] [] pos) m :=
  ev_callB (f := fun t : α × Unit => f t.1) (m1 := m1.bind fun y => .ok (y, ())) hc (fun H t vs Q B h k => by
    obtain ⟨v, rfl, h2⟩ := one_of h
    exact hf H t.1 v Q B h2 k) g hm hv hn (ea_cons d ea_nil (by cases m1 <;> rfl) hs) (by rw [he]; cases m1 <;> rfl) hs (fun _ => rfl)
theorem ev_t1 [PyT α] [PyF γ] {f : α → R γ} {m1 : R α} {m : R γ} (hc : CallR X (.type T) r)
    (hf : ∀ (H : Hp) (y : α) (v : V) (Q : VK) (B : Exc → Prop), rep X.K H v y → PX (fun z => ∀ u, (∀ F, rep X.K F u z) → ∀ H', Same H H' → Q u H') B (f y) → r [v] H Q)
    (g : Gn X x) (hm : X.mg x = none) (hv : bootBuiltins x = some (.type T)) (hn : x ≠ "__name__") (d : Ev X H0 qs ma Γ a m1) (he : m = m1.bind f) (hs : St1 a) :
    Ev X H0 qs md Γ (.Call (.Name x p) [a] [] pos) m :=
  ev_callTy (f := fun t : α × Unit => f t.1) (m1 := m1.bind fun y => .ok (y, ())) hc (fun H t vs Q B h k => by
    obtain ⟨v, rfl, h2⟩ := one_of h
    exact hf H t.1 v Q B h2 k) g hm hv hn (ea_cons d ea_nil (by cases m1 <;> rfl) hs) (by rw [he]; cases m1 <;> rfl) hs (fun _ => rfl)
theorem ev_b2 [PyT α] [PyT β] [PyF γ] {f : α → β → R γ} {m1 : R α} {m2 : R β} {m : R γ} (hc : CallR X (.builtin idn) r)
    (hf : ∀ (H : Hp) (y : α) (z : β) (v w : V) (Q : VK) (B : Exc → Prop), rep X.K H v y → rep X.K H w z → PX (fun z => ∀ u, (∀ F, rep X.K F u z) → ∀ H', Same H H' → Q u H') B (f y z) → r [v, w] H Q)
    (g : Gn X x) (hm : X.mg x = none) (hv : bootBuiltins x = some (.builtin idn)) (hn : x ≠ "__name__") (d : Ev X H0 qs false Γ a m1) (d2 : Ev X H0 qs false Γ b m2) (he : m = m1.bind fun y => m2.bind fun z => f y z) (hs : St2 a b) (hs2 : St1 b) (hp : ∀ env, (backTo pos (starEach [b] env)).any (·.1) = false) :
    Ev X H0 qs md Γ (.Call (.Name x p) [a, b] [] pos) m :=
  ev_callB (f := fun t : α × β × Unit => f t.1 t.2.1) (m1 := m1.bind fun y => m2.bind fun z => .ok (y, z, ())) hc (fun H t vs Q B h k => by
    obtain ⟨v, w, rfl, h2, h3⟩ := two_of h
    exact hf H t.1 t.2.1 v w Q B h2 h3 k) g hm hv hn (ea_cons (m2 := m2.bind fun z => .ok (z, ())) d (ea_cons d2 ea_nil (by cases m2 <;> rfl) hs2) (by cases m1 <;> first | rfl | (cases m2 <;> rfl)) hs) (by rw [he]; cases m1 <;> first | rfl | (cases m2 <;> rfl)) hs hp
theorem ev_sum {m1 : R (List Int)} {m : R Int} (hc : X.calm = true) (g : Gn X "sum") (hm : X.mg "sum" = none) (d : Ev X H0 qs ma Γ a m1) (he : m = m1.bind fun xs => .ok xs.sum := by rfl) (hs : St1 a := by intro _; rfl) : Ev X H0 qs md Γ (.Call (.Name "sum" p) [a] [] pos) m :=
  ev_b1 (f := fun xs => .ok xs.sum) (cr_sum hc) (fun H y v Q B h k => by
    obtain ⟨q, ws, rfl, h2, h3⟩ := h
    rw [repI h3] at h2
    exact ⟨q, y, rfl, SqL.of h2, k _ (fun _ => rfl) H (Same.refl H)⟩) g hm (by decide +kernel) (by decide) d he hs
/-- the least, the greatest -/
def minL : List Int → Option Int
  | [] => none
  | x :: xs => some (xs.foldl min x)
def maxL : List Int → Option Int
  | [] => none
  | x :: xs => some (xs.foldl max x)
theorem foldl_min : ∀ (xs : List Int) (x : Int), (xs.foldl min x = x ∨ xs.foldl min x ∈ xs) ∧ xs.foldl min x ≤ x ∧ ∀ y ∈ xs, xs.foldl min x ≤ y
  | [], x => ⟨.inl rfl, Int.le_refl _, fun _ h => by cases h⟩
  | z :: xs, x => by
    obtain ⟨h1, h2, h3⟩ := foldl_min xs (min x z)
    refine ⟨?_, ?_, ?_⟩
    · rcases h1 with h | h
      · rw [List.foldl_cons, h]
        by_cases q : x ≤ z
        · exact .inl (by omega)
        · exact .inr (by rw [show min x z = z by omega]; exact List.mem_cons_self)
      · exact .inr (List.mem_cons_of_mem _ h)
    · rw [List.foldl_cons]; omega
    · intro y hy
      rw [List.foldl_cons]
      rcases List.mem_cons.mp hy with e | hy
      · subst e; omega
      · exact h3 y hy
theorem foldl_max : ∀ (xs : List Int) (x : Int), (xs.foldl max x = x ∨ xs.foldl max x ∈ xs) ∧ x ≤ xs.foldl max x ∧ ∀ y ∈ xs, y ≤ xs.foldl max x
  | [], x => ⟨.inl rfl, Int.le_refl _, fun _ h => by cases h⟩
  | z :: xs, x => by
    obtain ⟨h1, h2, h3⟩ := foldl_max xs (max x z)
    refine ⟨?_, ?_, ?_⟩
    · rcases h1 with h | h
      · rw [List.foldl_cons, h]
        by_cases q : z ≤ x
        · exact .inl (by omega)
        · exact .inr (by rw [show max x z = z by omega]; exact List.mem_cons_self)
      · exact .inr (List.mem_cons_of_mem _ h)
    · rw [List.foldl_cons]; omega
    · intro y hy
      rw [List.foldl_cons]
      rcases List.mem_cons.mp hy with e | hy
      · subst e; omega
      · exact h3 y hy
theorem minL_is {xs : List Int} {m : Int} (h : m ∈ xs) (hl : ∀ y ∈ xs, m ≤ y) : minL xs = some m := by
  cases xs with
  | nil => cases h
  | cons x xs =>
    obtain ⟨h1, h2, h3⟩ := foldl_min xs x
    have k1 : m ≤ xs.foldl min x := by
      rcases h1 with e | e
      · rw [e]; exact hl x List.mem_cons_self
      · exact hl _ (List.mem_cons_of_mem _ e)
    have k2 : xs.foldl min x ≤ m := by
      rcases List.mem_cons.mp h with e | e
      · rw [e]; exact h2
      · exact h3 m e
    show some _ = some _
    rw [Int.le_antisymm k2 k1]
theorem maxL_is {xs : List Int} {m : Int} (h : m ∈ xs) (hl : ∀ y ∈ xs, y ≤ m) : maxL xs = some m := by
  cases xs with
  | nil => cases h
  | cons x xs =>
    obtain ⟨h1, h2, h3⟩ := foldl_max xs x
    have k1 : xs.foldl max x ≤ m := by
      rcases h1 with e | e
      · rw [e]; exact hl x List.mem_cons_self
      · exact hl _ (List.mem_cons_of_mem _ e)
    have k2 : m ≤ xs.foldl max x := by
      rcases List.mem_cons.mp h with e | e
      · rw [e]; exact h2
      · exact h3 m e
    show some _ = some _
    rw [Int.le_antisymm k1 k2]
theorem ev_minL {m1 : R (List Int)} {m : R Int} (hc : X.calm = true) (g : Gn X "min") (hm : X.mg "min" = none) (d : Ev X H0 qs ma Γ a m1) (he : m = m1.bind fun xs => R.ofO (minL xs) := by rfl) (hs : St1 a := by intro _; rfl) : Ev X H0 qs md Γ (.Call (.Name "min" p) [a] [] pos) m :=
  ev_b1 (f := fun xs => R.ofO (minL xs)) (cr_min hc) (fun H y v Q B h k => by
    obtain ⟨q, ws, rfl, h2, h3⟩ := h
    rw [repI h3] at h2
    obtain ⟨z, k1, k2⟩ := PX.ofO k
    refine ⟨q, y, rfl, SqL.of h2, by cases y <;> simp [minL] at k1 ⊢, fun m hm hl => ?_⟩
    rw [minL_is hm hl] at k1
    cases k1
    exact k2 _ (fun _ => rfl) H (Same.refl H)) g hm (by decide +kernel) (by decide) d he hs
theorem ev_maxL {m1 : R (List Int)} {m : R Int} (hc : X.calm = true) (g : Gn X "max") (hm : X.mg "max" = none) (d : Ev X H0 qs ma Γ a m1) (he : m = m1.bind fun xs => R.ofO (maxL xs) := by rfl) (hs : St1 a := by intro _; rfl) : Ev X H0 qs md Γ (.Call (.Name "max" p) [a] [] pos) m :=
  ev_b1 (f := fun xs => R.ofO (maxL xs)) (cr_max hc) (fun H y v Q B h k => by
    obtain ⟨q, ws, rfl, h2, h3⟩ := h
    rw [repI h3] at h2
    obtain ⟨z, k1, k2⟩ := PX.ofO k
    refine ⟨q, y, rfl, SqL.of h2, by cases y <;> simp [maxL] at k1 ⊢, fun m hm hl => ?_⟩
    rw [maxL_is hm hl] at k1
    cases k1
    exact k2 _ (fun _ => rfl) H (Same.refl H)) g hm (by decide +kernel) (by decide) d he hs
theorem ev_min2 {m1 m2 m : R Int} (hc : X.calm = true) (g : Gn X "min") (hm : X.mg "min" = none) (d : Ev X H0 qs ma Γ a m1) (d2 : Ev X H0 qs mb Γ b m2) (he : m = m1.bind fun y => m2.bind fun z => .ok (min y z) := by rfl) (hs : St2 a b := by intro _; rfl) (hs2 : St1 b := by intro _; rfl)
    (hp : ∀ env, (backTo pos (starEach [b] env)).any (·.1) = false := by intro _; rfl) : Ev X H0 qs md Γ (.Call (.Name "min" p) [a, b] [] pos) m :=
  ev_b2 (f := fun y z => .ok (min y z)) (call_min2 hc) (fun H y z v w Q B hv hw k => ⟨y, z, by rw [show v = .int y from hv, show w = .int z from hw], by
    have e : (if z < y then z else y) = min y z := by split <;> omega
    rw [e]
    exact k _ (fun _ => rfl) H (Same.refl H)⟩) g hm (by decide +kernel) (by decide) d.flat d2.flat he hs hs2 hp
theorem ev_max2 {m1 m2 m : R Int} (hc : X.calm = true) (g : Gn X "max") (hm : X.mg "max" = none) (d : Ev X H0 qs ma Γ a m1) (d2 : Ev X H0 qs mb Γ b m2) (he : m = m1.bind fun y => m2.bind fun z => .ok (max y z) := by rfl) (hs : St2 a b := by intro _; rfl) (hs2 : St1 b := by intro _; rfl)
    (hp : ∀ env, (backTo pos (starEach [b] env)).any (·.1) = false := by intro _; rfl) : Ev X H0 qs md Γ (.Call (.Name "max" p) [a, b] [] pos) m :=
  ev_b2 (f := fun y z => .ok (max y z)) (call_max2 hc) (fun H y z v w Q B hv hw k => ⟨y, z, by rw [show v = .int y from hv, show w = .int z from hw], by
    have e : (if z > y then z else y) = max y z := by split <;> omega
    rw [e]
    exact k _ (fun _ => rfl) H (Same.refl H)⟩) g hm (by decide +kernel) (by decide) d.flat d2.flat he hs hs2 hp
theorem ev_abs {m1 m : R Int} (g : Gn X "abs") (hm : X.mg "abs" = none) (d : Ev X H0 qs ma Γ a m1) (he : m = m1.bind fun y => .ok (if y < 0 then -y else y) := by rfl) (hs : St1 a := by intro _; rfl) : Ev X H0 qs md Γ (.Call (.Name "abs" p) [a] [] pos) m :=
  ev_b1 (f := fun y : Int => .ok (if y < 0 then -y else y)) call_abs (fun H y v Q B h k => ⟨y, by rw [show v = .int y from h], k _ (fun _ => rfl) H (Same.refl H)⟩) g hm (by decide +kernel) (by decide) d he hs
theorem ev_intB {m1 : R Bool} {m : R Int} (g : Gn X "int") (hm : X.mg "int" = none) (d : Ev X H0 qs ma Γ a m1) (he : m = m1.bind fun y => .ok (if y = true then 1 else 0) := by rfl) (hs : St1 a := by intro _; rfl) : Ev X H0 qs md Γ (.Call (.Name "int" p) [a] [] pos) m :=
  ev_t1 (f := fun y : Bool => .ok (if y = true then (1 : Int) else 0)) call_int1 (fun H y v Q B h k => .inr ⟨y, by rw [show v = .bl y from h], k _ (fun _ => rfl) H (Same.refl H)⟩) g hm (by decide +kernel) (by decide) d he hs
theorem ev_all {m1 : R (List Bool)} {m : R Bool} (hc : X.calm = true) (g : Gn X "all") (hm : X.mg "all" = none) (d : Ev X H0 qs ma Γ a m1) (he : m = m1.bind fun xs => .ok (xs.all id) := by rfl) (hs : St1 a := by intro _; rfl) : Ev X H0 qs md Γ (.Call (.Name "all" p) [a] [] pos) m :=
  ev_b1 (f := fun xs : List Bool => .ok (xs.all id)) (cr_all hc) (fun H y v Q B h k => by
    obtain ⟨q, ws, rfl, h2, h3⟩ := h
    rw [repB h3] at h2
    exact ⟨q, y, rfl, SqL.of h2, k _ (fun _ => rfl) H (Same.refl H)⟩) g hm (by decide +kernel) (by decide) d he hs
/-! ### built-ins that give a new list -/
theorem ev_tN [PyT α] [PyT β] {f : α → R (List β)} {m1 : R α} {m : R (List β)} (hc : CallR X (.type T) r)
    (hf : ∀ (H : Hp) (ps : List Addr) (y : α) (v : V) (Q : VK) (B : Exc → Prop), rep X.K (Fz H ps) v y → PX (fun z => ∀ p vs H', Same H H' → H p = none → H' p = some (.lst vs) → RepL X.K (Fz H' (p :: ps)) vs z → Q (.ref p) H') B (f y) → r [v] H Q)
    (g : Gn X x) (hm : X.mg x = none) (hv : bootBuiltins x = some (.type T)) (hn : x ≠ "__name__") (d : Ev X H0 qs md Γ a m1) (he : m = m1.bind f) (hs : St1 a) :
    EvO X H0 qs md Γ (.Call (.Name x p) [a] [] pos) m := fun σ H at_ E pe Q q => by
  subst he
  refine wE_of (pe_callTy hc g.gl hm hv (pa_cons pe_w pa_nil (hs X.env)) hn g.hd (hs X.env) rfl) (d σ H at_ E pe _ ((PX.bind q).mono (fun y q2 v H1 s1 r1 => ?_) fun _ z => z))
  exact hf H1 _ y v Q _ r1 (q2.mono (fun z k p vs H' s' n l r => k p vs H' (s1.trans s') (s1.free n) l r) fun _ z => z)
theorem ev_bN [PyT α] [PyT β] {f : α → R (List β)} {m1 : R α} {m : R (List β)} (hc : CallR X (.builtin idn) r)
    (hf : ∀ (H : Hp) (ps : List Addr) (y : α) (v : V) (Q : VK) (B : Exc → Prop), rep X.K (Fz H ps) v y → PX (fun z => ∀ p vs H', Same H H' → H p = none → H' p = some (.lst vs) → RepL X.K (Fz H' (p :: ps)) vs z → Q (.ref p) H') B (f y) → r [v] H Q)
    (g : Gn X x) (hm : X.mg x = none) (hv : bootBuiltins x = some (.builtin idn)) (hn : x ≠ "__name__") (d : Ev X H0 qs md Γ a m1) (he : m = m1.bind f) (hs : St1 a) :
    EvO X H0 qs md Γ (.Call (.Name x p) [a] [] pos) m := fun σ H at_ E pe Q q => by
  subst he
  refine wE_of (pe_callB hc g.gl hm hv (pa_cons pe_w pa_nil (hs X.env)) hn g.hd (hs X.env) rfl) (d σ H at_ E pe _ ((PX.bind q).mono (fun y q2 v H1 s1 r1 => ?_) fun _ z => z))
  exact hf H1 _ y v Q _ r1 (q2.mono (fun z k p vs H' s' n l r => k p vs H' (s1.trans s') (s1.free n) l r) fun _ z => z)
theorem ev_listL [PyT α] {m1 m : R (List α)} (g : Gn X "list") (hm : X.mg "list" = none) (d : Ev X H0 qs md Γ a m1) (he : m = m1.bind fun xs => .ok xs := by rfl) (hs : St1 a := by intro _; rfl) : EvO X H0 qs md Γ (.Call (.Name "list" p) [a] [] pos) m :=
  ev_tN (f := fun xs => .ok xs) call_list_of (fun H ps y v Q B h k => by
    obtain ⟨q, ws, rfl, h2, h3⟩ := h
    exact ⟨q, ws, rfl, .inl (SqL.of (Fz.out _ _ h2)), fun l hl => k l ws _ (same_new hl) hl upd_same (h3.mono (fz_new hl))⟩) g hm (by decide +kernel) (by decide) d he hs
theorem ev_listT [PyT α] {m1 : R (Tu α)} {m : R (List α)} (g : Gn X "list") (hm : X.mg "list" = none) (d : Ev X H0 qs md Γ a m1) (he : m = m1.bind fun xs => .ok xs.l := by rfl) (hs : St1 a := by intro _; rfl) : EvO X H0 qs md Γ (.Call (.Name "list" p) [a] [] pos) m :=
  ev_tN (f := fun xs : Tu α => .ok xs.l) call_list_of (fun H ps y v Q B h k => by
    obtain ⟨q, ws, rfl, h2, h3⟩ := h
    exact ⟨q, ws, rfl, .inr (sqT_mono Fz.out h2), fun l hl => k l ws _ (same_new hl) hl upd_same (h3.mono (fz_new hl))⟩) g hm (by decide +kernel) (by decide) d he hs
theorem ev_listP [PyT α] {m1 : R (α × α)} {m : R (List α)} (g : Gn X "list") (hm : X.mg "list" = none) (d : Ev X H0 qs md Γ a m1) (he : m = m1.bind fun t => .ok [t.1, t.2] := by rfl) (hs : St1 a := by intro _; rfl) : EvO X H0 qs md Γ (.Call (.Name "list" p) [a] [] pos) m :=
  ev_tN (f := fun t : α × α => .ok [t.1, t.2]) call_list_of (fun H ps y v Q B h k => by
    obtain ⟨q, w, u, rfl, h2, h3, h4⟩ := h
    exact ⟨q, _, rfl, .inr (sqT_mono Fz.out h2), fun l hl => k l _ _ (same_new hl) hl upd_same ⟨PyT.mono (fz_new hl) h3, PyT.mono (fz_new hl) h4, trivial⟩⟩) g hm (by decide +kernel) (by decide) d he hs
theorem ev_listS {m1 : R Scr} {m : R (List Int)} (g : Gn X "list") (hm : X.mg "list" = none) (d : Ev X H0 qs md Γ a m1) (he : m = m1.bind fun xs => .ok xs.l := by rfl) (hs : St1 a := by intro _; rfl) : EvO X H0 qs md Γ (.Call (.Name "list" p) [a] [] pos) m :=
  ev_tN (f := fun xs : Scr => .ok xs.l) call_list_of (fun H ps y v Q B h k => by
    obtain ⟨q, rfl, h2⟩ := h
    exact ⟨q, _, rfl, .inl (sqL_mono Fz.out h2), fun l hl => k l _ _ (same_new hl) hl upd_same (iRep _)⟩) g hm (by decide +kernel) (by decide) d he hs
/-- tuple(a list) -/
theorem ev_tupL [PyT α] {m1 : R (List α)} {m : R (Tu α)} (g : Gn X "tuple") (hm : X.mg "tuple" = none) (d : Ev X H0 qs md Γ a m1) (he : m = m1.bind fun xs => .ok (Tu.mk xs) := by rfl) (hs : St1 a := by intro _; rfl) : Ev X H0 qs md Γ (.Call (.Name "tuple" p) [a] [] pos) m := fun σ H at_ E pe Q q => by
  subst he
  refine wE_of (pe_callTy call_tuple_of g.gl hm (by decide +kernel) (pa_cons pe_w pa_nil (hs X.env)) (by decide) g.hd (hs X.env) rfl) (d σ H at_ E pe _ ((PX.bind q).mono (fun y q2 v H1 s1 r1 => ?_) fun _ z => z))
  obtain ⟨q', ws, rfl, h2, h3⟩ := r1
  refine ⟨q', ws, rfl, .inl ⟨SqL.of (Fz.out _ _ h2), fun D hD => ?_⟩⟩
  have np : D ∉ av md Γ σ qs := fun z => av_there (X := X) (md := md) (at_.grow s1) D z hD
  exact (show ∀ v H', Same H H' → rep X.K (Fz H' (av md Γ σ qs)) v (Tu.mk y) → Q v H' from q2) _ _ (s1.trans (same_new hD)) ⟨D, ws, rfl, SqT.of (Fz.some_iff.mpr ⟨np, upd_same⟩), h3.mono (fz_new' hD)⟩
/-- sorted -/
def sortI (xs : List Int) : List Int := xs.mergeSort (fun a b => decide (a ≤ b))
theorem sortI_perm (xs : List Int) : (sortI xs).Perm xs := List.mergeSort_perm xs _
theorem sortI_up (xs : List Int) : (sortI xs).Pairwise (· ≤ ·) := (List.pairwise_mergeSort (le := fun a b : Int => decide (a ≤ b)) (fun a b c h1 h2 => by
    have h1' := of_decide_eq_true h1
    have h2' := of_decide_eq_true h2
    exact decide_eq_true (Int.le_trans h1' h2')) (fun a b => by
    rcases Int.le_total a b with h | h
    · rw [decide_eq_true h] <;> rfl
    · rw [decide_eq_true h, Bool.or_true]) xs).imp fun h => of_decide_eq_true h
theorem sortI_is {xs ys : List Int} (h : ys.Perm xs) (hp : ys.Pairwise (· ≤ ·)) : ys = sortI xs :=
  (h.trans (sortI_perm xs).symm).eq_of_pairwise (le := (· ≤ ·)) (fun a b _ _ h1 h2 => Int.le_antisymm h1 h2) hp (sortI_up xs)
theorem ev_sortI {m1 m : R (List Int)} (g : Gn X "sorted") (hm : X.mg "sorted" = none) (d : Ev X H0 qs md Γ a m1) (he : m = m1.bind fun xs => .ok (sortI xs) := by rfl) (hs : St1 a := by intro _; rfl) : EvO X H0 qs md Γ (.Call (.Name "sorted" p) [a] [] pos) m :=
  ev_bN (f := fun xs => .ok (sortI xs)) cr_sortedI (fun H ps y v Q B h k => by
    obtain ⟨q, ws, rfl, h2, h3⟩ := h
    rw [repI h3] at h2
    refine ⟨q, y, rfl, SqL.of (Fz.out _ _ h2), fun ys p hp hu hn => ?_⟩
    rw [sortI_is hp hu]
    exact k p _ _ (same_new hn) hn upd_same (iRep _)) g hm (by decide +kernel) (by decide) d he hs
end
end Wk
set_option Elab.async false
set_option linter.all false
set_option maxRecDepth 100000
/-! Wk5: ==, in, is None, isinstance, calls of the text's own defs. -/
namespace Wk
open PySem PySem.Spec PyProof.Rows L2
/-! ### data for == -/
class PyD (α : Type) extends PyT α where
  toD : α → PyData
  dp : ∀ {K : PySem.W.Frag} {H : Hp} {v : V} {x : α}, rep K H v x → Dp K H v (toD x) ∧ (toD x).canLay0 = true
  dep : Nat
  depth : ∀ x : α, (toD x).depth ≤ dep
/-- == is equality -/
class PyQ (α : Type) extends PyD α where
  eq : ∀ x y : α, PyData.eqv (toD x) (toD y) = true ↔ x = y
  nn : ∀ x : α, PyData.eqv .none (toD x) = false ∧ PyData.eqv (toD x) .none = false
theorem dpAll {α : Type} [PyD α] {K : PySem.W.Frag} {H : Hp} : ∀ {vs : List V} {xs : List α}, RepL K H vs xs → DpAll K H vs (xs.map PyD.toD) ∧ PyData.canLayAll0 (xs.map PyD.toD) = true
  | [], [], _ => ⟨.nil, by simp [PyData.canLayAll0]⟩
  | v :: vs, x :: xs, h => by
    obtain ⟨h1, h2⟩ := PyD.dp h.1
    obtain ⟨h3, h4⟩ := dpAll h.2
    exact ⟨.cons h1 h3, by simp only [List.map_cons, PyData.canLayAll0, h2, h4, Bool.and_true]⟩
  | [], _ :: _, h => h.elim
  | _ :: _, [], h => h.elim
theorem depAll {α : Type} [d : PyD α] : ∀ xs : List α, PyData.depthAll (xs.map d.toD) ≤ d.dep
  | [] => by simp [PyData.depthAll]
  | x :: xs => by
    have h1 := d.depth x
    have h2 := depAll xs
    rw [List.map_cons, PyData.depthAll]
    omega
theorem eqAll {α : Type} [q : PyQ α] : ∀ xs ys : List α, PyData.eqvAll (xs.map q.toD) (ys.map q.toD) = true ↔ xs = ys
  | [], [] => by simp [PyData.eqvAll]
  | [], y :: ys => by simp [PyData.eqvAll]
  | x :: xs, [] => by simp [PyData.eqvAll]
  | x :: xs, y :: ys => by
    rw [List.map_cons, List.map_cons, PyData.eqvAll, Bool.and_eq_true, q.eq, eqAll xs ys]
    exact ⟨fun h => by rw [h.1, h.2], fun h => List.cons.inj h⟩
instance : PyQ Int where
  toD := .int
  dp := fun h => ⟨by rw [show _ = V.int _ from h]; exact .int _, by simp [PyData.canLay0]⟩
  dep := 0
  depth := fun _ => by simp [PyData.depth]
  eq := fun x y => by rw [PyData.eqv]; exact beq_iff_eq
  nn := fun _ => ⟨by simp [PyData.eqv], by simp [PyData.eqv]⟩
instance : PyQ Bool where
  toD := .bool
  dp := fun h => ⟨by rw [show _ = V.bl _ from h]; exact .bl _, by simp [PyData.canLay0]⟩
  dep := 0
  depth := fun _ => by simp [PyData.depth]
  eq := fun x y => by rw [PyData.eqv]; exact beq_iff_eq
  nn := fun _ => ⟨by simp [PyData.eqv], by simp [PyData.eqv]⟩
instance : PyQ Str where
  toD := .str
  dp := fun h => ⟨by rw [show _ = V.str _ from h.1]; exact .str _, by simp only [PyData.canLay0]; exact h.2⟩
  dep := 0
  depth := fun _ => by simp [PyData.depth]
  eq := fun x y => by rw [PyData.eqv]; exact beq_iff_eq
  nn := fun _ => ⟨by simp [PyData.eqv], by simp [PyData.eqv]⟩
instance {α : Type} [q : PyQ α] : PyQ (List α) where
  toD := fun xs => .list (xs.map q.toD)
  dp := fun {K H v x} h => by
    obtain ⟨a, vs, h1, h2, h3⟩ := h
    obtain ⟨d1, d2⟩ := dpAll h3
    exact ⟨by rw [h1]; exact .lst (SqL.of h2) d1, by simp only [PyData.canLay0]; exact d2⟩
  dep := q.dep + 1
  depth := fun xs => by
    have h := depAll xs
    simp only [PyData.depth]
    omega
  eq := fun x y => by rw [PyData.eqv, eqAll]
  nn := fun _ => ⟨by simp [PyData.eqv], by simp [PyData.eqv]⟩
instance {α : Type} [q : PyQ α] : PyQ (Tu α) where
  toD := fun xs => .tuple (xs.l.map q.toD)
  dp := fun {K H v x} h => by
    obtain ⟨a, vs, h1, h2, h3⟩ := h
    obtain ⟨d1, d2⟩ := dpAll h3
    exact ⟨by rw [h1]; exact .tup h2 d1, by simp only [PyData.canLay0]; exact d2⟩
  dep := q.dep + 1
  depth := fun xs => by
    have h := depAll xs.l
    simp only [PyData.depth]
    omega
  eq := fun x y => by
    rw [PyData.eqv, eqAll]
    exact ⟨fun h => by cases x; cases y; exact congrArg Tu.mk h, fun h => by rw [h]⟩
  nn := fun _ => ⟨by simp [PyData.eqv], by simp [PyData.eqv]⟩
instance {α β : Type} [q : PyQ α] [u : PyQ β] : PyQ (α × β) where
  toD := fun t => .tuple [q.toD t.1, u.toD t.2]
  dp := fun {K H v x} h => by
    obtain ⟨a, w, z, h1, h2, h3, h4⟩ := h
    obtain ⟨d1, d2⟩ := PyD.dp h3
    obtain ⟨e1, e2⟩ := PyD.dp h4
    exact ⟨by rw [h1]; exact .tup h2 (.cons d1 (.cons e1 .nil)), by simp only [PyData.canLay0, PyData.canLayAll0, d2, e2, Bool.and_true]⟩
  dep := max q.dep u.dep + 1
  depth := fun t => by
    have h := q.depth t.1
    have h2 := u.depth t.2
    simp only [PyData.depth, PyData.depthAll]
    omega
  eq := fun x y => by
    rw [PyData.eqv, PyData.eqvAll, PyData.eqvAll, PyData.eqvAll, Bool.and_true, Bool.and_eq_true, q.eq, u.eq]
    exact ⟨fun h => Prod.ext h.1 h.2, fun h => by rw [h]; exact ⟨rfl, rfl⟩⟩
  nn := fun _ => ⟨by simp [PyData.eqv], by simp [PyData.eqv]⟩
instance {α : Type} [q : PyQ α] : PyQ (T1 α) where
  toD := fun t => .tuple [q.toD t.a]
  dp := fun {K H v x} h => by
    obtain ⟨a, w, h1, h2, h3⟩ := h
    obtain ⟨d1, d2⟩ := PyD.dp h3
    exact ⟨by rw [h1]; exact .tup h2 (.cons d1 .nil), by simp only [PyData.canLay0, PyData.canLayAll0, d2, Bool.and_true]⟩
  dep := q.dep + 1
  depth := fun t => by
    have h := q.depth t.a
    simp only [PyData.depth, PyData.depthAll]
    omega
  eq := fun x y => by
    rw [PyData.eqv, PyData.eqvAll, PyData.eqvAll, Bool.and_true, q.eq]
    exact ⟨fun h => by cases x; cases y; exact congrArg T1.mk h, fun h => by rw [h]⟩
  nn := fun _ => ⟨by simp [PyData.eqv], by simp [PyData.eqv]⟩
instance {α β γ : Type} [q : PyQ α] [u : PyQ β] [w : PyQ γ] : PyQ (T3 α β γ) where
  toD := fun t => .tuple [q.toD t.a, u.toD t.b, w.toD t.c]
  dp := fun {K H v x} h => by
    obtain ⟨a, w, z, y, h1, h2, h3, h4, h5⟩ := h
    obtain ⟨d1, d2⟩ := PyD.dp h3
    obtain ⟨e1, e2⟩ := PyD.dp h4
    obtain ⟨f1, f2⟩ := PyD.dp h5
    exact ⟨by rw [h1]; exact .tup h2 (.cons d1 (.cons e1 (.cons f1 .nil))), by simp only [PyData.canLay0, PyData.canLayAll0, d2, e2, f2, Bool.and_true]⟩
  dep := max (max q.dep u.dep) w.dep + 1
  depth := fun t => by
    have h := q.depth t.a
    have h2 := u.depth t.b
    have h3 := w.depth t.c
    simp only [PyData.depth, PyData.depthAll]
    omega
  eq := fun x y => by
    rw [PyData.eqv, PyData.eqvAll, PyData.eqvAll, PyData.eqvAll, PyData.eqvAll, Bool.and_true, Bool.and_eq_true, Bool.and_eq_true, q.eq, u.eq, w.eq]
    refine ⟨fun h => ?_, fun h => by rw [h]; exact ⟨rfl, rfl, rfl⟩⟩
    cases x; cases y
    simp only [T3.mk.injEq]
    exact h
  nn := fun _ => ⟨by simp [PyData.eqv], by simp [PyData.eqv]⟩
/-- nothing, or a thing -/
def optD {α : Type} [q : PyQ α] : Option α → PyData
  | none => .none
  | some a => q.toD a
theorem optD_eq {α : Type} [q : PyQ α] (x y : Option α) : PyData.eqv (optD x) (optD y) = true ↔ x = y := by
  cases x with
  | none =>
    cases y with
    | none => simp [optD, PyData.eqv]
    | some b => rw [show optD (some b) = q.toD b from rfl, show optD (none : Option α) = .none from rfl, (q.nn b).1]; simp
  | some a =>
    cases y with
    | none => rw [show optD (some a) = q.toD a from rfl, show optD (none : Option α) = .none from rfl, (q.nn a).2]; simp
    | some b =>
      rw [show optD (some a) = q.toD a from rfl, show optD (some b) = q.toD b from rfl, q.eq]
      simp
instance {α : Type} [q : PyQ α] : PyD (Option α) where
  toD := optD
  dp := fun {K H v x} h => by
    cases x with
    | none => exact ⟨by rw [show v = V.non from h]; exact .non, by simp [optD, PyData.canLay0]⟩
    | some a => exact PyD.dp (α := α) h
  dep := q.dep
  depth := fun x => by
    cases x with
    | none => simp [optD, PyData.depth]
    | some a => exact q.depth a
section
variable {X : Cx} {H0 : Hp} {qs : List Addr} {md ma mb : Bool} {Γ : List Sl} {a b e : Expr} {es : List Expr} {pos p : Pos} {α β γ : Type}
def pyEq [PyD α] (x y : α) : Bool := PyData.eqv (PyD.toD x) (PyD.toD y)
theorem opf_eqD [d : PyD α] (hd : d.dep ≤ 64) : OpF X (rEqD X.K) (fun x y : α => R.ok (pyEq x y)) := fun H x y v w Q B hx hy k => by
  obtain ⟨d1, d2⟩ := PyD.dp hx
  obtain ⟨e1, e2⟩ := PyD.dp hy
  have sh : ∀ z : α, (PyD.toD z).canLay0 = true → SeqAt.shaped (PyD.toD z) = true := fun z h => by
    unfold SeqAt.shaped
    rw [h, decide_eq_true (Nat.le_trans (d.depth z) hd)] <;> rfl
  exact ⟨_, _, d1, e1, sh _ d2, sh _ e2, k _ (fun _ => rfl) H (Same.refl H)⟩
theorem opf_neD [d : PyD α] (hd : d.dep ≤ 64) : OpF X (rNeD X.K) (fun x y : α => R.ok (!pyEq x y)) := fun H x y v w Q B hx hy k => by
  obtain ⟨d1, d2⟩ := PyD.dp hx
  obtain ⟨e1, e2⟩ := PyD.dp hy
  have sh : ∀ z : α, (PyD.toD z).canLay0 = true → SeqAt.shaped (PyD.toD z) = true := fun z h => by
    unfold SeqAt.shaped
    rw [h, decide_eq_true (Nat.le_trans (d.depth z) hd)] <;> rfl
  exact ⟨_, _, d1, e1, sh _ d2, sh _ e2, k _ (fun _ => rfl) H (Same.refl H)⟩
variable {mB : R Bool}
theorem ev_eq [d : PyD α] {m1 m2 : R α} (hu : X.A.units + 64 < cLine) (da : Ev X H0 qs ma Γ a m1) (db : Ev X H0 qs mb Γ b m2) (he : mB = m1.bind fun x => m2.bind fun y => .ok (pyEq x y) := by rfl) (hd : d.dep ≤ 64 := by decide) : Ev X H0 qs md Γ (.Compare a [.Eq] [b] pos) mB := ev_cmp (op_eqD hu) (opf_eqD hd) da db he (nomark _)
theorem ev_ne [d : PyD α] {m1 m2 : R α} (hu : X.A.units + 64 < cLine) (da : Ev X H0 qs ma Γ a m1) (db : Ev X H0 qs mb Γ b m2) (he : mB = m1.bind fun x => m2.bind fun y => .ok (!pyEq x y) := by rfl) (hd : d.dep ≤ 64 := by decide) : Ev X H0 qs md Γ (.Compare a [.NotEq] [b] pos) mB := ev_cmp (op_neD hu) (opf_neD hd) da db he (nomark _)
theorem et_eq [d : PyD α] {m1 m2 : R α} (hu : X.A.units + 64 < cLine) (da : Ev X H0 qs ma Γ a m1) (db : Ev X H0 qs mb Γ b m2) (he : mB = m1.bind fun x => m2.bind fun y => .ok (pyEq x y) := by rfl) (hd : d.dep ≤ 64 := by decide) : EvT X H0 qs Γ (.Compare a [.Eq] [b] pos) mB := et_cmp (op_eqD hu) (opf_eqD hd) da db he (nomark _)
theorem et_ne [d : PyD α] {m1 m2 : R α} (hu : X.A.units + 64 < cLine) (da : Ev X H0 qs ma Γ a m1) (db : Ev X H0 qs mb Γ b m2) (he : mB = m1.bind fun x => m2.bind fun y => .ok (!pyEq x y) := by rfl) (hd : d.dep ≤ 64 := by decide) : EvT X H0 qs Γ (.Compare a [.NotEq] [b] pos) mB := et_cmp (op_neD hu) (opf_neD hd) da db he (nomark _)
theorem pyEq_q [q : PyQ α] (x y : α) : pyEq x y = true ↔ x = y := q.eq x y
theorem pyEq_o [q : PyQ α] (x y : Option α) : pyEq x y = true ↔ x = y := optD_eq x y

/-! ### in -/
theorem inV_ints (x : Int) : ∀ ns : List Int, inV (.int x) (ns.map V.int) = decide (x ∈ ns)
  | [] => rfl
  | n :: ns => by
    have ih := inV_ints x ns
    unfold inV at ih ⊢
    rw [List.map_cons, List.any_cons, ih]
    have e : eqV (.int n) (.int x) = (n == x) := rfl
    rw [e, Bool.eq_iff_iff, Bool.or_eq_true, decide_eq_true_eq, decide_eq_true_eq, List.mem_cons, beq_iff_eq]
    exact ⟨fun h => h.imp Eq.symm id, fun h => h.imp Eq.symm id⟩
theorem flat_ints : ∀ ns : List Int, (ns.map V.int).all flatV = true
  | [] => rfl
  | n :: ns => by rw [List.map_cons, List.all_cons, flat_ints ns]; rfl
theorem opf_inL : OpF X (rIn X.K false) (fun (x : Int) (xs : List Int) => R.ok (decide (x ∈ xs))) := fun H x y v w Q B hx hy k => by
  obtain ⟨q, ws, rfl, h2, h3⟩ := hy
  rw [repI h3] at h2
  have hv : v = .int x := hx
  subst hv
  exact ⟨q, _, rfl, .inl (SqL.of h2), rfl, flat_ints y, by rw [inV_ints]; exact k _ (fun _ => rfl) H (Same.refl H)⟩
theorem opf_niL : OpF X (rIn X.K true) (fun (x : Int) (xs : List Int) => R.ok (!decide (x ∈ xs))) := fun H x y v w Q B hx hy k => by
  obtain ⟨q, ws, rfl, h2, h3⟩ := hy
  rw [repI h3] at h2
  have hv : v = .int x := hx
  subst hv
  exact ⟨q, _, rfl, .inl (SqL.of h2), rfl, flat_ints y, by rw [inV_ints]; exact k _ (fun _ => rfl) H (Same.refl H)⟩
theorem opf_inP : OpF X (rIn X.K false) (fun (x : Int) (t : Int × Int) => R.ok (decide (x = t.1 ∨ x = t.2))) := fun H x y v w Q B hx hy k => by
  obtain ⟨q, w1, w2, rfl, h2, h3, h4⟩ := hy
  have hv : v = .int x := hx
  have e1 : w1 = .int y.1 := h3
  have e2 : w2 = .int y.2 := h4
  subst hv e1 e2
  refine ⟨q, _, rfl, .inr h2, rfl, rfl, ?_⟩
  have e := inV_ints x [y.1, y.2]
  rw [show ([y.1, y.2].map V.int) = [.int y.1, .int y.2] from rfl] at e
  rw [e]
  have e3 : decide (x ∈ [y.1, y.2]) = decide (x = y.1 ∨ x = y.2) := by simp
  show Q (.bl (decide (x ∈ [y.1, y.2]))) H
  rw [e3]
  exact k _ (fun _ => rfl) H (Same.refl H)
variable {m1 : R Int} {m2 : R (List Int)} {mp : R (Int × Int)}
abbrev NoMark (op : CmpOp) (b : Expr) : Prop := behindInMarks op b = false
theorem ev_inL (da : Ev X H0 qs ma Γ a m1) (db : Ev X H0 qs mb Γ b m2) (he : mB = m1.bind fun x => m2.bind fun y => .ok (decide (x ∈ y)) := by rfl) (hn : NoMark .In b := by rfl) : Ev X H0 qs md Γ (.Compare a [.In] [b] pos) mB := ev_cmp op_in_seq opf_inL da db he hn
theorem ev_niL (da : Ev X H0 qs ma Γ a m1) (db : Ev X H0 qs mb Γ b m2) (he : mB = m1.bind fun x => m2.bind fun y => .ok (!decide (x ∈ y)) := by rfl) (hn : NoMark .NotIn b := by rfl) : Ev X H0 qs md Γ (.Compare a [.NotIn] [b] pos) mB := ev_cmp op_notIn_seq opf_niL da db he hn
theorem et_inL (da : Ev X H0 qs ma Γ a m1) (db : Ev X H0 qs mb Γ b m2) (he : mB = m1.bind fun x => m2.bind fun y => .ok (decide (x ∈ y)) := by rfl) (hn : NoMark .In b := by rfl) : EvT X H0 qs Γ (.Compare a [.In] [b] pos) mB := et_cmp op_in_seq opf_inL da db he hn
theorem et_niL (da : Ev X H0 qs ma Γ a m1) (db : Ev X H0 qs mb Γ b m2) (he : mB = m1.bind fun x => m2.bind fun y => .ok (!decide (x ∈ y)) := by rfl) (hn : NoMark .NotIn b := by rfl) : EvT X H0 qs Γ (.Compare a [.NotIn] [b] pos) mB := et_cmp op_notIn_seq opf_niL da db he hn
theorem et_inP (da : Ev X H0 qs ma Γ a m1) (db : Ev X H0 qs mb Γ b mp) (he : mB = m1.bind fun x => mp.bind fun t => .ok (decide (x = t.1 ∨ x = t.2)) := by rfl) (hn : NoMark .In b := by rfl) : EvT X H0 qs Γ (.Compare a [.In] [b] pos) mB := et_cmp op_in_seq opf_inP da db he hn

/-! ### kinds -/
class PyK (α : Type) [PyT α] where
  ty : String
  is : ∀ {K : PySem.W.Frag} {H : Hp} {v : V} {x : α}, rep K H v x → TyX K H v (.type ty)
  nn : ∀ {K : PySem.W.Frag} {H : Hp} {v : V} {x : α}, rep K H v x → v ≠ .non
theorem ty_tup {K : PySem.W.Frag} {H : Hp} {p : Addr} {xs : List V} (h : SqT K H p xs) : TyX K H (.ref p) (.type "tuple") := by
  rcases h with (h | ⟨o, h⟩) | ⟨o, its, n, h1, h2, _⟩
  · exact .base (.tup h)
  · exact .fTuple h
  · exact .kTuple h1 h2
instance : PyK Int where
  ty := "int"
  is := fun h => by rw [show _ = V.int _ from h]; exact .base (.int _)
  nn := fun h => by rw [show _ = V.int _ from h]; exact fun z => by cases z
instance : PyK Bool where
  ty := "bool"
  is := fun h => by rw [show _ = V.bl _ from h]; exact .base (.bl _)
  nn := fun h => by rw [show _ = V.bl _ from h]; exact fun z => by cases z
instance : PyK Str where
  ty := "str"
  is := fun h => by rw [show _ = V.str _ from h.1]; exact .base (.str _)
  nn := fun h => by rw [show _ = V.str _ from h.1]; exact fun z => by cases z
instance [PyT α] : PyK (List α) where
  ty := "list"
  is := fun ⟨a, vs, h1, h2, _⟩ => by rw [h1]; exact .base (.lst h2)
  nn := fun ⟨a, vs, h1, h2, _⟩ => by rw [h1]; exact fun z => by cases z
instance [PyT α] : PyK (Tu α) where
  ty := "tuple"
  is := fun ⟨a, vs, h1, h2, _⟩ => by rw [h1]; exact ty_tup h2
  nn := fun ⟨a, vs, h1, h2, _⟩ => by rw [h1]; exact fun z => by cases z
instance [PyT α] [PyT β] : PyK (α × β) where
  ty := "tuple"
  is := fun ⟨a, _, _, h1, h2, _⟩ => by rw [h1]; exact ty_tup h2
  nn := fun ⟨a, _, _, h1, h2, _⟩ => by rw [h1]; exact fun z => by cases z
instance [PyT α] : PyK (T1 α) where
  ty := "tuple"
  is := fun ⟨a, _, h1, h2, _⟩ => by rw [h1]; exact ty_tup h2
  nn := fun ⟨a, _, h1, h2, _⟩ => by rw [h1]; exact fun z => by cases z
instance [PyT α] [PyT β] [PyT γ] : PyK (T3 α β γ) where
  ty := "tuple"
  is := fun ⟨a, _, _, _, h1, h2, _⟩ => by rw [h1]; exact ty_tup h2
  nn := fun ⟨a, _, _, _, h1, h2, _⟩ => by rw [h1]; exact fun z => by cases z
/-- isinstance(x, T), T a built-in class -/
theorem ev_isi [PyT α] [k : PyK α] {m1 : R α} {T : Str} {n : String} {c : Bool} {p1 pT : Pos} (g : Gn X "isinstance") (hm : X.mg "isinstance" = none) (gT : Gn X T) (hmT : X.mg T = none) (hv : bootBuiltins T = some (.type n)) (hk : kitB k.ty n = some c) (d : Ev X H0 qs ma Γ a m1)
    (he : mB = m1.bind fun _ => .ok c := by rfl) (hs : ∀ env, starEach [a, .Name T pT] env = (false, eval a env) :: starEach [.Name T pT] env := by intro _; rfl) (hn : T ≠ "__name__" := by decide +kernel) : Ev X H0 qs md Γ (.Call (.Name "isinstance" p1) [a, .Name T pT] [] pos) mB := fun σ H at_ E pe Q q => by
  subst he
  have hT : PE X (.Name T pT) (tC (.ty n)) := pe_bltn gT.gl hmT hv rfl hn gT.hd
  refine wE_of (pe_callB call_isi g.gl hm (by decide +kernel) (pa_cons pe_w (pa_cons hT pa_nil (by rfl)) (hs X.env)) (by decide) g.hd (hs X.env) (by rfl)) (d σ H at_ E pe _ ((PX.bind q).mono (fun x q2 v H1 s1 r1 => ?_) fun _ z => z))
  exact ⟨v, .ty n, .type k.ty, .type n, c, rfl, .ty n, k.is (av_out r1), kit_ty hk, (show ∀ v H', Same H H' → v = .bl c → Q v H' from q2) _ _ s1 rfl⟩
/-- is None of what may be none -/
theorem ev_isN [PyT α] [k : PyK α] {m1 : R (Option α)} {j : Nat} {pc : Pos} (d : Ev X H0 qs ma Γ a m1) (he : mB = m1.bind fun x => .ok x.isNone := by rfl) : Ev X H0 qs md Γ (.Compare a [.Is] [.Constant .none j pc] pos) mB := fun σ H at_ E pe Q q => by
  subst he
  refine wE_of (pe_cmp (pc_isN pe_w)) (d σ H at_ E pe _ ((PX.bind q).mono (fun x q2 v H1 s1 r1 => ?_) fun _ z => z))
  refine (show ∀ v H', Same H H' → v = .bl x.isNone → Q v H' from q2) _ _ s1 ?_
  cases x with
  | none => rw [show v = V.non from r1] <;> rfl
  | some y =>
    have h : v ≠ .non := k.nn (show rep X.K _ v y from r1)
    rw [decide_eq_false h] <;> rfl
theorem et_isN [PyT α] [k : PyK α] {m1 : R (Option α)} {j : Nat} {pc : Pos} (d : Ev X H0 qs ma Γ a m1) (he : mB = m1.bind fun x => .ok x.isNone := by rfl) : EvT X H0 qs Γ (.Compare a [.Is] [.Constant .none j pc] pos) mB := fun σ H at_ E pe Q q => by
  subst he
  refine wT_of (pt_cmp (pc_isN pe_w)) (d σ H at_ E pe _ ((PX.bind q).mono (fun x q2 v H1 s1 r1 => ?_) fun _ z => z))
  refine ⟨_, rfl, ?_⟩
  have e : decide (v = V.non) = x.isNone := by
    cases x with
    | none => rw [show v = V.non from r1] <;> rfl
    | some y =>
      have h : v ≠ .non := k.nn (show rep X.K _ v y from r1)
      rw [decide_eq_false h] <;> rfl
  rw [e]
  exact (show ∀ H', Same H H' → Q x.isNone H' from q2) _ s1

/-! ### calls of the text's own defs -/
/-- the promise: what is told isn't changed | is a new list -/
def spF (K : PySem.W.Frag) {τ ρ : Type} [PyA τ] [PyT ρ] (n : Nat) (f : τ → R ρ) : Sp := fun vs H Q E => ∃ (ps : List Addr) (x : τ), vs.length = n ∧ (∀ q ∈ ps, H q ≠ none) ∧ PyA.reps K (Fz H ps) vs x ∧
  PX (fun r => ∀ v H', Same H H' → rep K (Fz H' ps) v r → Q v H') (fun c => ∀ H', Same H H' → E (.ref (He.ga K c.nm)) none H') (f x)
def spO (K : PySem.W.Frag) {τ ρ : Type} [PyA τ] [PyT ρ] (n : Nat) (f : τ → R (List ρ)) : Sp := fun vs H Q E => ∃ (ps : List Addr) (x : τ), vs.length = n ∧ (∀ q ∈ ps, H q ≠ none) ∧ PyA.reps K (Fz H ps) vs x ∧
  PX (fun r => ∀ p vs H', Same H H' → H p = none → H' p = some (.lst vs) → RepL K (Fz H' (p :: ps)) vs r → Q (.ref p) H') (fun c => ∀ H', Same H H' → E (.ref (He.ga K c.nm)) none H') (f x)
/-- a def of the text that keeps its promise -/
structure Dn (X : Cx) (x : Str) (sp : Sp) (n : Nat) : Prop where
  ex : ∃ (k : Nat) (f : Addr) (fd : FuncData) (ps : List Str), FnOk X.prog X.w X.K X.mg X.base (L2.CX X.prog X.w) k f fd ps sp ∧ Room k X.A ∧ X.mg x = some (.ref f) ∧ PySem.W.keepIn X.K (.ref f) = true ∧ Binds X.K fd ps [] ∧ ps.length = n
theorem call_any {x : Str} {sp : Sp} {n : Nat} {t : TA} {E : XK} {σ : L2.St} {H : Hp} {Q : VK} {pX : Pos} (D : Dn X x sp n) (g : Gn X x) (pe : Pas X σ E) (hs : ∀ env, starEach (a :: es) env = (false, eval a env) :: starEach es env) (hp : ∀ env, (backTo pos (starEach es env)).any (·.1) = false)
    (h : wA X (a :: es) σ H fun vs H1 => sp vs H1 Q E) : wE X (.Call (.Name x pX) (a :: es) [] pos) σ H Q := by
  obtain ⟨k, f, fd, ps, F, hr, hm, hk, hb, _⟩ := D.ex
  intro pins s I
  refine wpAny_Call_Name_kw (ld_glob I g.gl hm ?_ g.hd)
  refine PySem.W.callWith_K (h₀ := X.base) I.ok.mod.kin hk (thn (h pos pins s I) fun us s1 ⟨vs, H1, I1, r, q⟩ => ⟨I1.kIn, ?_⟩) (hs X.env) (hp X.env)
  exact run_fnS (E := fun _ => E) F hr hb pe I1 r q
theorem ev_call {τ ρ : Type} [PyA τ] [PyT ρ] {f : τ → R ρ} {x : Str} {n : Nat} {m1 : R τ} {m : R ρ} {pX : Pos} (D : Dn X x (spF X.K n f) n) (g : Gn X x) (d : EvA X H0 qs md Γ (a :: es) m1) (hn : (a :: es).length = n) (he : m = m1.bind f := by rfl)
    (hs : ∀ env, starEach (a :: es) env = (false, eval a env) :: starEach es env := by intro _; rfl) (hp : ∀ env, (backTo pos (starEach es env)).any (·.1) = false := by intro _; rfl) : Ev X H0 qs md Γ (.Call (.Name x pX) (a :: es) [] pos) m := fun σ H at_ E pe Q q => by
  subst he
  refine call_any (t := fun _ _ _ => True) D g pe hs hp (d σ H at_ E pe _ ((PX.bind q).mono (fun y q2 vs H1 s1 el r1 => ?_) fun _ z => z))
  exact ⟨av md Γ σ qs, y, by rw [el, hn], av_there (X := X) (at_.grow s1), r1, q2.mono (fun z k v H' s r => k v H' (s1.trans s) r) fun c z => z.grow s1⟩
theorem ev_callO {τ ρ : Type} [PyA τ] [PyT ρ] {f : τ → R (List ρ)} {x : Str} {n : Nat} {m1 : R τ} {m : R (List ρ)} {pX : Pos} (D : Dn X x (spO X.K n f) n) (g : Gn X x) (d : EvA X H0 qs md Γ (a :: es) m1) (hn : (a :: es).length = n) (he : m = m1.bind f := by rfl)
    (hs : ∀ env, starEach (a :: es) env = (false, eval a env) :: starEach es env := by intro _; rfl) (hp : ∀ env, (backTo pos (starEach es env)).any (·.1) = false := by intro _; rfl) : EvO X H0 qs md Γ (.Call (.Name x pX) (a :: es) [] pos) m := fun σ H at_ E pe Q q => by
  subst he
  refine call_any (t := fun _ _ _ => True) D g pe hs hp (d σ H at_ E pe _ ((PX.bind q).mono (fun y q2 vs H1 s1 el r1 => ?_) fun _ z => z))
  exact ⟨av md Γ σ qs, y, by rw [el, hn], av_there (X := X) (at_.grow s1), r1, q2.mono (fun z k p ws H' s n0 l r => k p ws H' (s1.trans s) (s1.free n0) l r) fun c z => z.grow s1⟩
end
end Wk
set_option Elab.async false
set_option linter.all false
set_option maxRecDepth 100000
/-! Wk6: what is walked; comprehensions. -/
namespace Wk
open PySem PySem.Spec PyProof.Rows L2

def wI (X : Cx) (tg it : Expr) : TI := fun σ H R => ∀ (pins : List (Addr × Obj)) (s : Shared), Inv X pins σ H s → wpAny (model X.prog X.w) X.A (eval it X.env) (fun v s1 => wpAny (model X.prog X.w) X.A (pyIter v) (PIE X pins σ tg R) X.xe s1) X.xe s
theorem pi_w {X : Cx} {tg it : Expr} : PI X tg it (wI X tg it) := ⟨fun pins s _ _ _ I h => h pins s I⟩
theorem wI_of {X : Cx} {tg it : Expr} {wi : TI} {σ : L2.St} {H : Hp} {R : It → Hp → Prop} (h : PI X tg it wi) (q : wi σ H R) : wI X tg it σ H R := fun pins s I => h.run pins s σ H R I q
/-- a walk of these things, while what F tells stands -/
structure WalkT (K : PySem.W.Frag) {α : Type} [PyT α] (J : It) (xs : List α) (F : Hp) : Prop where
  goes : ∀ i H', i < xs.length → Same F H' → J.go i H'
  stops : ∀ H', Same F H' → J.stop xs.length H'
  yields : ∀ i H' v H'', i < xs.length → Same F H' → J.yld i H' v H'' → Same H' H'' ∧ ∃ x, xs[i]? = some x ∧ ∀ ps, Same F (Fz H' ps) → (∀ q ∈ ps, H' q ≠ none) → rep K (Fz H'' ps) v x
def EvI (X : Cx) (H0 : Hp) (qs : List Addr) (md : Bool) (Γ : List Sl) {α : Type} [PyT α] (tg it : Expr) (m : R (List α)) : Prop :=
  ∀ σ H, At X.K H0 qs Γ σ H → ∀ E : XK, Pas X σ E → ∀ Rk : It → Hp → Prop, PX (fun xs => ∀ J H1, Same H H1 → WalkT X.K J xs (Fz H1 (av md Γ σ qs)) → Rk J H1) (XW X E H) m → wI X tg it σ H Rk
section
variable {X : Cx} {H0 : Hp} {qs : List Addr} {md ma mb : Bool} {Γ : List Sl} {a b c tg : Expr} {pos p tpos : Pos} {α β γ : Type}
theorem walkL {K : PySem.W.Frag} [PyT α] {q : Addr} {vs : List V} {xs : List α} {F : Hp} (h : SqL K F q vs) (r : RepL K F vs xs) : WalkT K (Itl K q) xs F where
  goes := fun i H' hi s => by
    obtain ⟨v, hv, _⟩ := r.get' (i := i) (x := xs[i]) (List.getElem?_eq_getElem hi)
    exact ⟨vs, v, sqL_mono s h, hv⟩
  stops := fun H' s => ⟨vs, sqL_mono s h, by rw [r.len]; exact Nat.le_refl _⟩
  yields := fun i H' v H'' hi s ⟨e, y⟩ => by
    subst e
    obtain ⟨x, k1, k2⟩ := r.get (y vs (sqL_mono s h))
    exact ⟨Same.refl _, x, k1, fun ps s2 _ => PyT.mono s2 k2⟩
theorem walkTu {K : PySem.W.Frag} [PyT α] {q : Addr} {vs : List V} {xs : List α} {F : Hp} (h : SqT K F q vs) (r : RepL K F vs xs) : WalkT K (Itt K q) xs F where
  goes := fun i H' hi s => by
    obtain ⟨v, hv, _⟩ := r.get' (i := i) (x := xs[i]) (List.getElem?_eq_getElem hi)
    exact ⟨vs, v, sqT_mono s h, hv⟩
  stops := fun H' s => ⟨vs, sqT_mono s h, by rw [r.len]; exact Nat.le_refl _⟩
  yields := fun i H' v H'' hi s ⟨e, y⟩ => by
    subst e
    obtain ⟨x, k1, k2⟩ := r.get (y vs (sqT_mono s h))
    exact ⟨Same.refl _, x, k1, fun ps s2 _ => PyT.mono s2 k2⟩
theorem ei_list [PyT α] {m : R (List α)} (d : Ev X H0 qs md Γ a m) : EvI X H0 qs md Γ tg a m := fun σ H at_ E pe Rk q => by
  refine wI_of (pi_list pe_w) (d σ H at_ E pe _ (q.mono (fun xs k v H1 s1 r1 => ?_) fun _ z => z))
  obtain ⟨q', vs, rfl, h2, h3⟩ := r1
  exact ⟨q', rfl, ⟨vs, SqL.of (Fz.out _ _ h2)⟩, k _ H1 s1 (walkL (SqL.of h2) h3)⟩
theorem ei_tup [PyT α] {m1 : R (Tu α)} {m : R (List α)} (d : Ev X H0 qs md Γ a m1) (he : m = m1.bind fun t => .ok t.l := by rfl) : EvI X H0 qs md Γ tg a m := fun σ H at_ E pe Rk q => by
  subst he
  refine wI_of (pi_tup pe_w) (d σ H at_ E pe _ ((PX.bind q).mono (fun xs k v H1 s1 r1 => ?_) fun _ z => z))
  obtain ⟨q', vs, rfl, h2, h3⟩ := r1
  exact ⟨q', rfl, ⟨vs, sqT_mono Fz.out h2⟩, (show ∀ J H1, Same H H1 → WalkT X.K J xs.l (Fz H1 (av md Γ σ qs)) → Rk J H1 from k) _ H1 s1 (walkTu h2 h3)⟩
theorem ei_scr {m1 : R Scr} {m : R (List Int)} (d : Ev X H0 qs md Γ a m1) (he : m = m1.bind fun t => .ok t.l := by rfl) : EvI X H0 qs md Γ tg a m := fun σ H at_ E pe Rk q => by
  subst he
  refine wI_of (pi_list pe_w) (d σ H at_ E pe _ ((PX.bind q).mono (fun xs k v H1 s1 r1 => ?_) fun _ z => z))
  obtain ⟨q', rfl, h2⟩ := r1
  exact ⟨q', rfl, ⟨_, sqL_mono Fz.out h2⟩, (show ∀ J H1, Same H H1 → WalkT X.K J xs.l (Fz H1 (av md Γ σ qs)) → Rk J H1 from k) _ H1 s1 (walkL h2 (iRep _))⟩
/-- ranges -/
def rangeL (lo hi : Int) : List Int := (List.range (hi - lo).toNat).map fun i : Nat => lo + (i : Int)
theorem rangeL_len (lo hi : Int) : (rangeL lo hi).length = (hi - lo).toNat := by unfold rangeL; rw [List.length_map, List.length_range]
theorem rangeL_get {lo hi : Int} {i : Nat} (h : i < (hi - lo).toNat) : (rangeL lo hi)[i]? = some (lo + (i : Int)) := by
  unfold rangeL
  rw [List.getElem?_map, List.getElem?_range h] <;> rfl
theorem walkR {K : PySem.W.Frag} {lo hi : Int} {n : Nat} {F : Hp} (hn : n = (hi - lo).toNat) : WalkT K (Itr lo n) (rangeL lo hi) F where
  goes := fun i H' h s => by rw [rangeL_len] at h; show i < n; omega
  stops := fun H' s => by rw [rangeL_len]; show n ≤ _; omega
  yields := fun i H' v H'' h s ⟨e, y⟩ => by
    rw [rangeL_len] at h
    subst e y
    exact ⟨Same.refl _, _, rangeL_get h, fun ps _ _ => rfl⟩
/-- the ends of a range within what is walked -/
def rngR (lo hi : Int) : R (List Int) := R.chk (decide (-1000000000000000000 ≤ lo ∧ lo ≤ 1000000000000000000 ∧ -1000000000000000000 ≤ hi ∧ hi ≤ 1000000000000000000)) (rangeL lo hi)
theorem ei_range1 {m1 : R Int} {m : R (List Int)} (g : Gn X "range") (hm : X.mg "range" = none) (d : Ev X H0 qs ma Γ a m1) (he : m = m1.bind fun n => rngR 0 n := by rfl) (hs : St1 a := by intro _; rfl) : EvI X H0 qs md Γ tg (.Call (.Name "range" p) [a] [] pos) m := fun σ H at_ E pe Rk q => by
  subst he
  refine wI_of (pi_range1 g.gl hm (pa_cons pe_w pa_nil (hs X.env)) (hs X.env)) (d σ H at_ E pe _ ((PX.bind q).mono (fun n k v H1 s1 r1 => ?_) fun _ z => z))
  obtain ⟨c, k⟩ := PX.chk k
  have c' := of_decide_eq_true c
  have hv : v = .int n := r1
  subst hv
  exact ⟨n, rfl, by omega, by omega, k _ H1 s1 (walkR (by omega))⟩
theorem ei_range2 {m1 m2 : R Int} {m : R (List Int)} (g : Gn X "range") (hm : X.mg "range" = none) (d : Ev X H0 qs ma Γ a m1) (d2 : Ev X H0 qs mb Γ b m2) (he : m = m1.bind fun l => m2.bind fun n => rngR l n := by rfl) (hs : St2 a b := by intro _; rfl) (hs2 : St1 b := by intro _; rfl) :
    EvI X H0 qs md Γ tg (.Call (.Name "range" p) [a, b] [] pos) m := fun σ H at_ E pe Rk q => by
  subst he
  refine wI_of (pi_range2 g.gl hm (pa_cons pe_w (pa_cons pe_w pa_nil (hs2 X.env)) (hs X.env)) (by rw [hs X.env, hs2 X.env]; rfl) (hs2 X.env)) (d σ H at_ E pe _ ((PX.bind q).mono (fun l k v H1 s1 r1 => ?_) fun _ z => z))
  refine d2 σ H1 (at_.grow s1) E pe _ ((PX.bind k).mono (fun n k2 w H2 s2 r2 => ?_) fun _ z => z.grow s1)
  obtain ⟨c, k⟩ := PX.chk k2
  have c' := of_decide_eq_true c
  have hv : v = .int l := r1
  have hw : w = .int n := r2
  subst hv hw
  exact ⟨l, n, rfl, ⟨by omega, by omega, by omega, by omega⟩, k _ H2 (s1.trans s2) (walkR rfl)⟩
/-- pairs of a place and a thing -/
def enumL {α : Type} (xs : List α) : List (Int × α) := xs.zipIdx.map fun t => ((t.2 : Int), t.1)
theorem enumL_len (xs : List α) : (enumL xs).length = xs.length := by unfold enumL; rw [List.length_map, List.length_zipIdx]
theorem enumL_get {xs : List α} {i : Nat} {x : α} (h : xs[i]? = some x) : (enumL xs)[i]? = some ((i : Int), x) := by
  unfold enumL
  rw [List.getElem?_map, List.getElem?_zipIdx, h]
  simp
theorem ei_enum [PyT α] {m1 : R (List α)} {m : R (List (Int × α))} {elts : List Expr} {kk : Nat} (g : Gn X "enumerate") (hm : X.mg "enumerate" = none) (d : Ev X H0 qs md Γ a m1) (he : m = m1.bind fun xs => .ok (enumL xs) := by rfl) (hs : St1 a := by intro _; rfl) :
    EvI X H0 qs md Γ (.Tuple elts kk tpos) (.Call (.Name "enumerate" p) [a] [] pos) m := fun σ H at_ E pe Rk q => by
  subst he
  refine wI_of (pi_enum g.gl hm (pa_cons pe_w pa_nil (hs X.env)) (hs X.env)) (d σ H at_ E pe _ ((PX.bind q).mono (fun xs k v H1 s1 r1 => ?_) fun _ z => z))
  obtain ⟨q', vs, rfl, h2, h3⟩ := r1
  refine ⟨q', vs, rfl, SqL.of (Fz.out _ _ h2), (show ∀ J H1, Same H H1 → WalkT X.K J (enumL xs) (Fz H1 (av md Γ σ qs)) → Rk J H1 from k) _ H1 s1 ⟨fun i H' hi s => ?_, fun H' s => ?_, fun i H' v H'' hi s y => ?_⟩⟩
  · rw [enumL_len] at hi
    obtain ⟨v, hv, _⟩ := h3.get' (i := i) (x := xs[i]) (List.getElem?_eq_getElem hi)
    exact ⟨vs, v, SqL.of (s _ _ h2), hv⟩
  · rw [enumL_len]
    exact ⟨vs, SqL.of (s _ _ h2), by rw [h3.len]; exact Nat.le_refl _⟩
  · obtain ⟨T, x, rfl, hT, rfl, hx⟩ := y
    obtain ⟨y, k1, k2⟩ := h3.get (hx vs (SqL.of (s _ _ h2)))
    refine ⟨same_new hT, _, enumL_get k1, fun ps s2 hps => ⟨T, _, _, rfl, SqT.of (Fz.some_iff.mpr ⟨fun z => hps T z hT, upd_same⟩), rfl, PyT.mono (fz_new' hT) (PyT.mono s2 k2)⟩⟩
theorem ei_zip [PyT α] [PyT β] {m1 : R (List α)} {m2 : R (List β)} {m : R (List (α × β))} {elts : List Expr} {kk : Nat} (g : Gn X "zip") (hm : X.mg "zip" = none) (d : Ev X H0 qs md Γ a m1) (d2 : Ev X H0 qs md Γ b m2) (he : m = m1.bind fun xs => m2.bind fun ys => .ok (xs.zip ys) := by rfl)
    (hs : St2 a b := by intro _; rfl) (hs2 : St1 b := by intro _; rfl) (hp : ∀ env, (backTo pos (starEach [b] env)).any (·.1) = false := by intro _; rfl) : EvI X H0 qs md Γ (.Tuple elts kk tpos) (.Call (.Name "zip" p) [a, b] [] pos) m := fun σ H at_ E pe Rk q => by
  subst he
  refine wI_of (pi_zip g.gl hm (pa_cons pe_w (pa_cons pe_w pa_nil (hs2 X.env)) (hs X.env)) (hs X.env) (hp X.env)) (d σ H at_ E pe _ ((PX.bind q).mono (fun xs k v H1 s1 r1 => ?_) fun _ z => z))
  refine d2 σ H1 (at_.grow s1) E pe _ ((PX.bind k).mono (fun ys k2 w H2 s2 r2 => ?_) fun _ z => z.grow s1)
  obtain ⟨q', vs, rfl, h2, h3⟩ := PyT.mono (av_same (qs := qs) (Γ := Γ) (σ := σ) (md := md) s2) r1
  obtain ⟨q2, ws, rfl, l2, l3⟩ := r2
  refine ⟨q', q2, vs, ws, rfl, SqL.of (Fz.out _ _ h2), SqL.of (Fz.out _ _ l2), (show ∀ J H1, Same H H1 → WalkT X.K J (xs.zip ys) (Fz H1 (av md Γ σ qs)) → Rk J H1 from k2) _ H2 (s1.trans s2) ⟨fun i H' hi s => ?_, fun H' s => ?_, fun i H' v H'' hi s y => ?_⟩⟩
  · rw [List.length_zip] at hi
    have hi1 : i < xs.length := by omega
    have hi2 : i < ys.length := by omega
    obtain ⟨v, hv, _⟩ := h3.get' (i := i) (x := xs[i]) (List.getElem?_eq_getElem hi1)
    obtain ⟨w, hw, _⟩ := l3.get' (i := i) (x := ys[i]) (List.getElem?_eq_getElem hi2)
    exact ⟨vs, ws, v, w, SqL.of (s _ _ h2), SqL.of (s _ _ l2), hv, hw⟩
  · rw [List.length_zip]
    exact ⟨vs, ws, SqL.of (s _ _ h2), SqL.of (s _ _ l2), by rw [h3.len, l3.len]; omega⟩
  · obtain ⟨T, x, y, rfl, hT, rfl, hx, hy⟩ := y
    obtain ⟨x', k1, k2⟩ := h3.get (hx vs (SqL.of (s _ _ h2)))
    obtain ⟨y', k3, k4⟩ := l3.get (hy ws (SqL.of (s _ _ l2)))
    refine ⟨same_new hT, (x', y'), ?_, fun ps s2 hps => ⟨T, _, _, rfl, SqT.of (Fz.some_iff.mpr ⟨fun z => hps T z hT, upd_same⟩), PyT.mono (fz_new' hT) (PyT.mono s2 k2), PyT.mono (fz_new' hT) (PyT.mono s2 k4)⟩⟩
    rw [List.getElem?_zip_eq_some]
    exact ⟨k1, k3⟩
/-- reversed(a list) -/
theorem ei_rev [PyT α] {m1 m : R (List α)} (g : Gn X "reversed") (hm : X.mg "reversed" = none) (d : Ev X H0 qs md Γ a m1) (he : m = m1.bind fun xs => .ok xs.reverse := by rfl) (hs : St1 a := by intro _; rfl) :
    EvI X H0 qs md Γ tg (.Call (.Name "reversed" p) [a] [] pos) m := fun σ H at_ E pe Rk q => by
  subst he
  refine wI_of (pi_reversed g.gl hm (pa_cons pe_w pa_nil (hs X.env)) (hs X.env)) (d σ H at_ E pe _ ((PX.bind q).mono (fun xs k v H1 s1 r1 => ?_) fun _ z => z))
  obtain ⟨q', vs, rfl, h2, h3⟩ := r1
  have hl := h3.len
  refine ⟨q', vs, rfl, SqL.of (Fz.out _ _ h2), (show ∀ J H1, Same H H1 → WalkT X.K J xs.reverse (Fz H1 (av md Γ σ qs)) → Rk J H1 from k) _ H1 s1 ⟨fun i H' hi s => ?_, fun H' s => ?_, fun i H' v H'' hi s y => ?_⟩⟩
  · rw [List.length_reverse] at hi
    have hj : vs.length - 1 - i < vs.length := by omega
    exact ⟨by omega, vs, vs[vs.length - 1 - i], SqL.of (s _ _ h2), by rw [List.getElem?_eq_getElem hj]⟩
  · rw [List.length_reverse]
    show vs.length ≤ xs.length
    omega
  · rw [List.length_reverse] at hi
    obtain ⟨e, y⟩ := y
    subst e
    obtain ⟨x, k1, k2⟩ := h3.get (y vs (SqL.of (s _ _ h2)))
    refine ⟨Same.refl _, x, ?_, fun ps s2 _ => PyT.mono s2 k2⟩
    rw [List.getElem?_reverse hi, ← hl]
    exact k1

/-! ### targets -/
def wG (X : Cx) (tg : Expr) : TG := fun v σ H Q => ∀ (pins : List (Addr × Obj)) (s : Shared) (u : Value), Inv X pins σ H s → RelV v u → wpAny (model X.prog X.w) X.A (assign tg X.env u) (fun _ s' => ∃ σ' H', Inv X pins σ' H' s' ∧ Q σ' H') X.xe s
theorem pg_w {tg : Expr} : PG X tg (wG X tg) := ⟨fun pins s _ _ _ u _ I r h => h pins s u I r⟩
theorem wG_of {tg : Expr} {g : TG} {v : V} {σ : L2.St} {H : Hp} {Q : L2.St → Hp → Prop} (h : PG X tg g) (q : g v σ H Q) : wG X tg v σ H Q := fun pins s u I r => h.run pins s σ H v u Q I r q
/-- a name that is stored -/
structure Lc (X : Cx) (i : Nat) (x : Str) : Prop where
  hi : X.N[i]? = some x
  loc : Loc X.env.scope x
  fn : X.fn x = true ∨ X.env.scope.names.lookup x = some .local
  nd : X.N.Nodup
def lcC (N : List Str) (sc : Scope) (i : Nat) (x : Str) : Bool := decide (N[i]? = some x) && (match sc.names.lookup x with
  | some .local => true
  | _ => false)
theorem lc_mk {X : Cx} {N : List Str} {sc : Scope} {i : Nat} {x : Str} (hX : XN X N sc) (h : lcC N sc i x = true) : Lc X i x := by
  unfold lcC at h
  simp only [Bool.and_eq_true, decide_eq_true_eq] at h
  obtain ⟨h1, h2⟩ := h
  have h3 : X.env.scope.names.lookup x = some .local := by
    rw [hX.hs]
    split at h2
    · rename_i q; exact q
    · cases h2
  exact ⟨by rw [hX.hN]; exact h1, .inl h3, .inr h3, hX.nd⟩
/-- .. a cell of the def's own -/
def lcK (N : List Str) (sc : Scope) (i : Nat) (x : Str) : Bool := decide (N[i]? = some x) && (match sc.names.lookup x with
  | some .cell => true
  | _ => false)
theorem lc_cell {X : Cx} {N : List Str} {sc : Scope} {i : Nat} {x : Str} (hX : XN X N sc) (hf : X.fn x = true) (h : lcK N sc i x = true) : Lc X i x := by
  unfold lcK at h
  simp only [Bool.and_eq_true, decide_eq_true_eq] at h
  obtain ⟨h1, h2⟩ := h
  have h3 : X.env.scope.names.lookup x = some .cell := by
    rw [hX.hs]
    split at h2
    · rename_i q; exact q
    · cases h2
  exact ⟨by rw [hX.hN]; exact h1, .inr h3, .inl hf, hX.nd⟩
/-- a thing comes to a target, at these slots -/
def EvG (X : Cx) (Γ : List Sl) {α : Type} [PyT α] (tg : Expr) (x : α) (Γ' : List Sl) (is : List Nat) : Prop :=
  ∀ (H0 : Hp) (qs : List Addr) σ H v, At X.K H0 qs Γ σ H → rep X.K (Fz H (owA Γ σ ++ qs)) v x → ∀ Q : L2.St → Hp → Prop,
    (∀ σ', At X.K H0 qs Γ' σ' H → owA Γ' σ' = owA Γ σ → σ'.length = σ.length → (∀ i, i ∉ is → σ'[i]? = σ[i]?) → Q σ' H) → wG X tg v σ H Q
theorem owA_set_no {s : Sl} {o : Option V} (h1 : own1 s o = []) : ∀ {Γ : List Sl} {σ : L2.St} {i : Nat}, (∀ o, own1 (Γ.getD i .un) o = []) → owA (Γ.set i s) (σ.set i o) = owA Γ σ
  | [], σ, i, _ => by simp [owA]
  | t :: Γ, [], i, _ => by rw [List.set_nil, owA_nil, owA_nil]
  | t :: Γ, u :: σ, 0, h => by
    rw [List.set_cons_zero, List.set_cons_zero, owA_cons, owA_cons, h1]
    have h2 : own1 t u = [] := h u
    rw [h2]
  | t :: Γ, u :: σ, i + 1, h => by
    rw [List.set_cons_succ, List.set_cons_succ, owA_cons, owA_cons, owA_set_no h1 (i := i) (fun o => h o)]
/-- the slot holds no list of the def's own -/
abbrev NoOw (Γ : List Sl) (i : Nat) : Prop := ∀ o, own1 (Γ.getD i .un) o = []
theorem eg_name [PyT α] {x : α} {i : Nat} {n : Str} {Γ' : List Sl} (l : Lc X i n) (hΓ : Γ' = Γ.set i (.fr x) := by rfl) (hno : NoOw Γ i := by intro _; rfl) : EvG X Γ (.Name n p) x Γ' [i] := fun H0 qs σ H v at_ r Q k => by
  subst hΓ
  exact wG_of (pg_name l.nd l.hi l.loc l.fn) (k _ (at_.setFr r) (owA_set_no rfl hno) (by rw [List.length_set]) fun j hj => List.getElem?_set_ne (fun e => hj (by rw [e]; exact List.mem_cons_self)))
theorem av_eq {σ σ1 : L2.St} {Γ1 : List Sl} {H : Hp} (h : owA Γ1 σ1 = owA Γ σ) {K : PySem.W.Frag} [PyT α] {v : V} {x : α} (r : rep K (Fz H (owA Γ σ ++ qs)) v x) : rep K (Fz H (owA Γ1 σ1 ++ qs)) v x := by rw [h]; exact r
theorem eg_two [PyT α] [PyT β] {x : α × β} {e1 e2 : Expr} {kk : Nat} {Γ1 Γ2 : List Sl} {i1 i2 : List Nat} (hc : X.calm = true) (g1 : EvG X Γ e1 x.1 Γ1 i1) (g2 : EvG X Γ1 e2 x.2 Γ2 i2)
    (hn : ∀ env, (assignEach [e1, e2] env).length = 2 := by intro _; rfl) (hst : ∀ env, (assignEach [e1, e2] env).findIdx? (·.1) = none := by intro _; rfl)
    (h1 : ∀ env, (assignEach [e1, e2] env).map (·.2) = assign e1 env :: (assignEach [e2] env).map (·.2) := by intro _; rfl) (h2 : ∀ env, (assignEach [e2] env).map (·.2) = assign e2 env :: (assignEach [] env).map (·.2) := by intro _; rfl) :
    EvG X Γ (.Tuple [e1, e2] kk p) x Γ2 (i1 ++ i2) := fun H0 qs σ H v at_ r Q k => by
  obtain ⟨q, w, u, rfl, r1, r2, r3⟩ := r
  refine wG_of (pg_tup hc (pgs_cons pg_w (pgs_cons pg_w pgs_nil (h2 X.env)) (h1 X.env)) (hn X.env) (hst X.env)) ⟨q, [w, u], rfl, sqT_mono Fz.out r1, rfl, w, [u], rfl, ?_⟩
  refine g1 H0 qs σ H w at_ r2 _ fun σ1 a1 o1 l1 k1 => ⟨u, [], rfl, ?_⟩
  refine g2 H0 qs σ1 H u a1 (av_eq o1 r3) _ fun σ2 a2 o2 l2 k2 => ⟨rfl, ?_⟩
  exact k σ2 a2 (o2.trans o1) (l2.trans l1) fun i hi => (k2 i fun z => hi (List.mem_append_right _ z)).trans (k1 i fun z => hi (List.mem_append_left _ z))
theorem eg_three [PyT α] [PyT β] [PyT γ] {x : T3 α β γ} {e1 e2 e3 : Expr} {kk : Nat} {Γ1 Γ2 Γ3 : List Sl} {i1 i2 i3 : List Nat} (hc : X.calm = true) (g1 : EvG X Γ e1 x.a Γ1 i1) (g2 : EvG X Γ1 e2 x.b Γ2 i2) (g3 : EvG X Γ2 e3 x.c Γ3 i3)
    (hn : ∀ env, (assignEach [e1, e2, e3] env).length = 3 := by intro _; rfl) (hst : ∀ env, (assignEach [e1, e2, e3] env).findIdx? (·.1) = none := by intro _; rfl)
    (h1 : ∀ env, (assignEach [e1, e2, e3] env).map (·.2) = assign e1 env :: (assignEach [e2, e3] env).map (·.2) := by intro _; rfl) (h2 : ∀ env, (assignEach [e2, e3] env).map (·.2) = assign e2 env :: (assignEach [e3] env).map (·.2) := by intro _; rfl)
    (h3 : ∀ env, (assignEach [e3] env).map (·.2) = assign e3 env :: (assignEach [] env).map (·.2) := by intro _; rfl) :
    EvG X Γ (.Tuple [e1, e2, e3] kk p) x Γ3 (i1 ++ i2 ++ i3) := fun H0 qs σ H v at_ r Q k => by
  obtain ⟨q, w, u, t, rfl, r1, r2, r3, r4⟩ := r
  refine wG_of (pg_tup hc (pgs_cons pg_w (pgs_cons pg_w (pgs_cons pg_w pgs_nil (h3 X.env)) (h2 X.env)) (h1 X.env)) (hn X.env) (hst X.env)) ⟨q, [w, u, t], rfl, sqT_mono Fz.out r1, rfl, w, [u, t], rfl, ?_⟩
  refine g1 H0 qs σ H w at_ r2 _ fun σ1 a1 o1 l1 k1 => ⟨u, [t], rfl, ?_⟩
  refine g2 H0 qs σ1 H u a1 (av_eq o1 r3) _ fun σ2 a2 o2 l2 k2 => ⟨t, [], rfl, ?_⟩
  refine g3 H0 qs σ2 H t a2 (av_eq o2 (av_eq o1 r4)) _ fun σ3 a3 o3 l3 k3 => ⟨rfl, ?_⟩
  exact k σ3 a3 (o3.trans (o2.trans o1)) (l3.trans (l2.trans l1)) fun i hi => (k3 i fun z => hi (List.mem_append_right _ z)).trans ((k2 i fun z => hi (List.mem_append_left _ (List.mem_append_right _ z))).trans (k1 i fun z => hi (List.mem_append_left _ (List.mem_append_left _ z))))
end
end Wk
set_option Elab.async false
set_option linter.all false
set_option maxRecDepth 100000
/-! Wk7: comprehensions. -/
namespace Wk
open PySem PySem.Spec PyProof.Rows L2
/-- a comprehension's block within X -/
structure Blk (X X' : Cx) (sc : Scope) : Prop where
  prog : X'.prog = X.prog
  w : X'.w = X.w
  K : X'.K = X.K
  mg : X'.mg = X.mg
  base : X'.base = X.base
  A : X'.A = X.A
  N : X'.N = X.N
  calm : X'.calm = X.calm
  hs : X'.env.scope = sc
  fnc : ∀ x, sc.names.lookup x = some .cell → X.env.scope.names.lookup x ≠ some .cell → X'.fn x = true
  pas : ∀ σ, Pas X' σ E0
theorem Blk.ok {X X' : Cx} {sc sc' : Scope} {N : List Str} (b : Blk X X' sc') (h : XOk X N sc) : XOk X' N sc' := ⟨⟨b.N.trans h.hN, b.hs, by rw [b.N]; exact h.nd⟩, b.calm.trans h.calm⟩
theorem Blk.dn {X X' : Cx} {sc : Scope} {x : Str} {sp : Sp} {n : Nat} (b : Blk X X' sc) (D : Dn X x sp n) : Dn X' x sp n := by
  obtain ⟨k, f, fd, ps, F, h1, h2, h3, h4, h5⟩ := D.ex
  refine ⟨k, f, fd, ps, ?_, by rw [b.A]; exact h1, by rw [b.mg]; exact h2, by rw [b.K]; exact h3, by rw [b.K]; exact h4, h5⟩
  rw [b.prog, b.w, b.K, b.mg, b.base]
  exact F
theorem Blk.none {X X' : Cx} {sc : Scope} {x : Str} (b : Blk X X' sc) (h : X.mg x = Option.none) : X'.mg x = Option.none := by rw [b.mg]; exact h
theorem Blk.some {X X' : Cx} {sc : Scope} {x : Str} {v : Value} (b : Blk X X' sc) (h : X.mg x = Option.some v) : X'.mg x = Option.some v := by rw [b.mg]; exact h
theorem Blk.hu {X X' : Cx} {sc : Scope} (b : Blk X X' sc) (h : X.A.units + 64 < cLine) : X'.A.units + 64 < cLine := by rw [b.A]; exact h
/-- a comprehension's name that an inner one uses -/
def lcB (N : List Str) (sc so : Scope) (i : Nat) (x : Str) : Bool := lcK N sc i x && (match so.names.lookup x with
  | some .cell => false
  | _ => true)
theorem lc_blk {X X' : Cx} {sc so : Scope} {N : List Str} {i : Nat} {x : Str} (b : Blk X X' sc) (ho : X.env.scope = so) (hX : XN X' N sc) (h : lcB N sc so i x = true) : Lc X' i x := by
  unfold lcB at h
  obtain ⟨h1, h2⟩ := Bool.and_eq_true_iff.mp h
  refine lc_cell hX (b.fnc x ?_ ?_) h1
  · unfold lcK at h1
    obtain ⟨_, h3⟩ := Bool.and_eq_true_iff.mp h1
    split at h3
    · assumption
    · cases h3
  · rw [ho]
    intro q
    rw [q] at h2
    cases h2
/-- the outcomes of a comprehension's turns -/
def compGo {α β : Type} (g : α → R (Option β)) : List α → R (List β)
  | [] => .ok []
  | x :: r => (g x).sure.bind fun o => (compGo g r).bind fun ys => .ok (match o with | some y => y :: ys | none => ys)
def compR {α β : Type} (g : α → R (Option β)) (xs : List α) : R (List β) := if xs.length ≤ 16777216 then compGo g xs else .stuck
def mapGo {α β : Type} (g : α → R β) : List α → R (List β)
  | [] => .ok []
  | x :: r => (g x).sure.bind fun y => (mapGo g r).bind fun ys => .ok (y :: ys)
def mapR {α β : Type} (g : α → R β) (xs : List α) : R (List β) := if xs.length ≤ 16777216 then mapGo g xs else .stuck
theorem mapGo_comp {α β : Type} (g : α → R β) : ∀ xs : List α, mapGo g xs = compGo (fun x => (g x).bind fun y => .ok (some y)) xs
  | [] => rfl
  | x :: r => by
    show (g x).sure.bind _ = ((g x).bind _).sure.bind _
    rw [mapGo_comp g r]
    cases g x <;> rfl
def wipeG (Γ : List Sl) : List Nat → List Sl
  | [] => Γ
  | v :: vs => (wipeG Γ vs).set v .un
theorem wipe_in {σ : L2.St} {i : Nat} : ∀ {vs : List Nat}, i ∈ vs → (wipe σ vs)[i]? = if i < σ.length then some none else none
  | [], h => by cases h
  | v :: vs, h => by
    have hl : (wipe σ vs).length = σ.length := wipe_length σ vs
    show ((wipe σ vs).set v none)[i]? = _
    by_cases e : v = i
    · subst e
      rw [List.getElem?_set]
      simp only [if_true, hl]
    · rw [List.getElem?_set_ne e]
      exact wipe_in ((List.mem_cons.mp h).resolve_left fun z => e z.symm)
theorem wipe_ext {a b : L2.St} {vs : List Nat} (hl : a.length = b.length) (h : ∀ i, i ∉ vs → a[i]? = b[i]?) : wipe a vs = wipe b vs := by
  refine List.ext_getElem? fun i => ?_
  by_cases hi : i ∈ vs
  · rw [wipe_in hi, wipe_in hi, hl]
  · rw [wipe_out hi, wipe_out hi]
    exact h i hi
theorem At.wipe {K : PySem.W.Frag} {H0 H : Hp} {qs : List Addr} {Γ : List Sl} {σ : L2.St} (a : At K H0 qs Γ σ H) : ∀ vs : List Nat, At K H0 qs (wipeG Γ vs) (L2.wipe σ vs) H
  | [] => a
  | v :: vs => (At.wipe a vs).setUn
theorem wipe_own {Γ : List Sl} {σ : L2.St} : ∀ {vs : List Nat}, (∀ v ∈ vs, NoOw Γ v) → owA (wipeG Γ vs) (L2.wipe σ vs) = owA Γ σ
  | [], _ => rfl
  | v :: vs, h => by
    have ih := wipe_own (σ := σ) (vs := vs) fun u hu => h u (List.mem_cons_of_mem _ hu)
    show owA ((wipeG Γ vs).set v .un) ((L2.wipe σ vs).set v none) = _
    rw [owA_set_no rfl ?_, ih]
    have go : ∀ vs : List Nat, ∀ o, own1 ((wipeG Γ vs).getD v .un) o = [] := by
      intro vs
      induction vs with
      | nil => exact h v List.mem_cons_self
      | cons u us ih2 =>
        intro o
        show own1 (((wipeG Γ us).set u .un).getD v .un) o = []
        rw [List.getD_eq_getElem?_getD]
        by_cases e : u = v
        · subst e
          rw [List.getElem?_set]
          simp only [if_true]
          split <;> rfl
        · rw [List.getElem?_set_ne e]
          have q := ih2 o
          rw [List.getD_eq_getElem?_getD] at q
          exact q
    exact go vs
theorem At.addq {K : PySem.W.Frag} {H0 H H' : Hp} {qs : List Addr} {Γ : List Sl} {σ : L2.St} {D : Addr} (a : At K H0 qs Γ σ H) (s : Same H H') (h1 : H D = none) (h2 : H' D ≠ none) : At K H0 (D :: qs) Γ σ H' := by
  have a' := a.grow s
  have e : Same (Fz H (owA Γ σ ++ qs)) (Fz H' (owA Γ σ ++ D :: qs)) := Fz.new s fun b hb => (List.mem_append.mp hb).elim (fun z => .inl (List.mem_append_left _ z)) fun z => (List.mem_cons.mp z).elim (fun q => .inr (by rw [q]; exact h1)) fun q => .inl (List.mem_append_right _ q)
  refine ⟨a'.ex, a.ok.grow e s, a.nd, fun p hp z => ?_, fun q hq => ?_⟩
  · rcases List.mem_cons.mp z with z | z
    · exact a.own_there hp (by rw [z]; exact h1)
    · exact a.sep p hp z
  · rcases List.mem_cons.mp hq with z | z
    · rw [z]; exact h2
    · exact a'.qd q z
section
variable {X : Cx} {H0 : Hp} {qs : List Addr} {md mi : Bool} {Γ : List Sl} {it elt tg : Expr} {pos : Pos} {α β : Type}
/-- the weakest over all blocks -/
def bE (X : Cx) (sc : Scope) (e : Expr) : TE := fun σ H Q => ∀ X', Blk X X' sc → wE X' e σ H Q
def bT (X : Cx) (sc : Scope) (e : Expr) : TT := fun σ H Q => ∀ X', Blk X X' sc → wT X' e σ H Q
def bG (X : Cx) (sc : Scope) (e : Expr) : TG := fun v σ H Q => ∀ X', Blk X X' sc → wG X' e v σ H Q
theorem rel_look {so : Scope} {x : Str} : ∀ l : List (Str × NameKind), (l.map fun (n, k) => if (k == .free && so.kind == .function && so.names.lookup n == some .cell) then (n, NameKind.cell) else (n, k)).lookup x = some .cell → so.names.lookup x ≠ some .cell → l.lookup x = some .cell
  | [], h, _ => h
  | (n, k) :: r, h, h2 => by
    rw [List.map_cons] at h
    change List.lookup x ((if (k == NameKind.free && so.kind == ScopeKind.function && so.names.lookup n == some NameKind.cell) = true then (n, NameKind.cell) else (n, k)) :: _) = _ at h
    by_cases e : x = n
    · subst e
      have hne : (so.names.lookup x == some NameKind.cell) = false := by
        cases q : so.names.lookup x with
        | none => rfl
        | some z =>
          rw [q] at h2
          cases z <;> first | rfl | exact absurd rfl h2
      simp only [hne, Bool.and_false] at h
      simpa using h
    · have e2 : (x == n) = false := by simpa using e
      have ih := rel_look (so := so) (x := x) r
      rw [List.lookup_cons, e2]
      refine ih ?_ h2
      by_cases c : (k == NameKind.free && so.kind == ScopeKind.function && so.names.lookup n == some NameKind.cell) = true
      · rw [if_pos c, List.lookup_cons, e2] at h
        exact h
      · rw [if_neg c, List.lookup_cons, e2] at h
        exact h
theorem blk_is {s : Shared} {H : Hp} {scope : Scope} {C : Addr} {cl : List (Str × Addr)} {fp : List Addr} : Blk X (X.blk s H scope (compEnvC scope cl C X.env) fp) (relS scope X.env.scope) :=
  ⟨rfl, rfl, rfl, rfl, rfl, rfl, rfl, rfl, rfl, fun x h h2 => by
    have q := rel_look scope.names h h2
    show (scope.names.lookup x == some .cell) = true
    rw [q] <;> rfl, fun σ pins H s e s' _ h => by
    obtain ⟨_, _, _, _, _, _, _, _, _, _, _, _, z⟩ := h
    exact z.elim⟩
/-- the core: one test or none -/
theorem lc_any [PyT α] [PyT β] {scope : Scope} {own : List (Str × Nat)} {ifs : List Expr} {mx : R (List α)} {g : α → R (Option β)} {m : R (List β)} {Γx : α → List Sl} {is : List Nat} {tt : TT}
    (hX : ∃ N sc, XOk X N sc) (hi : EvI X H0 qs mi Γ tg it mx) (fl : mi = true ∨ ∀ {K : PySem.W.Frag} {F F' : Hp} {v : V} {x : α}, rep K F v x → rep K F' v x) (fe : md = true ∨ ∀ {K : PySem.W.Frag} {F F' : Hp} {v : V} {x : β}, rep K F v x → rep K F' v x) (hno : ∀ p ∈ own, NoOw Γ p.2) (his : ∀ i ∈ is, i ∈ own.map (·.2))
    (hg : ∀ X', Blk X X' (relS scope X.env.scope) → ∀ x, EvG X' (wipeG Γ (own.map (·.2))) tg x (Γx x) is)
    (htt : ∀ (s : Shared) (H : Hp) (C : Addr) (cl : List (Str × Addr)) (fp : List Addr), PTs (X.blk s H scope (compEnvC scope cl C X.env) fp) ifs tt)
    (hturn : ∀ X', Blk X X' (relS scope X.env.scope) → ∀ (D : Addr) (x : α) σ H, At X.K H0 (D :: qs) (Γx x) σ H → ∀ (A : Option β → Prop), PX A (fun _ => False) (g x) → ∀ Qt : Bool → Hp → Prop,
      (∀ b H', Same H H' → (b = true → ∀ Qe : VK, (∀ y v H'', Same H' H'' → A (some y) → rep X.K (Fz H'' (av md (Γx x) σ (D :: qs))) v y → Qe v H'') → bE X (relS scope X.env.scope) elt σ H' Qe) → (b = false → A none) → Qt b H') → tt σ H Qt)
    (he : m = mx.bind (compR g)) (hs : ∀ env x, foldedSetIterable it env x = pure x) :
    ∀ σ H, At X.K H0 qs Γ σ H → ∀ E : XK, Pas X σ E → ∀ Q : VK, PX (fun xs => ∀ p vs H', Same H H' → H p = none → H' p = some (.lst vs) → RepL X.K (Fz H' (p :: av md Γ σ qs)) vs xs → Q (.ref p) H') (XW X E H) m →
      tLc (wI X tg it) (bG X (relS scope X.env.scope) tg) tt (bE X (relS scope X.env.scope) elt) (own.map (·.2)) σ H Q := by
  intro σ H at_ E pe Q q
  subst he
  obtain ⟨N, sc, hX⟩ := hX
  refine hi σ H at_ E pe _ ((PX.bind q).mono (fun xs q2 J H1 s1 wk D hD => ?_) fun _ z => z)
  unfold compR at q2
  by_cases hlen : xs.length ≤ 16777216
  case neg => rw [if_neg hlen] at q2; exact (show False from q2).elim
  rw [if_pos hlen] at q2
  have at1 := at_.grow s1
  have hD0 : H D = none := s1.free hD
  let Pv : Nat → Hp → Prop := fun i H' => Same H1 H' ∧ ∃ acc ys, H' D = some (.lst acc) ∧ RepL X.K (Fz H' (D :: av md Γ σ qs)) acc ys ∧ acc.length ≤ i ∧
    PX (fun zs => ∀ p vs H', Same H H' → H p = none → H' p = some (.lst vs) → RepL X.K (Fz H' (p :: av md Γ σ qs)) vs (ys ++ zs) → Q (.ref p) H') (XW X E H) (compGo g (xs.drop i))
  refine ⟨fun i m H' => m = xs.length - i ∧ i ≤ xs.length ∧ Pv i H', ⟨xs.length, by simp, Nat.zero_le _, same_new hD, [], [], upd_same, trivial, Nat.le_refl _, ?_⟩, ?_⟩
  · rw [List.drop_zero]
    exact q2.mono (fun zs k p vs H' a b c d => k p vs H' a b c d) fun _ z => z
  rintro i m H2 ⟨rfl, hi', s2, acc, ys, hacc, hrep, hal, hrest⟩
  have sF : Same (Fz H1 (av mi Γ σ qs)) H2 := fun b o z => s2 b o (Fz.out b o z)
  by_cases hlt : i < xs.length
  · refine .inr ⟨wk.goes i H2 hlt sF, Pv (i + 1), fun H' p' => ⟨xs.length - (i + 1), by omega, rfl, hlt, p'⟩, fun v H3 hy => ?_⟩
    obtain ⟨s3, x, hx, hxr⟩ := wk.yields i H2 v H3 hlt sF hy
    have hdrop : xs.drop i = x :: xs.drop (i + 1) := by
      obtain ⟨h1, h2⟩ := List.getElem?_eq_some_iff.mp hx
      rw [List.drop_eq_getElem_cons h1, h2]
    rw [hdrop] at hrest
    have hD3 : H3 D = some (.lst acc) := s3 _ _ hacc
    have at3 : At X.K H0 (D :: qs) Γ σ H3 := at1.addq (s2.trans s3) hD (by rw [hD3]; exact fun z => by cases z)
    have at3w := at3.wipe (own.map (·.2))
    have hown : owA (wipeG Γ (own.map (·.2))) (wipe σ (own.map (·.2))) = owA Γ σ := wipe_own fun v hv => by
      obtain ⟨p, hp, rfl⟩ := List.mem_map.mp hv
      exact hno p hp
    have hr3 : rep X.K (Fz H3 (owA (wipeG Γ (own.map (·.2))) (wipe σ (own.map (·.2))) ++ D :: qs)) v x := by
      rcases fl with fl | fl
      · subst fl
        refine hxr _ ?_ ?_
        · rw [hown]
          exact Fz.new s2 fun b hb => (List.mem_append.mp hb).elim (fun z => .inl (List.mem_append_left _ z)) fun z => (List.mem_cons.mp z).elim (fun q => .inr (by rw [q]; exact hD)) fun q => .inl (List.mem_append_right _ q)
        · rw [hown]
          intro q hq
          rcases List.mem_append.mp hq with z | z
          · exact (at1.grow s2).own_there z
          · rcases List.mem_cons.mp z with z | z
            · rw [z, hacc]; exact fun z => by cases z
            · exact (at1.grow s2).qd q z
      · exact fl (hxr [] (fun b o z => by rw [Fz.nil]; exact sF b o z) fun q hq => by cases hq)
    intro X' hB
    have hK : X'.K = X.K := hB.K
    refine hg X' hB x H0 (D :: qs) (wipe σ (own.map (·.2))) H3 v (by rw [hK]; exact at3w) (by rw [hK]; exact hr3) _ ?_
    intro σ4 at4 ho4 hl4 hk4
    refine ⟨?_, ?_⟩
    · refine wipe_ext (by rw [hl4, wipe_length]) fun j hj => ?_
      rw [hk4 j fun z => hj (his j z), wipe_out hj]
    rw [hK] at at4
    have how : owA (Γx x) σ4 = owA Γ σ := ho4.trans hown
    have hq3 : PX _ _ ((g x).sure.bind fun o => (compGo g (xs.drop (i + 1))).bind fun ys => .ok (match o with | some y => y :: ys | none => ys)) := hrest
    have hq4 := PX.sure (PX.bind hq3)
    refine hturn X' hB D x σ4 H3 at4 _ hq4 _ fun b H4 s4 hb1 hb0 => ?_
    have sD4 : H4 D = some (.lst acc) := s4 _ _ hD3
    cases b with
    | false =>
      show Pv (i + 1) H4
      have k := PX.bind (hb0 rfl)
      refine ⟨(s2.trans s3).trans s4, acc, ys, sD4, hrep.mono (Fz.mono (s3.trans s4)), Nat.le_succ_of_le hal, k.mono (fun zs k2 => k2) fun _ z => z⟩
    | true =>
      show bE X _ elt σ4 H4 _
      refine hb1 rfl _ fun y u H5 s5 hy5 hr5 => ⟨acc, s5 _ _ sD4, by rw [sizeLine_eq]; omega, ?_⟩
      have k := PX.bind hy5
      have hfz : rep X.K (Fz (upd H5 D (.lst (acc ++ [u]))) (D :: av md Γ σ qs)) u y := by
        rcases fe with fe | fe
        · subst fe
          refine PyT.mono ?_ hr5
          refine Fz.go fun b o hb hb2 => ?_
          have e1 : av true (Γx x) σ4 (D :: qs) = owA Γ σ ++ D :: qs := by rw [← how]; rfl
          rw [e1] at hb
          have nb : b ≠ D := fun z => hb (List.mem_append_right _ (by rw [z]; exact List.mem_cons_self))
          refine ⟨fun z => ?_, (upd_ne nb).trans hb2⟩
          rcases List.mem_cons.mp z with z | z
          · exact nb z
          · rcases List.mem_append.mp z with z | z
            · exact hb (List.mem_append_left _ z)
            · exact hb (List.mem_append_right _ (List.mem_cons_of_mem _ z))
        · exact fe hr5
      refine ⟨same_mut (((s2.trans s3).trans s4).trans s5) hD, acc ++ [u], ys ++ [y], upd_same, ?_, by rw [List.length_append, List.length_singleton]; omega, k.mono (fun zs k2 => by rw [List.append_assoc]; exact k2) fun _ z => z⟩
      refine (hrep.mono ?_).app (RepL.one hfz)
      exact Same.trans (Fz.mono ((s3.trans s4).trans s5)) (Fz.mut List.mem_cons_self)
  · have e : i = xs.length := by omega
    subst e
    refine .inl ⟨wk.stops H2 sF, ?_⟩
    rw [List.drop_length] at hrest
    have k : ∀ p vs H', Same H H' → H p = none → H' p = some (.lst vs) → RepL X.K (Fz H' (p :: av md Γ σ qs)) vs (ys ++ []) → Q (.ref p) H' := hrest
    exact k D acc H2 (s1.trans s2) hD0 hacc (by rw [List.append_nil]; exact hrep)

theorem relEq {N : List Str} {sc : Scope} (h : XOk X N sc) : X.env.scope = sc := h.hs
theorem pts_b {scope : Scope} {c : Expr} {s : Shared} {H : Hp} {C : Addr} {cl : List (Str × Addr)} {fp : List Addr} : PTs (X.blk s H scope (compEnvC scope cl C X.env) fp) [c] (bT X (relS scope X.env.scope) c) :=
  pts_one ⟨fun pins s' σ H' Q I h => (pt_w (X := X.blk s H scope (compEnvC scope cl C X.env) fp) (e := c)).run pins s' σ H' Q I (h _ blk_is)⟩
theorem pg_b {scope : Scope} {tg : Expr} {s : Shared} {H : Hp} {C : Addr} {cl : List (Str × Addr)} {fp : List Addr} : PG (X.blk s H scope (compEnvC scope cl C X.env) fp) tg (bG X (relS scope X.env.scope) tg) :=
  ⟨fun pins s' σ H' v u Q I r h => (pg_w (X := X.blk s H scope (compEnvC scope cl C X.env) fp) (tg := tg)).run pins s' σ H' v u Q I r (h _ blk_is)⟩
theorem pe_b {scope : Scope} {e : Expr} {s : Shared} {H : Hp} {C : Addr} {cl : List (Str × Addr)} {fp : List Addr} : PE (X.blk s H scope (compEnvC scope cl C X.env) fp) e (bE X (relS scope X.env.scope) e) :=
  ⟨fun pins s' σ H' Q I h => (pe_w (X := X.blk s H scope (compEnvC scope cl C X.env) fp) (e := e)).run pins s' σ H' Q I (h _ blk_is)⟩
/-- a turn without a test -/
theorem turn_map [PyT α] [PyT β] {sc : Scope} {g : α → R β} {Γx : α → List Sl} (hel : ∀ X', Blk X X' sc → ∀ (D : Addr) (x : α), Ev X' H0 (D :: qs) true (Γx x) elt (g x)) :
    ∀ X', Blk X X' sc → ∀ (D : Addr) (x : α) σ H, At X.K H0 (D :: qs) (Γx x) σ H → ∀ (A : Option β → Prop), PX A (fun _ => False) ((g x).bind fun y => .ok (some y)) → ∀ Qt : Bool → Hp → Prop,
      (∀ b H', Same H H' → (b = true → ∀ Qe : VK, (∀ y v H'', Same H' H'' → A (some y) → rep X.K (Fz H'' (av true (Γx x) σ (D :: qs))) v y → Qe v H'') → bE X sc elt σ H' Qe) → (b = false → A none) → Qt b H') → tYes σ H Qt := fun X' hB D x σ H at_ A hA Qt k => by
  refine k true H (Same.refl H) (fun _ Qe kq X2 hB2 => ?_) (fun z => by cases z)
  have hK : X2.K = X.K := hB2.K
  have q := PX.bind hA
  refine hel X2 hB2 D x σ H (by rw [hK]; exact at_) E0 (hB2.pas σ) Qe (q.mono (fun y ay v H'' s r => kq y v H'' s ay (by rw [hK] at r; exact r)) fun c z => z.elim)
/-- a turn with a test -/
theorem turn_filt [PyT α] [PyT β] {sc : Scope} {c : Expr} {t : α → R Bool} {g : α → R β} {Γx : α → List Sl} (hc : ∀ X', Blk X X' sc → ∀ (D : Addr) (x : α), EvT X' H0 (D :: qs) (Γx x) c (t x)) (hel : ∀ X', Blk X X' sc → ∀ (D : Addr) (x : α), Ev X' H0 (D :: qs) true (Γx x) elt (g x)) :
    ∀ X', Blk X X' sc → ∀ (D : Addr) (x : α) σ H, At X.K H0 (D :: qs) (Γx x) σ H → ∀ (A : Option β → Prop), PX A (fun _ => False) ((t x).bind fun b => if b = true then (g x).bind fun y => .ok (some y) else .ok none) → ∀ Qt : Bool → Hp → Prop,
      (∀ b H', Same H H' → (b = true → ∀ Qe : VK, (∀ y v H'', Same H' H'' → A (some y) → rep X.K (Fz H'' (av true (Γx x) σ (D :: qs))) v y → Qe v H'') → bE X sc elt σ H' Qe) → (b = false → A none) → Qt b H') → bT X sc c σ H Qt := fun X' hB D x σ H at_ A hA Qt k X3 hB3 => by
  have hK3 : X3.K = X.K := hB3.K
  refine hc X3 hB3 D x σ H (by rw [hK3]; exact at_) E0 (hB3.pas σ) Qt ((PX.bind hA).mono (fun b q H' s => ?_) fun c z => z.elim)
  cases b with
  | false => exact k false H' s (fun z => by cases z) (fun _ => q)
  | true =>
    refine k true H' s (fun _ Qe kq X2 hB2 => ?_) (fun z => by cases z)
    have hK : X2.K = X.K := hB2.K
    have q2 : PX A (fun _ => False) ((g x).bind fun y => .ok (some y)) := q
    refine hel X2 hB2 D x σ H' (by rw [hK]; exact at_.grow s) E0 (hB2.pas σ) Qe ((PX.bind q2).mono (fun y ay v H'' s r => kq y v H'' s ay (by rw [hK] at r; exact r)) fun c z => z.elim)
abbrev Fold (it : Expr) : Prop := ∀ env x, foldedSetIterable it env x = pure x
abbrev FlT (α : Type) [PyT α] : Prop := ∀ {K : PySem.W.Frag} {F F' : Hp} {v : V} {x : α}, rep K F v x → rep K F' v x
variable {scope : Scope} {own : List (Str × Nat)} {mx : R (List α)} {Γx : α → List Sl} {is : List Nat} {N : List Str} {sc : Scope}
theorem map_core [PyT α] [PyT β] {g : α → R β} {m : R (List β)} (hX : XOk X N sc) (hi : EvI X H0 qs mi Γ tg it mx) (fl : mi = true ∨ ∀ {K : PySem.W.Frag} {F F' : Hp} {v : V} {x : α}, rep K F v x → rep K F' v x) (hno : ∀ p ∈ own, NoOw Γ p.2) (his : ∀ i ∈ is, i ∈ own.map (·.2))
    (hg : ∀ X', Blk X X' (relS scope sc) → ∀ x, EvG X' (wipeG Γ (own.map (·.2))) tg x (Γx x) is) (hel : ∀ X', Blk X X' (relS scope sc) → ∀ (D : Addr) (x : α), Ev X' H0 (D :: qs) true (Γx x) elt (g x))
    (he : m = mx.bind (mapR g)) (hs : Fold it) :
    ∀ σ H, At X.K H0 qs Γ σ H → ∀ E : XK, Pas X σ E → ∀ Q : VK, PX (fun xs => ∀ p vs H', Same H H' → H p = none → H' p = some (.lst vs) → RepL X.K (Fz H' (p :: av true Γ σ qs)) vs xs → Q (.ref p) H') (XW X E H) m →
      tLc (wI X tg it) (bG X (relS scope X.env.scope) tg) tYes (bE X (relS scope X.env.scope) elt) (own.map (·.2)) σ H Q := by
  have hsc : X.env.scope = sc := hX.hs
  rw [← hsc] at hg hel
  refine lc_any (md := true) ⟨_, _, hX⟩ hi fl (.inl rfl) hno his hg (fun _ _ _ _ _ => pts_nil) (g := fun x => (g x).bind fun y => .ok (some y)) (turn_map hel) ?_ hs
  rw [he]
  refine congrArg mx.bind (funext fun xs => ?_)
  unfold mapR compR
  split
  · exact mapGo_comp g xs
  · rfl
theorem ev_map [PyT α] [PyT β] {g : α → R β} {m : R (List β)} (hX : XOk X N sc) (hi : EvI X H0 qs mi Γ tg it mx) (fl : mi = true ∨ ∀ {K : PySem.W.Frag} {F F' : Hp} {v : V} {x : α}, rep K F v x → rep K F' v x) (hb : blkC N sc scope own = true) (hno : ∀ p ∈ own, NoOw Γ p.2) (his : ∀ i ∈ is, i ∈ own.map (·.2))
    (hg : ∀ X', Blk X X' (relS scope sc) → ∀ x, EvG X' (wipeG Γ (own.map (·.2))) tg x (Γx x) is) (hel : ∀ X', Blk X X' (relS scope sc) → ∀ (D : Addr) (x : α), Ev X' H0 (D :: qs) true (Γx x) elt (g x))
    (he : m = mx.bind (mapR g) := by rfl) (hs : Fold it := by intro _ _; rfl) : EvO X H0 qs true Γ (.ListComp elt [⟨tg, it, [], 0⟩] scope pos) m := fun σ H at_ E pe Q q =>
  wE_of (pe_lc hX.calm hX.nd pi_w (blkOk_by (by rw [hX.hN, hX.hs]; exact hb)) (fun _ _ _ _ _ => pg_b) (fun _ _ _ _ _ => pts_nil) (fun _ _ _ _ _ => pe_b) (hs X.env)) (map_core hX hi fl hno his hg hel he hs σ H at_ E pe Q q)
theorem filt_core [PyT α] [PyT β] {c : Expr} {t : α → R Bool} {g : α → R β} {m : R (List β)} (hX : XOk X N sc) (hi : EvI X H0 qs mi Γ tg it mx) (fl : mi = true ∨ ∀ {K : PySem.W.Frag} {F F' : Hp} {v : V} {x : α}, rep K F v x → rep K F' v x) (hno : ∀ p ∈ own, NoOw Γ p.2) (his : ∀ i ∈ is, i ∈ own.map (·.2))
    (hg : ∀ X', Blk X X' (relS scope sc) → ∀ x, EvG X' (wipeG Γ (own.map (·.2))) tg x (Γx x) is) (hc : ∀ X', Blk X X' (relS scope sc) → ∀ (D : Addr) (x : α), EvT X' H0 (D :: qs) (Γx x) c (t x)) (hel : ∀ X', Blk X X' (relS scope sc) → ∀ (D : Addr) (x : α), Ev X' H0 (D :: qs) true (Γx x) elt (g x))
    (he : m = mx.bind (compR fun x => (t x).bind fun b => if b = true then (g x).bind fun y => .ok (some y) else .ok none)) (hs : Fold it) :
    ∀ σ H, At X.K H0 qs Γ σ H → ∀ E : XK, Pas X σ E → ∀ Q : VK, PX (fun xs => ∀ p vs H', Same H H' → H p = none → H' p = some (.lst vs) → RepL X.K (Fz H' (p :: av true Γ σ qs)) vs xs → Q (.ref p) H') (XW X E H) m →
      tLc (wI X tg it) (bG X (relS scope X.env.scope) tg) (bT X (relS scope X.env.scope) c) (bE X (relS scope X.env.scope) elt) (own.map (·.2)) σ H Q := by
  have hsc : X.env.scope = sc := hX.hs
  rw [← hsc] at hg hel hc
  exact lc_any (md := true) ⟨_, _, hX⟩ hi fl (.inl rfl) hno his hg (fun _ _ _ _ _ => pts_b) (turn_filt hc hel) he hs
theorem ev_filt [PyT α] [PyT β] {c : Expr} {t : α → R Bool} {g : α → R β} {m : R (List β)} (hX : XOk X N sc) (hi : EvI X H0 qs mi Γ tg it mx) (fl : mi = true ∨ ∀ {K : PySem.W.Frag} {F F' : Hp} {v : V} {x : α}, rep K F v x → rep K F' v x) (hb : blkC N sc scope own = true) (hno : ∀ p ∈ own, NoOw Γ p.2) (his : ∀ i ∈ is, i ∈ own.map (·.2))
    (hg : ∀ X', Blk X X' (relS scope sc) → ∀ x, EvG X' (wipeG Γ (own.map (·.2))) tg x (Γx x) is) (hc : ∀ X', Blk X X' (relS scope sc) → ∀ (D : Addr) (x : α), EvT X' H0 (D :: qs) (Γx x) c (t x)) (hel : ∀ X', Blk X X' (relS scope sc) → ∀ (D : Addr) (x : α), Ev X' H0 (D :: qs) true (Γx x) elt (g x))
    (he : m = mx.bind (compR fun x => (t x).bind fun b => if b = true then (g x).bind fun y => .ok (some y) else .ok none) := by rfl) (hs : Fold it := by intro _ _; rfl) : EvO X H0 qs true Γ (.ListComp elt [⟨tg, it, [c], 0⟩] scope pos) m := fun σ H at_ E pe Q q =>
  wE_of (pe_lc hX.calm hX.nd pi_w (blkOk_by (by rw [hX.hN, hX.hs]; exact hb)) (fun _ _ _ _ _ => pg_b) (fun _ _ _ _ _ => pts_b) (fun _ _ _ _ _ => pe_b) (hs X.env)) (filt_core hX hi fl hno his hg hc hel he hs σ H at_ E pe Q q)
/-- what y = [..] asks: y = [..] on a line -/
def EvC (X : Cx) (H0 : Hp) (qs : List Addr) (Γ : List Sl) [PyT β] (e : Expr) (m : R (List β)) : Prop :=
  ∀ (i : Nat) (y : Str) (py spos : Pos) (D : Ends) (σ : L2.St) (H : Hp), Lc X i y → X.env.scope.names.lookup y = some .local → (∀ l env, env.scope.kind = .function → env.scope.names.lookup y = some .local → swapsWith e (some (.Name y py)) l env = pure true) → X.env.scope.kind = .function →
    At X.K H0 qs Γ σ H → ∀ E : XK, Pas X σ E → PX (fun xs => ∀ p vs H', Same H H' → H p = none → H' p = some (.lst vs) → RepL X.K (Fz H' (p :: av true Γ σ qs)) vs xs → D.nx (σ.set i (some (.ref p))) H') (XW X E H) m →
      wS X (.Assign [.Name y py] e spos) D σ H
theorem ec_map [PyT α] [PyT β] {g : α → R β} {m : R (List β)} (hX : XOk X N sc) (hi : EvI X H0 qs mi Γ tg it mx) (fl : mi = true ∨ ∀ {K : PySem.W.Frag} {F F' : Hp} {v : V} {x : α}, rep K F v x → rep K F' v x) (hb : blkC N sc scope own = true) (hno : ∀ p ∈ own, NoOw Γ p.2) (his : ∀ i ∈ is, i ∈ own.map (·.2))
    (hg : ∀ X', Blk X X' (relS scope sc) → ∀ x, EvG X' (wipeG Γ (own.map (·.2))) tg x (Γx x) is) (hel : ∀ X', Blk X X' (relS scope sc) → ∀ (D : Addr) (x : α), Ev X' H0 (D :: qs) true (Γx x) elt (g x))
    (he : m = mx.bind (mapR g) := by rfl) (hs : Fold it := by intro _ _; rfl) : EvC X H0 qs Γ (.ListComp elt [⟨tg, it, [], 0⟩] scope pos) m := fun i y py spos D σ H l hl hsw hk at_ E pe q =>
  wS_of (ps_setLc hX.calm hX.nd l.hi hl (hsw _ _ hk hl) pi_w (blkOk_by (by rw [hX.hN, hX.hs]; exact hb)) (fun _ _ _ _ _ => pg_b) (fun _ _ _ _ _ => pts_nil) (fun _ _ _ _ _ => pe_b) (hs X.env))
    (map_core hX hi fl hno his hg hel he hs σ H at_ E pe (fun v H1 => gName i v σ H1 D.nx) q)
theorem ec_filt [PyT α] [PyT β] {c : Expr} {t : α → R Bool} {g : α → R β} {m : R (List β)} (hX : XOk X N sc) (hi : EvI X H0 qs mi Γ tg it mx) (fl : mi = true ∨ ∀ {K : PySem.W.Frag} {F F' : Hp} {v : V} {x : α}, rep K F v x → rep K F' v x) (hb : blkC N sc scope own = true) (hno : ∀ p ∈ own, NoOw Γ p.2) (his : ∀ i ∈ is, i ∈ own.map (·.2))
    (hg : ∀ X', Blk X X' (relS scope sc) → ∀ x, EvG X' (wipeG Γ (own.map (·.2))) tg x (Γx x) is) (hc : ∀ X', Blk X X' (relS scope sc) → ∀ (D : Addr) (x : α), EvT X' H0 (D :: qs) (Γx x) c (t x)) (hel : ∀ X', Blk X X' (relS scope sc) → ∀ (D : Addr) (x : α), Ev X' H0 (D :: qs) true (Γx x) elt (g x))
    (he : m = mx.bind (compR fun x => (t x).bind fun b => if b = true then (g x).bind fun y => .ok (some y) else .ok none) := by rfl) (hs : Fold it := by intro _ _; rfl) : EvC X H0 qs Γ (.ListComp elt [⟨tg, it, [c], 0⟩] scope pos) m := fun i y py spos D σ H l hl hsw hk at_ E pe q =>
  wS_of (ps_setLc hX.calm hX.nd l.hi hl (hsw _ _ hk hl) pi_w (blkOk_by (by rw [hX.hN, hX.hs]; exact hb)) (fun _ _ _ _ _ => pg_b) (fun _ _ _ _ _ => pts_b) (fun _ _ _ _ _ => pe_b) (hs X.env))
    (filt_core hX hi fl hno his hg hc hel he hs σ H at_ E pe (fun v H1 => gName i v σ H1 D.nx) q)
end
end Wk
set_option Elab.async false
set_option linter.all false
set_option maxRecDepth 100000
/-! Wk8: statements, by typed rules. -/
namespace Wk
open PySem PySem.Spec PyProof.Rows L2
structure Fr (X : Cx) (H0 : Hp) (B : Exc → Prop) : Prop where
  ex : ∃ E : XK, Takes X (fun cls d _ H => E cls d H) ∧ ∀ c, B c → ∀ H, Same H0 H → E (.ref (He.ga X.K c.nm)) none H
  po : X.calm = true → PassesOwn (model X.prog X.w) X.A X.env X.xe
theorem Fr.up {X : Cx} {H0 H1 : Hp} {B : Exc → Prop} (f : Fr X H0 B) (s : Same H0 H1) : Fr X H1 B :=
  ⟨let ⟨E, h1, h2⟩ := f.ex; ⟨E, h1, fun c hc H s2 => h2 c hc H (s.trans s2)⟩, f.po⟩
theorem Fr.use {X : Cx} {H0 : Hp} {B : Exc → Prop} (f : Fr X H0 B) : ∃ E : XK, (∀ σ, Pas X σ E) ∧ ∀ c H, Same H0 H → B c → XW X E H c := by
  obtain ⟨E, h1, h2⟩ := f.ex
  exact ⟨E, fun σ => passAt h1 σ, fun c H s hc H' s2 => h2 c hc H' (s.trans s2)⟩
/-- a block -/
def W (X : Cx) (H0 : Hp) (qs : List Addr) (rt : VK) (nx : L2.St → Hp → Prop) {O : Type} (A : O → Prop) (B : Exc → Prop) (Γ : List Sl) (ss : List Stmt) (m : R O) : Prop :=
  PX A B m → ∀ σ H, At X.K H0 qs Γ σ H → wSs X ss { nx := nx, rt := rt } σ H
/-- what is told at a return -/
def RtF (X : Cx) (H0 : Hp) (qs : List Addr) (rt : VK) {ρ : Type} [PyT ρ] (A : ρ → Prop) : Prop := ∀ x, A x → ∀ v H', Same H0 H' → rep X.K (Fz H' qs) v x → rt v H'
def RtO (X : Cx) (H0 : Hp) (qs : List Addr) (rt : VK) {ρ : Type} [PyT ρ] (A : List ρ → Prop) : Prop := ∀ xs, A xs → ∀ p vs H', Same H0 H' → H0 p = none → H' p = some (.lst vs) → RepL X.K (Fz H' (p :: qs)) vs xs → rt (.ref p) H'
theorem RtF.up {X : Cx} {H0 H1 : Hp} {qs : List Addr} {rt : VK} {ρ : Type} [PyT ρ] {A : ρ → Prop} (h : RtF X H0 qs rt A) (s : Same H0 H1) : RtF X H1 qs rt A := fun x a v H' s2 r => h x a v H' (s.trans s2) r
theorem RtO.up {X : Cx} {H0 H1 : Hp} {qs : List Addr} {rt : VK} {ρ : Type} [PyT ρ] {A : List ρ → Prop} (h : RtO X H0 qs rt A) (s : Same H0 H1) : RtO X H1 qs rt A := fun x a p vs H' s2 n l r => h x a p vs H' (s.trans s2) (s.free n) l r
/-- the end of a block whose state is s -/
def Nx (X : Cx) (H0 : Hp) (qs : List Addr) {S : Type} (Γ : S → List Sl) (N : S → Prop) : L2.St → Hp → Prop := fun σ H => ∃ s, N s ∧ At X.K H0 qs (Γ s) σ H
/-- on, or out with what is told -/
inductive Ct (S O : Type) where
  | nx (s : S) | rt (o : O)
def ctA {S O : Type} (N : S → Prop) (A : O → Prop) : Ct S O → Prop
  | .nx s => N s
  | .rt o => A o
/-- by cases -/
def Ct.by {S O β : Type} (f : S → β) (g : O → β) : Ct S O → β
  | .nx s => f s
  | .rt o => g o
/-- on from a block that may have told -/
def R.ct {S O : Type} (m : R (Ct S O)) (f : S → R O) : R O := m.bind (Ct.by f .ok)
def forR {α S : Type} (b : α → S → R S) : List α → S → R S
  | [], s => .ok s
  | x :: r, s => (b x s).bind fun s' => forR b r s'
def forM {α S O : Type} (b : α → S → R (Ct S O)) : List α → S → R (Ct S O)
  | [], s => .ok (.nx s)
  | x :: r, s => (b x s).bind (Ct.by (fun s' => forM b r s') fun o => .ok (.rt o))
def whileR {S : Type} (c : S → R Bool) (b : S → R S) : Nat → S → R S
  | 0, _ => .stuck
  | n + 1, s => (c s).bind fun t => if t = true then (b s).bind fun s' => whileR c b n s' else .ok s
def whileM {S O : Type} (c : S → R Bool) (b : S → R (Ct S O)) : Nat → S → R (Ct S O)
  | 0, _ => .stuck
  | n + 1, s => (c s).bind fun t => if t = true then (b s).bind (Ct.by (fun s' => whileM c b n s') fun o => .ok (.rt o)) else .ok (.nx s)
section
variable {X : Cx} {H0 : Hp} {qs : List Addr} {rt : VK} {nx : L2.St → Hp → Prop} {O : Type} {A : O → Prop} {B : Exc → Prop} {Γ : List Sl} {rest : List Stmt} {m : R O} {e a b : Expr} {pos p p1 p2 p3 : Pos} {x : Str} {i : Nat} {α β S : Type}
theorem SP_mono {D D' : Ends} (h1 : ∀ σ H, D.nx σ H → D'.nx σ H) (h2 : ∀ v H, D.rt v H → D'.rt v H) (h3 : ∀ σ H, D.bk σ H → D'.bk σ H) (h4 : ∀ σ H, D.ct σ H → D'.ct σ H) {pins : List (Addr × Obj)} {f : Flow} {s : Shared} (h : SP X pins D f s) : SP X pins D' f s := by
  cases f with
  | next => obtain ⟨σ, H, I, q⟩ := h; exact ⟨σ, H, I, h1 σ H q⟩
  | brk => obtain ⟨σ, H, I, q⟩ := h; exact ⟨σ, H, I, h3 σ H q⟩
  | cont => obtain ⟨σ, H, I, q⟩ := h; exact ⟨σ, H, I, h4 σ H q⟩
  | ret u => obtain ⟨v, σ, H, I, r, q⟩ := h; exact ⟨v, σ, H, I, r, h2 v H q⟩
theorem wSs_mono {D D' : Ends} {ss : List Stmt} {σ : L2.St} {H : Hp} (h1 : ∀ σ H, D.nx σ H → D'.nx σ H) (h2 : ∀ v H, D.rt v H → D'.rt v H) (h3 : ∀ σ H, D.bk σ H → D'.bk σ H) (h4 : ∀ σ H, D.ct σ H → D'.ct σ H) (h : wSs X ss D σ H) : wSs X ss D' σ H :=
  fun pins s I => thn (h pins s I) fun f s' q => SP_mono h1 h2 h3 h4 q
theorem wSs_cons {st : Stmt} {D : Ends} {σ : L2.St} {H : Hp} (h : wS X st { D with nx := wSs X rest D } σ H) : wSs X (st :: rest) D σ H := wSs_of (pss_cons ps_w pss_w) h
theorem cons_of {st : Stmt} {σ : L2.St} {H : Hp} (h : wS X st { nx := wSs X rest { nx := nx, rt := rt }, rt := rt } σ H) : wSs X (st :: rest) { nx := nx, rt := rt } σ H := wSs_cons h
/-- a name comes to stand for a value -/
theorem w_asg [PyT α] {m1 : R α} {f : α → R O} {Γ' : α → List Sl} (fr : Fr X H0 B) (l : Lc X i x) (d : Ev X H0 qs true Γ e m1) (k : ∀ y, W X H0 qs rt nx A B (Γ' y) rest (f y)) (hΓ : ∀ y, Γ' y = Γ.set i (.fr y) := by intro _; rfl) (he : m = m1.bind f := by rfl)
    (hs : ∀ env, swapsWith e (some (.Name x p)) pos.line env = pure false := by intro _; rfl) : W X H0 qs rt nx A B Γ (.Assign [.Name x p] e pos :: rest) m := fun q σ H at_ => by
  subst he
  obtain ⟨E, pe, hx⟩ := fr.use
  refine cons_of (wS_of (ps_set l.nd l.hi l.loc pe_w (hs X.env) l.fn) ?_)
  refine d σ H at_ E (pe σ) _ ((PX.bind q).mono (fun y q2 v H1 s1 r1 => ?_) fun c z => hx c H at_.ex z)
  exact k y q2 _ H1 (by rw [hΓ]; exact (at_.grow s1).setFr r1)
/-- .. for a new list -/
theorem w_asgO [PyT α] {m1 : R (List α)} {f : List α → R O} {Γ' : List α → List Sl} (fr : Fr X H0 B) (l : Lc X i x) (d : EvO X H0 qs true Γ e m1) (k : ∀ y, W X H0 qs rt nx A B (Γ' y) rest (f y)) (hΓ : ∀ y, Γ' y = Γ.set i (.ow y) := by intro _; rfl) (he : m = m1.bind f := by rfl)
    (hs : ∀ env, swapsWith e (some (.Name x p)) pos.line env = pure false := by intro _; rfl) : W X H0 qs rt nx A B Γ (.Assign [.Name x p] e pos :: rest) m := fun q σ H at_ => by
  subst he
  obtain ⟨E, pe, hx⟩ := fr.use
  refine cons_of (wS_of (ps_set l.nd l.hi l.loc pe_w (hs X.env) l.fn) ?_)
  refine d σ H at_ E (pe σ) _ ((PX.bind q).mono (fun y q2 p vs H1 s1 hn hl r1 => ?_) fun c z => hx c H at_.ex z)
  exact k y q2 _ H1 (by rw [hΓ]; exact at_.setOw s1 hn hl r1)
/-- .. for a comprehension, the name a local -/
theorem w_asgC [PyT α] {m1 : R (List α)} {f : List α → R O} {Γ' : List α → List Sl} (fr : Fr X H0 B) (l : Lc X i x) (hl : X.env.scope.names.lookup x = some .local) (hk : X.env.scope.kind = .function) (d : EvC X H0 qs Γ e m1) (k : ∀ y, W X H0 qs rt nx A B (Γ' y) rest (f y))
    (hΓ : ∀ y, Γ' y = Γ.set i (.ow y) := by intro _; rfl) (he : m = m1.bind f := by rfl)
    (hsw : ∀ l env, env.scope.kind = .function → env.scope.names.lookup x = some .local → swapsWith e (some (.Name x p)) l env = pure true := by intro _ _ h1 h2; exact sw_true h1 h2 rfl (by decide +kernel)) : W X H0 qs rt nx A B Γ (.Assign [.Name x p] e pos :: rest) m := fun q σ H at_ => by
  subst he
  obtain ⟨E, pe, hx⟩ := fr.use
  refine cons_of (d i x p pos _ σ H l hl hsw hk at_ E (pe σ) ((PX.bind q).mono (fun y q2 p vs H1 s1 hn hl r1 => ?_) fun c z => hx c H at_.ex z))
  exact k y q2 _ H1 (by rw [hΓ]; exact at_.setOw s1 hn hl r1)
theorem w_asgCf [PyT α] {m1 : R (List α)} {f : List α → R O} {Γ' : List α → List Sl} (fr : Fr X H0 B) (l : Lc X i x) (hl : X.env.scope.names.lookup x = some .local) (hk : X.env.scope.kind = .function) (d : EvC X H0 qs Γ e m1) (k : ∀ y, W X H0 qs rt nx A B (Γ' y) rest (f y))
    (hΓ : ∀ y, Γ' y = Γ.set i (.fr y) := by intro _; rfl) (he : m = m1.bind f := by rfl)
    (hsw : ∀ l env, env.scope.kind = .function → env.scope.names.lookup x = some .local → swapsWith e (some (.Name x p)) l env = pure true := by intro _ _ h1 h2; exact sw_true h1 h2 rfl (by decide +kernel)) : W X H0 qs rt nx A B Γ (.Assign [.Name x p] e pos :: rest) m := fun q σ H at_ => by
  subst he
  obtain ⟨E, pe, hx⟩ := fr.use
  refine cons_of (d i x p pos _ σ H l hl hsw hk at_ E (pe σ) ((PX.bind q).mono (fun y q2 p vs H1 s1 hn hl r1 => ?_) fun c z => hx c H at_.ex z))
  refine k y q2 _ H1 ?_
  rw [hΓ]
  exact (at_.grow s1).setFr ⟨p, vs, rfl, Fz.some_iff.mpr ⟨fun z => at_.av_there z hn, hl⟩, r1.mono (Fz.sub (Same.refl _) fun b z => List.mem_cons_of_mem _ z)⟩
/-- a list of the def's own is no more changed | a slot is forgotten -/
theorem w_frz [PyT α] {xs : List α} {Γ' : List Sl} {ss : List Stmt} (i : Nat) (h : Γ[i]? = some (.ow xs)) (hΓ : Γ' = Γ.set i (.fr xs)) (k : W X H0 qs rt nx A B Γ' ss m) : W X H0 qs rt nx A B Γ ss m := fun q σ H at_ => k q σ H (by rw [hΓ]; exact at_.frz h)
theorem At.unn {K : PySem.W.Frag} {H : Hp} {σ : L2.St} (at_ : At K H0 qs Γ σ H) (i : Nat) : At K H0 qs (Γ.set i .un) σ H := by
  have h := at_.setUn (i := i) (o := (σ[i]?).getD Option.none)
  have e : σ.set i ((σ[i]?).getD Option.none) = σ := by
    refine List.ext_getElem? fun j => ?_
    by_cases hj : i = j
    · subst hj
      rw [List.getElem?_set]
      simp only [if_true]
      by_cases hl : i < σ.length
      · rw [if_pos hl, List.getElem?_eq_getElem hl] <;> rfl
      · rw [if_neg hl, List.getElem?_eq_none (by omega)]
    · rw [List.getElem?_set_ne hj]
  rw [e] at h
  exact h
def unAll : List Sl → List Nat → List Sl
  | Γ, [] => Γ
  | Γ, i :: is => unAll (Γ.set i .un) is
theorem At.uns {K : PySem.W.Frag} {H : Hp} {σ : L2.St} : ∀ {Γ : List Sl} (is : List Nat), At K H0 qs Γ σ H → At K H0 qs (unAll Γ is) σ H
  | _, [], a => a
  | _, i :: is, a => At.uns is (a.unn i)
theorem w_uns {Γ' : List Sl} {ss : List Stmt} (is : List Nat) (k : W X H0 qs rt nx A B Γ' ss m) (hΓ : Γ' = unAll Γ is := by rfl) : W X H0 qs rt nx A B Γ ss m := fun q σ H at_ => k q σ H (by rw [hΓ]; exact at_.uns is)
/-- the block's end -/
theorem w_end {N : S → Prop} {Γs : S → List Sl} {s : S} {m : R S} (is : List Nat) (hΓ : Γs s = unAll Γ is := by rfl) (he : m = .ok s := by rfl) : W X H0 qs rt (Nx X H0 qs Γs N) N B Γ [] m := fun q σ H at_ => by
  subst he
  exact wSs_of pss_nil ⟨s, q, by rw [hΓ]; exact at_.uns is⟩
theorem w_endM {N : S → Prop} {Γs : S → List Sl} {s : S} {m : R (Ct S O)} (is : List Nat) (hΓ : Γs s = unAll Γ is := by rfl) (he : m = .ok (.nx s) := by rfl) : W X H0 qs rt (Nx X H0 qs Γs N) (ctA N A) B Γ [] m := fun q σ H at_ => by
  subst he
  exact wSs_of pss_nil ⟨s, q, by rw [hΓ]; exact at_.uns is⟩
/-- the def's end without a return -/
theorem w_endN {A : Unit → Prop} {m : R Unit} (hR : RtF X H0 qs rt A) (he : m = .ok () := by rfl) : W X H0 qs rt (fun _ H => rt .non H) A B Γ [] m := fun q σ H at_ => by
  subst he
  exact wSs_of pss_nil (hR () q .non H at_.ex rfl)
/-- return e -/
theorem w_ret {ρ : Type} [PyT ρ] {A' : ρ → Prop} {m1 : R ρ} {g : ρ → O} (fr : Fr X H0 B) (hR : RtF X H0 qs rt A') (d : Ev X H0 qs true Γ e m1) (hg : ∀ x, A (g x) → A' x) (he : m = m1.bind fun x => .ok (g x)) : W X H0 qs rt nx A B Γ (.Return (some e) pos :: rest) m := fun q σ H at_ => by
  subst he
  obtain ⟨E, pe, hx⟩ := fr.use
  refine cons_of (wS_of (ps_ret pe_w) ?_)
  refine d σ H at_ E (pe σ) _ ((PX.bind q).mono (fun y q2 v H1 s1 r1 => ?_) fun c z => hx c H at_.ex z)
  exact hR y (hg y q2) v H1 (at_.ex.trans s1) (PyT.mono (Fz.sub (Same.refl _) fun b hb => List.mem_append_right _ hb) r1)
theorem w_retO {ρ : Type} [PyT ρ] {A' : List ρ → Prop} {m1 : R (List ρ)} {g : List ρ → O} (fr : Fr X H0 B) (hR : RtO X H0 qs rt A') (d : EvO X H0 qs true Γ e m1) (hg : ∀ x, A (g x) → A' x) (he : m = m1.bind fun x => .ok (g x)) : W X H0 qs rt nx A B Γ (.Return (some e) pos :: rest) m := fun q σ H at_ => by
  subst he
  obtain ⟨E, pe, hx⟩ := fr.use
  refine cons_of (wS_of (ps_ret pe_w) ?_)
  refine d σ H at_ E (pe σ) _ ((PX.bind q).mono (fun y q2 p vs H1 s1 hn hl r1 => ?_) fun c z => hx c H at_.ex z)
  exact hR y (hg y q2) p vs H1 (at_.ex.trans s1) (at_.ex.free hn) hl (r1.mono (Fz.sub (Same.refl _) fun b hb => (List.mem_cons.mp hb).elim (fun z => by rw [z]; exact List.mem_cons_self) fun z => List.mem_cons_of_mem _ (List.mem_append_right _ z)))
/-- return of a list of the def's own -/
theorem w_retV {ρ : Type} [PyT ρ] {A' : List ρ → Prop} {ys : List ρ} {g : List ρ → O} (fr : Fr X H0 B) (hR : RtO X H0 qs rt A') (n : Nm X i x) (h : Γ[i]? = some (.ow ys)) (hg : ∀ x, A (g x) → A' x) (he : m = .ok (g ys)) : W X H0 qs rt nx A B Γ (.Return (some (.Name x p)) pos :: rest) m := fun q σ H at_ => by
  subst he
  obtain ⟨q', vs, h1, h2, h3, h4, h5⟩ := at_.ow h
  refine cons_of (wS_of (ps_ret (pe_var n.hi n.vis n.hd n.hc)) ⟨_, h1, ?_⟩)
  exact hR ys (hg ys q) q' vs H at_.ex h4 h3 (h5.mono (Fz.sub (Same.refl _) fun b hb => (List.mem_cons.mp hb).elim (fun z => by rw [z]; exact List.mem_append_left _ h2) fun z => List.mem_append_right _ z))
/-- an expression whose value is dropped -/
theorem w_expr [PyT α] {m1 : R α} {mr : R O} (fr : Fr X H0 B) (d : Ev X H0 qs true Γ e m1) (k : W X H0 qs rt nx A B Γ rest mr) (he : m = m1.bind fun _ => mr := by rfl) (hs : ∀ env, swapsWith e none pos.line env = pure false := by intro _; rfl) : W X H0 qs rt nx A B Γ (.Expr e pos :: rest) m := fun q σ H at_ => by
  subst he
  obtain ⟨E, pe, hx⟩ := fr.use
  refine cons_of (wS_of (ps_expr pe_w (hs X.env)) ?_)
  refine d σ H at_ E (pe σ) _ ((PX.bind q).mono (fun y q2 v H1 s1 r1 => ?_) fun c z => hx c H at_.ex z)
  exact k q2 _ H1 (at_.grow s1)
theorem w_doc {y : Str} {j : Nat} (k : W X H0 qs rt nx A B Γ rest m) : W X H0 qs rt nx A B Γ (.Expr (.Constant (.str y) j p) pos :: rest) m := fun q σ H at_ => cons_of (wS_of ps_doc (k q σ H at_))
theorem w_pass (k : W X H0 qs rt nx A B Γ rest m) : W X H0 qs rt nx A B Γ (.Pass pos :: rest) m := fun q σ H at_ => cons_of (wS_of ps_pass (k q σ H at_))

/-! ### lists changed -/
def appR (xs : List α) (y : α) : R (List α) := R.chk (decide (xs.length < 16777216)) (xs ++ [y])
theorem own_var {i : Nat} {y : Str} [PyT α] {ys : List α} {σ : L2.St} {H : Hp} {Q : VK} (n : Nm X i y) (h : Γ[i]? = some (.ow ys)) (at_ : At X.K H0 qs Γ σ H)
    (k : ∀ q vs, σ[i]? = some (some (.ref q)) → H q = some (.lst vs) → RepL X.K (Fz H (owA Γ σ ++ qs)) vs ys → Q (.ref q) H) : tVar i σ H Q := by
  obtain ⟨q, vs, h1, h2, h3, h4, h5⟩ := at_.ow h
  exact ⟨_, h1, k q vs h1 h3 h5⟩
/-- xs.append(e) -/
theorem w_append [PyT α] {ys : List α} {m1 : R α} {f : List α → R O} {Γ' : List α → List Sl} (fr : Fr X H0 B) (n : Nm X i x) (h : Γ[i]? = some (.ow ys)) (d : Ev X H0 qs true Γ e m1) (k : ∀ zs, W X H0 qs rt nx A B (Γ' zs) rest (f zs)) (hΓ : ∀ zs, Γ' zs = Γ.set i (.ow zs) := by intro _; rfl) (ht : tmF Γ = true := by rfl)
    (he : m = m1.bind fun y => (appR ys y).bind f := by rfl)
    (hfew : ∀ env, ((backTo p3 (starEach [e] env)).all (fun x => !x.1) && (backToKw p3 (keywordEach [] env)).all (fun x => x.1.isSome) && decide ([e].length + ([] : List Keyword).length + (if ([] : List Keyword).isEmpty then 0 else 1) < 30)) = true := by intro _; rfl)
    (hline : (p2.endLine == p3.line) = true := by rfl) (hs : St1 e := by intro _; rfl) (hbase : ∀ env, attributeBase (.Name x p1) "append" env (eval (.Name x p1) env) = eval (.Name x p1) env := by intro _; rfl)
    (hsw : ∀ env, swapsWith (.Call (.Attribute (.Name x p1) "append" p2) [e] [] p3) none pos.line env = pure false := by intro _; rfl) : W X H0 qs rt nx A B Γ (.Expr (.Call (.Attribute (.Name x p1) "append" p2) [e] [] p3) pos :: rest) m := fun q σ H at_ => by
  subst he
  obtain ⟨E, pe, hx⟩ := fr.use
  refine cons_of (wS_of (ps_expr (pe_bm PySem.F.plainAttrs_list PySem.F.slot_list_append PySem.F.type_list_append mt_append (pe_var n.hi n.vis n.hd n.hc) (pa_cons pe_w pa_nil (hs X.env)) (hbase X.env) (hfew X.env) hline (hs X.env) rfl) (hsw X.env)) ?_)
  obtain ⟨l, vs, hl, hm, hv, h0, hr⟩ := at_.ow h
  refine ⟨_, hl, .inl ⟨rfl, _, SqL.of hv⟩, ?_⟩
  refine d σ H at_ E (pe σ) _ ((PX.bind q).mono (fun y q2 v H1 s1 r1 => ?_) fun c z => hx c H at_.ex z)
  obtain ⟨c, q3⟩ := PX.chk (PX.bind q2)
  have at1 := at_.grow s1
  refine ⟨l, vs, v, rfl, rfl, s1 _ _ hv, by rw [hr.len, sizeLine_eq]; exact of_decide_eq_true c, ?_⟩
  exact k _ q3 _ _ (by rw [hΓ]; exact at1.mut h hl ((hr.mono (Fz.mono s1)).app (RepL.one r1)) ht)
/-- xs.insert(i, e) -/
def insR (xs : List α) (j : Int) (y : α) : R (List α) := R.chk (decide (xs.length < 16777216 ∧ 0 ≤ j ∧ j < 9223372036854775808)) (xs.take j.toNat ++ [y] ++ xs.drop j.toNat)
theorem w_insert [PyT α] {ys : List α} {mj : R Int} {m1 : R α} {f : List α → R O} {Γ' : List α → List Sl} (fr : Fr X H0 B) (n : Nm X i x) (h : Γ[i]? = some (.ow ys)) (dj : Ev X H0 qs true Γ a mj) (d : Ev X H0 qs true Γ e m1) (k : ∀ zs, W X H0 qs rt nx A B (Γ' zs) rest (f zs)) (hΓ : ∀ zs, Γ' zs = Γ.set i (.ow zs) := by intro _; rfl) (ht : tmF Γ = true := by rfl)
    (he : m = mj.bind fun j => m1.bind fun y => (insR ys j y).bind f := by rfl)
    (hfew : ∀ env, ((backTo p3 (starEach [a, e] env)).all (fun x => !x.1) && (backToKw p3 (keywordEach [] env)).all (fun x => x.1.isSome) && decide ([a, e].length + ([] : List Keyword).length + (if ([] : List Keyword).isEmpty then 0 else 1) < 30)) = true := by intro _; rfl)
    (hline : (p2.endLine == p3.line) = true := by rfl) (hs : St2 a e := by intro _; rfl) (hs2 : St1 e := by intro _; rfl) (hp : ∀ env, (backTo p3 (starEach [e] env)).any (·.1) = false := by intro _; rfl) (hbase : ∀ env, attributeBase (.Name x p1) "insert" env (eval (.Name x p1) env) = eval (.Name x p1) env := by intro _; rfl)
    (hsw : ∀ env, swapsWith (.Call (.Attribute (.Name x p1) "insert" p2) [a, e] [] p3) none pos.line env = pure false := by intro _; rfl) : W X H0 qs rt nx A B Γ (.Expr (.Call (.Attribute (.Name x p1) "insert" p2) [a, e] [] p3) pos :: rest) m := fun q σ H at_ => by
  subst he
  obtain ⟨E, pe, hx⟩ := fr.use
  refine cons_of (wS_of (ps_expr (pe_bm PySem.F.plainAttrs_list PySem.F.slot_list_insert PySem.F.type_list_insert mt_insert (pe_var n.hi n.vis n.hd n.hc) (pa_cons pe_w (pa_cons pe_w pa_nil (hs2 X.env)) (hs X.env)) (hbase X.env) (hfew X.env) hline (hs X.env) (hp X.env)) (hsw X.env)) ?_)
  obtain ⟨l, vs, hl, hm, hv, h0, hr⟩ := at_.ow h
  refine ⟨_, hl, .inl ⟨rfl, _, SqL.of hv⟩, ?_⟩
  refine dj σ H at_ E (pe σ) _ ((PX.bind q).mono (fun j q2 vj H1 s1 rj => ?_) fun c z => hx c H at_.ex z)
  refine d σ H1 (at_.grow s1) E (pe σ) _ ((PX.bind q2).mono (fun y q3 v H2 s2 r1 => ?_) fun c z => hx c H1 (at_.ex.trans s1) z)
  obtain ⟨c, q4⟩ := PX.chk (PX.bind q3)
  have c' : ys.length < 16777216 ∧ 0 ≤ j ∧ j < 9223372036854775808 := of_decide_eq_true c
  have s := s1.trans s2
  have at2 := at_.grow s
  have ej : vj = .int j := rj
  subst ej
  have hr2 := hr.mono (Fz.mono (ps := owA Γ σ ++ qs) s)
  refine ⟨l, vs, j, v, rfl, rfl, s _ _ hv, by rw [hr.len, sizeLine_eq]; exact c'.1, c'.2.1, by omega, ?_⟩
  exact k _ q4 _ _ (by rw [hΓ]; exact at2.mut h hl (((hr2.take _).app (RepL.one r1)).app (hr2.drop _)) ht)
/-- xs.reverse() -/
theorem w_reverse [PyT α] {ys : List α} {f : List α → R O} {Γ' : List α → List Sl} (n : Nm X i x) (h : Γ[i]? = some (.ow ys)) (k : ∀ zs, W X H0 qs rt nx A B (Γ' zs) rest (f zs)) (hΓ : ∀ zs, Γ' zs = Γ.set i (.ow zs) := by intro _; rfl) (ht : tmF Γ = true := by rfl) (he : m = f ys.reverse := by rfl)
    (hline : (p2.endLine == p3.line) = true := by rfl) (hbase : ∀ env, attributeBase (.Name x p1) "reverse" env (eval (.Name x p1) env) = eval (.Name x p1) env := by intro _; rfl)
    (hsw : ∀ env, swapsWith (.Call (.Attribute (.Name x p1) "reverse" p2) [] [] p3) none pos.line env = pure false := by intro _; rfl) : W X H0 qs rt nx A B Γ (.Expr (.Call (.Attribute (.Name x p1) "reverse" p2) [] [] p3) pos :: rest) m := fun q σ H at_ => by
  subst he
  refine cons_of (wS_of (ps_expr (pe_bm0 PySem.F.plainAttrs_list PySem.F.slot_list_reverse PySem.F.type_list_reverse mt_reverse (pe_var n.hi n.vis n.hd n.hc) (hbase X.env) hline) (hsw X.env)) ?_)
  obtain ⟨l, vs, hl, hm, hv, h0, hr⟩ := at_.ow h
  refine ⟨_, hl, .inl ⟨rfl, _, SqL.of hv⟩, l, vs, rfl, rfl, hv, ?_⟩
  exact k _ q _ _ (by rw [hΓ]; exact at_.mut h hl hr.rev ht)
/-- xs[i] = e -/
def setR (xs : List α) (j : Int) (y : α) : R (List α) := (R.ofO (ixN xs.length j)).bind fun k => .ok (xs.set k y)
theorem w_setix [PyT α] {ys : List α} {mj : R Int} {m1 : R α} {f : List α → R O} {Γ' : List α → List Sl} (fr : Fr X H0 B) (n : Nm X i x) (h : Γ[i]? = some (.ow ys)) (d : Ev X H0 qs true Γ e m1) (dj : Ev X H0 qs true Γ a mj) (k : ∀ zs, W X H0 qs rt nx A B (Γ' zs) rest (f zs)) (hΓ : ∀ zs, Γ' zs = Γ.set i (.ow zs) := by intro _; rfl) (ht : tmF Γ = true := by rfl)
    (he : m = m1.bind fun y => mj.bind fun j => (setR ys j y).bind f := by rfl)
    (ha : ∀ env v, assign (.Subscript (.Name x p1) a p2) env v = (do
      let ov ← holding [v] (eval (.Name x p1) env)
      let iv ← holding [v, ov] (eval a env)
      standAt p2
      holding [v, ov, iv] (setItem ov iv v)
      release [v, ov, iv] []) := by intro _ _; rfl) (hs : ∀ env, swapsWithSole [.Subscript (.Name x p1) a p2] e pos.line env = pure false := by intro _; rfl) (hw : ∀ env, swappedStores [.Subscript (.Name x p1) a p2] e env = pure none := by intro _; rfl)
    (h1 : ∀ env, (assignEach [.Subscript (.Name x p1) a p2] env).map (·.2) = [assign (.Subscript (.Name x p1) a p2) env] := by intro _; rfl) : W X H0 qs rt nx A B Γ (.Assign [.Subscript (.Name x p1) a p2] e pos :: rest) m := fun q σ H at_ => by
  subst he
  obtain ⟨E, pe, hx⟩ := fr.use
  refine cons_of (wS_of (ps_asg pe_w (pg_sub (pe_var n.hi n.vis n.hd n.hc) pe_w set_list (ha X.env)) (hs X.env) (hw X.env) (h1 X.env)) ?_)
  refine d σ H at_ E (pe σ) _ ((PX.bind q).mono (fun y q2 v H1 s1 r1 => ?_) fun c z => hx c H at_.ex z)
  obtain ⟨l, vs, hl, hm, hv, h0, hr⟩ := (at_.grow s1).ow h
  refine ⟨_, hl, ?_⟩
  refine dj σ H1 (at_.grow s1) E (pe σ) _ ((PX.bind q2).mono (fun j q3 vj H2 s2 rj => ?_) fun c z => hx c H1 (at_.ex.trans s1) z)
  have q4 := PX.bind (PX.bind q3)
  obtain ⟨kk, hk, q5⟩ := PX.ofO q4
  have at2 := at_.grow (s1.trans s2)
  have ej : vj = .int j := rj
  subst ej
  have hr2 := hr.mono (Fz.mono (ps := owA Γ σ ++ qs) s2)
  refine ⟨l, vs, j, kk, rfl, rfl, s2 _ _ hv, by rw [hr.len]; exact hk, ?_⟩
  exact k _ q5 _ _ (by rw [hΓ]; exact at2.mut h hl (hr2.set (PyT.mono (Fz.mono s2) r1)) ht)

/-! ### if -/
variable {sa sb : List Stmt}
/-- a branch that tells -/
theorem w_ifR {c : Expr} {mc : R Bool} {ma mr : R O} (fr : Fr X H0 B) (dc : EvT X H0 qs Γ c mc) (ha : ∀ nx', W X H0 qs rt nx' A B Γ sa ma) (hr : W X H0 qs rt nx A B Γ rest mr) (he : m = mc.bind fun t => if t = true then ma else mr := by rfl) : W X H0 qs rt nx A B Γ (.If c sa [] pos :: rest) m := fun q σ H at_ => by
  subst he
  obtain ⟨E, pe, hx⟩ := fr.use
  refine cons_of (wS_of (ps_if pt_w pss_w pss_nil) ?_)
  refine dc σ H at_ E (pe σ) _ ((PX.bind q).mono (fun t q2 H1 s1 => ?_) fun c z => hx c H at_.ex z)
  cases t with
  | true => exact ha _ q2 σ H1 (at_.grow s1)
  | false => exact hr q2 σ H1 (at_.grow s1)
/-- both branches tell -/
theorem w_ifRR {c : Expr} {mc : R Bool} {ma mb : R O} (fr : Fr X H0 B) (dc : EvT X H0 qs Γ c mc) (ha : ∀ nx', W X H0 qs rt nx' A B Γ sa ma) (hb : ∀ nx', W X H0 qs rt nx' A B Γ sb mb) (he : m = mc.bind fun t => if t = true then ma else mb := by rfl) : W X H0 qs rt nx A B Γ (.If c sa sb pos :: rest) m := fun q σ H at_ => by
  subst he
  obtain ⟨E, pe, hx⟩ := fr.use
  refine cons_of (wS_of (ps_if pt_w pss_w pss_w) ?_)
  refine dc σ H at_ E (pe σ) _ ((PX.bind q).mono (fun t q2 H1 s1 => ?_) fun c z => hx c H at_.ex z)
  cases t with
  | true => exact ha _ q2 σ H1 (at_.grow s1)
  | false => exact hb _ q2 σ H1 (at_.grow s1)
/-- both branches go on -/
theorem w_ifJ {c : Expr} {mc : R Bool} {ma mb : R S} {f : S → R O} {Γs : S → List Sl} (fr : Fr X H0 B) (dc : EvT X H0 qs Γ c mc) (ha : ∀ N : S → Prop, W X H0 qs rt (Nx X H0 qs Γs N) N B Γ sa ma) (hb : ∀ N : S → Prop, W X H0 qs rt (Nx X H0 qs Γs N) N B Γ sb mb)
    (hr : ∀ s, W X H0 qs rt nx A B (Γs s) rest (f s)) (he : m = mc.bind fun t => (if t = true then ma else mb).bind f := by rfl) : W X H0 qs rt nx A B Γ (.If c sa sb pos :: rest) m := fun q σ H at_ => by
  subst he
  obtain ⟨E, pe, hx⟩ := fr.use
  refine cons_of (wS_of (ps_if pt_w pss_w pss_w) ?_)
  refine dc σ H at_ E (pe σ) _ ((PX.bind q).mono (fun t q2 H1 s1 => ?_) fun c z => hx c H at_.ex z)
  have go : ∀ {ss : List Stmt} {mm : R S}, W X H0 qs rt (Nx X H0 qs Γs (fun s => PX A B (f s))) (fun s => PX A B (f s)) B Γ ss mm → PX A B (mm.bind f) → wSs X ss { nx := wSs X rest { nx := nx, rt := rt }, rt := rt } σ H1 := fun {ss mm} w q3 =>
    wSs_mono (D := { nx := Nx X H0 qs Γs (fun s => PX A B (f s)), rt := rt }) (fun σ' H' ⟨s, hs, as⟩ => hr s hs σ' H' as) (fun _ _ z => z) (fun _ _ z => z) (fun _ _ z => z) (w (PX.bind q3) σ H1 (at_.grow s1))
  cases t with
  | true => exact go (ha _) q2
  | false => exact go (hb _) q2
/-- branches that go on or tell -/
theorem w_ifM {c : Expr} {mc : R Bool} {ma mb : R (Ct S O)} {f : S → R O} {Γs : S → List Sl} (fr : Fr X H0 B) (dc : EvT X H0 qs Γ c mc) (ha : ∀ N : S → Prop, W X H0 qs rt (Nx X H0 qs Γs N) (ctA N A) B Γ sa ma) (hb : ∀ N : S → Prop, W X H0 qs rt (Nx X H0 qs Γs N) (ctA N A) B Γ sb mb)
    (hr : ∀ s, W X H0 qs rt nx A B (Γs s) rest (f s)) (he : m = mc.bind fun t => (if t = true then ma else mb).ct f := by rfl) : W X H0 qs rt nx A B Γ (.If c sa sb pos :: rest) m := fun q σ H at_ => by
  subst he
  obtain ⟨E, pe, hx⟩ := fr.use
  refine cons_of (wS_of (ps_if pt_w pss_w pss_w) ?_)
  refine dc σ H at_ E (pe σ) _ ((PX.bind q).mono (fun t q2 H1 s1 => ?_) fun c z => hx c H at_.ex z)
  have go : ∀ {ss : List Stmt} {mm : R (Ct S O)}, W X H0 qs rt (Nx X H0 qs Γs (fun s => PX A B (f s))) (ctA (fun s => PX A B (f s)) A) B Γ ss mm → PX A B (mm.ct f) → wSs X ss { nx := wSs X rest { nx := nx, rt := rt }, rt := rt } σ H1 := fun {ss mm} w q3 =>
    wSs_mono (D := { nx := Nx X H0 qs Γs (fun s => PX A B (f s)), rt := rt }) (fun σ' H' ⟨s, hs, as⟩ => hr s hs σ' H' as) (fun _ _ z => z) (fun _ _ z => z) (fun _ _ z => z) (w ((PX.bind q3).mono (fun c k => by cases c <;> exact k) fun _ z => z) σ H1 (at_.grow s1))
  cases t with
  | true => exact go (ha _) q2
  | false => exact go (hb _) q2

/-! ### loops -/
theorem At.own0 {K : PySem.W.Frag} {H : Hp} {σ : L2.St} (a : At K H0 qs Γ σ H) {q : Addr} (hq : q ∈ owA Γ σ) : H0 q = none := by
  have go : ∀ {Γ : List Sl} {σ : L2.St} {F : Hp}, AllOk K F H H0 Γ σ → q ∈ owA Γ σ → H0 q = none := by
    intro Γ
    induction Γ with
    | nil => intro σ F _ h; cases h
    | cons t Γ ih =>
      intro σ F ok h
      cases σ with
      | nil =>
        rw [owA_nil] at h
        cases h
      | cons u σ =>
        rw [owA_cons] at h
        rcases List.mem_append.mp h with h | h
        · cases t with
          | ow xs =>
            obtain ⟨q', vs, e1, e2, e3, _⟩ := ok.1
            subst e1
            have e : q = q' := by simpa [own1] using h
            rw [e]; exact e3
          | un => cases h
          | fr x => cases h
          | tm x => cases h
          | ot rs xss =>
            obtain ⟨q', e1, e2, e3, e4⟩ := ok.1
            subst e1
            rcases List.mem_cons.mp (show q ∈ q' :: rs from h) with e | h
            · rw [e]; exact e3
            · exact (e4.mem h).2
        · exact ih ok.2 h
  exact go a.ok hq
theorem AllOk.base {K : PySem.W.Frag} {F H H1 : Hp} : ∀ {Γ : List Sl} {σ : L2.St}, AllOk K F H H0 Γ σ → (∀ q ∈ owA Γ σ, H1 q = none) → AllOk K F H H1 Γ σ
  | [], [], _, _ => trivial
  | s :: Γ, o :: σ, h, hq => by
    refine ⟨?_, AllOk.base h.2 fun q z => hq q (by rw [owA_cons]; exact List.mem_append_right _ z)⟩
    have h1 := h.1
    cases s with
    | un => trivial
    | fr x => exact h1
    | ow xs =>
      obtain ⟨q, vs, e1, e2, e3, e4⟩ := h1
      subst e1
      exact ⟨q, vs, rfl, e2, hq q (by rw [owA_cons]; exact List.mem_append_left _ (by simp [own1])), e4⟩
    | tm x => exact h1
    | ot rs xss =>
      obtain ⟨q, e1, e2, e3, e4⟩ := h1
      subst e1
      exact ⟨q, rfl, e2, hq q (by rw [owA_cons]; exact List.mem_append_left _ List.mem_cons_self), e4.base fun r hr => hq r (by rw [owA_cons]; exact List.mem_append_left _ (List.mem_cons_of_mem _ hr))⟩
  | [], _ :: _, h, _ => h.elim
  | _ :: _, [], h, _ => h.elim
theorem At.rebase {K : PySem.W.Frag} {H : Hp} {σ : L2.St} (a : At K H0 qs Γ σ H) : At K (Fz H (owA Γ σ)) qs Γ σ H ∧ Same H0 (Fz H (owA Γ σ)) :=
  ⟨⟨Fz.out, a.ok.base fun q hq => by unfold Fz; rw [if_pos hq], a.nd, a.sep, a.qd⟩, fun b o e => Fz.some_iff.mpr ⟨fun z => (by rw [a.own0 z] at e; cases e), a.ex b o e⟩⟩
theorem At.unbase {K : PySem.W.Frag} {H H1 : Hp} {σ : L2.St} (a : At K H1 qs Γ σ H) (s : Same H0 H1) : At K H0 qs Γ σ H := ⟨s.trans a.ex, a.ok.base fun q hq => s.free (a.own0 hq), a.nd, a.sep, a.qd⟩
abbrev FoldO (it : Expr) : Prop := ∀ env x, foldedSetIterable it env x = pure x
/-- for target in it: body, that only goes on -/
theorem w_for [PyT α] {tg it : Expr} {body : List Stmt} {mx : R (List α)} {bd : α → S → R S} {s0 : S} {f : S → R O} {Γs : S → List Sl} {Γb : α → S → List Sl} {is : List Nat} (hc : X.calm = true) (fr : Fr X H0 B) (hi : EvI X H0 qs true Γ tg it mx) (hg : ∀ y s, EvG X (Γs s) tg y (Γb y s) is)
    (hb : ∀ H1, Same H0 H1 → ∀ (N : S → Prop) y s, W X H1 qs rt (Nx X H1 qs Γs N) N B (Γb y s) body (bd y s)) (hr : ∀ s, W X H0 qs rt nx A B (Γs s) rest (f s)) (hΓ : Γ = Γs s0 := by rfl) (he : m = mx.bind fun xs => (forR bd xs s0).bind f := by rfl) (hs : FoldO it := by intro _ _; rfl) :
    W X H0 qs rt nx A B Γ (.For tg it body [] pos :: rest) m := fun q σ H at_ => by
  subst he
  obtain ⟨E, pe, hx⟩ := fr.use
  refine cons_of (wS_of (ps_for (fr.po hc) hc pi_w pg_w pss_w (hs X.env)) ?_)
  refine hi σ H at_ E (pe σ) _ ((PX.bind q).mono (fun xs q2 J H1 s1 wk => ?_) fun c z => hx c H at_.ex z)
  have at1 := at_.grow s1
  obtain ⟨atb, sb⟩ := at1.rebase
  have frb := fr.up sb
  have hFb : Same (Fz H1 (av true Γ σ qs)) (Fz H1 (owA Γ σ)) := Fz.sub (Same.refl _) fun b hb => List.mem_append_left _ hb
  refine ⟨fun i mm σ' H' => mm = xs.length - i ∧ i ≤ xs.length ∧ ∃ s, At X.K (Fz H1 (owA Γ σ)) qs (Γs s) σ' H' ∧ PX (fun s' => PX A B (f s')) B (forR bd (xs.drop i) s), ⟨xs.length, by simp, Nat.zero_le _, s0, by rw [← hΓ]; exact atb, by rw [List.drop_zero]; exact PX.bind q2⟩, ?_⟩
  rintro i mm σ' H' ⟨rfl, hi', s, ats, hps⟩
  have sF : Same (Fz H1 (av true Γ σ qs)) H' := hFb.trans ats.ex
  by_cases hlt : i < xs.length
  · refine .inr ⟨wk.goes i H' hlt sF, Nx X (Fz H1 (owA Γ σ)) qs Γs (fun s' => PX (fun s2 => PX A B (f s2)) B (forR bd (xs.drop (i + 1)) s')), fun σ2 H2 ⟨s', hs', as'⟩ => ⟨xs.length - (i + 1), by omega, rfl, hlt, s', as', hs'⟩, fun v H2 hy => ?_⟩
    obtain ⟨s2, y, hy1, hy2⟩ := wk.yields i H' v H2 hlt sF hy
    have hdrop : xs.drop i = y :: xs.drop (i + 1) := by
      obtain ⟨h1, h2⟩ := List.getElem?_eq_some_iff.mp hy1
      rw [List.drop_eq_getElem_cons h1, h2]
    rw [hdrop] at hps
    have at2 := ats.grow s2
    refine hg y s _ qs σ' H2 v at2 (hy2 _ ?_ fun q hq => ats.av_there hq) _ fun σ3 at3 _ _ _ => ?_
    · refine Fz.go fun b o hb hb2 => ?_
      have hbo : (Fz H1 (owA Γ σ)) b = some o := Fz.some_iff.mpr ⟨fun z => hb (List.mem_append_left _ z), hb2⟩
      refine ⟨fun z => ?_, ats.ex b o hbo⟩
      rcases List.mem_append.mp z with z | z
      · rw [ats.own0 z] at hbo; cases hbo
      · exact hb (List.mem_append_right _ z)
    · refine wSs_mono (D := { nx := _, rt := rt }) (fun _ _ z => z) (fun _ _ z => z) (fun _ _ z => False.elim z) (fun _ _ z => False.elim z) (hb _ sb _ y s ?_ σ3 H2 at3)
      exact PX.bind (show PX _ B ((bd y s).bind fun s' => forR bd (xs.drop (i + 1)) s') from hps)
  · have e : i = xs.length := by omega
    subst e
    refine .inl ⟨wk.stops H' sF, ?_⟩
    rw [List.drop_length] at hps
    exact hr s hps σ' H' (ats.unbase sb)
/-- .. that may tell -/
theorem w_forM [PyT α] {tg it : Expr} {body : List Stmt} {mx : R (List α)} {bd : α → S → R (Ct S O)} {s0 : S} {f : S → R O} {Γs : S → List Sl} {Γb : α → S → List Sl} {is : List Nat} (hc : X.calm = true) (fr : Fr X H0 B) (hi : EvI X H0 qs true Γ tg it mx) (hg : ∀ y s, EvG X (Γs s) tg y (Γb y s) is)
    (hb : ∀ H1, Same H0 H1 → ∀ (N : S → Prop) y s, W X H1 qs rt (Nx X H1 qs Γs N) (ctA N A) B (Γb y s) body (bd y s)) (hr : ∀ s, W X H0 qs rt nx A B (Γs s) rest (f s)) (hΓ : Γ = Γs s0 := by rfl) (he : m = mx.bind fun xs => (forM bd xs s0).ct f := by rfl) (hs : FoldO it := by intro _ _; rfl) :
    W X H0 qs rt nx A B Γ (.For tg it body [] pos :: rest) m := fun q σ H at_ => by
  subst he
  obtain ⟨E, pe, hx⟩ := fr.use
  refine cons_of (wS_of (ps_for (fr.po hc) hc pi_w pg_w pss_w (hs X.env)) ?_)
  refine hi σ H at_ E (pe σ) _ ((PX.bind q).mono (fun xs q2 J H1 s1 wk => ?_) fun c z => hx c H at_.ex z)
  have at1 := at_.grow s1
  obtain ⟨atb, sb⟩ := at1.rebase
  have frb := fr.up sb
  have hFb : Same (Fz H1 (av true Γ σ qs)) (Fz H1 (owA Γ σ)) := Fz.sub (Same.refl _) fun b hb => List.mem_append_left _ hb
  let F : Ct S O → Prop := fun c => PX A B (Ct.by f .ok c)
  refine ⟨fun i mm σ' H' => mm = xs.length - i ∧ i ≤ xs.length ∧ ∃ s, At X.K (Fz H1 (owA Γ σ)) qs (Γs s) σ' H' ∧ PX F B (forM bd (xs.drop i) s), ⟨xs.length, by simp, Nat.zero_le _, s0, by rw [← hΓ]; exact atb, by rw [List.drop_zero]; exact PX.bind q2⟩, ?_⟩
  rintro i mm σ' H' ⟨rfl, hi', s, ats, hps⟩
  have sF : Same (Fz H1 (av true Γ σ qs)) H' := hFb.trans ats.ex
  by_cases hlt : i < xs.length
  · refine .inr ⟨wk.goes i H' hlt sF, Nx X (Fz H1 (owA Γ σ)) qs Γs (fun s' => PX F B (forM bd (xs.drop (i + 1)) s')), fun σ2 H2 ⟨s', hs', as'⟩ => ⟨xs.length - (i + 1), by omega, rfl, hlt, s', as', hs'⟩, fun v H2 hy => ?_⟩
    obtain ⟨s2, y, hy1, hy2⟩ := wk.yields i H' v H2 hlt sF hy
    have hdrop : xs.drop i = y :: xs.drop (i + 1) := by
      obtain ⟨h1, h2⟩ := List.getElem?_eq_some_iff.mp hy1
      rw [List.drop_eq_getElem_cons h1, h2]
    rw [hdrop] at hps
    have at2 := ats.grow s2
    refine hg y s _ qs σ' H2 v at2 (hy2 _ ?_ fun q hq => ats.av_there hq) _ fun σ3 at3 _ _ _ => ?_
    · refine Fz.go fun b o hb hb2 => ?_
      have hbo : (Fz H1 (owA Γ σ)) b = some o := Fz.some_iff.mpr ⟨fun z => hb (List.mem_append_left _ z), hb2⟩
      refine ⟨fun z => ?_, ats.ex b o hbo⟩
      rcases List.mem_append.mp z with z | z
      · rw [ats.own0 z] at hbo; cases hbo
      · exact hb (List.mem_append_right _ z)
    · refine wSs_mono (D := { nx := _, rt := rt }) (fun _ _ z => z) (fun _ _ z => z) (fun _ _ z => False.elim z) (fun _ _ z => False.elim z) (hb _ sb _ y s ?_ σ3 H2 at3)
      refine (PX.bind (show PX F B ((bd y s).bind (Ct.by (fun s' => forM bd (xs.drop (i + 1)) s') fun o => .ok (.rt o))) from hps)).mono (fun c k => ?_) fun _ z => z
      cases c <;> exact k
  · have e : i = xs.length := by omega
    subst e
    refine .inl ⟨wk.stops H' sF, ?_⟩
    rw [List.drop_length] at hps
    exact hr s hps σ' H' (ats.unbase sb)
/-- while c: body -/
theorem w_while {c : Expr} {body : List Stmt} {tc : S → R Bool} {bd : S → R S} {n : Nat} {s0 : S} {f : S → R O} {Γs : S → List Sl} (hc : X.calm = true) (fr : Fr X H0 B) (hcc : ∀ s, EvT X H0 qs (Γs s) c (tc s)) (hb : ∀ (N : S → Prop) s, W X H0 qs rt (Nx X H0 qs Γs N) N B (Γs s) body (bd s))
    (hr : ∀ s, W X H0 qs rt nx A B (Γs s) rest (f s)) (hΓ : Γ = Γs s0 := by rfl) (he : m = (whileR tc bd n s0).bind f := by rfl) : W X H0 qs rt nx A B Γ (.While c body [] pos :: rest) m := fun q σ H at_ => by
  subst he
  obtain ⟨E, pe, hx⟩ := fr.use
  refine cons_of (wS_of (ps_while (fr.po hc) pt_w pss_w) ?_)
  refine ⟨fun mm σ' H' => ∃ s, At X.K H0 qs (Γs s) σ' H' ∧ PX (fun s' => PX A B (f s')) B (whileR tc bd mm s), ⟨n, s0, by rw [← hΓ]; exact at_, PX.bind q⟩, ?_⟩
  rintro mm σ' H' ⟨s, ats, hps⟩
  cases mm with
  | zero => exact (show False from hps).elim
  | succ mm =>
    have k := PX.bind (show PX _ B ((tc s).bind fun t => if t = true then (bd s).bind fun s' => whileR tc bd mm s' else .ok s) from hps)
    refine hcc s σ' H' ats E (pe σ') _ (k.mono (fun t kt H2 s2 => ?_) fun c z => hx c H' ats.ex z)
    cases t with
    | true =>
      rw [if_pos rfl]
      refine ⟨Nx X H0 qs Γs (fun s' => PX (fun s2 => PX A B (f s2)) B (whileR tc bd mm s')), fun σ2 H3 ⟨s', hs', as'⟩ => ⟨mm, Nat.lt_succ_self _, s', as', hs'⟩, ?_⟩
      refine wSs_mono (D := { nx := _, rt := rt }) (fun _ _ z => z) (fun _ _ z => z) (fun _ _ z => False.elim z) (fun _ _ z => False.elim z) (hb _ s ?_ σ' H2 (ats.grow s2))
      exact PX.bind (show PX _ B ((bd s).bind fun s' => whileR tc bd mm s') from kt)
    | false =>
      rw [if_neg Bool.false_ne_true]
      exact hr s (show PX A B (f s) from kt) σ' H2 (ats.grow s2)
theorem w_whileM {c : Expr} {body : List Stmt} {tc : S → R Bool} {bd : S → R (Ct S O)} {n : Nat} {s0 : S} {f : S → R O} {Γs : S → List Sl} (hc : X.calm = true) (fr : Fr X H0 B) (hcc : ∀ s, EvT X H0 qs (Γs s) c (tc s)) (hb : ∀ (N : S → Prop) s, W X H0 qs rt (Nx X H0 qs Γs N) (ctA N A) B (Γs s) body (bd s))
    (hr : ∀ s, W X H0 qs rt nx A B (Γs s) rest (f s)) (hΓ : Γ = Γs s0 := by rfl) (he : m = (whileM tc bd n s0).ct f := by rfl) : W X H0 qs rt nx A B Γ (.While c body [] pos :: rest) m := fun q σ H at_ => by
  subst he
  obtain ⟨E, pe, hx⟩ := fr.use
  refine cons_of (wS_of (ps_while (fr.po hc) pt_w pss_w) ?_)
  let F : Ct S O → Prop := fun c => PX A B (Ct.by f .ok c)
  refine ⟨fun mm σ' H' => ∃ s, At X.K H0 qs (Γs s) σ' H' ∧ PX F B (whileM tc bd mm s), ⟨n, s0, by rw [← hΓ]; exact at_, PX.bind q⟩, ?_⟩
  rintro mm σ' H' ⟨s, ats, hps⟩
  cases mm with
  | zero => exact (show False from hps).elim
  | succ mm =>
    have k := PX.bind (show PX F B ((tc s).bind fun t => if t = true then (bd s).bind (Ct.by (fun s' => whileM tc bd mm s') fun o => .ok (.rt o)) else .ok (.nx s)) from hps)
    refine hcc s σ' H' ats E (pe σ') _ (k.mono (fun t kt H2 s2 => ?_) fun c z => hx c H' ats.ex z)
    cases t with
    | true =>
      rw [if_pos rfl]
      refine ⟨Nx X H0 qs Γs (fun s' => PX F B (whileM tc bd mm s')), fun σ2 H3 ⟨s', hs', as'⟩ => ⟨mm, Nat.lt_succ_self _, s', as', hs'⟩, ?_⟩
      refine wSs_mono (D := { nx := _, rt := rt }) (fun _ _ z => z) (fun _ _ z => z) (fun _ _ z => False.elim z) (fun _ _ z => False.elim z) (hb _ s ?_ σ' H2 (ats.grow s2))
      refine (PX.bind (show PX F B ((bd s).bind (Ct.by (fun s' => whileM tc bd mm s') fun o => .ok (.rt o))) from kt)).mono (fun c k => ?_) fun _ z => z
      cases c <;> exact k
    | false =>
      rw [if_neg Bool.false_ne_true]
      exact hr s (show PX A B (f s) from kt) σ' H2 (ats.grow s2)

/-! ### raise -/
/-- an error class of the text -/
structure Xn (X : Cx) (c : Exc) : Prop where
  gC : X.mg c.nm = some (.ref (He.ga X.K c.nm))
  xc : PySem.W.excIn X.K (He.ga X.K c.nm) He.veBase "ValueError.__new__" = true
  kp : PySem.W.keepIn X.K (.ref (He.ga X.K c.nm)) = true
  sb : PySem.W.subIn X.K (.ref (He.ga X.K c.nm)) (.type "BaseException") = some true
  ty : PySem.W.typeIn X.K (.ref (He.ga X.K c.nm)) = some (.type "type")
theorem w_raise {y : Str} {j : Nat} (c : Exc) (hc : X.calm = true) (fr : Fr X H0 B) (xn : Xn X c) (g : Gn X c.nm) (he : m = .exc c := by rfl) : W X H0 qs rt nx A B Γ (.Raise (some (.Call (.Name c.nm p1) [.Constant (.str y) j p2] [] p3)) none pos :: rest) m := fun q σ H at_ => by
  subst he
  obtain ⟨E, tk, hx⟩ := fr.ex
  refine cons_of (wS_of (ps_raise hc tk (pmk_own PySem.F.excBase_ValueError xn.xc xn.gC xn.kp (raises_own xn.sb xn.ty) g.gl g.hd)) ?_)
  exact hx c q H at_.ex
end
end Wk
set_option Elab.async false
set_option linter.all false
set_option maxRecDepth 100000
/-! Wk9: defs by their bodies, the law's end. -/
namespace Wk
open PySem PySem.Spec PyProof.Rows L2
/-! ### facts about the error classes, the head's Hook with them -/
inductive Fe where
  | exc (x : Str)
  | kit (x y : Str) (b : Bool)
  | kitB (x : Str) (n : String) (b : Bool)
def Fe.ok (K : PySem.W.Frag) : Fe → Bool
  | .exc x => decide (PySem.W.findIn K (.ref (He.ga K x)) "__getattribute__" = some (some (.builtin "BaseException.__getattribute__"))) && (decide (PySem.W.findIn K (.ref (He.ga K x)) "__getattr__" = some none) && (decide (PySem.W.subIn K (.ref (He.ga K x)) (.type "BaseException") = some true) && (PySem.W.hasDictIn K (He.ga K x) &&
    (decide (PySem.W.findIn K (.ref (He.ga K x)) "__class__" = some (some (.builtin "object.__class__"))) && (decide (PySem.W.specialIn K (.builtin "object.__class__") "__get__" = some (some (.builtin "getset_descriptor.__get__"))) && (decide (PySem.W.takesIn K (.builtin "object.__class__") = some true) && decide (PySem.W.mroIn K (He.ga K x) (.type "object") = some true)))))))
  | .kit x y b => decide (PySem.W.kitOne K (.ref (He.ga K x)) (.ref (He.ga K y)) = some b)
  | .kitB x n b => decide (PySem.W.kitOne K (.ref (He.ga K x)) (.type n) = some b)
abbrev AlE : Type := Bool × He.AlD
def obsE (fe : List Fe) (fa : List He.Fa) (fn : List He.DefD) (K : PySem.W.Frag) : AlE := (fe.all fun f => f.ok K, He.obsD fa fn K)
def valE (fn : List He.DefD) : AlE := (true, He.valD fn)
structure Says (fe : List Fe) (fa : List He.Fa) (fn : List He.DefD) (K : PySem.W.Frag) : Prop where
  e : fe.all (fun f => f.ok K) = true
  d : He.SaysD fa fn K
def obsEG (n : Nat) (fe : List Fe) (fa : List He.Fa) (fn : List He.DefD) (g : Addr → Option Obj) : AlE := obsE fe fa fn (He.frG g (He.asD g n))
def hookE (n : Nat) (fe : List Fe) (fa : List He.Fa) (fn : List He.DefD) : PySem.W.Hook where
  α := AlE
  obs := fun s => obsEG n fe fa fn s.heap.get?
  val := fun _ => valE fn
  says := fun _ h => ∃ K : PySem.W.Frag, K.In h ∧ Says fe fa fn K
  of := fun _ _ e => ⟨_, He.frG_in, ⟨congrArg (fun z : AlE => z.1) e, congrArg (fun z : AlE => z.2) e⟩⟩
  keeps := fun _ _ _ ⟨K, hK, c⟩ k => ⟨K, PySem.W.Frag.In.keeps hK k, c⟩
theorem obsEG_eq {n : Nat} {fe : List Fe} {fa : List He.Fa} {fn : List He.DefD} {g : Addr → Option Obj} {s : Shared} (h : ∀ a, g a = s.heap.get? a) : obsEG n fe fa fn g = (hookE n fe fa fn).obs s := by
  have e : g = s.heap.get? := funext h
  rw [e] <;> rfl
theorem Says.fact {fe : List Fe} {fa : List He.Fa} {fn : List He.DefD} {K : PySem.W.Frag} (c : Says fe fa fn K) (i : Nat) {f : Fe} (h : fe[i]? = some f := by rfl) : f.ok K = true := List.all_eq_true.mp c.e f (List.mem_of_getElem? h)
theorem exc_of {x : Str} {K : PySem.W.Frag} (c : (Fe.exc x).ok K = true) : ExcC K (He.ga K x) := by
  obtain ⟨c1, c⟩ := He.ba c
  obtain ⟨c2, c⟩ := He.ba c
  obtain ⟨c3, c⟩ := He.ba c
  obtain ⟨c4, c⟩ := He.ba c
  obtain ⟨c5, c⟩ := He.ba c
  obtain ⟨c6, c⟩ := He.ba c
  obtain ⟨c7, c8⟩ := He.ba c
  exact ⟨of_decide_eq_true c1, of_decide_eq_true c2, of_decide_eq_true c3, c4, of_decide_eq_true c5, of_decide_eq_true c6, of_decide_eq_true c7, of_decide_eq_true c8⟩
theorem kit_of' {x y : Str} {b : Bool} {K : PySem.W.Frag} (c : (Fe.kit x y b).ok K = true) : PySem.W.kitOne K (.ref (He.ga K x)) (.ref (He.ga K y)) = some b := of_decide_eq_true c
theorem kitB_of {x : Str} {n : String} {b : Bool} {K : PySem.W.Frag} (c : (Fe.kitB x n b).ok K = true) : PySem.W.kitOne K (.ref (He.ga K x)) (.type n) = some b := of_decide_eq_true c
/-- facts behind the top -/
structure Fac (fe : List Fe) (fa : List He.Fa) (fn : List He.DefD) (K : PySem.W.Frag) (mg : Str → Option Value) : Prop where
  ex : ∃ h : Heap, K.In h ∧ h.Ns mainGlobals mg
  s : Says fe fa fn K
section
variable {fe : List Fe} {fa : List He.Fa} {fn : List He.DefD} {K : PySem.W.Frag} {mg : Str → Option Value}
theorem Fac.glo (f : Fac fe fa fn K mg) (i : Nat) {x : Str} (h : fa[i]? = some (.glo x) := by rfl) : mg x = some (.ref (He.ga K x)) := by
  obtain ⟨h', X, G⟩ := f.ex
  exact He.glo_ok X G (f.s.d.fact i h)
theorem Fac.free (f : Fac fe fa fn K mg) (i : Nat) {x : Str} (h : fa[i]? = some (.free x) := by rfl) : mg x = none := by
  obtain ⟨h', X, G⟩ := f.ex
  exact He.free_ok X G (f.s.d.fact i h)
theorem Fac.int (f : Fac fe fa fn K mg) (i : Nat) {x : Str} {z : Int} (h : fa[i]? = some (.int x z) := by rfl) : ∃ t, mg x = some (.int z t) := by
  obtain ⟨h', X, G⟩ := f.ex
  exact He.int_ok X G (f.s.d.fact i h)
theorem Fac.str (f : Fac fe fa fn K mg) (i : Nat) {x z : Str} (h : fa[i]? = some (.str x z) := by rfl) : ∃ t, mg x = some (.str z t) := by
  obtain ⟨h', X, G⟩ := f.ex
  exact He.str_ok X G (f.s.d.fact i h)
end
/-- what a body is walked in -/
structure Cb (fe : List Fe) (fa : List He.Fa) (fn : List He.DefD) (X : Cx) (N : List Str) (sc : Scope) (k : Nat) : Prop where
  hX : XOk X N sc
  rm : Room k X.A
  fc : Fac fe fa fn X.K X.mg
  kd : X.env.scope.kind = .function
  fnt : ∀ x, X.fn x = true
  sk : X.stack = X.env :: X.outer
  ff : X.env.frame = some X.env.locals
section
variable {fe : List Fe} {fa : List He.Fa} {fn : List He.DefD} {X : Cx} {N : List Str} {sc : Scope} {k : Nat}
theorem Cb.hu (c : Cb fe fa fn X N sc k) : X.A.units + 64 < cLine := c.rm.units
theorem Cb.xn (c : Cb fe fa fn X N sc k) (e : Exc) (i j : Nat) (h : fa[i]? = some (.glo e.nm) := by rfl) (h2 : fa[j]? = some (.exc e.nm) := by rfl) : Xn X e := by
  obtain ⟨h1, h2, h3, h4⟩ := He.exc_ok (c.fc.s.d.fact j h2)
  exact ⟨c.fc.glo i h, h1, h2, h3, h4⟩
end
/-- a def that keeps its promise -/
structure Gd (P : Program) (w : World) (K : PySem.W.Frag) (mg : Str → Option Value) (base : Heap) (x : Str) (sp : Sp) (n k : Nat) : Prop where
  ex : ∃ (f : Addr) (fd : FuncData) (ps : List Str), FnOk P w K mg base (L2.CX P w) k f fd ps sp ∧ mg x = some (.ref f) ∧ PySem.W.keepIn K (.ref f) = true ∧ Binds K fd ps [] ∧ ps.length = n
theorem Gd.dn {X : Cx} {x : Str} {sp : Sp} {n j k : Nat} (g : Gd X.prog X.w X.K X.mg X.base x sp n j) (r : Room k X.A) (h : j ≤ k := by decide) : Dn X x sp n := by
  obtain ⟨f, fd, ps, F, h1, h2, h3, h4⟩ := g.ex
  exact ⟨j, f, fd, ps, F, r.mono h, h1, h2, h3, h4⟩

/-! ### slots at the entry -/
def NoO (Γ : List Sl) : Prop := ∀ s ∈ Γ, ∀ o, own1 s o = []
theorem NoO.nil {Γ : List Sl} (h : NoO Γ) : ∀ σ : L2.St, owA Γ σ = [] := by
  induction Γ with
  | nil => intro σ; rfl
  | cons s Γ ih =>
    intro σ
    cases σ with
    | nil => rfl
    | cons o σ =>
      rw [owA_cons, h s List.mem_cons_self, ih (fun t ht => h t (List.mem_cons_of_mem _ ht))] <;> rfl
class PyS (τ : Type) extends PyA τ where
  sl : τ → List Sl
  sok : ∀ {K : PySem.W.Frag} {F H H0 : Hp} {vs : List V} {x : τ}, reps K F vs x → AllOk K F H H0 (sl x) (vs.map some)
  sno : ∀ x : τ, NoO (sl x)
instance : PyS Unit where
  sl := fun _ => []
  sok := fun {K F H H0 vs x} h => by
    have e : vs = [] := h
    subst e
    trivial
  sno := fun _ s hs => by cases hs
instance {α τ : Type} [PyT α] [PyS τ] : PyS (α × τ) where
  sl := fun x => .fr x.1 :: PyS.sl x.2
  sok := fun {K F H H0 vs x} h => by
    obtain ⟨v, ws, e, h1, h2⟩ := h
    subst e
    exact ⟨⟨v, rfl, h1⟩, PyS.sok h2⟩
  sno := fun x s hs o => by
    rcases List.mem_cons.mp hs with e | hs
    · subst e; rfl
    · exact PyS.sno x.2 s hs o
theorem AllOk.app {K : PySem.W.Frag} {F H H0 : Hp} : ∀ {Γ Γ' : List Sl} {σ σ' : L2.St}, AllOk K F H H0 Γ σ → AllOk K F H H0 Γ' σ' → AllOk K F H H0 (Γ ++ Γ') (σ ++ σ')
  | [], _, [], _, _, h => h
  | s :: Γ, _, o :: σ, _, h, h2 => ⟨h.1, AllOk.app h.2 h2⟩
  | [], _, _ :: _, _, h, _ => h.elim
  | _ :: _, _, [], _, h, _ => h.elim
theorem AllOk.uns {K : PySem.W.Frag} {F H H0 : Hp} : ∀ n : Nat, AllOk K F H H0 (List.replicate n .un) (List.replicate n none)
  | 0 => trivial
  | n + 1 => ⟨trivial, AllOk.uns n⟩
theorem at_start {K : PySem.W.Frag} {H : Hp} {qs : List Addr} {τ : Type} [PyS τ] {x : τ} {vs : List V} {N : List Str} {n : Nat} (hn : vs.length = n) (r : PyA.reps K (Fz H qs) vs x) (hq : ∀ q ∈ qs, H q ≠ none) : At K H qs (PyS.sl x ++ List.replicate (N.length - n) .un) (L2.start N vs) H := by
  have no : NoO (PyS.sl x ++ List.replicate (N.length - n) .un) := fun s hs o => by
    rcases List.mem_append.mp hs with h | h
    · exact PyS.sno x s h o
    · rw [(List.mem_replicate.mp h).2] <;> rfl
  have e : owA (PyS.sl x ++ List.replicate (N.length - n) .un) (L2.start N vs) = [] := no.nil _
  refine ⟨Same.refl H, ?_, by rw [e]; exact List.nodup_nil, (by rw [e]; intro p hp; cases hp), hq⟩
  rw [e]
  unfold L2.start
  rw [hn]
  exact (PyS.sok (show PyA.reps K (Fz H ([] ++ qs)) vs x from r)).app (AllOk.uns _)

/-! ### a def by its body -/
section
variable {fe : List Fe} {fa : List He.Fa} {fn : List He.DefD} {P : Program} {w : World} {K : PySem.W.Frag} {mg : Str → Option Value} {base : Heap} {x qual : Str} {params : Arguments} {body : List Stmt} {scope : Scope} {f : Addr} {fd : FuncData} {N ps : List Str} {n k : Nat} {τ ρ : Type}
theorem cb_of {cdv : Value} {A : Around} {outer : List Env} {s : Shared} {H : Hp} {E : XK} (S : FnScope N ps scope) (fc : Fac fe fa fn K mg) (hr : Room k (A.deeper (envOfC qual scope s.heap.objs.size f cdv))) :
    Cb fe fa fn (cxOf (L2.CX P w) P w K mg base N qual scope f cdv A outer s H E) N scope k :=
  ⟨⟨⟨rfl, rfl, S.nd⟩, rfl⟩, hr, fc, S.kind, fun _ => rfl, rfl, rfl⟩
theorem fr_of {cdv : Value} {A : Around} {outer : List Env} {s : Shared} {H : Hp} {E : XK} (S : FnScope N ps scope) : Fr (cxOf (L2.CX P w) P w K mg base N qual scope f cdv A outer s H E) H (fun c => ∀ H', Same H H' → E (.ref (He.ga K c.nm)) none H') :=
  ⟨⟨E, takes_of rfl rfl rfl rfl, fun c h H' s' => h H' s'⟩, fun _ => passes_of rfl⟩
/-- one that tells what isn't changed -/
theorem fn_F [PyS τ] [PyT ρ] {m : τ → R ρ} (F : FunD K x qual params body scope [] [] f fd) (S : FnScope N ps scope) (fc : Fac fe fa fn K mg) (hl : ps.length = n)
    (hb : ∀ (X : Cx), X.prog = P → X.w = w → X.K = K → X.mg = mg → X.base = base → Cb fe fa fn X N scope k → ∀ (H0 : Hp) (qs : List Addr) (rt : VK) (A : ρ → Prop) (B : Exc → Prop), Fr X H0 B → RtF X H0 qs rt A → ∀ t : τ, W X H0 qs rt (fun _ H => rt .non H) A B (PyS.sl t ++ List.replicate (N.length - n) .un) body (m t)) :
    FnOk P w K mg base (L2.CX P w) (k + 1) f fd ps (spF K n m) := by
  refine F.ok S (fun vs H Q E ⟨_, _, h, _⟩ => h.trans hl.symm) fun cdv A outer s H vs Q E hr ⟨qs, t, h1, h2, h3, h4⟩ => ⟨_, pss_w, ?_⟩
  exact hb _ rfl rfl rfl rfl rfl (cb_of S fc hr) H qs Q (fun r => ∀ v H', Same H H' → rep K (Fz H' qs) v r → Q v H') _ (fr_of S) (fun r a => a) t h4 _ H (at_start h1 h3 h2)
/-- .. a new list -/
theorem fn_O [PyS τ] [PyT ρ] {m : τ → R (List ρ)} (F : FunD K x qual params body scope [] [] f fd) (S : FnScope N ps scope) (fc : Fac fe fa fn K mg) (hl : ps.length = n)
    (hb : ∀ (X : Cx), X.prog = P → X.w = w → X.K = K → X.mg = mg → X.base = base → Cb fe fa fn X N scope k → ∀ (H0 : Hp) (qs : List Addr) (rt : VK) (A : List ρ → Prop) (B : Exc → Prop), Fr X H0 B → RtO X H0 qs rt A → ∀ t : τ, W X H0 qs rt (fun _ H => rt .non H) A B (PyS.sl t ++ List.replicate (N.length - n) .un) body (m t)) :
    FnOk P w K mg base (L2.CX P w) (k + 1) f fd ps (spO K n m) := by
  refine F.ok S (fun vs H Q E ⟨_, _, h, _⟩ => h.trans hl.symm) fun cdv A outer s H vs Q E hr ⟨qs, t, h1, h2, h3, h4⟩ => ⟨_, pss_w, ?_⟩
  exact hb _ rfl rfl rfl rfl rfl (cb_of S fc hr) H qs Q (fun r => ∀ p vs H', Same H H' → H p = none → H' p = some (.lst vs) → RepL K (Fz H' (p :: qs)) vs r → Q (.ref p) H') _ (fr_of S) (fun r a => a) t h4 _ H (at_start h1 h3 h2)
abbrev BindE (d : He.DefD) (ps : List Str) : Prop := ∀ (kV doc pm : Value) (an : Option Addr) (cdv ct : Value) (us : List Value), us.length = ps.length → bindArgs (PySem.W.fnOf d.name d.qual d.params d.body d.scope .none kV doc pm an cdv ct) ⟨us, []⟩ = pure (ps.zip us)
theorem gd_F [PyS τ] [PyT ρ] {m : τ → R ρ} {d : He.DefD} (i j : Nat) (fc : Fac fe fa fn K mg) (hi : fn[i]? = some d) (hj : fa[j]? = some (.glo x)) (S : FnScope N ps d.scope) (hl : ps.length = n) (bn : BindE d ps)
    (hb : ∀ (X : Cx), X.prog = P → X.w = w → X.K = K → X.mg = mg → X.base = base → Cb fe fa fn X N d.scope k → ∀ (H0 : Hp) (qs : List Addr) (rt : VK) (A : ρ → Prop) (B : Exc → Prop), Fr X H0 B → RtF X H0 qs rt A → ∀ t : τ, W X H0 qs rt (fun _ H => rt .non H) A B (PyS.sl t ++ List.replicate (N.length - n) .un) d.body (m t))
    (e1 : d.at_ = (x, none) := by rfl) (e2 : d.dfl = [] := by rfl) (e3 : d.kwd = [] := by rfl) : Gd P w K mg base x (spF K n m) n (k + 1) := by
  obtain ⟨fd, F⟩ := fc.s.d.def_ i hi
  have F' : FunD K d.name d.qual d.params d.body d.scope [] [] (He.fAd K d.at_) fd := by
    have q1 : d.dvs K = [] := by unfold He.DefD.dvs; rw [e2] <;> rfl
    have q2 : d.kws K = [] := by unfold He.DefD.kws; rw [e3] <;> rfl
    rw [q1, q2] at F
    exact F
  refine ⟨_, fd, ps, fn_F F' S fc hl hb, ?_, F'.kp, F'.bindsN bn, hl⟩
  rw [e1]
  exact fc.glo j hj
theorem gd_O [PyS τ] [PyT ρ] {m : τ → R (List ρ)} {d : He.DefD} (i j : Nat) (fc : Fac fe fa fn K mg) (hi : fn[i]? = some d) (hj : fa[j]? = some (.glo x)) (S : FnScope N ps d.scope) (hl : ps.length = n) (bn : BindE d ps)
    (hb : ∀ (X : Cx), X.prog = P → X.w = w → X.K = K → X.mg = mg → X.base = base → Cb fe fa fn X N d.scope k → ∀ (H0 : Hp) (qs : List Addr) (rt : VK) (A : List ρ → Prop) (B : Exc → Prop), Fr X H0 B → RtO X H0 qs rt A → ∀ t : τ, W X H0 qs rt (fun _ H => rt .non H) A B (PyS.sl t ++ List.replicate (N.length - n) .un) d.body (m t))
    (e1 : d.at_ = (x, none) := by rfl) (e2 : d.dfl = [] := by rfl) (e3 : d.kwd = [] := by rfl) : Gd P w K mg base x (spO K n m) n (k + 1) := by
  obtain ⟨fd, F⟩ := fc.s.d.def_ i hi
  have F' : FunD K d.name d.qual d.params d.body d.scope [] [] (He.fAd K d.at_) fd := by
    have q1 : d.dvs K = [] := by unfold He.DefD.dvs; rw [e2] <;> rfl
    have q2 : d.kws K = [] := by unfold He.DefD.kws; rw [e3] <;> rfl
    rw [q1, q2] at F
    exact F
  refine ⟨_, fd, ps, fn_O F' S fc hl hb, ?_, F'.kp, F'.bindsN bn, hl⟩
  rw [e1]
  exact fc.glo j hj
/-- the law's end -/
theorem end_of {l : PySem.W.OpenLaw} {q : Program} {loose : List Str} {XP : (Str → Option Value) → Heap → Prop} {d : DefRec} {x : Str} {dd : He.DefD} {hd : Nat} {m : Scr × Unit → R Bool}
    (hn : l.most = some 63) (hdf : d.params.defaults = []) (hdn : d.name = "law") (hr : Room (k + 1) callerA) (i j : Nat) (hi : fn[i]? = some dd) (hj : fa[j]? = some (.glo "law")) (S : FnScope N [x] dd.scope) (bn : BindE dd [x])
    (hb : ∀ (w : World) (X : Cx), X.prog = l.prog → X.w = w → Cb fe fa fn X N dd.scope k → ∀ (H0 : Hp) (qs : List Addr) (rt : VK) (A : Bool → Prop) (B : Exc → Prop), Fr X H0 B → RtF X H0 qs rt A → ∀ t : Scr × Unit, W X H0 qs rt (fun _ H => rt .non H) A B (PyS.sl t ++ List.replicate (N.length - 1) .un) dd.body (m t))
    (hm : ∀ ns : List Int, ns.length ≤ 63 → (∀ z ∈ ns, Builtin.Int.intBits z ≤ 1048576) → m (⟨ns⟩, ()) = .ok true)
    (e1 : dd.at_ = (("law" : Str), none) := by rfl) (e2 : dd.dfl = [] := by rfl) (e3 : dd.kwd = [] := by rfl) :
    PySem.W.WalkO q loose XP (fun _ h => ∃ K : PySem.W.Frag, K.In h ∧ Says fe fa fn K) l.row.toRowW d [] (fun f vs => PySem.call f vs) := by
  refine Att.attach_callB hn hdf fun w s₀ s₁ mg mb f0 o pm cd doc a vs ns G Y ho hd hcd hmg hobj hints hlen hbits hg => ?_
  obtain ⟨K, KX, c⟩ := Y
  have fc : Fac fe fa fn K mg := ⟨⟨_, KX, G.T.g⟩, c⟩
  obtain ⟨fd, F⟩ := c.d.def_ i hi
  have F' : FunD K dd.name dd.qual dd.params dd.body dd.scope [] [] (He.fAd K dd.at_) fd := by
    have q1 : dd.dvs K = [] := by unfold He.DefD.dvs; rw [e2] <;> rfl
    have q2 : dd.kws K = [] := by unfold He.DefD.kws; rw [e3] <;> rfl
    rw [q1, q2] at F
    exact F
  have ef : f0 = He.fAd K dd.at_ := by
    rw [hdn] at hmg
    have h2 := fc.glo j hj
    rw [hmg] at h2
    cases h2
    rw [e1] <;> rfl
  subst ef
  refine law_call (sp := spF K 1 m) KX G.T.g G.T.b G.T.builtins G.T.nolimit hg hobj hints (Nat.le_trans hlen (by decide)) hr
    (fun base _ _ => fn_F F' S fc rfl fun X h1 h2 _ _ _ C => hb w X h1 h2 C) (fun s u => FunD.bindsA (ps := [x]) F' bn s [u] rfl) (fun H hO hS => ?_) fun H e s' h => ?_
  · refine ⟨[], (⟨ns⟩, ()), rfl, (fun q hq => by cases hq), ⟨_, _, rfl, ⟨a, rfl, ?_⟩, rfl⟩, ?_⟩
    · rw [Fz.nil]; exact hS
    · rw [hm ns hlen hbits]
      intro v H' _ hv
      exact hv
  · obtain ⟨a', B, H', cls, d', _, _, _, _, _, _, _, z⟩ := h
    exact z
end
end Wk
set_option Elab.async false
set_option linter.all false
set_option maxRecDepth 100000
/-! Wk10: try .. except. -/
namespace Wk
open PySem PySem.Spec PyProof.Rows L2
/-! ### the error that a suite holds -/
structure ExV where
  a : Addr
instance : PyT ExV where
  rep := fun _ _ v x => v = .ref x.a
  mono := fun _ h => h
/-- isinstance(e, (c1, ..)), e the exception that the suite holds -/
def rIsET (K : PySem.W.Frag) (D a : Addr) : List V → Hp → VK → Prop := fun xs H Q => ∃ (tp : Addr) (cs : List V) (us : List Value) (b : Bool), xs = [.ref a, .ref tp] ∧ H tp = some (.tup cs) ∧ Paired ClsV cs us ∧ PySem.W.kitAny K (.ref D) us = some b ∧ Q (.bl b) H
theorem call_isET {X : Cx} {a D : Addr} {oe : Obj} {pn : List (Addr × Obj)} (C : ExcC X.K D) (hz : Zc (.ref D) none oe) (hf : ∃ vs, oe.data = .fields vs) : CallR (X.suite a ((a, oe) :: pn)) (.builtin "isinstance") (rIsET X.K D a) := by
  intro pins s σ H xs us Q I r h
  obtain ⟨tp, cs, ws, b, rfl, hT, k, e, q⟩ := h
  cases r with
  | cons rx rr =>
    cases rr with
    | cons rt rr =>
      cases rr
      cases rx
      cases rt
      obtain ⟨hget, _⟩ := I.pin (a, oe) (List.mem_append.mpr (.inl List.mem_cons_self))
      obtain ⟨vs, hv⟩ := hf
      have J : PySem.W.InstAt s.heap a oe D none := by
        obtain ⟨oc, od, oda, osl⟩ := oe
        obtain ⟨h1, h2⟩ := hz
        dsimp only at h1 h2 hv
        subst h1 h2 hv
        exact ⟨hget, rfl, rfl, trivial⟩
      obtain ⟨_, its, rv, o, h1, h2, n, h3⟩ := (show ObjOk X.prog X.w H s.heap tp (.tup cs) from I.hok tp _ hT)
      have e3 := ClsV.all k rv
      subst e3
      obtain ⟨oc, od, dt, sl⟩ := o
      simp only at h2 h3
      subst h2 h3
      exact PySem.W.kia_tup (PySem.W.handS_kitx_exc C.hg C.hk C.hs C.hd C.ha C.hn C.ht C.hm) I.kIn J h1 e (fun z => nomatch z) fun tk => ⟨.bl b, H, I.kept (t' := tk) fun _ _ z => z, rfl, q⟩
/-- an except suite within X, for an error of the class c at a -/
structure Su (X X' : Cx) (a : Addr) (c : Exc) : Prop where
  K : X'.K = X.K
  mg : X'.mg = X.mg
  N : X'.N = X.N
  env : X'.env = X.env
  fn : X'.fn = X.fn
  A : X'.A.units = X.A.units
  fr : ∀ H0, Fr X' H0 (fun _ => False)
  is1 : ExcC X.K (He.ga X.K c.nm) → CallR X' (.builtin "isinstance") (rIsE X.K (He.ga X.K c.nm) a)
  isT : ExcC X.K (He.ga X.K c.nm) → CallR X' (.builtin "isinstance") (rIsET X.K (He.ga X.K c.nm) a)
theorem Su.hX {X X' : Cx} {a : Addr} {c : Exc} {N : List Str} {sc : Scope} (u : Su X X' a c) (h : XN X N sc) : XN X' N sc := ⟨u.N.trans h.hN, by rw [u.env]; exact h.hs, by rw [u.N]; exact h.nd⟩
/-- a try's body within X -/
structure Tri (X X' : Cx) : Prop where
  prog : X'.prog = X.prog
  w : X'.w = X.w
  K : X'.K = X.K
  mg : X'.mg = X.mg
  base : X'.base = X.base
  A : X'.A = X.A
  N : X'.N = X.N
  env : X'.env = X.env
  calm : X'.calm = X.calm
  fn : X'.fn = X.fn
theorem Tri.hX {X X' : Cx} {N : List Str} {sc : Scope} (u : Tri X X') (h : XOk X N sc) : XOk X' N sc := ⟨⟨u.N.trans h.hN, by rw [u.env]; exact h.hs, by rw [u.N]; exact h.nd⟩, u.calm.trans h.calm⟩
theorem Tri.dn {X X' : Cx} {x : Str} {sp : Sp} {n : Nat} (b : Tri X X') (D : Dn X x sp n) : Dn X' x sp n := by
  obtain ⟨k, f, fd, ps, F, h1, h2, h3, h4, h5⟩ := D.ex
  refine ⟨k, f, fd, ps, ?_, by rw [b.A]; exact h1, by rw [b.mg]; exact h2, by rw [b.K]; exact h3, by rw [b.K]; exact h4, h5⟩
  rw [b.prog, b.w, b.K, b.mg, b.base]
  exact F
theorem Tri.none {X X' : Cx} {x : Str} (b : Tri X X') (h : X.mg x = Option.none) : X'.mg x = Option.none := by rw [b.mg]; exact h
theorem Tri.hu {X X' : Cx} (b : Tri X X') (h : X.A.units + 64 < cLine) : X'.A.units + 64 < cLine := by rw [b.A]; exact h

/-! ### a try's body: one statement, in branches -/
def TB (X : Cx) (H0 : Hp) (qs : List Addr) (Γ : List Sl) (body : List Stmt) {S : Type} (Γs : S → List Sl) (m : R S) : Prop :=
  ∀ σ H, At X.K H0 qs Γ σ H → ∀ E : XK, Pas X σ E → ∀ D : Ends, PX (fun s => ∀ σ' H', At X.K H0 qs (Γs s) σ' H' → D.nx σ' H') (XW X E H) m → wSs X body D σ H
section
variable {X : Cx} {H0 : Hp} {qs : List Addr} {rt : VK} {nx : L2.St → Hp → Prop} {O : Type} {A : O → Prop} {B : Exc → Prop} {Γ : List Sl} {rest : List Stmt} {e a b : Expr} {pos p p1 p2 p3 : Pos} {x n : Str} {i : Nat} {α S : Type}
theorem tb_asg [PyT α] {Γs : S → List Sl} {m1 : R α} {m : R S} {g : α → S} (l : Lc X i x) (d : Ev X H0 qs true Γ e m1) (hΓ : ∀ y, Γs (g y) = Γ.set i (.fr y) := by intro _; rfl) (he : m = m1.bind fun y => .ok (g y) := by rfl)
    (hs : ∀ env, swapsWith e (some (.Name x p)) pos.line env = pure false := by intro _; rfl) : TB X H0 qs Γ [.Assign [.Name x p] e pos] Γs m := fun σ H at_ E pe D q => by
  subst he
  refine wSs_cons (wS_of (ps_set l.nd l.hi l.loc pe_w (hs X.env) l.fn) ?_)
  refine d σ H at_ E pe _ ((PX.bind q).mono (fun y q2 v H1 s1 r1 => ?_) fun c z => z)
  exact wSs_of pss_nil (q2 _ H1 (by rw [hΓ]; exact (at_.grow s1).setFr r1))
theorem tb_asgO [PyT α] {Γs : S → List Sl} {m1 : R (List α)} {m : R S} {g : List α → S} (l : Lc X i x) (d : EvO X H0 qs true Γ e m1) (hΓ : ∀ y, Γs (g y) = Γ.set i (.ow y) := by intro _; rfl) (he : m = m1.bind fun y => .ok (g y) := by rfl)
    (hs : ∀ env, swapsWith e (some (.Name x p)) pos.line env = pure false := by intro _; rfl) : TB X H0 qs Γ [.Assign [.Name x p] e pos] Γs m := fun σ H at_ E pe D q => by
  subst he
  refine wSs_cons (wS_of (ps_set l.nd l.hi l.loc pe_w (hs X.env) l.fn) ?_)
  refine d σ H at_ E pe _ ((PX.bind q).mono (fun y q2 p vs H1 s1 hn hl r1 => ?_) fun c z => z)
  exact wSs_of pss_nil (q2 _ H1 (by rw [hΓ]; exact at_.setOw s1 hn hl r1))
theorem tb_expr [PyT α] {Γs : S → List Sl} {m1 : R α} {m : R S} {g : S} (d : Ev X H0 qs true Γ e m1) (hΓ : Γs g = Γ := by rfl) (he : m = m1.bind fun _ => .ok g := by rfl)
    (hs : ∀ env, swapsWith e none pos.line env = pure false := by intro _; rfl) : TB X H0 qs Γ [.Expr e pos] Γs m := fun σ H at_ E pe D q => by
  subst he
  refine wSs_cons (wS_of (ps_expr pe_w (hs X.env)) ?_)
  refine d σ H at_ E pe _ ((PX.bind q).mono (fun y q2 v H1 s1 r1 => ?_) fun c z => z)
  exact wSs_of pss_nil (q2 _ H1 (by rw [hΓ]; exact at_.grow s1))
theorem tb_exprO [PyT α] {Γs : S → List Sl} {m1 : R (List α)} {m : R S} {g : S} (d : EvO X H0 qs true Γ e m1) (hΓ : Γs g = Γ := by rfl) (he : m = m1.bind fun _ => .ok g := by rfl)
    (hs : ∀ env, swapsWith e none pos.line env = pure false := by intro _; rfl) : TB X H0 qs Γ [.Expr e pos] Γs m := fun σ H at_ E pe D q => by
  subst he
  refine wSs_cons (wS_of (ps_expr pe_w (hs X.env)) ?_)
  refine d σ H at_ E pe _ ((PX.bind q).mono (fun y q2 p vs H1 s1 hn hl r1 => ?_) fun c z => z)
  exact wSs_of pss_nil (q2 _ H1 (by rw [hΓ]; exact at_.grow s1))
theorem tb_if {c : Expr} {sa sb : List Stmt} {Γs : S → List Sl} {mc : R Bool} {ma mb m : R S} (dc : EvT X H0 qs Γ c mc) (ha : TB X H0 qs Γ sa Γs ma) (hb : TB X H0 qs Γ sb Γs mb) (he : m = mc.bind fun t => if t = true then ma else mb := by rfl) : TB X H0 qs Γ [.If c sa sb pos] Γs m := fun σ H at_ E pe D q => by
  subst he
  refine wSs_cons (wS_of (ps_if pt_w pss_w pss_w) ?_)
  refine dc σ H at_ E pe _ ((PX.bind q).mono (fun t q2 H1 s1 => ?_) fun c z => z)
  have go : ∀ {ss : List Stmt} {mm : R S}, TB X H0 qs Γ ss Γs mm → PX (fun s => ∀ σ' H', At X.K H0 qs (Γs s) σ' H' → D.nx σ' H') (XW X E H) mm → wSs X ss { D with nx := wSs X [] D } σ H1 := fun {ss mm} w q3 =>
    wSs_mono (D := D) (fun σ' H' z => wSs_of pss_nil z) (fun _ _ z => z) (fun _ _ z => z) (fun _ _ z => z) (w σ H1 (at_.grow s1) E pe D (q3.mono (fun _ z => z) fun c z => z.grow s1))
  cases t with
  | true => exact go ha q2
  | false => exact go hb q2

/-! ### try -/
def R.tryR {S : Type} (m : R S) (h : Exc → R S) : R S := match m with
  | .ok s => .ok s
  | .exc c => h c
  | .stuck => .stuck
theorem PX.tryR {S : Type} {A : S → Prop} {B : Exc → Prop} {m : R S} {h : Exc → R S} (q : PX A B (m.tryR h)) : PX A (fun c => PX A B (h c)) m := by
  cases m with
  | ok a => exact q
  | exc c => exact q
  | stuck => exact q
/-- what is done at an error -/
def Hdl (X : Cx) (H0 : Hp) (qs : List Addr) (rt : VK) (Γ : List Sl) (suite : List Stmt) (cv : Value) (i : Nat) {S : Type} (Γs : S → List Sl) (c : Exc) (m : R S) : Prop :=
  PySem.W.exmOne X.K (.ref (He.ga X.K c.nm)) cv = some true ∧ ∀ (X' : Cx) (a : Addr), Su X X' a c → ∀ (H1 : Hp), Same H0 H1 → ∀ N : S → Prop, W X' H1 qs rt (Nx X' H1 qs Γs N) N (fun _ => False) (Γ.set i (.fr (ExV.mk a))) suite m
theorem w_try {x : Str} {np pos' : Pos} {body suite : List Stmt} {b0 : Stmt} {cv : Value} {Γs : S → List Sl} {mb : R S} {h : Exc → R S} {f : S → R O} {m : R O} (hcm : X.calm = true) (fr : Fr X H0 B) (sk : X.stack = X.env :: X.outer) (ff : X.env.frame = some X.env.locals) (l : Lc X i n) (hln : X.env.scope.names.lookup n = some .local)
    (hc : Names X x cv) (hb : ∀ X', Tri X X' → TB X' H0 qs Γ body Γs mb) (hh : ∀ c, h c = .stuck ∨ ∃ mm, h c = R.sure mm ∧ Hdl X H0 qs rt Γ (b0 :: suite) cv i Γs c mm) (hr : ∀ s, W X H0 qs rt nx A B (Γs s) rest (f s))
    (hu : ∀ s, (Γs s).set i .un = Γs s := by intro s; rfl) (he : m = (mb.tryR h).bind f := by rfl) : W X H0 qs rt nx A B Γ (.Try body [.ExceptHandler (some (.Name x np)) (some n) (b0 :: suite) pos'] [] [] pos :: rest) m := fun q σ H at_ => by
  subst he
  obtain ⟨E, tk, hx⟩ := fr.ex
  refine cons_of (wS_of (ps_try_as (tb := fun W D σ H => ∀ (pn : List (Addr × Obj)) (xe : Value → Shared → Prop), Takes (X.tr pn xe) W → wSs (X.tr pn xe) body D σ H)
    (ts := fun a cls d D σ H => ∀ (oe : Obj) (pn : List (Addr × Obj)), Zc cls d oe → (∃ vs, oe.data = .fields vs) → wSs (X.suite a ((a, oe) :: pn)) (b0 :: suite) D σ H)
    sk ff l.nd l.hi hln hc tk (fun W pn xe htk hpo => ⟨fun pins s σ H D I h => h pn xe htk pins s I⟩) (fun a oe cls d pn hz hf => ⟨fun pins s σ H D I h => h oe pn hz hf pins s I⟩)) ?_)
  intro pn xe htk
  have q1 := PX.tryR (PX.bind q)
  refine hb (X.tr pn xe) ⟨rfl, rfl, rfl, rfl, rfl, rfl, rfl, rfl, rfl, rfl⟩ σ H at_ _ (passAt htk σ) _ (q1.mono (fun s q2 σ' H' at' => hr s q2 σ' H' at') fun c q2 => ?_)
  intro H' sH
  rcases hh c with hst | ⟨mm, em, hex, hsu⟩
  · rw [hst] at q2
    exact (show False from q2).elim
  · refine ⟨true, hex, fun _ a na oe pn' hz hf => ?_, fun z => by cases z⟩
    have at' := at_.grow sH
    obtain ⟨atb, sb⟩ := at'.rebase
    have su : Su X (X.suite a ((a, oe) :: pn')) a c := ⟨rfl, rfl, rfl, rfl, rfl, rfl, fun H0 => ⟨⟨fun _ _ _ => False, takes0, fun c z => z.elim⟩, fun z => by cases z⟩, fun C => call_isE C hz hf, fun C => call_isET C hz hf⟩
    have at2 : At X.K (Fz H' (owA Γ σ)) qs (Γ.set i (.fr (ExV.mk a))) (σ.set i (some (.ref a))) H' := atb.setFr (x := ExV.mk a) (v := .ref a) rfl
    refine wSs_mono (D := { nx := Nx (X.suite a ((a, oe) :: pn')) (Fz H' (owA Γ σ)) qs Γs (fun s => PX A B (f s)), rt := rt }) (fun σ' H2 ⟨s, hs, as⟩ => ?_) (fun _ _ z => z) (fun _ _ z => z.elim) (fun _ _ z => z.elim)
      (hsu _ a su (Fz H' (owA Γ σ)) sb (fun s => PX A B (f s)) (PX.sure (by rw [em] at q2; exact q2)) _ H' at2)
    have as' : At X.K (Fz H' (owA Γ σ)) qs (Γs s) σ' H2 := as
    have a3 := (as'.setUn (i := i) (o := none)).unbase sb
    rw [hu] at a3
    exact hr s hs _ _ a3

/-! ### isinstance of the error -/
variable {X X' : Cx} {a' : Addr} {c : Exc} {md : Bool} {T : Str} {es : List Expr} {m : R Bool}
theorem ev_isE {cv : V} {u : Value} {b : Bool} {pT : Pos} (su : Su X X' a' c) (C : ExcC X.K (He.ga X.K c.nm)) (g : Gn X' "isinstance") (hm : X.mg "isinstance" = none) (ne : Nm X' i n) (h : Γ[i]? = some (.fr (ExV.mk a'))) (hT : PE X' (.Name T pT) (tC cv)) (hcv : ∀ w, RelV cv w → w = u) (hk : PySem.W.kitOne X.K (.ref (He.ga X.K c.nm)) u = some b)
    (he : m = .ok b := by rfl) : Ev X' H0 qs md Γ (.Call (.Name "isinstance" p1) [.Name n p2, .Name T pT] [] pos) m := fun σ H at_ E pe Q q => by
  subst he
  have hm' : X'.mg "isinstance" = none := by rw [su.mg]; exact hm
  refine wE_of (pe_callB (su.is1 C) g.gl hm' (by decide +kernel) (pa_cons (pe_var ne.hi ne.vis ne.hd ne.hc) (pa_cons hT pa_nil (by rfl)) (by rfl)) (by decide) g.hd (by rfl) (by rfl)) ?_
  obtain ⟨v, h1, h2⟩ := at_.fr h
  have e : v = .ref a' := h2
  subst e
  exact ⟨_, h1, cv, u, b, rfl, hcv, hk, q _ H (Same.refl H) rfl⟩
theorem pe_own' {pT : Pos} {A' : Addr} (g : Gn X' T) (hm : X'.mg T = some (.ref A')) : PE X' (.Name T pT) (tC (.ref A')) := pe_glob g.gl hm rfl g.hd
theorem own_rel {A' : Addr} : ∀ w, RelV (.ref A') w → w = .ref A' := fun w h => h
theorem ty_rel {n : String} : ∀ w, RelV (.ty n) w → w = .type n := fun w h => h
/-- .. of a tuple of classes: the classes' values -/
def ClsA (X : Cx) (es : List Expr) (cs : List V) (us : List Value) : Prop := PA X es (fun _ H Q => Q cs H) ∧ Paired ClsV cs us ∧ cs.length = es.length
theorem cls_nil : ClsA X' [] [] [] := ⟨⟨fun pos pins s _ _ _ I h => (pa_nil (X := X')).run pos pins s _ _ _ I h⟩, .nil, rfl⟩
theorem cls_cons {A' : Addr} {pT : Pos} {cs : List V} {us : List Value} (g : Gn X' T) (hm : X'.mg T = some (.ref A')) (k : ClsA X' es cs us) (hs : ∀ env, starEach (.Name T pT :: es) env = (false, eval (.Name T pT) env) :: starEach es env := by intro _; rfl) : ClsA X' (.Name T pT :: es) (.ref A' :: cs) (.ref A' :: us) :=
  ⟨⟨fun pos pins s _ _ _ I h => (pa_cons (pe_glob (v := .ref A') g.gl hm rfl g.hd) k.1 (hs X'.env)).run pos pins s _ _ _ I h⟩, .cons (.own A') k.2.1, congrArg Nat.succ k.2.2⟩
theorem ev_isET {cs : List V} {us : List Value} {b : Bool} {kk : Nat} {pT : Pos} (su : Su X X' a' c) (C : ExcC X.K (He.ga X.K c.nm)) (g : Gn X' "isinstance") (hm : X.mg "isinstance" = none) (ne : Nm X' i n) (h : Γ[i]? = some (.fr (ExV.mk a'))) (hT : ClsA X' es cs us) (hk : PySem.W.kitAny X.K (.ref (He.ga X.K c.nm)) us = some b)
    (he : m = .ok b := by rfl) (hl : es.length ≤ 1000 := by decide) : Ev X' H0 qs md Γ (.Call (.Name "isinstance" p1) [.Name n p2, .Tuple es kk pT] [] pos) m := fun σ H at_ E pe Q q => by
  subst he
  have hm' : X'.mg "isinstance" = none := by rw [su.mg]; exact hm
  refine wE_of (pe_callB (su.isT C) g.gl hm' (by decide +kernel) (pa_cons (pe_var ne.hi ne.vis ne.hd ne.hc) (pa_cons (pe_tup hT.1) pa_nil (by rfl)) (by rfl)) (by decide) g.hd (by rfl) (by rfl)) ?_
  obtain ⟨v, h1, h2⟩ := at_.fr h
  have e : v = .ref a' := h2
  subst e
  refine ⟨_, h1, ⟨by rw [hT.2.2, sizeLine_eq]; omega, fun D hD => ⟨D, cs, us, b, rfl, upd_same, hT.2.1, hk, q _ _ (same_new hD) rfl⟩⟩⟩
theorem kit_nil {K : PySem.W.Frag} {t : Value} : PySem.W.kitAny K t [] = some false := rfl
theorem kit_yes {K : PySem.W.Frag} {t u : Value} {us : List Value} (h : PySem.W.kitOne K t u = some true) : PySem.W.kitAny K t (u :: us) = some true := by
  show (match PySem.W.kitOne K t u with | some true => some true | some false => PySem.W.kitAny K t us | none => none) = some true
  rw [h]
theorem kit_no {K : PySem.W.Frag} {t u : Value} {us : List Value} {b : Bool} (h : PySem.W.kitOne K t u = some false) (k : PySem.W.kitAny K t us = some b) : PySem.W.kitAny K t (u :: us) = some b := by
  show (match PySem.W.kitOne K t u with | some true => some true | some false => PySem.W.kitAny K t us | none => none) = some b
  rw [h]
  exact k
end
end Wk
set_option Elab.async false
set_option linter.all false
set_option maxRecDepth 100000
/-! Wk11: further rules. -/
namespace Wk
open PySem PySem.Spec PyProof.Rows L2
section
variable {Γ : List Sl} {x y z : Str} {i j k : Nat}
theorem no1 (h : NoOw Γ i) : ∀ p ∈ [(x, i)], NoOw Γ p.2 := fun p hp => by
  rcases List.mem_cons.mp hp with e | hp
  · subst e; exact h
  · cases hp
theorem no2 (h : NoOw Γ i) (h2 : NoOw Γ j) : ∀ p ∈ [(x, i), (y, j)], NoOw Γ p.2 := fun p hp => by
  rcases List.mem_cons.mp hp with e | hp
  · subst e; exact h
  · exact no1 h2 p hp
theorem no3 (h : NoOw Γ i) (h2 : NoOw Γ j) (h3 : NoOw Γ k) : ∀ p ∈ [(x, i), (y, j), (z, k)], NoOw Γ p.2 := fun p hp => by
  rcases List.mem_cons.mp hp with e | hp
  · subst e; exact h
  · exact no2 h2 h3 p hp
end
section
variable {X : Cx} {H0 : Hp} {qs : List Addr} {rt : VK} {nx : L2.St → Hp → Prop} {O : Type} {A : O → Prop} {B : Exc → Prop} {Γ : List Sl} {rest : List Stmt} {m : R O} {e a b elt : Expr} {gs : List Comprehension} {scope : Scope} {pos p p1 p2 p3 : Pos} {x : Str} {i : Nat} {α β S : Type}
theorem sw_cell {l : Nat} {env : Env} (h : env.scope.names.lookup x = some .cell) : swapsWith (.ListComp elt gs scope pos) (some (.Name x p)) l env = pure false := by
  have e : (env.kindOf x == some .local) = false := by
    show (env.scope.names.lookup x == some .local) = false
    rw [h] <;> rfl
  show (pure (env.blockKind == .function && env.kindOf x == some .local && _ && _) : Sem Bool) = pure false
  rw [e, Bool.and_false] <;> rfl
/-- y = [..], y a cell -/
theorem w_asgK [PyT α] {m1 : R (List α)} {f : List α → R O} {Γ' : List α → List Sl} (fr : Fr X H0 B) (l : Lc X i x) (hc : X.env.scope.names.lookup x = some .cell) (d : EvO X H0 qs true Γ (.ListComp elt gs scope p1) m1) (k : ∀ y, W X H0 qs rt nx A B (Γ' y) rest (f y)) (hΓ : ∀ y, Γ' y = Γ.set i (.ow y) := by intro _; rfl) (he : m = m1.bind f := by rfl) :
    W X H0 qs rt nx A B Γ (.Assign [.Name x p] (.ListComp elt gs scope p1) pos :: rest) m := fun q σ H at_ => by
  subst he
  obtain ⟨E, pe, hx⟩ := fr.use
  refine cons_of (wS_of (ps_set l.nd l.hi l.loc pe_w (sw_cell hc) l.fn) ?_)
  refine d σ H at_ E (pe σ) _ ((PX.bind q).mono (fun y q2 p vs H1 s1 hn hl r1 => ?_) fun c z => hx c H at_.ex z)
  exact k y q2 _ H1 (by rw [hΓ]; exact at_.setOw s1 hn hl r1)
theorem w_asgKf [PyT α] {m1 : R (List α)} {f : List α → R O} {Γ' : List α → List Sl} (fr : Fr X H0 B) (l : Lc X i x) (hc : X.env.scope.names.lookup x = some .cell) (d : EvO X H0 qs true Γ (.ListComp elt gs scope p1) m1) (k : ∀ y, W X H0 qs rt nx A B (Γ' y) rest (f y)) (hΓ : ∀ y, Γ' y = Γ.set i (.fr y) := by intro _; rfl) (he : m = m1.bind f := by rfl) :
    W X H0 qs rt nx A B Γ (.Assign [.Name x p] (.ListComp elt gs scope p1) pos :: rest) m := fun q σ H at_ => by
  subst he
  obtain ⟨E, pe, hx⟩ := fr.use
  refine cons_of (wS_of (ps_set l.nd l.hi l.loc pe_w (sw_cell hc) l.fn) ?_)
  refine d.fz σ H at_ E (pe σ) _ ((PX.bind q).mono (fun y q2 v H1 s1 r1 => ?_) fun c z => hx c H at_.ex z)
  exact k y q2 _ H1 (by rw [hΓ]; exact (at_.grow s1).setFr r1)
end

/-! ### min, max of a pair; sorted of pairs -/
section
open PySem.W (Holds HoldAll holds_int int_of_holds minOf maxOf)
variable {X : Cx}
def rMinP (K : PySem.W.Frag) : List V → Hp → VK → Prop := fun vs H Q => ∃ (p : Addr) (x y : Int), vs = [.ref p] ∧ SqT K H p [.int x, .int y] ∧ Q (.int (min x y)) H
def rMaxP (K : PySem.W.Frag) : List V → Hp → VK → Prop := fun vs H Q => ∃ (p : Addr) (x y : Int), vs = [.ref p] ∧ SqT K H p [.int x, .int y] ∧ Q (.int (max x y)) H
theorem minOf_two (x y : Int) : minOf x [y] = min x y := by
  show (if decide (y < x) = true then y else x) = min x y
  by_cases h : y < x
  · rw [decide_eq_true h, if_pos rfl]; omega
  · rw [decide_eq_false h, if_neg (by decide)]; omega
theorem maxOf_two (x y : Int) : maxOf x [y] = max x y := by
  show (if decide (x < y) = true then y else x) = max x y
  by_cases h : x < y
  · rw [decide_eq_true h, if_pos rfl]; omega
  · rw [decide_eq_false h, if_neg (by decide)]; omega
theorem cr_minP (hc : X.calm = true) (hu : X.A.units + 64 < cLine) : CallR X (.builtin "min") (rMinP X.K) := by
  intro pins s σ H vs us Q I r h
  obtain ⟨p, x, y, rfl, hs, q⟩ := h
  obtain ⟨its, rv, hl, _⟩ := I.tuple hs
  rw [Vals.ref1 r]
  obtain ⟨t, u, rfl⟩ := Vals.int2 rv
  have dp : PySem.W.Datum.depth Int ≤ 60 := by decide
  refine PySem.W.min_tuple_datum (α := Int) (x := x) (xs := [y]) (I.ok.hd hc) hl (.cons (holds_int x t) (.cons (holds_int y u) .nil)) (by omega) fun i v h' tk hi hv hk => ?_
  rw [minOf_two] at hv
  obtain ⟨t', rfl⟩ := int_of_holds hv
  exact ⟨.int _, H, I.kept hk, ⟨_, rfl⟩, q⟩
theorem cr_maxP (hc : X.calm = true) (hu : X.A.units + 64 < cLine) : CallR X (.builtin "max") (rMaxP X.K) := by
  intro pins s σ H vs us Q I r h
  obtain ⟨p, x, y, rfl, hs, q⟩ := h
  obtain ⟨its, rv, hl, _⟩ := I.tuple hs
  rw [Vals.ref1 r]
  obtain ⟨t, u, rfl⟩ := Vals.int2 rv
  have dp : PySem.W.Datum.depth Int ≤ 60 := by decide
  refine PySem.W.max_tuple_datum (α := Int) (x := x) (xs := [y]) (I.ok.hd hc) hl (.cons (holds_int x t) (.cons (holds_int y u) .nil)) (by omega) fun i v h' tk hi hv hk => ?_
  rw [maxOf_two] at hv
  obtain ⟨t', rfl⟩ := int_of_holds hv
  exact ⟨.int _, H, I.kept hk, ⟨_, rfl⟩, q⟩
variable {H0 : Hp} {qs : List Addr} {md ma : Bool} {Γ : List Sl} {a : Expr} {p pos : Pos}
theorem ev_minP {m1 : R (Int × Int)} {m : R Int} (hc : X.calm = true) (hu : X.A.units + 64 < cLine) (g : Gn X "min") (hm : X.mg "min" = none) (d : Ev X H0 qs ma Γ a m1) (he : m = m1.bind fun t => .ok (min t.1 t.2) := by rfl) (hs : St1 a := by intro _; rfl) : Ev X H0 qs md Γ (.Call (.Name "min" p) [a] [] pos) m :=
  ev_b1 (f := fun t : Int × Int => .ok (min t.1 t.2)) (cr_minP hc hu) (fun H y v Q B h k => by
    obtain ⟨q, w, u, rfl, h2, h3, h4⟩ := h
    have e1 : w = .int y.1 := h3
    have e2 : u = .int y.2 := h4
    subst e1 e2
    exact ⟨q, _, _, rfl, h2, k _ (fun _ => rfl) H (Same.refl H)⟩) g hm (by decide +kernel) (by decide) d he hs
theorem ev_maxP {m1 : R (Int × Int)} {m : R Int} (hc : X.calm = true) (hu : X.A.units + 64 < cLine) (g : Gn X "max") (hm : X.mg "max" = none) (d : Ev X H0 qs ma Γ a m1) (he : m = m1.bind fun t => .ok (max t.1 t.2) := by rfl) (hs : St1 a := by intro _; rfl) : Ev X H0 qs md Γ (.Call (.Name "max" p) [a] [] pos) m :=
  ev_b1 (f := fun t : Int × Int => .ok (max t.1 t.2)) (cr_maxP hc hu) (fun H y v Q B h k => by
    obtain ⟨q, w, u, rfl, h2, h3, h4⟩ := h
    have e1 : w = .int y.1 := h3
    have e2 : u = .int y.2 := h4
    subst e1 e2
    exact ⟨q, _, _, rfl, h2, k _ (fun _ => rfl) H (Same.refl H)⟩) g hm (by decide +kernel) (by decide) d he hs
/-! sorted of pairs -/
def lexLe (p q : Int × Int) : Bool := decide (p.1 < q.1 ∨ (p.1 = q.1 ∧ p.2 ≤ q.2))
def sortP (xs : List (Int × Int)) : List (Int × Int) := xs.mergeSort lexLe
theorem lexLe_tr (a b c : Int × Int) (h1 : lexLe a b = true) (h2 : lexLe b c = true) : lexLe a c = true := by
  have q1 := of_decide_eq_true h1
  have q2 := of_decide_eq_true h2
  exact decide_eq_true (by omega)
theorem lexLe_tot (a b : Int × Int) : (lexLe a b || lexLe b a) = true := by
  unfold lexLe
  rw [Bool.or_eq_true, decide_eq_true_eq, decide_eq_true_eq]
  omega
theorem lexLe_anti {a b : Int × Int} (h1 : lexLe a b = true) (h2 : lexLe b a = true) : a = b := by
  have q1 := of_decide_eq_true h1
  have q2 := of_decide_eq_true h2
  exact Prod.ext (by omega) (by omega)
theorem sortP_perm (xs : List (Int × Int)) : (sortP xs).Perm xs := List.mergeSort_perm xs _
theorem sortP_sorted (xs : List (Int × Int)) : (sortP xs).Pairwise (fun a b => lexLe a b = true) := List.pairwise_mergeSort lexLe_tr lexLe_tot xs
theorem sortP_is {xs ys : List (Int × Int)} (hp : ys.Perm xs) (hs : ys.Pairwise (fun a b => lexLe a b = true)) : ys = sortP xs :=
  (hp.trans (sortP_perm xs).symm).eq_of_pairwise (fun a b _ _ h1 h2 => lexLe_anti h1 h2) hs (sortP_sorted xs)
def rSortPP (K : PySem.W.Frag) : List V → Hp → VK → Prop := fun vs H Q => ∃ (a : Addr) (xs : List V) (k : V → Int × Int), vs = [V.ref a] ∧ SqL K H a xs ∧ (∀ x ∈ xs, ∃ t, x = V.ref t ∧ SqT K H t [.int (k x).1, .int (k x).2]) ∧
  ∀ ys p, SrtO.Srtd (ltP k) ys → SrtO.Stb (ltP k) ys xs → H p = none → Q (.ref p) (upd H p (.lst ys))
theorem cr_sortPP : CallR X (.builtin "sorted") (rSortPP X.K) := by
  intro pins s σ H vs us Q I r h
  obtain ⟨a, xs, k, rfl, hs, hx, q⟩ := h
  obtain ⟨its, rv, hl, hz⟩ := I.list hs
  obtain ⟨u, rfl, ru⟩ := vals1 r
  obtain rfl : u = Value.ref a := ru
  obtain ⟨e1, e2⟩ := refs_back rv fun x m => by
    obtain ⟨t, e, _⟩ := hx x m
    exact ⟨t, e⟩
  refine SrtO.sorted_pairsO (k := fun u => k (backV u)) hl.isList (by rw [← rv.length]; exact hz) (fun v hv => ?_) fun h' d out h1 h2 kp hd hn => ?_
  · obtain ⟨t, rfl⟩ := e2 v hv
    have hm : V.ref t ∈ xs := by rw [e1]; exact List.mem_map.mpr ⟨_, hv, rfl⟩
    obtain ⟨t', e, ht⟩ := hx _ hm
    cases e
    obtain ⟨its2, r2, ⟨o, ho, hc, n, hd⟩, _⟩ := I.tuple ht
    obtain ⟨u1, u2, rfl, ri, rj⟩ := vals2 r2
    obtain ⟨t1, rfl⟩ := ri
    obtain ⟨t2, rfl⟩ := rj
    exact ⟨t, o, t1, t2, n, rfl, ho, hc, hd⟩
  · have h3 : ∀ u ∈ out, ∃ a, u = Value.ref a := fun u hu => e2 u (h2.perm.mem_iff.mp hu)
    obtain ⟨n, hn⟩ := hn
    have hb : SrtO.Stb (ltP k) (out.map backV) xs := by
      rw [e1]
      exact SrtO.Stb.map (ltP_swo k) backV h2
    refine ⟨.ref d, upd H d (.lst (out.map backV)), I.laid (t' := s.toks) kp hd ⟨?_, out, n, vals_back h3, hn⟩, rfl, q _ d (SrtO.srtd_map h1) hb (I.hok.fresh hd)⟩
    rw [hb.len]
    exact hz
theorem repL_map {K : PySem.W.Frag} {F : Hp} {β : Type} [PyT β] {k : V → β} : ∀ {ys : List V}, (∀ y ∈ ys, rep K F y (k y)) → RepL K F ys (ys.map k)
  | [], _ => trivial
  | y :: ys, h => ⟨h y List.mem_cons_self, repL_map fun z hz => h z (List.mem_cons_of_mem _ hz)⟩
theorem repL_mem {K : PySem.W.Frag} {F : Hp} {β : Type} [PyT β] : ∀ {xs : List V} {ts : List β}, RepL K F xs ts → ∀ x ∈ xs, ∃ t : β, rep K F x t
  | [], [], _, x, hx => by cases hx
  | y :: xs, t :: ts, h, x, hx => by
    rcases List.mem_cons.mp hx with e | hx
    · subst e; exact ⟨t, h.1⟩
    · exact repL_mem h.2 x hx
  | [], _ :: _, h, _, _ => h.elim
  | _ :: _, [], h, _, _ => h.elim
theorem repL_eq {K : PySem.W.Frag} {F : Hp} {β : Type} [PyT β] {k : V → β} (u : ∀ x t, rep K F x t → k x = t) : ∀ {xs : List V} {ts : List β}, RepL K F xs ts → xs.map k = ts
  | [], [], _ => rfl
  | y :: xs, t :: ts, h => by rw [List.map_cons, u y t h.1, repL_eq u h.2]
  | [], _ :: _, h => h.elim
  | _ :: _, [], h => h.elim
open Classical in
noncomputable def keyOf (K : PySem.W.Frag) (H : Hp) (v : V) : Int × Int := if h : ∃ q : Int × Int, rep K H v q then Classical.choose h else (0, 0)
theorem pair_uniq {pins : List (Addr × Obj)} {σ : L2.St} {H : Hp} {s : Shared} (I : Inv X pins σ H s) {v : V} {t t' : Int × Int} (h : rep X.K H v t) (h' : rep X.K H v t') : t = t' := by
  obtain ⟨p, w, u, e1, h2, h3, h4⟩ := h
  obtain ⟨p', w', u', e1', h2', h3', h4'⟩ := h'
  have a1 : w = .int t.1 := h3
  have a2 : u = .int t.2 := h4
  have a3 : w' = .int t'.1 := h3'
  have a4 : u' = .int t'.2 := h4'
  subst a1 a2 a3 a4 e1
  cases e1'
  have e := I.tuple_inj h2 h2'
  injection e with e1 e2
  injection e2 with e2 _
  exact Prod.ext (V.int.inj e1) (V.int.inj e2)
def rSortTP (K : PySem.W.Frag) : List V → Hp → VK → Prop := fun vs H Q => ∃ (a : Addr) (xs : List V) (ts : List (Int × Int)), vs = [V.ref a] ∧ SqL K H a xs ∧ RepL K H xs ts ∧
  ∀ ys p, (∀ F, RepL K F xs ts → RepL K F ys (sortP ts)) → H p = none → Q (.ref p) (upd H p (.lst ys))
theorem cr_sortTP : CallR X (.builtin "sorted") (rSortTP X.K) := by
  intro pins s σ H vs us Q I r h
  obtain ⟨a, xs, ts, hv, hs, hr, q⟩ := h
  have ku : ∀ {F : Hp}, (∀ x t, rep X.K F x t → rep X.K H x t → keyOf X.K H x = t) := fun {F} x t _ ht => by
    unfold keyOf
    rw [dif_pos ⟨t, ht⟩]
    exact pair_uniq I (Classical.choose_spec (⟨t, ht⟩ : ∃ q : Int × Int, rep X.K H x q)) ht
  refine cr_sortPP pins s σ H vs us Q I r ⟨a, xs, keyOf X.K H, hv, hs, fun x hx => ?_, fun ys p h1 h2 hp => q ys p (fun F hF => ?_) hp⟩
  · obtain ⟨t, ht⟩ := repL_mem hr x hx
    rw [ku (F := H) x t ht ht]
    obtain ⟨p, w, u, e1, g2, g3, g4⟩ := ht
    have a1 : w = .int t.1 := g3
    have a2 : u = .int t.2 := g4
    subst a1 a2
    exact ⟨p, e1, g2⟩
  · have e0 : xs.map (keyOf X.K H) = ts := repL_eq (fun x t ht => ku (F := H) x t ht ht) hr
    have e : ys.map (keyOf X.K H) = sortP ts := sortP_is (by rw [← e0]; exact h2.perm.map _) (by
      refine List.pairwise_map.mpr (h1.imp fun {x y} hxy => ?_)
      have z := SrtO.lexB_no.mp hxy
      exact decide_eq_true (by omega))
    rw [← e]
    refine repL_map fun y hy => ?_
    have hy' : y ∈ xs := h2.perm.mem_iff.mp hy
    have go : ∀ {zs : List V} {us : List (Int × Int)}, RepL X.K F zs us → RepL X.K H zs us → y ∈ zs → rep X.K F y (keyOf X.K H y) := by
      intro zs
      induction zs with
      | nil => intro us _ _ h; cases h
      | cons z zs ih =>
        intro us g1 g2 h
        cases us with
        | nil => exact g1.elim
        | cons t us =>
          rcases List.mem_cons.mp h with e | h
          · subst e
            rw [ku (F := H) y t g2.1 g2.1]
            exact g1.1
          · exact ih g1.2 g2.2 h
    exact go hF hr hy'
theorem ev_sortP {m1 m : R (List (Int × Int))} (g : Gn X "sorted") (hm : X.mg "sorted" = none) (d : Ev X H0 qs md Γ a m1) (he : m = m1.bind fun xs => .ok (sortP xs) := by rfl) (hs : St1 a := by intro _; rfl) : EvO X H0 qs md Γ (.Call (.Name "sorted" p) [a] [] pos) m :=
  ev_bN (f := fun xs => .ok (sortP xs)) cr_sortTP (fun H ps y v Q B h k => by
    obtain ⟨q, ws, rfl, h2, h3⟩ := h
    refine ⟨q, ws, y, rfl, SqL.of (Fz.out _ _ h2), h3.mono Fz.out, fun ys p hp hn => ?_⟩
    exact k p _ _ (same_new hn) hn upd_same ((hp _ h3).mono (fz_new hn))) g hm (by decide +kernel) (by decide) d he hs
end
end Wk
set_option Elab.async false
set_option linter.all false
set_option maxRecDepth 100000
/-! Wk12: a, b = e. -/
namespace Wk
open PySem PySem.Spec PyProof.Rows L2
section
variable {X : Cx} {H0 : Hp} {qs : List Addr} {rt : VK} {nx : L2.St → Hp → Prop} {O : Type} {A : O → Prop} {B : Exc → Prop} {Γ : List Sl} {rest : List Stmt} {m : R O} {e a b elt : Expr} {pos p p1 p2 p3 : Pos} {x : Str} {i : Nat} {α β S : Type} {es : List Expr} {kk : Nat}
theorem w_asgT [PyT α] {m1 : R α} {f : α → R O} {Γ' : α → List Sl} {is : List Nat} (fr : Fr X H0 B) (d : Ev X H0 qs true Γ e m1) (g : ∀ y, EvG X Γ (.Tuple es kk p) y (Γ' y) is) (k : ∀ y, W X H0 qs rt nx A B (Γ' y) rest (f y)) (he : m = m1.bind f := by rfl)
    (hs : ∀ env, swapsWithSole [.Tuple es kk p] e pos.line env = pure false := by intro _; rfl) (hw : ∀ env, swappedStores [.Tuple es kk p] e env = pure none := by intro _; rfl)
    (h1 : ∀ env, (assignEach [.Tuple es kk p] env).map (·.2) = [assign (.Tuple es kk p) env] := by intro _; rfl) : W X H0 qs rt nx A B Γ (.Assign [.Tuple es kk p] e pos :: rest) m := fun q σ H at_ => by
  subst he
  obtain ⟨E, pe, hx⟩ := fr.use
  refine cons_of (wS_of (ps_asg pe_w pg_w (hs X.env) (hw X.env) (h1 X.env)) ?_)
  refine d σ H at_ E (pe σ) _ ((PX.bind q).mono (fun y q2 v H1 s1 r1 => ?_) fun c z => hx c H at_.ex z)
  have at1 := at_.grow s1
  exact g y H0 qs σ H1 v at1 (PyT.mono (Fz.sub (Same.refl _) fun _ z => z) r1) _ fun σ' at2 _ _ _ => k y q2 σ' H1 at2
/-- a value that may lean on the def's own lists, for a while -/
theorem w_asgTm [PyT α] {m1 : R α} {f : α → R O} {Γ' : α → List Sl} (fr : Fr X H0 B) (l : Lc X i x) (d : Ev X H0 qs false Γ e m1) (k : ∀ y, W X H0 qs rt nx A B (Γ' y) rest (f y)) (hΓ : ∀ y, Γ' y = Γ.set i (.tm y) := by intro _; rfl) (he : m = m1.bind f := by rfl)
    (hs : ∀ env, swapsWith e (some (.Name x p)) pos.line env = pure false := by intro _; rfl) : W X H0 qs rt nx A B Γ (.Assign [.Name x p] e pos :: rest) m := fun q σ H at_ => by
  subst he
  obtain ⟨E, pe, hx⟩ := fr.use
  refine cons_of (wS_of (ps_set l.nd l.hi l.loc pe_w (hs X.env) l.fn) ?_)
  refine d σ H at_ E (pe σ) _ ((PX.bind q).mono (fun y q2 v H1 s1 r1 => ?_) fun c z => hx c H at_.ex z)
  exact k y q2 _ H1 (by rw [hΓ]; exact (at_.grow s1).setTm (av_out (md := false) (Γ := Γ) (qs := qs) (σ := σ) r1))
theorem ev_tmp [PyT α] {y : α} {m : R α} (n : Nm X i x) (h : Γ[i]? = some (.tm y) := by rfl) (he : m = .ok y := by rfl) : Ev X H0 qs false Γ (.Name x pos) m := by
  intro σ H at_ E pe Q q
  subst he
  obtain ⟨v, h1, h2⟩ := at_.tm h
  refine wE_of (pe_var n.hi n.vis n.hd n.hc) ⟨v, h1, q v H (Same.refl H) ?_⟩
  show rep X.K (Fz H []) v y
  rw [Fz.nil]
  exact h2
/-! pairs, one before the other -/
open PySem.W (holds_int holds_pair) in
theorem op_ltP (hu : X.A.units + 64 < cLine) : OpR X (compareOp .Lt) (fun v w H Q => ∃ (p p' : Addr) (a b c d : Int), v = .ref p ∧ w = .ref p' ∧ SqT X.K H p [.int a, .int b] ∧ SqT X.K H p' [.int c, .int d] ∧ Q (.bl (SrtO.lexB (a, b) (c, d))) H) := by
  intro pins s σ H x y v u Q I rx ry h
  obtain ⟨p, p', a, b, c, d, rfl, rfl, h1, h2, q⟩ := h
  cases rx
  cases ry
  obtain ⟨its, rv, hl, _⟩ := I.tuple h1
  obtain ⟨its', rv', hl', _⟩ := I.tuple h2
  obtain ⟨t1, t2, rfl⟩ := Vals.int2 rv
  obtain ⟨t3, t4, rfl⟩ := Vals.int2 rv'
  have dp : PySem.W.Datum.depth (Int × Int) ≤ 60 := by decide
  refine PySem.W.lt_datum (α := Int × Int) (x := (a, b)) (y := (c, d)) (holds_pair hl (holds_int a t1) (holds_int b t2)) (holds_pair hl' (holds_int c t3) (holds_int d t4)) (by omega) ⟨.bl _, H, I, rfl, ?_⟩
  exact q
theorem opf_ltP : OpF X (fun v w H Q => ∃ (p p' : Addr) (a b c d : Int), v = .ref p ∧ w = .ref p' ∧ SqT X.K H p [.int a, .int b] ∧ SqT X.K H p' [.int c, .int d] ∧ Q (.bl (SrtO.lexB (a, b) (c, d))) H) (fun (x y : Int × Int) => R.ok (SrtO.lexB x y)) := fun H x y v w Q B hx hy k => by
  obtain ⟨p, a, b, e, h2, h3, h4⟩ := hx
  obtain ⟨p', a', b', e', h2', h3', h4'⟩ := hy
  have a1 : a = .int x.1 := h3
  have a2 : b = .int x.2 := h4
  have a3 : a' = .int y.1 := h3'
  have a4 : b' = .int y.2 := h4'
  subst a1 a2 a3 a4
  exact ⟨p, p', _, _, _, _, e, e', h2, h2', k _ (fun _ => rfl) H (Same.refl H)⟩
variable {md ma mb : Bool} {mB : R Bool} {m1 m2 : R (Int × Int)}
theorem ev_ltP (hu : X.A.units + 64 < cLine) (da : Ev X H0 qs ma Γ a m1) (db : Ev X H0 qs mb Γ b m2) (he : mB = m1.bind fun x => m2.bind fun y => .ok (SrtO.lexB x y) := by rfl) : Ev X H0 qs md Γ (.Compare a [.Lt] [b] pos) mB := ev_cmp (op_ltP hu) opf_ltP da db he (nomark _)
theorem et_ltP (hu : X.A.units + 64 < cLine) (da : Ev X H0 qs ma Γ a m1) (db : Ev X H0 qs mb Γ b m2) (he : mB = m1.bind fun x => m2.bind fun y => .ok (SrtO.lexB x y) := by rfl) : EvT X H0 qs Γ (.Compare a [.Lt] [b] pos) mB := et_cmp (op_ltP hu) opf_ltP da db he (nomark _)
def fuel : Nat := 1000000
end
end Wk
set_option Elab.async false
set_option linter.all false
set_option maxRecDepth 100000
/-! Wk13: slices with a step, of the script; helpers for errors. -/
namespace Wk
open PySem PySem.Spec PyProof.Rows L2
def stepL {α : Type} (xs : List α) (lo hi : Option Int) (st : Int) : List α :=
  (sliceRange (sliceBounds lo hi (some st) xs.length).1 (sliceBounds lo hi (some st) xs.length).2.1 (sliceBounds lo hi (some st) xs.length).2.2).filterMap (xs[·]?)
theorem stepL_mem {α : Type} {xs : List α} {lo hi : Option Int} {st : Int} {x : α} (h : x ∈ stepL xs lo hi st) : x ∈ xs := by
  unfold stepL at h
  obtain ⟨i, _, e⟩ := List.mem_filterMap.mp h
  exact List.mem_of_getElem? e
theorem vals_pick {vs : List V} {us : List Value} (r : Vals vs us) : ∀ is : List Nat, Vals (is.filterMap (vs[·]?)) (is.filterMap (us.toArray[·]?))
  | [] => .nil
  | i :: is => by
    have ih := vals_pick r is
    rw [List.filterMap_cons, List.filterMap_cons, List.getElem?_toArray]
    cases e : vs[i]? with
    | none =>
      have e2 : us[i]? = none := by
        rw [List.getElem?_eq_none_iff] at e ⊢
        rw [← r.length]
        exact e
      rw [e2]
      exact ih
    | some v =>
      obtain ⟨u, e2, rv⟩ := r.get e
      rw [e2]
      exact .cons rv ih
section
variable {X : Cx} {H0 : Hp} {qs : List Addr} {md ma mb mc : Bool} {Γ : List Sl} {a b c : Expr} {pos p2 : Pos} {ma' : R Scr} {m1 m2 m3 : R Int} {m : R (List Int)}
def wP3 (X : Cx) (a b c d : Expr) : TE := fun σ H Q => wE X a σ H fun x H1 => wE X b σ H1 fun l H2 => wE X c σ H2 fun u H3 => wE X d σ H3 fun st H4 => ∃ (p : Addr) (xs : List V) (l' u' st' : Int), x = .ref p ∧ l = .int l' ∧ u = .int u' ∧ st = .int st' ∧ st' ≠ 0 ∧ SqL X.K H4 p xs ∧ (stepL xs (some l') (some u') st').length ≤ sizeLine ∧
  ∀ q, H4 q = none → Q (.ref q) (upd H4 q (.lst (stepL xs (some l') (some u') st')))
theorem pe_slice3 {d : Expr} : PE X (.Subscript a (.Slice (some b) (some c) (some d) p2) pos) (wP3 X a b c d) := by
  refine ⟨fun pins s σ H Q I h => ?_⟩
  refine Subscript_ (thn (h pins s I) fun v s1 ⟨x, H1, I1, r1, q1⟩ => ?_)
  refine wpAny_Slice ?_
  rw [evalPart_some]
  refine thn (q1 pins s1 I1) fun vl s2 ⟨l, H2, I2, pl, q2⟩ => ?_
  rw [evalPart_some]
  refine thn (q2 pins s2 I2) fun vu s3 ⟨u, H3, I3, pu, q3⟩ => ?_
  rw [evalPart_some]
  refine thn (q3 pins s3 I3) fun vs s4 ⟨st, H4, I4, ps, q4⟩ => ?_
  obtain ⟨p, xs, l', u', st', rfl, rfl, rfl, rfl, h0, hx, hz, q⟩ := q4
  obtain ⟨t1, rfl⟩ := pl
  obtain ⟨t2, rfl⟩ := pu
  obtain ⟨t3, rfl⟩ := ps
  cases r1
  have I5 : Inv X pins σ H4 { s4 with heap := s4.heap.push { cls := .type "slice", data := .fields #[.int l' t1, .int u' t2, .int st' t3] } } := I4.kept (t' := s4.toks) fun b ob q => Heap.get?_push_of_some _ q
  obtain ⟨its, r, ht, hz'⟩ := I5.list hx
  have hlen := r.length
  refine tail_any (ops := [.ref p, .ref s4.heap.objs.size]) (ht.isList.typeIs) slot_list_getitem.lookup ?_ (by with_unfolding_all rfl)
  refine wpAny_getItem_list_slice ht.isList (Heap.IsSliceOf.new ..) (.int l' t1) (.int u' t2) (.int st' t3) (fun z => h0 (Option.some.inj z)) ?_ (by rw [List.size_toArray] <;> omega)
  have e : slicePick its.toArray (some l') (some u') (some st') = ((sliceRange (sliceBounds (some l') (some u') (some st') xs.length).1 (sliceBounds (some l') (some u') (some st') xs.length).2.1 (sliceBounds (some l') (some u') (some st') xs.length).2.2).filterMap (its.toArray[·]?)).toArray := by
    unfold slicePick
    rw [List.size_toArray, ← hlen]
  rw [e]
  refine ⟨.ref _, _, I5.laid (t' := s4.toks) (o := .lst (stepL xs (some l') (some u') st')) (fun b ob q => Heap.get?_push_of_some _ q) (Nat.le_refl _) ?_, rfl, q _ (I5.hok.fresh (Nat.le_refl _))⟩
  exact ⟨hz, _, 0, vals_pick r _, Heap.get?_push_size _ rfl⟩
theorem filterMap_map_int (xs : List Int) : ∀ is : List Nat, is.filterMap ((xs.map V.int)[·]?) = (is.filterMap (xs[·]?)).map V.int
  | [] => rfl
  | i :: is => by
    have ih := filterMap_map_int xs is
    rw [List.filterMap_cons, List.filterMap_cons, List.getElem?_map]
    cases xs[i]? with
    | none => exact ih
    | some x =>
      show V.int x :: _ = V.int x :: _
      rw [ih]
theorem ev_stepS {d : Expr} (da : Ev X H0 qs ma Γ a ma') (db : Ev X H0 qs mb Γ b m1) (dc : Ev X H0 qs mb Γ c m2) (dd : Ev X H0 qs mb Γ d m3) (he : m = ma'.bind fun xs => m1.bind fun l => m2.bind fun u => m3.bind fun st => R.chk (decide (st ≠ 0 ∧ (stepL xs.l (some l) (some u) st).length ≤ 16777216)) (stepL xs.l (some l) (some u) st) := by rfl) :
    EvO X H0 qs md Γ (.Subscript a (.Slice (some b) (some c) (some d) p2) pos) m := by
  intro σ H at_ E pe Q q
  subst he
  refine wE_of pe_slice3 (da σ H at_ E pe _ ((PX.bind q).mono (fun xs q2 v H1 s1 r1 => ?_) fun _ z => z))
  refine db σ H1 (at_.grow s1) E pe _ ((PX.bind q2).mono (fun l q3 vl H2 s2 rl => ?_) fun _ z => z.grow s1)
  refine dc σ H2 (at_.grow (s1.trans s2)) E pe _ ((PX.bind q3).mono (fun u q4 vu H3 s3 ru => ?_) fun _ z => z.grow (s1.trans s2))
  refine dd σ H3 (at_.grow ((s1.trans s2).trans s3)) E pe _ ((PX.bind q4).mono (fun st q5 vs H4 s4 rs => ?_) fun _ z => z.grow ((s1.trans s2).trans s3))
  have s := ((s1.trans s2).trans s3).trans s4
  obtain ⟨c1, q6⟩ := PX.chk q5
  have c2 := of_decide_eq_true c1
  obtain ⟨p, e1, e2⟩ := PyT.mono (av_same (qs := qs) (Γ := Γ) (σ := σ) (md := ma) ((s2.trans s3).trans s4)) r1
  have eS : stepL (xs.l.map V.int) (some l) (some u) st = (stepL xs.l (some l) (some u) st).map V.int := by
    unfold stepL
    rw [List.length_map]
    exact filterMap_map_int _ _
  refine ⟨p, _, l, u, st, e1, rl, ru, rs, c2.1, sqL_mono Fz.out e2, by rw [eS, List.length_map, sizeLine_eq]; omega, fun D hD => ?_⟩
  rw [eS]
  exact (show ∀ p vs H', Same H H' → H p = none → H' p = some (.lst vs) → RepL X.K (Fz H' (p :: av md Γ σ qs)) vs (stepL xs.l (some l) (some u) st) → Q (.ref p) H' from q6) D _ _ (s.trans (same_new hD)) (s.free hD) upd_same (iRep _)
end
theorem Su.some {X X' : Cx} {a : Addr} {c : Exc} {x : Str} {v : Value} (u : Su X X' a c) (h : X.mg x = Option.some v) : X'.mg x = Option.some v := by rw [u.mg]; exact h
theorem Su.none {X X' : Cx} {a : Addr} {c : Exc} {x : Str} (u : Su X X' a c) (h : X.mg x = Option.none) : X'.mg x = Option.none := by rw [u.mg]; exact h
theorem Tri.some {X X' : Cx} {x : Str} {v : Value} (u : Tri X X') (h : X.mg x = Option.some v) : X'.mg x = Option.some v := by rw [u.mg]; exact h
theorem w_stuck {X : Cx} {H0 : Hp} {qs : List Addr} {rt : VK} {nx : L2.St → Hp → Prop} {O : Type} {A : O → Prop} {B : Exc → Prop} {Γ : List Sl} {ss : List Stmt} : W X H0 qs rt nx A B Γ ss (.stuck : R O) := fun q => q.elim
theorem Blk.dnF {X X' : Cx} {sc : Scope} {x : Str} {τ ρ : Type} [PyA τ] [PyT ρ] {n k : Nat} {f : τ → R ρ} (b : Blk X X' sc) (D : Dn X x (spF X.K n f) k) : Dn X' x (spF X'.K n f) k := by
  rw [b.K]
  exact b.dn D
theorem Blk.dnO {X X' : Cx} {sc : Scope} {x : Str} {τ ρ : Type} [PyA τ] [PyT ρ] {n k : Nat} {f : τ → R (List ρ)} (b : Blk X X' sc) (D : Dn X x (spO X.K n f) k) : Dn X' x (spO X'.K n f) k := by
  rw [b.K]
  exact b.dn D
theorem Tri.dnF {X X' : Cx} {x : Str} {τ ρ : Type} [PyA τ] [PyT ρ] {n k : Nat} {f : τ → R ρ} (b : Tri X X') (D : Dn X x (spF X.K n f) k) : Dn X' x (spF X'.K n f) k := by
  rw [b.K]
  exact b.dn D
theorem Tri.dnO {X X' : Cx} {x : Str} {τ ρ : Type} [PyA τ] [PyT ρ] {n k : Nat} {f : τ → R (List ρ)} (b : Tri X X') (D : Dn X x (spO X.K n f) k) : Dn X' x (spO X'.K n f) k := by
  rw [b.K]
  exact b.dn D
end Wk
set_option Elab.async false
set_option linter.all false
set_option maxRecDepth 100000
/-! chains of two comparisons -/
namespace Wk
open PySem PySem.Spec PyProof.Rows L2
section
variable {X : Cx} {H0 : Hp} {qs : List Addr} {md ma mb mc : Bool} {Γ : List Sl} {a b c : Expr} {pos : Pos} {m1 m2 m3 : R Int} {m : R Bool}
/-- one of the four orders -/
structure Ord4 (X : Cx) (op : CmpOp) (g : Int → Int → Bool) : Prop where
  ho : OpR X (compareOp op) (rI0 fun i j => .bl (g i j))
theorem o_lt : Ord4 X .Lt (fun i j => decide (i < j)) := ⟨op_lt⟩
theorem o_le : Ord4 X .LtE (fun i j => decide (i ≤ j)) := ⟨op_le⟩
theorem ev_chain {op op' : CmpOp} {g g' : Int → Int → Bool} (o : Ord4 X op g) (o' : Ord4 X op' g') (da : Ev X H0 qs ma Γ a m1) (db : Ev X H0 qs mb Γ b m2) (dc : Ev X H0 qs mc Γ c m3)
    (he : m = m1.bind fun x => m2.bind fun y => if g x y = true then m3.bind fun z => .ok (g' y z) else .ok false) (hm : lastMarks [op, op'] [b, c] = false := by with_unfolding_all rfl) : Ev X H0 qs md Γ (.Compare a [op, op'] [b, c] pos) m := by
  intro σ H at_ E pe Q q
  subst he
  refine wE_of (pe_chain o.ho o'.ho pe_w pe_w pe_w hm) (da σ H at_ E pe _ ((PX.bind q).mono (fun x q2 v H1 s1 r1 => ?_) fun _ z => z))
  refine db σ H1 (at_.grow s1) E pe _ ((PX.bind q2).mono (fun y q3 w H2 s2 r2 => ?_) fun _ z => z.grow s1)
  have e1 : v = .int x := r1
  have e2 : w = .int y := r2
  subst e1 e2
  refine ⟨x, y, rfl, rfl, g x y, rfl, ?_⟩
  cases hg : g x y with
  | true =>
    rw [hg] at q3
    refine dc σ H2 (at_.grow (s1.trans s2)) E pe _ ((PX.bind (show PX _ _ (m3.bind fun z => .ok (g' y z)) from q3)).mono (fun z q4 u H3 s3 r3 => ?_) fun _ z => z.grow (s1.trans s2))
    have e3 : u = .int z := r3
    subst e3
    exact ⟨y, z, rfl, rfl, (show ∀ v H', Same H H' → v = .bl (g' y z) → Q v H' from q4) _ _ ((s1.trans s2).trans s3) rfl⟩
  | false =>
    rw [hg] at q3
    exact (show ∀ v H', Same H H' → v = .bl false → Q v H' from q3) _ _ (s1.trans s2) rfl
theorem et_chain {op op' : CmpOp} {g g' : Int → Int → Bool} (o : Ord4 X op g) (o' : Ord4 X op' g') (da : Ev X H0 qs ma Γ a m1) (db : Ev X H0 qs mb Γ b m2) (dc : Ev X H0 qs mc Γ c m3)
    (he : m = m1.bind fun x => m2.bind fun y => if g x y = true then m3.bind fun z => .ok (g' y z) else .ok false) (hm : lastMarks [op, op'] [b, c] = false := by with_unfolding_all rfl) : EvT X H0 qs Γ (.Compare a [op, op'] [b, c] pos) m := by
  intro σ H at_ E pe Q q
  subst he
  refine wT_of (pt_chain o.ho o'.ho pe_w pe_w pe_w hm) (da σ H at_ E pe _ ((PX.bind q).mono (fun x q2 v H1 s1 r1 => ?_) fun _ z => z))
  refine db σ H1 (at_.grow s1) E pe _ ((PX.bind q2).mono (fun y q3 w H2 s2 r2 => ?_) fun _ z => z.grow s1)
  have e1 : v = .int x := r1
  have e2 : w = .int y := r2
  subst e1 e2
  refine ⟨x, y, rfl, rfl, g x y, rfl, ?_⟩
  cases hg : g x y with
  | true =>
    rw [hg] at q3
    refine dc σ H2 (at_.grow (s1.trans s2)) E pe _ ((PX.bind (show PX _ _ (m3.bind fun z => .ok (g' y z)) from q3)).mono (fun z q4 u H3 s3 r3 => ?_) fun _ z => z.grow (s1.trans s2))
    have e3 : u = .int z := r3
    subst e3
    exact ⟨y, z, rfl, rfl, g' y z, rfl, (show ∀ H', Same H H' → Q (g' y z) H' from q4) _ ((s1.trans s2).trans s3)⟩
  | false =>
    rw [hg] at q3
    exact ⟨false, rfl, (show ∀ H', Same H H' → Q false H' from q3) _ (s1.trans s2)⟩
end
end Wk
set_option Elab.async false
set_option linter.all false
set_option maxRecDepth 100000
/-! Wk15: the outcomes' algebra, without a program in sight. -/
namespace Wk
open PySem PySem.Spec PyProof.Rows L2
section
variable {α β S O : Type}
theorem bind_ok (a : α) (f : α → R β) : (R.ok a).bind f = f a := rfl
theorem bind_exc (c : Exc) (f : α → R β) : (R.exc c).bind f = .exc c := rfl
theorem bind_stuck (f : α → R β) : (R.stuck : R α).bind f = .stuck := rfl
theorem ct_nx (s : S) (f : S → R O) : R.ct (.ok (.nx s)) f = f s := rfl
theorem ct_rt (o : O) (f : S → R O) : R.ct (.ok (.rt o)) f = .ok o := rfl
theorem tryR_ok (s : S) (h : Exc → R S) : R.tryR (.ok s) h = .ok s := rfl
theorem tryR_exc (c : Exc) (h : Exc → R S) : R.tryR (.exc c) h = h c := rfl
theorem sure_ok (a : α) : R.sure (.ok a) = .ok a := rfl
theorem ofO_some (a : α) : R.ofO (some a) = .ok a := rfl
theorem ite_t (a b : α) : (if true = true then a else b) = a := rfl
theorem ite_f (a b : α) : (if false = true then a else b) = b := rfl
theorem chk_ok {c : Bool} {a : α} (h : c = true) : R.chk c a = .ok a := by rw [h] <;> rfl
theorem divR_ok {x y : Int} (h : y ≠ 0) (h2 : y.natAbs.log2 < 9000) : divR x y = .ok (x.fdiv y) := chk_ok (decide_eq_true ⟨h, h2⟩)
theorem modR_ok {x y : Int} (h : y ≠ 0) : modR x y = .ok (x.fmod y) := chk_ok (decide_eq_true h)
theorem mulR_ok {x y : Int} {m n : Nat} (hx : bits x ≤ m) (hy : bits y ≤ n) (h : m + n ≤ 134217728) : mulR x y = .ok (x * y) := chk_ok (decide_eq_true (by omega))
theorem powR_ok {x y : Int} {m : Nat} (hx : bits x ≤ m) (h0 : 0 ≤ y) (h : m * y.toNat ≤ 134217728) : powR x y = .ok (x ^ y.toNat) := by
  refine chk_ok (decide_eq_true ⟨h0, ?_⟩)
  obtain ⟨k, rfl⟩ := Int.eq_ofNat_of_zero_le h0
  rw [Int.toNat_natCast] at h
  have h2 : bits x * k ≤ 134217728 := Nat.le_trans (Nat.mul_le_mul_right k hx) h
  have h3 : ((bits x * k : Nat) : Int) ≤ (134217728 : Nat) := Int.ofNat_le.mpr h2
  rw [Int.natCast_mul] at h3
  exact h3
theorem appR_ok {xs : List α} {y : α} (h : xs.length < 16777216) : appR xs y = .ok (xs ++ [y]) := chk_ok (decide_eq_true h)
theorem insR_ok {xs : List α} {y : α} {j : Int} (h : xs.length < 16777216) (h0 : 0 ≤ j) (h1 : j < 9223372036854775808) : insR xs j y = .ok (xs.take j.toNat ++ [y] ++ xs.drop j.toNat) := chk_ok (decide_eq_true ⟨h, h0, h1⟩)
theorem catR_ok {xs ys : List α} (h : xs.length + ys.length ≤ 16777216) : catR xs ys = .ok (xs ++ ys) := chk_ok (decide_eq_true h)
theorem repR_ok {xs : List α} {k : Int} (h1 : -9223372036854775808 ≤ k) (h2 : k < 9223372036854775808) (h : xs.length * k.toNat ≤ 16777216) : repR xs k = .ok (List.replicate k.toNat xs).flatten := chk_ok (decide_eq_true ⟨h1, h2, h⟩)
theorem rngR_ok {lo hi : Int} (h1 : -1000000000000000000 ≤ lo) (h2 : lo ≤ 1000000000000000000) (h3 : -1000000000000000000 ≤ hi) (h4 : hi ≤ 1000000000000000000) : rngR lo hi = .ok (rangeL lo hi) := chk_ok (decide_eq_true ⟨h1, h2, h3, h4⟩)
theorem atI_nat {xs : List α} {i : Nat} {x : α} (h : xs[i]? = some x) : atI xs (i : Int) = some x := by
  have hl : i < xs.length := (List.getElem?_eq_some_iff.mp h).1
  unfold atI ixN
  rw [if_pos (by omega), if_pos (by omega), Int.toNat_natCast]
  exact h
theorem ixR_nat {xs : List α} {i : Nat} {x : α} (h : xs[i]? = some x) : ixR xs (i : Int) = .ok x := by
  unfold ixR
  rw [atI_nat h] <;> rfl
theorem ixR_int {xs : List α} {i : Int} {x : α} (h0 : 0 ≤ i) (h : xs[i.toNat]? = some x) : ixR xs i = .ok x := by
  obtain ⟨k, rfl⟩ := Int.eq_ofNat_of_zero_le h0
  exact ixR_nat h
theorem mapGo_ok {g : α → R β} {f : α → β} : ∀ {xs : List α}, (∀ x ∈ xs, g x = .ok (f x)) → mapGo g xs = .ok (xs.map f)
  | [], _ => rfl
  | x :: xs, h => by
    have ih := mapGo_ok (xs := xs) fun y hy => h y (List.mem_cons_of_mem _ hy)
    show ((g x).sure.bind fun y => (mapGo g xs).bind fun ys => .ok (y :: ys)) = _
    rw [h x List.mem_cons_self, ih] <;> rfl
theorem mapR_ok {g : α → R β} {f : α → β} {xs : List α} (h : ∀ x ∈ xs, g x = .ok (f x)) (hl : xs.length ≤ 16777216) : mapR g xs = .ok (xs.map f) := by
  unfold mapR
  rw [if_pos hl]
  exact mapGo_ok h
theorem mapGo_ex {g : α → R β} {P : α → β → Prop} : ∀ {xs : List α}, (∀ x ∈ xs, ∃ y, g x = .ok y ∧ P x y) → ∃ ys, mapGo g xs = .ok ys ∧ ys.length = xs.length ∧ ∀ y ∈ ys, ∃ x ∈ xs, P x y
  | [], _ => ⟨[], rfl, rfl, fun _ h => by cases h⟩
  | x :: xs, h => by
    obtain ⟨ys, e, hl, hy⟩ := mapGo_ex (xs := xs) fun y hy => h y (List.mem_cons_of_mem _ hy)
    obtain ⟨y, e1, p1⟩ := h x List.mem_cons_self
    refine ⟨y :: ys, ?_, congrArg Nat.succ hl, fun z hz => ?_⟩
    · show ((g x).sure.bind fun y => (mapGo g xs).bind fun ys => .ok (y :: ys)) = _
      rw [e1, e] <;> rfl
    · rcases List.mem_cons.mp hz with e2 | hz
      · subst e2; exact ⟨x, List.mem_cons_self, p1⟩
      · obtain ⟨w, hw, pw⟩ := hy z hz
        exact ⟨w, List.mem_cons_of_mem _ hw, pw⟩
theorem mapR_ex {g : α → R β} {P : α → β → Prop} {xs : List α} (h : ∀ x ∈ xs, ∃ y, g x = .ok y ∧ P x y) (hl : xs.length ≤ 16777216) : ∃ ys, mapR g xs = .ok ys ∧ ys.length = xs.length ∧ ∀ y ∈ ys, ∃ x ∈ xs, P x y := by
  unfold mapR
  rw [if_pos hl]
  exact mapGo_ex h
theorem forR_ok {b : α → S → R S} {f : S → α → S} : ∀ {xs : List α} {s : S}, (∀ x ∈ xs, ∀ s, b x s = .ok (f s x)) → forR b xs s = .ok (xs.foldl f s)
  | [], _, _ => rfl
  | x :: xs, s, h => by
    show ((b x s).bind fun s' => forR b xs s') = _
    rw [h x List.mem_cons_self, bind_ok, List.foldl_cons]
    exact forR_ok fun y hy => h y (List.mem_cons_of_mem _ hy)
/-- a loop that keeps an invariant -/
theorem forR_inv {b : α → S → R S} (P : List α → S → Prop) : ∀ {xs ys : List α} {s : S}, P ys s → (∀ x zs s, (∃ r, xs = zs ++ x :: r) → P (ys ++ zs) s → ∃ s', b x s = .ok s' ∧ P (ys ++ zs ++ [x]) s') → ∃ s', forR b xs s = .ok s' ∧ P (ys ++ xs) s'
  | [], ys, s, h, _ => ⟨s, rfl, by rw [List.append_nil]; exact h⟩
  | x :: xs, ys, s, h, k => by
    obtain ⟨s1, e1, h1⟩ := k x [] s ⟨xs, rfl⟩ (by rw [List.append_nil]; exact h)
    rw [List.append_nil] at h1
    obtain ⟨s2, e2, h2⟩ := forR_inv P (xs := xs) (ys := ys ++ [x]) h1 fun z zs s ⟨r, hr⟩ hp => by
      have := k z (x :: zs) s ⟨r, by rw [hr]; rfl⟩ (by rw [List.append_assoc] at hp; exact hp)
      simpa [List.append_assoc] using this
    refine ⟨s2, ?_, by rw [List.append_assoc] at h2; exact h2⟩
    show ((b x s).bind fun s' => forR b xs s') = _
    rw [e1, bind_ok]
    exact e2
theorem forM_all {b : α → S → R (Ct S O)} {s : S} : ∀ {xs : List α}, (∀ x ∈ xs, b x s = .ok (.nx s)) → forM b xs s = .ok (.nx s)
  | [], _ => rfl
  | x :: xs, h => by
    show ((b x s).bind (Ct.by (fun s' => forM b xs s') fun o => .ok (.rt o))) = _
    rw [h x List.mem_cons_self]
    exact forM_all fun y hy => h y (List.mem_cons_of_mem _ hy)
theorem pyEq_refl [PyQ α] (x : α) : pyEq x x = true := (pyEq_q x x).mpr rfl
theorem pyEq_dec [PyQ α] [DecidableEq α] (x y : α) : pyEq x y = decide (x = y) := by
  rw [Bool.eq_iff_iff, pyEq_q, decide_eq_true_eq]
theorem cutL_len (xs : List α) (lo hi : Option Int) : (cutL xs lo hi).length ≤ xs.length := by
  unfold cutL
  rw [List.length_take, List.length_drop]
  omega
theorem rangeL_nat (n : Nat) : rangeL 0 (n : Int) = (List.range n).map fun i : Nat => (i : Int) := by
  unfold rangeL
  rw [Int.sub_zero, Int.toNat_natCast]
  exact List.map_congr_left fun i _ => by omega
theorem mem_rangeL {lo hi i : Int} (h : i ∈ rangeL lo hi) : lo ≤ i ∧ i < hi := by
  unfold rangeL at h
  obtain ⟨k, hk, e⟩ := List.mem_map.mp h
  have := List.mem_range.mp hk
  omega
theorem fmod_bounds (x : Int) {y : Int} (h : 0 < y) : 0 ≤ x.fmod y ∧ x.fmod y < y := ⟨Int.fmod_nonneg_of_pos x h, Int.fmod_lt_of_pos x h⟩
theorem bits_of {x : Int} {m : Nat} (h : x.natAbs < 2 ^ m) : bits x ≤ m := PySem.intBits_le_iff.mpr h
end
end Wk
set_option Elab.async false
set_option linter.all false
set_option maxRecDepth 100000
/-! Wk16: tables of the def's own. -/
namespace Wk
open PySem PySem.Spec PyProof.Rows L2
theorem Rows.flat {K : PySem.W.Frag} {F F' H H0 : Hp} {γ : Type} [PyF γ] : ∀ {rs : List Addr} {xss : List (List γ)}, Rows K F H H0 rs xss → Rows K F' H H0 rs xss
  | [], [], _ => trivial
  | r :: rs, xs :: xss, ⟨⟨vs, h1, h2⟩, h3, h4⟩ => ⟨⟨vs, h1, h2.flat⟩, h3, Rows.flat h4⟩
  | [], _ :: _, h => h.elim
  | _ :: _, [], h => h.elim
/-- what is told of a new table -/
def TbK (K : PySem.W.Frag) (H : Hp) (Q : VK) {γ : Type} [PyF γ] (xss : List (List γ)) : Prop := ∀ p rs H', Same H H' → H p = none → (p :: rs).Nodup → H' p = some (.lst (rs.map V.ref)) → Rows K H' H' H rs xss → Q (.ref p) H'
def EvTb (X : Cx) (H0 : Hp) (qs : List Addr) (Γ : List Sl) {γ : Type} [PyF γ] (e : Expr) (m : R (List (List γ))) : Prop :=
  ∀ σ H, At X.K H0 qs Γ σ H → ∀ E : XK, Pas X σ E → ∀ Q : VK, PX (TbK X.K H Q) (XW X E H) m → wE X e σ H Q
section
variable {X : Cx} {H0 : Hp} {qs : List Addr} {md mi : Bool} {Γ : List Sl} {elt tg it : Expr} {pos : Pos} {α γ : Type} {scope : Scope} {own : List (Str × Nat)} {mx : R (List α)} {Γx : α → List Sl} {is : List Nat} {N : List Str} {sc : Scope}
theorem tab_core [PyT α] [PyF γ] {g : α → R (List γ)} {m : R (List (List γ))} (hX : XOk X N sc) (hi : EvI X H0 qs mi Γ tg it mx) (fl : mi = true ∨ ∀ {K : PySem.W.Frag} {F F' : Hp} {v : V} {x : α}, rep K F v x → rep K F' v x) (hno : ∀ p ∈ own, NoOw Γ p.2) (his : ∀ i ∈ is, i ∈ own.map (·.2))
    (hg : ∀ X', Blk X X' (relS scope sc) → ∀ x, EvG X' (wipeG Γ (own.map (·.2))) tg x (Γx x) is) (hel : ∀ X', Blk X X' (relS scope sc) → ∀ (D : Addr) (x : α), EvO X' H0 (D :: qs) true (Γx x) elt (g x))
    (he : m = mx.bind (mapR g)) :
    ∀ σ H, At X.K H0 qs Γ σ H → ∀ E : XK, Pas X σ E → ∀ Q : VK, PX (TbK X.K H Q) (XW X E H) m →
      tLc (wI X tg it) (bG X (relS scope X.env.scope) tg) tYes (bE X (relS scope X.env.scope) elt) (own.map (·.2)) σ H Q := by
  have hsc : X.env.scope = sc := hX.hs
  rw [← hsc] at hg hel
  intro σ H at_ E pe Q q
  subst he
  refine hi σ H at_ E pe _ ((PX.bind q).mono (fun xs q2 J H1 s1 wk D hD => ?_) fun _ z => z)
  unfold mapR at q2
  by_cases hlen : xs.length ≤ 16777216
  case neg => rw [if_neg hlen] at q2; exact (show False from q2).elim
  rw [if_pos hlen] at q2
  have at1 := at_.grow s1
  have hD0 : H D = none := s1.free hD
  let Pv : Nat → Hp → Prop := fun i H' => Same H1 H' ∧ ∃ rs yss, H' D = some (.lst (rs.map V.ref)) ∧ Rows X.K H' H' H rs yss ∧ (D :: rs).Nodup ∧ rs.length ≤ i ∧
    PX (fun zs => TbK X.K H Q (yss ++ zs)) (XW X E H) (mapGo g (xs.drop i))
  refine ⟨fun i m H' => m = xs.length - i ∧ i ≤ xs.length ∧ Pv i H', ⟨xs.length, by simp, Nat.zero_le _, same_new hD, [], [], upd_same, trivial, by simp, Nat.le_refl _, ?_⟩, ?_⟩
  · rw [List.drop_zero]
    exact q2.mono (fun zs k => k) fun _ z => z
  rintro i m H2 ⟨rfl, hi', s2, rs, yss, hacc, hrep, hnd, hal, hrest⟩
  have sF : Same (Fz H1 (av mi Γ σ qs)) H2 := fun b o z => s2 b o (Fz.out b o z)
  by_cases hlt : i < xs.length
  · refine .inr ⟨wk.goes i H2 hlt sF, Pv (i + 1), fun H' p' => ⟨xs.length - (i + 1), by omega, rfl, hlt, p'⟩, fun v H3 hy => ?_⟩
    obtain ⟨s3, x, hx, hxr⟩ := wk.yields i H2 v H3 hlt sF hy
    have hdrop : xs.drop i = x :: xs.drop (i + 1) := by
      obtain ⟨h1, h2⟩ := List.getElem?_eq_some_iff.mp hx
      rw [List.drop_eq_getElem_cons h1, h2]
    rw [hdrop] at hrest
    have hD3 : H3 D = some (.lst (rs.map V.ref)) := s3 _ _ hacc
    have at3 : At X.K H0 (D :: qs) Γ σ H3 := at1.addq (s2.trans s3) hD (by rw [hD3]; exact fun z => by cases z)
    have at3w := at3.wipe (own.map (·.2))
    have hown : owA (wipeG Γ (own.map (·.2))) (wipe σ (own.map (·.2))) = owA Γ σ := wipe_own fun v hv => by
      obtain ⟨p, hp, rfl⟩ := List.mem_map.mp hv
      exact hno p hp
    have hr3 : rep X.K (Fz H3 (owA (wipeG Γ (own.map (·.2))) (wipe σ (own.map (·.2))) ++ D :: qs)) v x := by
      rcases fl with fl | fl
      · subst fl
        refine hxr _ ?_ ?_
        · rw [hown]
          exact Fz.new s2 fun b hb => (List.mem_append.mp hb).elim (fun z => .inl (List.mem_append_left _ z)) fun z => (List.mem_cons.mp z).elim (fun q => .inr (by rw [q]; exact hD)) fun q => .inl (List.mem_append_right _ q)
        · rw [hown]
          intro q hq
          rcases List.mem_append.mp hq with z | z
          · exact (at1.grow s2).own_there z
          · rcases List.mem_cons.mp z with z | z
            · rw [z, hacc]; exact fun z => by cases z
            · exact (at1.grow s2).qd q z
      · exact fl (hxr [] (fun b o z => by rw [Fz.nil]; exact sF b o z) fun q hq => by cases hq)
    intro X' hB
    have hK : X'.K = X.K := hB.K
    refine hg X' hB x H0 (D :: qs) (wipe σ (own.map (·.2))) H3 v (by rw [hK]; exact at3w) (by rw [hK]; exact hr3) _ ?_
    intro σ4 at4 ho4 hl4 hk4
    refine ⟨?_, ?_⟩
    · refine wipe_ext (by rw [hl4, wipe_length]) fun j hj => ?_
      rw [hk4 j fun z => hj (his j z), wipe_out hj]
    have hq3 : PX _ _ ((g x).sure.bind fun y => (mapGo g (xs.drop (i + 1))).bind fun ys => .ok (y :: ys)) := hrest
    have hq4 := PX.sure (PX.bind hq3)
    show bE X _ elt σ4 H3 _
    intro X2 hB2
    have hK2 : X2.K = X.K := hB2.K
    refine hel X2 hB2 D x σ4 H3 (by rw [hK2, ← hK]; exact at4) E0 (hB2.pas σ4) _ (hq4.mono (fun ys k p vs H5 s5 hn hl hr => ?_) fun _ z => z.elim)
    rw [hK2] at hr
    have k2 := PX.bind k
    have sD5 : H5 D = some (.lst (rs.map V.ref)) := s5 _ _ hD3
    have pD : p ≠ D := fun z => by rw [z, hD3] at hn; cases hn
    have prs : p ∉ rs := fun z => by
      have := (hrep.grow (s3) s3).mem (p := p) z
      exact this.1 hn
    refine ⟨rs.map V.ref, sD5, by rw [sizeLine_eq, List.length_map]; omega, ?_⟩
    have e1 : rs.map V.ref ++ [V.ref p] = (rs ++ [p]).map V.ref := by rw [List.map_append] <;> rfl
    rw [e1]
    have hnd2 : (D :: (rs ++ [p])).Nodup := by
      obtain ⟨n1, n2⟩ := List.nodup_cons.mp hnd
      refine List.nodup_cons.mpr ⟨fun z => ?_, List.nodup_append.mpr ⟨n2, List.pairwise_singleton _ p, fun a ha b hb e => ?_⟩⟩
      · rcases List.mem_append.mp z with z | z
        · exact n1 z
        · exact pD (List.mem_singleton.mp z).symm
      · rw [List.mem_singleton.mp hb] at e
        exact prs (e ▸ ha)
    refine ⟨same_mut ((s2.trans s3).trans s5) hD, rs ++ [p], yss ++ [ys], upd_same, ?_, hnd2, by rw [List.length_append, List.length_singleton]; omega, k2.mono (fun zs k3 => by rw [List.append_assoc]; exact k3) fun _ z => z⟩
    have hp0 : H p = none := ((s1.trans s2).trans s3).free hn
    have hrows : Rows X.K H5 H5 H (rs ++ [p]) (yss ++ [ys]) := (hrep.grow (s3.trans s5) (s3.trans s5)).app hl hp0 hr.flat
    exact (hrows.flat (F' := upd H5 D (.lst ((rs ++ [p]).map V.ref)))).upd (Same.refl _) (List.nodup_cons.mp hnd2).1
  · have e : i = xs.length := by omega
    subst e
    refine .inl ⟨wk.stops H2 sF, ?_⟩
    rw [List.drop_length] at hrest
    have hrest2 : TbK X.K H Q (yss ++ []) := hrest
    rw [List.append_nil] at hrest2
    exact hrest2 D rs H2 (s1.trans s2) hD0 hnd hacc hrep
theorem et_map [PyT α] [PyF γ] {g : α → R (List γ)} {m : R (List (List γ))} (hX : XOk X N sc) (hi : EvI X H0 qs mi Γ tg it mx) (fl : mi = true ∨ ∀ {K : PySem.W.Frag} {F F' : Hp} {v : V} {x : α}, rep K F v x → rep K F' v x) (hb : blkC N sc scope own = true) (hno : ∀ p ∈ own, NoOw Γ p.2) (his : ∀ i ∈ is, i ∈ own.map (·.2))
    (hg : ∀ X', Blk X X' (relS scope sc) → ∀ x, EvG X' (wipeG Γ (own.map (·.2))) tg x (Γx x) is) (hel : ∀ X', Blk X X' (relS scope sc) → ∀ (D : Addr) (x : α), EvO X' H0 (D :: qs) true (Γx x) elt (g x))
    (he : m = mx.bind (mapR g) := by rfl) (hs : Fold it := by intro _ _; rfl) : EvTb X H0 qs Γ (.ListComp elt [⟨tg, it, [], 0⟩] scope pos) m := fun σ H at_ E pe Q q =>
  wE_of (pe_lc hX.calm hX.nd pi_w (blkOk_by (by rw [hX.hN, hX.hs]; exact hb)) (fun _ _ _ _ _ => pg_b) (fun _ _ _ _ _ => pts_nil) (fun _ _ _ _ _ => pe_b) (hs X.env)) (tab_core hX hi fl hno his hg hel he σ H at_ E pe Q q)
/-- y = [..], a table -/
def EvCt (X : Cx) (H0 : Hp) (qs : List Addr) (Γ : List Sl) [PyF γ] (e : Expr) (m : R (List (List γ))) : Prop :=
  ∀ (i : Nat) (y : Str) (py spos : Pos) (D : Ends) (σ : L2.St) (H : Hp), Lc X i y → X.env.scope.names.lookup y = some .local → (∀ l env, env.scope.kind = .function → env.scope.names.lookup y = some .local → swapsWith e (some (.Name y py)) l env = pure true) → X.env.scope.kind = .function →
    At X.K H0 qs Γ σ H → ∀ E : XK, Pas X σ E → PX (TbK X.K H fun v H' => D.nx (σ.set i (some v)) H') (XW X E H) m → wS X (.Assign [.Name y py] e spos) D σ H
theorem ect_map [PyT α] [PyF γ] {g : α → R (List γ)} {m : R (List (List γ))} (hX : XOk X N sc) (hi : EvI X H0 qs mi Γ tg it mx) (fl : mi = true ∨ ∀ {K : PySem.W.Frag} {F F' : Hp} {v : V} {x : α}, rep K F v x → rep K F' v x) (hb : blkC N sc scope own = true) (hno : ∀ p ∈ own, NoOw Γ p.2) (his : ∀ i ∈ is, i ∈ own.map (·.2))
    (hg : ∀ X', Blk X X' (relS scope sc) → ∀ x, EvG X' (wipeG Γ (own.map (·.2))) tg x (Γx x) is) (hel : ∀ X', Blk X X' (relS scope sc) → ∀ (D : Addr) (x : α), EvO X' H0 (D :: qs) true (Γx x) elt (g x))
    (he : m = mx.bind (mapR g) := by rfl) (hs : Fold it := by intro _ _; rfl) : EvCt X H0 qs Γ (.ListComp elt [⟨tg, it, [], 0⟩] scope pos) m := fun i y py spos D σ H l hl hsw hk at_ E pe q =>
  wS_of (ps_setLc hX.calm hX.nd l.hi hl (hsw _ _ hk hl) pi_w (blkOk_by (by rw [hX.hN, hX.hs]; exact hb)) (fun _ _ _ _ _ => pg_b) (fun _ _ _ _ _ => pts_nil) (fun _ _ _ _ _ => pe_b) (hs X.env))
    (tab_core hX hi fl hno his hg hel he σ H at_ E pe (fun v H1 => gName i v σ H1 D.nx) q)
end
/-! ### slots -/
section
variable {K : PySem.W.Frag} {H H' H0 : Hp} {qs : List Addr} {Γ : List Sl} {σ : L2.St}
theorem At.setOt {i : Nat} {γ : Type} [PyF γ] {rs : List Addr} {xss : List (List γ)} {p : Addr} (a : At K H0 qs Γ σ H) (e : Same H H') (hp : H p = none) (nd : (p :: rs).Nodup) (hp' : H' p = some (.lst (rs.map V.ref))) (h : Rows K H' H' H rs xss) :
    At K H0 qs (Γ.set i (.ot rs xss)) (σ.set i (some (.ref p))) H' := by
  have a' := a.grow e
  have fresh : ∀ q ∈ p :: rs, H q = none := fun q hq => by
    rcases List.mem_cons.mp hq with z | z
    · rw [z]; exact hp
    · exact (h.mem z).2
  have nO : ∀ q ∈ p :: rs, q ∉ owA Γ σ := fun q hq z => a.own_there z (fresh q hq)
  have nQ : ∀ q ∈ p :: rs, q ∉ qs := fun q hq z => a.qd q z (fresh q hq)
  have sub : ∀ b ∈ owA (Γ.set i (.ot rs xss)) (σ.set i (some (.ref p))), b ∈ p :: rs ∨ b ∈ owA Γ σ := fun b hb => owA_set_sub hb
  have e2 : Same (Fz H (owA Γ σ ++ qs)) (Fz H' (owA (Γ.set i (.ot rs xss)) (σ.set i (some (.ref p))) ++ qs)) := Fz.new e fun b hb => (List.mem_append.mp hb).elim
    (fun z => (sub b z).elim (fun q => .inr (fresh b q)) fun q => .inl (List.mem_append_left _ q)) fun z => .inl (List.mem_append_right _ z)
  refine ⟨a'.ex, (AllOk.grow e2 e a.ok).set (s := .ot rs xss) (o := some (.ref p)) ⟨p, rfl, hp', a.ex.free hp, (h.flat (F' := _)).base fun r hr => a.ex.free (h.mem hr).2⟩, owA_set_nd (s := .ot rs xss) (o := some (.ref p)) nd (fun b hb => nO b hb) a.nd, fun b hb => (sub b hb).elim (nQ b) (a.sep b), a'.qd⟩
theorem At.otNd {i : Nat} {α : Type} [PyT α] {rs : List Addr} {xss : List (List α)} {p : Addr} (a : At K H0 qs Γ σ H) (h : Γ[i]? = some (.ot rs xss)) (k : σ[i]? = some (some (.ref p))) : (p :: rs).Nodup := by
  have go : ∀ {Γ : List Sl} {σ : L2.St} {i : Nat} {s : Sl} {ov : Option V}, Γ[i]? = some s → σ[i]? = some ov → (owA Γ σ).Nodup → (own1 s ov).Nodup := by
    intro Γ
    induction Γ with
    | nil => intro σ i s ov e; simp at e
    | cons t Γ ih =>
      intro σ i s ov e1 e2 nd
      cases σ with
      | nil => simp at e2
      | cons w σ =>
        rw [owA_cons] at nd
        cases i with
        | zero =>
          cases e1
          cases e2
          exact (List.nodup_append.mp nd).1
        | succ i => exact ih (i := i) e1 e2 (List.nodup_append.mp nd).2.1
  exact go h k a.nd
/-- a table no more changed -/
theorem At.frzT {i : Nat} {α : Type} [PyF α] {rs : List Addr} {xss : List (List α)} (a : At K H0 qs Γ σ H) (h : Γ[i]? = some (.ot rs xss)) : At K H0 qs (Γ.set i (.fr xss)) σ H := by
  obtain ⟨p, k1, k2, k3, k4, k5⟩ := a.ot h
  have nd := a.otNd h k1
  have es : σ.set i (some (.ref p)) = σ := by
    obtain ⟨hl, e⟩ := List.getElem?_eq_some_iff.mp k1
    rw [← e]
    exact List.set_getElem_self hl
  have sub : ∀ b ∈ owA (Γ.set i (.fr xss)) σ, b ∈ owA Γ σ := fun b hb => by
    have hb' : b ∈ owA (Γ.set i (.fr xss)) (σ.set i (some (.ref p))) := by rw [es]; exact hb
    exact (owA_set_sub hb').elim (fun z => by cases z) id
  have out : ∀ {Γ : List Sl} {σ : L2.St} {i : Nat}, Γ[i]? = some (.ot rs xss) → σ[i]? = some (some (.ref p)) → (owA Γ σ).Nodup → ∀ q ∈ p :: rs, q ∉ owA (Γ.set i (.fr xss)) σ := by
    intro Γ
    induction Γ with
    | nil => intro σ i e; simp at e
    | cons t Γ ih =>
      intro σ i e1 e2 nd q hq
      cases σ with
      | nil => simp at e2
      | cons w σ =>
        rw [owA_cons] at nd
        obtain ⟨d1, d2, d3⟩ := List.nodup_append.mp nd
        cases i with
        | zero =>
          cases e1
          cases e2
          rw [List.set_cons_zero, owA_cons]
          intro z
          rcases List.mem_append.mp z with z | z
          · cases z
          · exact d3 q hq q z rfl
        | succ i =>
          rw [List.set_cons_succ, owA_cons]
          intro z
          rcases List.mem_append.mp z with z | z
          · exact d3 q z q (owA_mem1 (i := i) e1 e2 hq) rfl
          · exact ih (i := i) e1 e2 d2 q hq z
  have no := out h k1 a.nd
  have e : Same (Fz H (owA Γ σ ++ qs)) (Fz H (owA (Γ.set i (.fr xss)) σ ++ qs)) := Fz.sub (fun _ _ z => z) fun b hb => (List.mem_append.mp hb).elim (fun z => List.mem_append_left _ (sub b z)) (List.mem_append_right _)
  have inF : ∀ q ∈ p :: rs, ∀ o, H q = some o → Fz H (owA (Γ.set i (.fr xss)) σ ++ qs) q = some o := fun q hq o ho => Fz.some_iff.mpr ⟨fun z => (List.mem_append.mp z).elim (no q hq) (a.sep q (k2 q hq)), ho⟩
  have rp : RepL K (Fz H (owA (Γ.set i (.fr xss)) σ ++ qs)) (rs.map V.ref) xss := k5.rep _ e fun r hr o ho => inF r (List.mem_cons_of_mem _ hr) o ho
  have ok := (AllOk.grow e (fun _ _ z => z) a.ok).set (s := .fr xss) (o := some (.ref p)) (i := i) ⟨.ref p, rfl, p, _, rfl, inF p List.mem_cons_self _ k3, rp⟩
  rw [es] at ok
  have nd2 := owA_set_nd (s := .fr xss) (o := some (.ref p)) (i := i) List.nodup_nil (fun b hb => by cases hb) a.nd
  rw [es] at nd2
  exact ⟨a.ex, ok, nd2, fun b hb => a.sep b (sub b hb), a.qd⟩
end
section
variable {X : Cx} {H0 : Hp} {qs : List Addr} {rt : VK} {nx : L2.St → Hp → Prop} {O : Type} {A : O → Prop} {B : Exc → Prop} {Γ : List Sl} {rest : List Stmt} {m : R O} {e a b : Expr} {pos p p1 p2 p3 : Pos} {x : Str} {i : Nat} {α β S : Type}
theorem w_asgCt [PyF α] {m1 : R (List (List α))} {f : List (List α) → R O} {Γ' : List Addr → List (List α) → List Sl} (fr : Fr X H0 B) (l : Lc X i x) (hl : X.env.scope.names.lookup x = some .local) (hk : X.env.scope.kind = .function) (d : EvCt X H0 qs Γ e m1) (k : ∀ rs y, W X H0 qs rt nx A B (Γ' rs y) rest (f y))
    (hΓ : ∀ rs y, Γ' rs y = Γ.set i (.ot rs y) := by intro _ _; rfl) (he : m = m1.bind f := by rfl)
    (hsw : ∀ l env, env.scope.kind = .function → env.scope.names.lookup x = some .local → swapsWith e (some (.Name x p)) l env = pure true := by intro _ _ h1 h2; exact sw_true h1 h2 rfl (by decide +kernel)) : W X H0 qs rt nx A B Γ (.Assign [.Name x p] e pos :: rest) m := fun q σ H at_ => by
  subst he
  obtain ⟨E, pe, hx⟩ := fr.use
  refine cons_of (d i x p pos _ σ H l hl hsw hk at_ E (pe σ) ((PX.bind q).mono (fun y q2 p rs H1 s1 hn nd hl r1 => ?_) fun c z => hx c H at_.ex z))
  exact k rs y q2 _ H1 (by rw [hΓ]; exact at_.setOt s1 hn nd hl r1)
theorem w_asgTb [PyF α] {m1 : R (List (List α))} {f : List (List α) → R O} {Γ' : List Addr → List (List α) → List Sl} (fr : Fr X H0 B) (l : Lc X i x) (d : EvTb X H0 qs Γ e m1) (k : ∀ rs y, W X H0 qs rt nx A B (Γ' rs y) rest (f y)) (hs : swapsWith e (some (.Name x p)) pos.line X.env = pure false)
    (hΓ : ∀ rs y, Γ' rs y = Γ.set i (.ot rs y) := by intro _ _; rfl) (he : m = m1.bind f := by rfl) : W X H0 qs rt nx A B Γ (.Assign [.Name x p] e pos :: rest) m := fun q σ H at_ => by
  subst he
  obtain ⟨E, pe, hx⟩ := fr.use
  refine cons_of (wS_of (ps_set l.nd l.hi l.loc pe_w hs l.fn) ?_)
  refine d σ H at_ E (pe σ) _ ((PX.bind q).mono (fun y q2 p rs H1 s1 hn nd hl r1 => ?_) fun c z => hx c H at_.ex z)
  exact k rs y q2 _ H1 (by rw [hΓ]; exact at_.setOt s1 hn nd hl r1)
theorem w_frzT [PyF α] {rs : List Addr} {xss : List (List α)} {Γ' : List Sl} {ss : List Stmt} (i : Nat) (h : Γ[i]? = some (.ot rs xss)) (hΓ : Γ' = Γ.set i (.fr xss)) (k : W X H0 qs rt nx A B Γ' ss m) : W X H0 qs rt nx A B Γ ss m := fun q σ H at_ => k q σ H (by rw [hΓ]; exact at_.frzT h)
/-- a table read -/
theorem ev_tab [PyF α] {rs : List Addr} {yss : List (List α)} {m : R (List (List α))} (n : Nm X i x) (h : Γ[i]? = some (.ot rs yss) := by rfl) (he : m = .ok yss := by rfl) : Ev X H0 qs false Γ (.Name x pos) m := by
  intro σ H at_ E pe Q q
  subst he
  obtain ⟨p, k1, k2, k3, k4, k5⟩ := at_.ot h
  refine wE_of (pe_var n.hi n.vis n.hd n.hc) ⟨_, k1, q _ H (Same.refl H) ⟨p, rs.map V.ref, rfl, ?_, ?_⟩⟩
  · show Fz H [] p = _
    rw [Fz.nil]; exact k3
  · refine (k5.flat (F' := H)).rep _ (by show Same H (Fz H []); rw [Fz.nil]; exact Same.refl H) fun r hr o ho => ?_
    show Fz H [] r = _
    rw [Fz.nil]; exact ho
/-- t[a][b] = e -/
def rowR (xss : List (List α)) (j : Int) : R (Nat × List α) := R.ofO ((ixN xss.length j).bind fun k => (xss[k]?).map fun row => (k, row))
theorem w_setix2 [PyF α] {rs : List Addr} {yss : List (List α)} {ma mj : R Int} {m1 : R α} {f : List (List α) → R O} {Γ' : List (List α) → List Sl} (fr : Fr X H0 B) (n : Nm X i x) (h : Γ[i]? = some (.ot rs yss)) (d : Ev X H0 qs true Γ e m1) (da : Ev X H0 qs true Γ a ma) (dj : Ev X H0 qs true Γ b mj) (k : ∀ zs, W X H0 qs rt nx A B (Γ' zs) rest (f zs)) (hΓ : ∀ zs, Γ' zs = Γ.set i (.ot rs zs) := by intro _; rfl) (ht : tmF Γ = true := by rfl)
    (he : m = m1.bind fun y => ma.bind fun j1 => (rowR yss j1).bind fun kr => mj.bind fun j => (setR kr.2 j y).bind fun row => f (yss.set kr.1 row) := by rfl)
    (hpa : PlainIx a := by exact fun _ _ => rfl)
    (ha : ∀ env v, assign (.Subscript (.Subscript (.Name x p1) a p2) b p3) env v = (do
      let ov ← holding [v] (eval (.Subscript (.Name x p1) a p2) env)
      let iv ← holding [v, ov] (eval b env)
      standAt p3
      holding [v, ov, iv] (setItem ov iv v)
      release [v, ov, iv] []) := by intro _ _; rfl) (hs : ∀ env, swapsWithSole [.Subscript (.Subscript (.Name x p1) a p2) b p3] e pos.line env = pure false := by intro _; rfl) (hw : ∀ env, swappedStores [.Subscript (.Subscript (.Name x p1) a p2) b p3] e env = pure none := by intro _; rfl)
    (h1 : ∀ env, (assignEach [.Subscript (.Subscript (.Name x p1) a p2) b p3] env).map (·.2) = [assign (.Subscript (.Subscript (.Name x p1) a p2) b p3) env] := by intro _; rfl) : W X H0 qs rt nx A B Γ (.Assign [.Subscript (.Subscript (.Name x p1) a p2) b p3] e pos :: rest) m := fun q σ H at_ => by
  subst he
  obtain ⟨E, pe, hx⟩ := fr.use
  refine cons_of (wS_of (ps_asg pe_w (pg_sub (pe_ix ix_list (pe_var n.hi n.vis n.hd n.hc) pe_w hpa) pe_w set_list (ha X.env)) (hs X.env) (hw X.env) (h1 X.env)) ?_)
  refine d σ H at_ E (pe σ) _ ((PX.bind q).mono (fun y q2 v H1 s1 r1 => ?_) fun c z => hx c H at_.ex z)
  have at1 := at_.grow s1
  obtain ⟨l, k1, k2, k3, k4, k5⟩ := at1.ot h
  have nd := at1.otNd h k1
  refine ⟨_, k1, ?_⟩
  refine da σ H1 at1 E (pe σ) _ ((PX.bind q2).mono (fun j1 q3 vj H2 s2 rj => ?_) fun c z => hx c H1 (at_.ex.trans s1) z)
  have e1 : vj = .int j1 := rj
  subst e1
  obtain ⟨kr, hkr, q4⟩ := PX.ofO (PX.bind q3)
  obtain ⟨kk, hk1, hk2⟩ := Option.bind_eq_some_iff.mp hkr
  obtain ⟨row, hrow, rfl⟩ := Option.map_eq_some_iff.mp hk2
  obtain ⟨r, vs, g1, g2, g3, g4⟩ := k5.get hrow
  have hat : atI (rs.map V.ref) j1 = some (.ref r) := by
    unfold atI
    rw [List.length_map, k5.len, hk1, Option.bind_some, List.getElem?_map, g1] <;> rfl
  refine ⟨l, _, j1, .ref r, rfl, rfl, SqL.of (s2 _ _ k3), hat, ?_⟩
  refine dj σ H2 (at_.grow (s1.trans s2)) E (pe σ) _ ((PX.bind q4).mono (fun j q5 vi H3 s3 ri => ?_) fun c z => hx c H2 ((at_.ex.trans s1).trans s2) z)
  have e2 : vi = .int j := ri
  subst e2
  have q6 := PX.bind (PX.bind q5)
  obtain ⟨jj, hj, q7⟩ := PX.ofO q6
  have at3 := at_.grow ((s1.trans s2).trans s3)
  have g4' : RepL X.K (Fz H3 (owA Γ σ ++ qs)) vs row := g4.flat
  refine ⟨r, vs, j, jj, rfl, rfl, s3 _ _ (s2 _ _ g2), by rw [g4.len]; exact hj, ?_⟩
  exact k _ q7 _ _ (by rw [hΓ]; exact at3.mutT h g1 (g4'.set (PyF.flat r1)) (List.nodup_cons.mp nd).2 ht)
end
end Wk
set_option Elab.async false
set_option linter.all false
set_option maxRecDepth 100000
/-! Wk17: bits. -/
namespace Wk
open PySem PySem.Spec PyProof.Rows L2
section
variable {X : Cx} {H0 : Hp} {qs : List Addr} {md ma mb : Bool} {Γ : List Sl} {a b : Expr} {pos : Pos} {m1 m2 m : R Int}
def shrR (x y : Int) : R Int := R.chk (decide (0 ≤ y)) (x / 2 ^ y.toNat)
theorem ev_shr (da : Ev X H0 qs ma Γ a m1) (db : Ev X H0 qs mb Γ b m2) (he : m = m1.bind fun x => m2.bind fun y => shrR x y := by rfl) : Ev X H0 qs md Γ (.BinOp a .RShift b pos) m :=
  ev_op op_shr (opf_I fun x y h => of_decide_eq_true h) da db he
theorem ev_band (da : Ev X H0 qs ma Γ a m1) (db : Ev X H0 qs mb Γ b m2) (he : m = m1.bind fun x => m2.bind fun y => .ok (Builtin.bitAnd x y) := by rfl) : Ev X H0 qs md Γ (.BinOp a .BitAnd b pos) m := ev_op op_and opf_I0 da db he
end
end Wk
set_option Elab.async false
set_option linter.all false
set_option maxRecDepth 100000
set_option maxHeartbeats 0
namespace Wk
open PySem PySem.Spec PyProof.Rows L2
def top (i : Nat) : Stmt := PySem.Challenge.pw_owinghall_k16_outside_and_groups.main.body.getD i (.Pass ⟨0, 0, 0, 0⟩)
abbrev s_look_at : Stmt := top 5
def dd_look_at : He.DefD := ⟨("look_at", none), "look_at", "look_at", defArgs s_look_at, defBody s_look_at, defScope s_look_at, [], []⟩
abbrev s_tie_rows : Stmt := top 6
def dd_tie_rows : He.DefD := ⟨("tie_rows", none), "tie_rows", "tie_rows", defArgs s_tie_rows, defBody s_tie_rows, defScope s_tie_rows, [], []⟩
abbrev s_next_one : Stmt := top 7
def dd_next_one : He.DefD := ⟨("next_one", none), "next_one", "next_one", defArgs s_next_one, defBody s_next_one, defScope s_next_one, [], []⟩
abbrev s_queue : Stmt := top 8
def dd_queue : He.DefD := ⟨("queue", none), "queue", "queue", defArgs s_queue, defBody s_queue, defScope s_queue, [], []⟩
abbrev s_outside : Stmt := top 9
def dd_outside : He.DefD := ⟨("outside", none), "outside", "outside", defArgs s_outside, defBody s_outside, defScope s_outside, [], []⟩
abbrev s__law_cell_at : Stmt := top 11
def dd__law_cell_at : He.DefD := ⟨("_law_cell_at", none), "_law_cell_at", "_law_cell_at", defArgs s__law_cell_at, defBody s__law_cell_at, defScope s__law_cell_at, [], []⟩
abbrev s__law_whole : Stmt := top 12
def dd__law_whole : He.DefD := ⟨("_law_whole", none), "_law_whole", "_law_whole", defArgs s__law_whole, defBody s__law_whole, defScope s__law_whole, [], []⟩
abbrev s__law_names : Stmt := top 13
def dd__law_names : He.DefD := ⟨("_law_names", none), "_law_names", "_law_names", defArgs s__law_names, defBody s__law_names, defScope s__law_names, [], []⟩
abbrev s__law_web : Stmt := top 14
def dd__law_web : He.DefD := ⟨("_law_web", none), "_law_web", "_law_web", defArgs s__law_web, defBody s__law_web, defScope s__law_web, [], []⟩
abbrev s__law_standing : Stmt := top 15
def dd__law_standing : He.DefD := ⟨("_law_standing", none), "_law_standing", "_law_standing", defArgs s__law_standing, defBody s__law_standing, defScope s__law_standing, [], []⟩
abbrev s__law_rows : Stmt := top 16
def dd__law_rows : He.DefD := ⟨("_law_rows", none), "_law_rows", "_law_rows", defArgs s__law_rows, defBody s__law_rows, defScope s__law_rows, [], []⟩
abbrev s__law_ties_to : Stmt := top 17
def dd__law_ties_to : He.DefD := ⟨("_law_ties_to", none), "_law_ties_to", "_law_ties_to", defArgs s__law_ties_to, defBody s__law_ties_to, defScope s__law_ties_to, [], []⟩
abbrev s__law_queue : Stmt := top 18
def dd__law_queue : He.DefD := ⟨("_law_queue", none), "_law_queue", "_law_queue", defArgs s__law_queue, defBody s__law_queue, defScope s__law_queue, [], []⟩
abbrev s__law_can_lend : Stmt := top 19
def dd__law_can_lend : He.DefD := ⟨("_law_can_lend", none), "_law_can_lend", "_law_can_lend", defArgs s__law_can_lend, defBody s__law_can_lend, defScope s__law_can_lend, [], []⟩
abbrev s_law : Stmt := top 20
def dd_law : He.DefD := ⟨("law", none), "law", "law", defArgs s_law, defBody s_law, defScope s_law, [], []⟩
def fn : List He.DefD := [dd_look_at, dd_tie_rows, dd_next_one, dd_queue, dd_outside, dd__law_cell_at, dd__law_whole, dd__law_names, dd__law_web, dd__law_standing, dd__law_rows, dd__law_ties_to, dd__law_queue, dd__law_can_lend, dd_law]
def fa : List He.Fa := [.glo "OwingError", .exc "OwingError", .glo "BadStanding", .exc "BadStanding", .glo "BadHouse", .exc "BadHouse", .glo "look_at", .glo "tie_rows", .glo "next_one", .glo "queue", .glo "outside", .glo "_law_cell_at", .glo "_law_whole", .glo "_law_names", .glo "_law_web", .glo "_law_standing", .glo "_law_rows", .glo "_law_ties_to", .glo "_law_queue", .glo "_law_can_lend", .glo "law", .free "len", .free "range", .free "list", .free "isinstance", .free "min", .free "max", .free "tuple", .free "sorted", .free "int", .free "all", .free "bool", .free "ValueError", .exm "BadStanding" "OwingError" true, .exm "BadStanding" "BadStanding" true, .exm "BadHouse" "OwingError" true, .exm "BadHouse" "BadHouse" true]
def fe : List Fe := []
def m_law_cell_at (t : Scr × Int × Unit) : R Int :=
  (if (decide (t.2.1 < (t.1.l.length : Int))) = true then (((ixR t.1.l t.2.1) : R Int).bind fun z1 => .ok z1) else (.ok (0 : Int)))
def m_law_names (t : Int × Int × Unit) : R (List Int) :=
  (((.ok ([] : (List Int))) : R (List Int)).bind fun y26 => (((((((mulR t.1 (48271 : Int)) : R _).bind fun x27 => (.ok (x27 + (7 : Int)))) : R _).bind fun x28 => (modR x28 (2147483647 : Int))) : R Int).bind fun y29 => (((rngR 0 t.2.1) : R _).bind fun x35 => (R.bind (forR (fun y31 s30 => (((modR s30.2 (y31 + (1 : Int))) : R _).bind fun x34 => ((insR s30.1 x34 y31).bind fun y32 => (((divR s30.2 (y31 + (1 : Int))) : R Int).bind fun y33 => (.ok (y32, y33)))))) x35 (y26, y29)) fun s30 : ((List Int) × Int) => (.ok s30.1)))))
def m_law_web (t : Scr × Unit) : R (Int × (Tu (Int × Int))) :=
  (((((((m_law_cell_at (t.1, (0 : Int), ())) : R _).bind fun x2 => (modR x2 (8 : Int))) : R _).bind fun x3 => (.ok ((1 : Int) + x3))) : R Int).bind fun y4 => (((.ok ([] : (List (Int × Int)))) : R (List (Int × Int))).bind fun y5 => (((rngR (1 : Int) y4) : R _).bind fun x71 => (R.bind (forR (fun y7 s6 => (((((((((m_law_cell_at (t.1, y7, ())) : R _).bind fun x8 => (modR x8 y7)) : R _).bind fun x9 => (.ok (x9, (y7, ())))) : R _).bind fun x10 => (.ok (x10.1, x10.2.1))) : R _).bind fun x12 => ((appR s6 x12).bind fun y11 => (.ok y11)))) x71 y5) fun s6 : (List (Int × Int)) => (((((((((m_law_cell_at (t.1, (0 : Int), ())) : R _).bind fun x13 => (divR x13 (8 : Int))) : R _).bind fun x14 => (modR x14 (10 : Int))) : R _).bind fun x15 => (rngR 0 x15)) : R _).bind fun x70 => (R.bind (forR (fun y17 s16 => (((m_law_cell_at (t.1, (8 : Int) + y17, ())) : R Int).bind fun y18 => (R.bind (if (decide ((1 : Int) < y4)) = true then (((modR y18 y4) : R Int).bind fun y20 => (((((((((divR y18 y4) : R _).bind fun x21 => (modR x21 (y4 - (1 : Int)))) : R _).bind fun x22 => (.ok ((y20 + (1 : Int)) + x22))) : R _).bind fun x23 => (modR x23 y4)) : R Int).bind fun y24 => ((appR s16 (y20, y24)).bind fun y25 => (.ok y25)))) else (.ok s16)) fun s19 : (List (Int × Int)) => (.ok s19)))) x70 s6) fun s16 : (List (Int × Int)) => (((((((m_law_cell_at (t.1, (1 : Int), ())) : R _).bind fun x36 => (.ok (x36, (y4, ())))) : R _).bind fun x37 => (m_law_names x37)) : R (List Int)).bind fun y38 => (((mapR (fun y49 => (((((ixR y38 y49.1) : R _).bind fun x55 => (((((ixR y38 y49.2) : R _).bind fun x54 => (.ok (x54, (())))) : R _).bind fun x56 => (.ok (x55, x56)))) : R _).bind fun x57 => (.ok (x57.1, x57.2.1)))) s16) : R (List (Int × Int))).bind fun y58 => (((((((((((((mapR (fun y59 => (.ok (min y59.1 y59.2, max y59.1 y59.2))) y58) : R _).bind fun x64 => (.ok (sortP x64))) : R _).bind fun x65 => (.ok (Tu.mk x65))) : R _).bind fun x66 => (.ok (x66, (())))) : R _).bind fun x67 => (.ok (y4, x67))) : R _).bind fun x68 => (.ok (x68.1, x68.2.1))) : R (Int × (Tu (Int × Int)))).bind fun z69 => .ok z69)))))))))
def m_law_rows (t : (Int × (Tu (Int × Int))) × Unit) : R (List (List Int)) :=
  (((((rngR 0 t.1.1) : R _).bind fun x84 => (mapR (fun y73 => (((rngR 0 t.1.1) : R _).bind fun x83 => (mapR (fun y78 => (.ok (0 : Int))) x83))) x84)) : R (List (List Int))).bind fun y85 => (R.bind (forR (fun y88 s87 => (((((((ixR s87 y88.1) : R _).bind fun x89 => (ixR x89 y88.2)) : R _).bind fun x90 => (.ok (x90 + (1 : Int)))) : R _).bind fun x98 => (((rowR s87 y88.1) : R _).bind fun k99 => (((setR k99.2 y88.2 x98) : R _).bind fun w100 => ((fun y91 : (List (List Int)) => (((((((ixR y91 y88.2) : R _).bind fun x92 => (ixR x92 y88.1)) : R _).bind fun x93 => (.ok (x93 + (1 : Int)))) : R _).bind fun x95 => (((rowR y91 y88.2) : R _).bind fun k96 => (((setR k96.2 y88.1 x95) : R _).bind fun w97 => ((fun y94 : (List (List Int)) => (.ok y94)) (List.set y91 k96.1 w97)))))) (List.set s87 k99.1 w100)))))) ((t.1.2).l) y85) fun s87 : (List (List Int)) => (.ok s87)))
def m_law_standing (t : Scr × Int × Unit) : R (List Int) :=
  (((((rngR 0 t.2.1) : R _).bind fun x108 => (mapR (fun y102 => (((mulR y102 y102) : R _).bind fun x107 => (.ok (x107 + y102)))) x108)) : R (List Int)).bind fun y109 => (((rngR (1 : Int) (t.1.l.length : Int)) : R _).bind fun x143 => (R.bind (forR (fun y111 s110 => (((modR y111 t.2.1) : R Int).bind fun y112 => (((((((((ixR s110 y112) : R _).bind fun x113 => (mulR x113 (31 : Int))) : R _).bind fun x117 => (((((ixR t.1.l y111) : R _).bind fun x115 => (((((mulR (2 : Int) y111) : R _).bind fun x114 => (.ok (x114 + (1 : Int)))) : R _).bind fun x116 => (mulR x115 x116))) : R _).bind fun x118 => (.ok (x117 + x118)))) : R _).bind fun x120 => (((((powR (10 : Int) (60 : Int)) : R _).bind fun x119 => (.ok (x119 + (7 : Int)))) : R _).bind fun x121 => (modR x120 x121))) : R _).bind fun x123 => ((setR s110 y112 x123).bind fun y122 => (.ok y122))))) x143 y109) fun s110 : (List Int) => (((((((((((powR (10 : Int) (30 : Int)) : R _).bind fun x125 => (((((powR (10 : Int) (59 : Int)) : R _).bind fun x124 => (.ok (x124 :: []))) : R _).bind fun x126 => (.ok (x125 :: x126)))) : R _).bind fun x127 => (.ok ((40 : Int) :: x127))) : R _).bind fun x128 => (.ok ((3 : Int) :: x128))) : R _).bind fun x131 => (((((((m_law_cell_at (t.1, (0 : Int), ())) : R _).bind fun x129 => (divR x129 (80 : Int))) : R _).bind fun x130 => (modR x130 (4 : Int))) : R _).bind fun x132 => (ixR x131 x132))) : R Int).bind fun y133 => (((mapR (fun y134 => (((((((mulR (2 : Int) y133) : R _).bind fun x139 => (.ok (x139 + (1 : Int)))) : R _).bind fun x140 => (modR y134 x140)) : R _).bind fun x141 => (.ok (x141 - y133)))) s110) : R (List Int)).bind fun z142 => .ok z142)))))
def m_look_at (t : (Int × (Tu (Int × Int))) × (List Int) × Int × Unit) : R Unit :=
  (if (!pyEq (t.2.1.length : Int) t.1.1) = true then (.exc .badStanding) else (((if (decide (t.2.2.1 < (0 : Int))) = true then R.ok true else (R.ok (decide (t.1.1 ≤ t.2.2.1)))) : R Bool).bind fun c148 => if c148 = true then (.exc .badHouse) else (.ok ())))
def m_tie_rows (t : (Int × (Tu (Int × Int))) × Unit) : R (List (List Int)) :=
  (((((rngR 0 t.1.1) : R _).bind fun x160 => (mapR (fun y149 => (((rngR 0 t.1.1) : R _).bind fun x159 => (mapR (fun y154 => (.ok (0 : Int))) x159))) x160)) : R (List (List Int))).bind fun y161 => (R.bind (forR (fun y164 s163 => (((((((ixR s163 y164.1) : R _).bind fun x165 => (ixR x165 y164.2)) : R _).bind fun x166 => (.ok (x166 + (1 : Int)))) : R _).bind fun x174 => (((rowR s163 y164.1) : R _).bind fun k175 => (((setR k175.2 y164.2 x174) : R _).bind fun w176 => ((fun y167 : (List (List Int)) => (((((((ixR y167 y164.2) : R _).bind fun x168 => (ixR x168 y164.1)) : R _).bind fun x169 => (.ok (x169 + (1 : Int)))) : R _).bind fun x171 => (((rowR y167 y164.2) : R _).bind fun k172 => (((setR k172.2 y164.1 x171) : R _).bind fun w173 => ((fun y170 : (List (List Int)) => (.ok y170)) (List.set y167 k172.1 w173)))))) (List.set s163 k175.1 w176)))))) ((t.1.2).l) y161) fun s163 : (List (List Int)) => (.ok s163)))
def m_next_one (t : (List Int) × (List Int) × (List Int) × Unit) : R Int :=
  (((rngR 0 (t.1.length : Int)) : R _).bind fun x203 => (R.ct (forM (fun y199 s198 => (((if (!decide (y199 ∈ t.2.2.1)) = true then (((ixR t.1 y199) : R _).bind fun x200 => (((ixR t.2.1 y199) : R _).bind fun x201 => (.ok (decide (x200 < x201))))) else R.ok false) : R Bool).bind fun c202 => if c202 = true then (.ok (.rt y199)) else (.ok (.nx ())))) x203 ()) fun s198 : Unit => (.ok (-(1 : Int)))))
def m_queue (t : (Int × (Tu (Int × Int))) × (List Int) × Int × Unit) : R (List Int) :=
  (((m_look_at (t.1, t.2.1, t.2.2.1, ())) : R Unit).bind fun _ => (((m_tie_rows (t.1, ())) : R (List (List Int))).bind fun y177 => (((.ok ([] : (List Int))) : R (List Int)).bind fun y178 => (((mapR (fun y179 => (.ok (0 : Int))) t.2.1) : R (List Int)).bind fun y184 => (((.ok t.2.2.1) : R Int).bind fun y185 => (R.bind (whileR (fun s186 => (.ok (decide ((0 : Int) ≤ s186.2.2)))) (fun s186 => ((appR s186.1 s186.2.2).bind fun y187 => (((((rngR 0 t.1.1) : R _).bind fun x196 => (mapR (fun y188 => (((ixR s186.2.1 y188) : R _).bind fun x194 => (((((ixR y177 s186.2.2) : R _).bind fun x193 => (ixR x193 y188)) : R _).bind fun x195 => (.ok (x194 + x195))))) x196)) : R (List Int)).bind fun y197 => (((m_next_one (t.2.1, y197, y187, ())) : R Int).bind fun y204 => (.ok (y187, y197, y204)))))) fuel (y178, y184, y185)) fun s186 : ((List Int) × (List Int) × Int) => (.ok s186.1)))))))
def m_outside (t : (Int × (Tu (Int × Int))) × (List Int) × Int × Unit) : R (List Int) :=
  (((m_queue (t.1, t.2.1, t.2.2.1, ())) : R (List Int)).bind fun y205 => (((((rngR 0 t.1.1) : R _).bind fun x211 => (compR (fun y206 => (if (!decide (y206 ∈ y205)) = true then (R.ok (some y206)) else R.ok none)) x211)) : R (List Int)).bind fun z212 => .ok z212))
def m_law_whole (t : Int × Unit) : R Bool :=
  (((if true = true then (R.ok (!false)) else R.ok false) : R Bool).bind fun z219 => .ok z219)
def m_law_ties_to (t : (List (List Int)) × Int × (List Int) × Unit) : R Int :=
  (((.ok (0 : Int)) : R Int).bind fun y228 => (R.bind (forR (fun y230 s229 => (((((((ixR t.1 t.2.1) : R _).bind fun x231 => (ixR x231 y230)) : R _).bind fun x232 => (.ok (s229 + x232))) : R Int).bind fun y233 => (.ok y233))) t.2.2.1 y228) fun s229 : Int => (.ok s229)))
def m_law_queue (t : (List (List Int)) × (List Int) × Int × Unit) : R (List Int) :=
  (((.ok ([t.2.2.1] : (List Int))) : R (List Int)).bind fun y222 => (((.ok ([t.2.2.1] : (List Int))) : R (List Int)).bind fun y223 => (R.bind (whileR (fun s224 => (.ok (!pyEq s224.2 ([] : (List Int))))) (fun s224 => (((.ok ([] : (List Int))) : R (List Int)).bind fun y225 => (((rngR 0 (t.1.length : Int)) : R _).bind fun x241 => (R.bind (forR (fun y227 s226 => (((if (!decide (y227 ∈ s224.1)) = true then (((ixR t.2.1 y227) : R _).bind fun x234 => (((m_law_ties_to (t.1, y227, s224.1, ())) : R _).bind fun x235 => (.ok (decide (x234 < x235))))) else R.ok false) : R Bool).bind fun c239 => R.bind (if c239 = true then ((appR s226 y227).bind fun y237 => (.ok y237)) else (.ok s226)) fun s236 : (List Int) => (.ok s236))) x241 y225) fun s226 : (List Int) => (((catR s224.1 (cutL s226 none (some (1 : Int)))) : R (List Int)).bind fun y240 => (.ok (y240, s226))))))) fuel (y222, y223)) fun s224 : ((List Int) × (List Int)) => (.ok s224.1))))
def m_law_can_lend (t : (List (List Int)) × (List Int) × (List Int) × Unit) : R Bool :=
  (((((rngR 0 (t.1.length : Int)) : R _).bind fun x255 => (compR (fun y250 => (if (!decide (y250 ∈ t.2.2.1)) = true then (R.ok (some y250)) else R.ok none)) x255)) : R (List Int)).bind fun y256 => (R.ct (forM (fun y258 s257 => (((((ixR t.2.1 y258) : R _).bind fun x259 => (((m_law_ties_to (t.1, y258, y256, ())) : R _).bind fun x260 => (.ok (decide (x259 < x260))))) : R Bool).bind fun c261 => if c261 = true then (.ok (.rt false)) else (.ok (.nx ())))) t.2.2.1 ()) fun s257 : Unit => (.ok true)))
def m_law (t : Scr × Unit) : R Bool :=
  (((m_law_web (t.1, ())) : R (Int × (Tu (Int × Int)))).bind fun y72 => (((m_law_rows (y72, ())) : R (List (List Int))).bind fun y101 => (((m_law_standing (t.1, y72.1, ())) : R (List Int)).bind fun y144 => (((((m_law_cell_at (t.1, (1 : Int), ())) : R _).bind fun x145 => (modR x145 y72.1)) : R Int).bind fun y146 => (((.ok y144) : R (List Int)).bind fun y147 => (((m_outside (y72, y147, y146, ())) : R (List Int)).bind fun y213 => (((if (!true) = true then R.ok true else (if (!pyEq y147 y144) = true then R.ok true else (((((mapR (fun y214 => (m_law_whole (y214, ()))) y213) : R _).bind fun x220 => (.ok (List.all x220 id))) : R _).bind fun x221 => (.ok (!x221))))) : R Bool).bind fun c285 => if c285 = true then (.ok false) else (((m_law_queue (y101, y144, y146, ())) : R (List Int)).bind fun y242 => (((((((rngR 0 y72.1) : R _).bind fun x248 => (compR (fun y243 => (if (!decide (y243 ∈ y242)) = true then (R.ok (some y243)) else R.ok none)) x248)) : R _).bind fun x249 => (.ok (!pyEq y213 x249))) : R Bool).bind fun c284 => if c284 = true then (.ok false) else (((((m_law_can_lend (y101, y144, y213, ())) : R _).bind fun x262 => (.ok (!x262))) : R Bool).bind fun c283 => if c283 = true then (.ok false) else (R.ct (forM (fun y264 s263 => (((((rngR 0 y72.1) : R _).bind fun x273 => (compR (fun y265 => (((if (!pyEq y265 y146) = true then (((((shrR y264 y265) : R _).bind fun x270 => (.ok (Builtin.bitAnd x270 (1 : Int)))) : R _).bind fun x271 => (.ok (pyEq x271 (1 : Int)))) else R.ok false) : R _).bind fun x272 => (if x272 = true then (R.ok (some y265)) else R.ok none))) x273)) : R (List Int)).bind fun y274 => (((((m_law_can_lend (y101, y144, y274, ())) : R _).bind fun x281 => (if x281 = true then (((compR (fun y275 => (if (!decide (y275 ∈ y213)) = true then (R.ok (some y275)) else R.ok none)) y274) : R _).bind fun x280 => (.ok (!pyEq x280 ([] : (List Int))))) else R.ok false)) : R Bool).bind fun c282 => if c282 = true then (.ok (.rt false)) else (.ok (.nx ()))))) ((t.1).l) ()) fun s263 : Unit => (.ok true))))))))))))
theorem sc_law_cell_at : FnScope ["script", "k"] ["script", "k"] dd__law_cell_at.scope := ⟨rfl, rfl, rfl, by decide +kernel, rfl, by decide +kernel, by decide +kernel⟩
theorem bn_law_cell_at : BindE dd__law_cell_at ["script", "k"] := fun _ _ _ _ _ _ us hl => match us, hl with | [_, _], _ => rfl
theorem b_law_cell_at {k : Nat} (hk : 0 ≤ k) (X : Cx) (C : Cb fe fa fn X (["script", "k"] : List PySem.Str) dd__law_cell_at.scope k) (H0 : Hp) (qs : List Addr) (rt : VK) (A : Int → Prop) (B : Exc → Prop) (fr : Fr X H0 B) (hR : RtF (ρ := Int) X H0 qs rt A) (t : Scr × Int × Unit) :
    W X H0 qs rt (fun _ H => rt .non H) A B [.fr (α := Scr) t.1, .fr (α := Int) t.2.1] dd__law_cell_at.body (m_law_cell_at t) := by
  have n0 : Nm X 0 "script" := nm_mk C.hX.toXN (by decide +kernel)
  have n1 : Nm X 1 "k" := nm_mk C.hX.toXN (by decide +kernel)
  have g_len : Gn X "len" := gn_mk C.hX.toXN (by decide +kernel)
  have f_len : X.mg "len" = none := C.fc.free 21
  refine w_ifR (mc := (.ok (decide (t.2.1 < (t.1.l.length : Int))))) fr (et_lt (ma := true) (mb := true) (ev_var (md := true) n1 rfl rfl) (ev_lenS (ma := true) (md := true) g_len f_len (ev_var (md := true) n0 rfl rfl) rfl) rfl) (fun nx' => ?_) ?_ (he := rfl)
  · skip
    exact w_ret (m1 := (ixR t.1.l t.2.1)) (g := fun z => z) fr hR (ev_ixS (ma := true) (mb := true) (md := true) (ev_var (md := true) n0 rfl rfl) (ev_var (md := true) n1 rfl rfl) rfl) (fun _ h => h) rfl
  exact w_ret (m1 := (.ok (0 : Int))) (g := fun z => z) fr hR (ev_int (md := true) rfl) (fun _ h => h) rfl
theorem gd_law_cell_at {P : Program} {w : World} {K : PySem.W.Frag} {mg : PySem.Str → Option Value} {base : Heap} (fc : Fac fe fa fn K mg) : Gd P w K mg base "_law_cell_at" (spF K (τ := Scr × Int × Unit) (ρ := Int) 2 m_law_cell_at) 2 1 :=
  gd_F 5 11 fc rfl rfl sc_law_cell_at rfl bn_law_cell_at fun X _ _ _ _ _ C H0 qs rt A B fr hR t => b_law_cell_at (by omega) X C H0 qs rt A B fr hR t
theorem sc_law_names : FnScope ["cell", "houses", "named", "rest", "one"] ["cell", "houses"] dd__law_names.scope := ⟨rfl, rfl, rfl, by decide +kernel, rfl, by decide +kernel, by decide +kernel⟩
theorem bn_law_names : BindE dd__law_names ["cell", "houses"] := fun _ _ _ _ _ _ us hl => match us, hl with | [_, _], _ => rfl
theorem b_law_names {k : Nat} (hk : 0 ≤ k) (X : Cx) (C : Cb fe fa fn X (["cell", "houses", "named", "rest", "one"] : List PySem.Str) dd__law_names.scope k) (H0 : Hp) (qs : List Addr) (rt : VK) (A : (List Int) → Prop) (B : Exc → Prop) (fr : Fr X H0 B) (hR : RtO (ρ := Int) X H0 qs rt A) (t : Int × Int × Unit) :
    W X H0 qs rt (fun _ H => rt .non H) A B [.fr (α := Int) t.1, .fr (α := Int) t.2.1, .un, .un, .un] dd__law_names.body (m_law_names t) := by
  have n0 : Nm X 0 "cell" := nm_mk C.hX.toXN (by decide +kernel)
  have n1 : Nm X 1 "houses" := nm_mk C.hX.toXN (by decide +kernel)
  have n2 : Nm X 2 "named" := nm_mk C.hX.toXN (by decide +kernel)
  have n3 : Nm X 3 "rest" := nm_mk C.hX.toXN (by decide +kernel)
  have n4 : Nm X 4 "one" := nm_mk C.hX.toXN (by decide +kernel)
  have l2 : Lc X 2 "named" := lc_mk C.hX.toXN (by decide +kernel)
  have l3 : Lc X 3 "rest" := lc_mk C.hX.toXN (by decide +kernel)
  have l4 : Lc X 4 "one" := lc_mk C.hX.toXN (by decide +kernel)
  have g_range : Gn X "range" := gn_mk C.hX.toXN (by decide +kernel)
  have f_range : X.mg "range" = none := C.fc.free 22
  refine w_asgO (α := Int) (Γ' := fun y26 : (List Int) => [.fr (α := Int) t.1, .fr (α := Int) t.2.1, .ow (α := Int) y26, .un, .un]) fr l2 (he := rfl) ?_ fun y26 => ?_
  · exact (ev_lst (md := true) (el_nil (α := Int) rfl))
  refine w_asg (α := Int) (Γ' := fun y29 : Int => [.fr (α := Int) t.1, .fr (α := Int) t.2.1, .ow (α := Int) y26, .fr (α := Int) y29, .un]) fr l3 (he := rfl) ?_ fun y29 => ?_
  · exact (ev_mod (ma := true) (mb := true) (md := true) (ev_add (ma := true) (mb := true) (md := true) (ev_mul (ma := true) (mb := true) (md := true) (ev_var (md := true) n0 rfl rfl) (ev_int (md := true) rfl) rfl) (ev_int (md := true) rfl) rfl) (ev_int (md := true) rfl) rfl)
  refine w_for (α := Int) (S := ((List Int) × Int)) (mx := (rngR 0 t.2.1)) (bd := (fun y31 s30 => (((modR s30.2 (y31 + (1 : Int))) : R _).bind fun x34 => ((insR s30.1 x34 y31).bind fun y32 => (((divR s30.2 (y31 + (1 : Int))) : R Int).bind fun y33 => (.ok (y32, y33))))))) (s0 := (y26, y29)) (Γs := fun s30 : ((List Int) × Int) => [.fr (α := Int) t.1, .fr (α := Int) t.2.1, .ow (α := Int) s30.1, .fr (α := Int) s30.2, .un]) (Γb := fun (y31 : Int) (s30 : ((List Int) × Int)) => [.fr (α := Int) t.1, .fr (α := Int) t.2.1, .ow (α := Int) s30.1, .fr (α := Int) s30.2, .fr (α := Int) y31]) (is := [4]) C.hX.calm fr (he := rfl) ?_ ?_ ?_ fun s30 => ?_
  · exact (ei_range1 (ma := true) g_range f_range (ev_var (md := true) n1 rfl rfl) rfl)
  · exact fun y31 s30 => (eg_name (α := Int) l4 rfl (fun _ => rfl))
  · intro H1 sH N y31 s30
    replace fr := fr.up sH
    replace hR := hR.up sH
    refine w_insert (α := Int) (mj := (modR s30.2 (y31 + (1 : Int)))) (m1 := (.ok y31)) (Γ' := fun y32 : (List Int) => [.fr (α := Int) t.1, .fr (α := Int) t.2.1, .ow (α := Int) y32, .fr (α := Int) s30.2, .fr (α := Int) y31]) fr n2 rfl ?_ ?_ (he := rfl) fun y32 => ?_
    · exact (ev_mod (ma := true) (mb := true) (md := true) (ev_var (md := true) n3 rfl rfl) (ev_add (ma := true) (mb := true) (md := true) (ev_var (md := true) n4 rfl rfl) (ev_int (md := true) rfl) rfl) rfl)
    · exact (ev_var (md := true) n4 rfl rfl)
    refine w_asg (α := Int) (Γ' := fun y33 : Int => [.fr (α := Int) t.1, .fr (α := Int) t.2.1, .ow (α := Int) y32, .fr (α := Int) y33, .fr (α := Int) y31]) fr l3 (he := rfl) ?_ fun y33 => ?_
    · exact (ev_div (ma := true) (mb := true) (md := true) (ev_var (md := true) n3 rfl rfl) (ev_add (ma := true) (mb := true) (md := true) (ev_var (md := true) n4 rfl rfl) (ev_int (md := true) rfl) rfl) rfl)
    exact w_end (s := (y32, y33)) [4] rfl rfl
  exact w_retV (g := fun z => z) fr hR n2 rfl (fun _ h => h) rfl
theorem gd_law_names {P : Program} {w : World} {K : PySem.W.Frag} {mg : PySem.Str → Option Value} {base : Heap} (fc : Fac fe fa fn K mg) : Gd P w K mg base "_law_names" (spO K (τ := Int × Int × Unit) (ρ := Int) 2 m_law_names) 2 1 :=
  gd_O 7 13 fc rfl rfl sc_law_names rfl bn_law_names fun X _ _ _ _ _ C H0 qs rt A B fr hR t => b_law_names (by omega) X C H0 qs rt A B fr hR t
theorem sc_law_web : FnScope ["script", "houses", "ties", "house", "k", "cell", "one", "other", "named", "turned_ties", "tie"] ["script"] dd__law_web.scope := ⟨rfl, rfl, rfl, by decide +kernel, rfl, by decide +kernel, by decide +kernel⟩
theorem bn_law_web : BindE dd__law_web ["script"] := fun _ _ _ _ _ _ us hl => match us, hl with | [_], _ => rfl
theorem b_law_web {k : Nat} (hk : 1 ≤ k) (X : Cx) (C : Cb fe fa fn X (["script", "houses", "ties", "house", "k", "cell", "one", "other", "named", "turned_ties", "tie"] : List PySem.Str) dd__law_web.scope k) (H0 : Hp) (qs : List Addr) (rt : VK) (A : (Int × (Tu (Int × Int))) → Prop) (B : Exc → Prop) (fr : Fr X H0 B) (hR : RtF (ρ := (Int × (Tu (Int × Int)))) X H0 qs rt A) (t : Scr × Unit) :
    W X H0 qs rt (fun _ H => rt .non H) A B [.fr (α := Scr) t.1, .un, .un, .un, .un, .un, .un, .un, .un, .un, .un] dd__law_web.body (m_law_web t) := by
  have n0 : Nm X 0 "script" := nm_mk C.hX.toXN (by decide +kernel)
  have n1 : Nm X 1 "houses" := nm_mk C.hX.toXN (by decide +kernel)
  have n2 : Nm X 2 "ties" := nm_mk C.hX.toXN (by decide +kernel)
  have n3 : Nm X 3 "house" := nm_mk C.hX.toXN (by decide +kernel)
  have n4 : Nm X 4 "k" := nm_mk C.hX.toXN (by decide +kernel)
  have n5 : Nm X 5 "cell" := nm_mk C.hX.toXN (by decide +kernel)
  have n6 : Nm X 6 "one" := nm_mk C.hX.toXN (by decide +kernel)
  have n7 : Nm X 7 "other" := nm_mk C.hX.toXN (by decide +kernel)
  have n9 : Nm X 9 "turned_ties" := nm_mk C.hX.toXN (by decide +kernel)
  have l1 : Lc X 1 "houses" := lc_mk C.hX.toXN (by decide +kernel)
  have l2 : Lc X 2 "ties" := lc_mk C.hX.toXN (by decide +kernel)
  have l3 : Lc X 3 "house" := lc_mk C.hX.toXN (by decide +kernel)
  have l4 : Lc X 4 "k" := lc_mk C.hX.toXN (by decide +kernel)
  have l5 : Lc X 5 "cell" := lc_mk C.hX.toXN (by decide +kernel)
  have l6 : Lc X 6 "one" := lc_mk C.hX.toXN (by decide +kernel)
  have l7 : Lc X 7 "other" := lc_mk C.hX.toXN (by decide +kernel)
  have l8 : Lc X 8 "named" := lc_cell C.hX.toXN (C.fnt _) (by decide +kernel)
  have l9 : Lc X 9 "turned_ties" := lc_mk C.hX.toXN (by decide +kernel)
  have g__law_cell_at : Gn X "_law_cell_at" := gn_mk C.hX.toXN (by decide +kernel)
  have g__law_names : Gn X "_law_names" := gn_mk C.hX.toXN (by decide +kernel)
  have g_range : Gn X "range" := gn_mk C.hX.toXN (by decide +kernel)
  have g_sorted : Gn X "sorted" := gn_mk C.hX.toXN (by decide +kernel)
  have g_tuple : Gn X "tuple" := gn_mk C.hX.toXN (by decide +kernel)
  have f_max : X.mg "max" = none := C.fc.free 26
  have f_min : X.mg "min" = none := C.fc.free 25
  have f_range : X.mg "range" = none := C.fc.free 22
  have f_sorted : X.mg "sorted" = none := C.fc.free 28
  have f_tuple : X.mg "tuple" = none := C.fc.free 27
  have d_law_cell_at : Dn X "_law_cell_at" (spF X.K (τ := Scr × Int × Unit) (ρ := Int) 2 m_law_cell_at) 2 := (gd_law_cell_at C.fc).dn C.rm (by omega)
  have d_law_names : Dn X "_law_names" (spO X.K (τ := Int × Int × Unit) (ρ := Int) 2 m_law_names) 2 := (gd_law_names C.fc).dn C.rm (by omega)
  refine w_asg (α := Int) (Γ' := fun y4 : Int => [.fr (α := Scr) t.1, .fr (α := Int) y4, .un, .un, .un, .un, .un, .un, .un, .un, .un]) fr l1 (he := rfl) ?_ fun y4 => ?_
  · exact (ev_add (ma := true) (mb := true) (md := true) (ev_int (md := true) rfl) (ev_mod (ma := true) (mb := true) (md := true) (ev_call (md := true) d_law_cell_at g__law_cell_at (ea_cons (md := true) (ev_var (md := true) n0 rfl rfl) (ea_cons (md := true) (ev_int (md := true) rfl) (ea_nil (md := true) rfl) rfl) rfl) rfl rfl) (ev_int (md := true) rfl) rfl) rfl)
  refine w_asgO (α := (Int × Int)) (Γ' := fun y5 : (List (Int × Int)) => [.fr (α := Scr) t.1, .fr (α := Int) y4, .ow (α := (Int × Int)) y5, .un, .un, .un, .un, .un, .un, .un, .un]) fr l2 (he := rfl) ?_ fun y5 => ?_
  · exact (ev_lst (md := true) (el_nil (α := (Int × Int)) rfl))
  refine w_for (α := Int) (S := (List (Int × Int))) (mx := (rngR (1 : Int) y4)) (bd := (fun y7 s6 => (((((((((m_law_cell_at (t.1, y7, ())) : R _).bind fun x8 => (modR x8 y7)) : R _).bind fun x9 => (.ok (x9, (y7, ())))) : R _).bind fun x10 => (.ok (x10.1, x10.2.1))) : R _).bind fun x12 => ((appR s6 x12).bind fun y11 => (.ok y11))))) (s0 := y5) (Γs := fun s6 : (List (Int × Int)) => [.fr (α := Scr) t.1, .fr (α := Int) y4, .ow (α := (Int × Int)) s6, .un, .un, .un, .un, .un, .un, .un, .un]) (Γb := fun (y7 : Int) (s6 : (List (Int × Int))) => [.fr (α := Scr) t.1, .fr (α := Int) y4, .ow (α := (Int × Int)) s6, .fr (α := Int) y7, .un, .un, .un, .un, .un, .un, .un]) (is := [3]) C.hX.calm fr (he := rfl) ?_ ?_ ?_ fun s6 => ?_
  · exact (ei_range2 (ma := true) (mb := true) g_range f_range (ev_int (md := true) rfl) (ev_var (md := true) n1 rfl rfl) rfl)
  · exact fun y7 s6 => (eg_name (α := Int) l3 rfl (fun _ => rfl))
  · intro H1 sH N y7 s6
    replace fr := fr.up sH
    replace hR := hR.up sH
    refine w_append (α := (Int × Int)) (m1 := (((((((m_law_cell_at (t.1, y7, ())) : R _).bind fun x8 => (modR x8 y7)) : R _).bind fun x9 => (.ok (x9, (y7, ())))) : R _).bind fun x10 => (.ok (x10.1, x10.2.1)))) (Γ' := fun y11 : (List (Int × Int)) => [.fr (α := Scr) t.1, .fr (α := Int) y4, .ow (α := (Int × Int)) y11, .fr (α := Int) y7, .un, .un, .un, .un, .un, .un, .un]) fr n2 rfl ?_ (he := rfl) fun y11 => ?_
    · exact (ev_tup (md := true) tup2 (ea_cons (md := true) (ev_mod (ma := true) (mb := true) (md := true) (ev_call (md := true) d_law_cell_at g__law_cell_at (ea_cons (md := true) (ev_var (md := true) n0 rfl rfl) (ea_cons (md := true) (ev_var (md := true) n3 rfl rfl) (ea_nil (md := true) rfl) rfl) rfl) rfl rfl) (ev_var (md := true) n3 rfl rfl) rfl) (ea_cons (md := true) (ev_var (md := true) n3 rfl rfl) (ea_nil (md := true) rfl) rfl) rfl) rfl)
    exact w_end (s := y11) [3] rfl rfl
  refine w_for (α := Int) (S := (List (Int × Int))) (mx := (((((((m_law_cell_at (t.1, (0 : Int), ())) : R _).bind fun x13 => (divR x13 (8 : Int))) : R _).bind fun x14 => (modR x14 (10 : Int))) : R _).bind fun x15 => (rngR 0 x15))) (bd := (fun y17 s16 => (((m_law_cell_at (t.1, (8 : Int) + y17, ())) : R Int).bind fun y18 => (R.bind (if (decide ((1 : Int) < y4)) = true then (((modR y18 y4) : R Int).bind fun y20 => (((((((((divR y18 y4) : R _).bind fun x21 => (modR x21 (y4 - (1 : Int)))) : R _).bind fun x22 => (.ok ((y20 + (1 : Int)) + x22))) : R _).bind fun x23 => (modR x23 y4)) : R Int).bind fun y24 => ((appR s16 (y20, y24)).bind fun y25 => (.ok y25)))) else (.ok s16)) fun s19 : (List (Int × Int)) => (.ok s19))))) (s0 := s6) (Γs := fun s16 : (List (Int × Int)) => [.fr (α := Scr) t.1, .fr (α := Int) y4, .ow (α := (Int × Int)) s16, .un, .un, .un, .un, .un, .un, .un, .un]) (Γb := fun (y17 : Int) (s16 : (List (Int × Int))) => [.fr (α := Scr) t.1, .fr (α := Int) y4, .ow (α := (Int × Int)) s16, .un, .fr (α := Int) y17, .un, .un, .un, .un, .un, .un]) (is := [4]) C.hX.calm fr (he := rfl) ?_ ?_ ?_ fun s16 => ?_
  · exact (ei_range1 (ma := true) g_range f_range (ev_mod (ma := true) (mb := true) (md := true) (ev_div (ma := true) (mb := true) (md := true) (ev_call (md := true) d_law_cell_at g__law_cell_at (ea_cons (md := true) (ev_var (md := true) n0 rfl rfl) (ea_cons (md := true) (ev_int (md := true) rfl) (ea_nil (md := true) rfl) rfl) rfl) rfl rfl) (ev_int (md := true) rfl) rfl) (ev_int (md := true) rfl) rfl) rfl)
  · exact fun y17 s16 => (eg_name (α := Int) l4 rfl (fun _ => rfl))
  · intro H1 sH N y17 s16
    replace fr := fr.up sH
    replace hR := hR.up sH
    refine w_asg (α := Int) (Γ' := fun y18 : Int => [.fr (α := Scr) t.1, .fr (α := Int) y4, .ow (α := (Int × Int)) s16, .un, .fr (α := Int) y17, .fr (α := Int) y18, .un, .un, .un, .un, .un]) fr l5 (he := rfl) ?_ fun y18 => ?_
    · exact (ev_call (md := true) d_law_cell_at g__law_cell_at (ea_cons (md := true) (ev_var (md := true) n0 rfl rfl) (ea_cons (md := true) (ev_add (ma := true) (mb := true) (md := true) (ev_int (md := true) rfl) (ev_var (md := true) n4 rfl rfl) rfl) (ea_nil (md := true) rfl) rfl) rfl) rfl rfl)
    refine w_ifJ (S := (List (Int × Int))) (mc := (.ok (decide ((1 : Int) < y4)))) (ma := (((modR y18 y4) : R Int).bind fun y20 => (((((((((divR y18 y4) : R _).bind fun x21 => (modR x21 (y4 - (1 : Int)))) : R _).bind fun x22 => (.ok ((y20 + (1 : Int)) + x22))) : R _).bind fun x23 => (modR x23 y4)) : R Int).bind fun y24 => ((appR s16 (y20, y24)).bind fun y25 => (.ok y25))))) (mb := (.ok s16)) (Γs := fun s19 : (List (Int × Int)) => [.fr (α := Scr) t.1, .fr (α := Int) y4, .ow (α := (Int × Int)) s19, .un, .fr (α := Int) y17, .fr (α := Int) y18, .un, .un, .un, .un, .un]) fr (et_gt (ma := true) (mb := true) (ev_var (md := true) n1 rfl rfl) (ev_int (md := true) rfl) rfl) ?_ ?_ (he := rfl) fun s19 => ?_
    · intro N
      refine w_asg (α := Int) (Γ' := fun y20 : Int => [.fr (α := Scr) t.1, .fr (α := Int) y4, .ow (α := (Int × Int)) s16, .un, .fr (α := Int) y17, .fr (α := Int) y18, .fr (α := Int) y20, .un, .un, .un, .un]) fr l6 (he := rfl) ?_ fun y20 => ?_
      · exact (ev_mod (ma := true) (mb := true) (md := true) (ev_var (md := true) n5 rfl rfl) (ev_var (md := true) n1 rfl rfl) rfl)
      refine w_asg (α := Int) (Γ' := fun y24 : Int => [.fr (α := Scr) t.1, .fr (α := Int) y4, .ow (α := (Int × Int)) s16, .un, .fr (α := Int) y17, .fr (α := Int) y18, .fr (α := Int) y20, .fr (α := Int) y24, .un, .un, .un]) fr l7 (he := rfl) ?_ fun y24 => ?_
      · exact (ev_mod (ma := true) (mb := true) (md := true) (ev_add (ma := true) (mb := true) (md := true) (ev_add (ma := true) (mb := true) (md := true) (ev_var (md := true) n6 rfl rfl) (ev_int (md := true) rfl) rfl) (ev_mod (ma := true) (mb := true) (md := true) (ev_div (ma := true) (mb := true) (md := true) (ev_var (md := true) n5 rfl rfl) (ev_var (md := true) n1 rfl rfl) rfl) (ev_sub (ma := true) (mb := true) (md := true) (ev_var (md := true) n1 rfl rfl) (ev_int (md := true) rfl) rfl) rfl) rfl) (ev_var (md := true) n1 rfl rfl) rfl)
      refine w_append (α := (Int × Int)) (m1 := (.ok (y20, y24))) (Γ' := fun y25 : (List (Int × Int)) => [.fr (α := Scr) t.1, .fr (α := Int) y4, .ow (α := (Int × Int)) y25, .un, .fr (α := Int) y17, .fr (α := Int) y18, .fr (α := Int) y20, .fr (α := Int) y24, .un, .un, .un]) fr n2 rfl ?_ (he := rfl) fun y25 => ?_
      · exact (ev_tup (md := true) tup2 (ea_cons (md := true) (ev_var (md := true) n6 rfl rfl) (ea_cons (md := true) (ev_var (md := true) n7 rfl rfl) (ea_nil (md := true) rfl) rfl) rfl) rfl)
      exact w_end (s := y25) [6, 7] rfl rfl
    · intro N
      exact w_end (s := s16) [] rfl rfl
    exact w_end (s := s19) [4, 5] rfl rfl
  refine w_asg (α := (List Int)) (Γ' := fun y38 : (List Int) => [.fr (α := Scr) t.1, .fr (α := Int) y4, .ow (α := (Int × Int)) s16, .un, .un, .un, .un, .un, .fr (α := (List Int)) y38, .un, .un]) fr l8 (he := rfl) ?_ fun y38 => ?_
  · exact (EvO.fz (ev_callO (md := true) d_law_names g__law_names (ea_cons (md := true) (ev_call (md := true) d_law_cell_at g__law_cell_at (ea_cons (md := true) (ev_var (md := true) n0 rfl rfl) (ea_cons (md := true) (ev_int (md := true) rfl) (ea_nil (md := true) rfl) rfl) rfl) rfl rfl) (ea_cons (md := true) (ev_var (md := true) n1 rfl rfl) (ea_nil (md := true) rfl) rfl) rfl) rfl rfl))
  refine w_frz 2 rfl (Γ' := [.fr (α := Scr) t.1, .fr (α := Int) y4, .fr (α := (List (Int × Int))) s16, .un, .un, .un, .un, .un, .fr (α := (List Int)) y38, .un, .un]) rfl ?_
  refine w_asgCf (α := (Int × Int)) (Γ' := fun y58 : (List (Int × Int)) => [.fr (α := Scr) t.1, .fr (α := Int) y4, .fr (α := (List (Int × Int))) s16, .un, .un, .un, .un, .un, .fr (α := (List Int)) y38, .fr (α := (List (Int × Int))) y58, .un]) fr l9 (by rw [C.hX.hs]; decide +kernel) C.kd (he := rfl) ?_ fun y58 => ?_
  · exact (ec_map (mi := true) (α := (Int × Int)) (β := (Int × Int)) (mx := (.ok s16)) (g := (fun y49 => (((((ixR y38 y49.1) : R _).bind fun x55 => (((((ixR y38 y49.2) : R _).bind fun x54 => (.ok (x54, (())))) : R _).bind fun x56 => (.ok (x55, x56)))) : R _).bind fun x57 => (.ok (x57.1, x57.2.1))))) (own := [("one", 6), ("other", 7)]) (Γx := fun y49 : (Int × Int) => [.fr (α := Scr) t.1, .fr (α := Int) y4, .fr (α := (List (Int × Int))) s16, .un, .un, .un, .fr (α := Int) y49.1, .fr (α := Int) y49.2, .fr (α := (List Int)) y38, .un, .un]) (is := [6, 7]) C.hX (ei_list (ev_var (md := true) n2 rfl rfl)) (.inl rfl) (by decide +kernel) (no2 (fun _ => rfl) (fun _ => rfl)) (by decide) (fun X51 b50 y49 => have h52 := b50.ok C.hX; (eg_two h52.calm (eg_name (α := Int) (lc_mk (i := 6) (x := "one") h52.toXN (by decide +kernel)) rfl (fun _ => rfl)) (eg_name (α := Int) (lc_mk (i := 7) (x := "other") h52.toXN (by decide +kernel)) rfl (fun _ => rfl)))) (fun X51 b50 D53 y49 => have h52 := b50.ok C.hX; (ev_tup (md := true) tup2 (ea_cons (md := true) (ev_ixL (md := true) (mb := true) (ev_var (md := true) (nm_mk (i := 8) (x := "named") h52.toXN (by decide +kernel)) rfl rfl) (ev_var (md := true) (nm_mk (i := 6) (x := "one") h52.toXN (by decide +kernel)) rfl rfl) rfl) (ea_cons (md := true) (ev_ixL (md := true) (mb := true) (ev_var (md := true) (nm_mk (i := 8) (x := "named") h52.toXN (by decide +kernel)) rfl rfl) (ev_var (md := true) (nm_mk (i := 7) (x := "other") h52.toXN (by decide +kernel)) rfl rfl) rfl) (ea_nil (md := true) rfl) rfl) rfl) rfl)) rfl)
  exact w_ret (m1 := (((((((((((mapR (fun y59 => (.ok (min y59.1 y59.2, max y59.1 y59.2))) y58) : R _).bind fun x64 => (.ok (sortP x64))) : R _).bind fun x65 => (.ok (Tu.mk x65))) : R _).bind fun x66 => (.ok (x66, (())))) : R _).bind fun x67 => (.ok (y4, x67))) : R _).bind fun x68 => (.ok (x68.1, x68.2.1)))) (g := fun z => z) fr hR (ev_tup (md := true) tup2 (ea_cons (md := true) (ev_var (md := true) n1 rfl rfl) (ea_cons (md := true) (ev_tupL (md := true) g_tuple f_tuple (EvO.fz (ev_sortP (md := true) g_sorted f_sorted (EvO.fz (ev_map (mi := true) (α := (Int × Int)) (β := (Int × Int)) (mx := (.ok y58)) (g := (fun y59 => (.ok (min y59.1 y59.2, max y59.1 y59.2)))) (own := [("tie", 10)]) (Γx := fun y59 : (Int × Int) => [.fr (α := Scr) t.1, .fr (α := Int) y4, .fr (α := (List (Int × Int))) s16, .un, .un, .un, .un, .un, .fr (α := (List Int)) y38, .fr (α := (List (Int × Int))) y58, .fr (α := (Int × Int)) y59]) (is := [10]) C.hX (ei_list (ev_var (md := true) n9 rfl rfl)) (.inl rfl) (by decide +kernel) (no1 (fun _ => rfl)) (by decide) (fun X61 b60 y59 => have h62 := b60.ok C.hX; (eg_name (α := (Int × Int)) (lc_mk (i := 10) (x := "tie") h62.toXN (by decide +kernel)) rfl (fun _ => rfl))) (fun X61 b60 D63 y59 => have h62 := b60.ok C.hX; (ev_tup (md := true) tup2 (ea_cons (md := true) (ev_minP (ma := true) (md := true) h62.calm (b60.hu C.hu) (gn_mk (x := "min") h62.toXN (by decide +kernel)) (b60.none f_min) (ev_var (md := true) (nm_mk (i := 10) (x := "tie") h62.toXN (by decide +kernel)) rfl rfl) rfl) (ea_cons (md := true) (ev_maxP (ma := true) (md := true) h62.calm (b60.hu C.hu) (gn_mk (x := "max") h62.toXN (by decide +kernel)) (b60.none f_max) (ev_var (md := true) (nm_mk (i := 10) (x := "tie") h62.toXN (by decide +kernel)) rfl rfl) rfl) (ea_nil (md := true) rfl) rfl) rfl) rfl)) rfl)) rfl)) rfl) (ea_nil (md := true) rfl) rfl) rfl) rfl) (fun _ h => h) rfl
theorem gd_law_web {P : Program} {w : World} {K : PySem.W.Frag} {mg : PySem.Str → Option Value} {base : Heap} (fc : Fac fe fa fn K mg) : Gd P w K mg base "_law_web" (spF K (τ := Scr × Unit) (ρ := (Int × (Tu (Int × Int)))) 1 m_law_web) 1 2 :=
  gd_F 8 14 fc rfl rfl sc_law_web rfl bn_law_web fun X _ _ _ _ _ C H0 qs rt A B fr hR t => b_law_web (by omega) X C H0 qs rt A B fr hR t
theorem sc_law_rows : FnScope ["web", "rows", "one", "other", "house"] ["web"] dd__law_rows.scope := ⟨rfl, rfl, rfl, by decide +kernel, rfl, by decide +kernel, by decide +kernel⟩
theorem bn_law_rows : BindE dd__law_rows ["web"] := fun _ _ _ _ _ _ us hl => match us, hl with | [_], _ => rfl
theorem b_law_rows {k : Nat} (hk : 0 ≤ k) (X : Cx) (C : Cb fe fa fn X (["web", "rows", "one", "other", "house"] : List PySem.Str) dd__law_rows.scope k) (H0 : Hp) (qs : List Addr) (rt : VK) (A : (List (List Int)) → Prop) (B : Exc → Prop) (fr : Fr X H0 B) (hR : RtF (ρ := (List (List Int))) X H0 qs rt A) (t : (Int × (Tu (Int × Int))) × Unit) :
    W X H0 qs rt (fun _ H => rt .non H) A B [.fr (α := (Int × (Tu (Int × Int)))) t.1, .un, .un, .un, .un] dd__law_rows.body (m_law_rows t) := by
  have n0 : Nm X 0 "web" := nm_mk C.hX.toXN (by decide +kernel)
  have n1 : Nm X 1 "rows" := nm_mk C.hX.toXN (by decide +kernel)
  have n2 : Nm X 2 "one" := nm_mk C.hX.toXN (by decide +kernel)
  have n3 : Nm X 3 "other" := nm_mk C.hX.toXN (by decide +kernel)
  have l1 : Lc X 1 "rows" := lc_mk C.hX.toXN (by decide +kernel)
  have l2 : Lc X 2 "one" := lc_mk C.hX.toXN (by decide +kernel)
  have l3 : Lc X 3 "other" := lc_mk C.hX.toXN (by decide +kernel)
  have g_range : Gn X "range" := gn_mk C.hX.toXN (by decide +kernel)
  have f_range : X.mg "range" = none := C.fc.free 22
  refine w_asgCt (α := Int) (Γ' := fun r86 (y85 : (List (List Int))) => [.fr (α := (Int × (Tu (Int × Int)))) t.1, .ot (α := Int) r86 y85, .un, .un, .un]) fr l1 (by rw [C.hX.hs]; decide +kernel) C.kd (he := rfl) ?_ fun r86 y85 => ?_
  · exact (ect_map (mi := true) (α := Int) (γ := Int) (mx := (rngR 0 t.1.1)) (g := (fun y73 => (((rngR 0 t.1.1) : R _).bind fun x83 => (mapR (fun y78 => (.ok (0 : Int))) x83)))) (own := [("house", 4)]) (Γx := fun y73 : Int => [.fr (α := (Int × (Tu (Int × Int)))) t.1, .un, .un, .un, .fr (α := Int) y73]) (is := [4]) C.hX (ei_range1 (ma := true) g_range f_range (ev_ixP (md := true) ix20 (ev_var (md := true) n0 rfl rfl) (ev_int (md := true) rfl) rfl) rfl) (.inl rfl) (by decide +kernel) (no1 (fun _ => rfl)) (by decide) (fun X75 b74 y73 => have h76 := b74.ok C.hX; (eg_name (α := Int) (lc_mk (i := 4) (x := "house") h76.toXN (by decide +kernel)) rfl (fun _ => rfl))) (fun X75 b74 D77 y73 => have h76 := b74.ok C.hX; (ev_map (mi := true) (α := Int) (β := Int) (mx := (rngR 0 t.1.1)) (g := (fun y78 => (.ok (0 : Int)))) (own := [("other", 3)]) (Γx := fun y78 : Int => [.fr (α := (Int × (Tu (Int × Int)))) t.1, .un, .un, .fr (α := Int) y78, .fr (α := Int) y73]) (is := [3]) h76 (ei_range1 (ma := true) (gn_mk (x := "range") h76.toXN (by decide +kernel)) (b74.none f_range) (ev_ixP (md := true) ix20 (ev_var (md := true) (nm_mk (i := 0) (x := "web") h76.toXN (by decide +kernel)) rfl rfl) (ev_int (md := true) rfl) rfl) rfl) (.inl rfl) (by decide +kernel) (no1 (fun _ => rfl)) (by decide) (fun X80 b79 y78 => have h81 := b79.ok h76; (eg_name (α := Int) (lc_mk (i := 3) (x := "other") h81.toXN (by decide +kernel)) rfl (fun _ => rfl))) (fun X80 b79 D82 y78 => have h81 := b79.ok h76; (ev_int (md := true) rfl)) rfl)) rfl)
  refine w_for (α := (Int × Int)) (S := (List (List Int))) (mx := (.ok ((t.1.2).l))) (bd := (fun y88 s87 => (((((((ixR s87 y88.1) : R _).bind fun x89 => (ixR x89 y88.2)) : R _).bind fun x90 => (.ok (x90 + (1 : Int)))) : R _).bind fun x98 => (((rowR s87 y88.1) : R _).bind fun k99 => (((setR k99.2 y88.2 x98) : R _).bind fun w100 => ((fun y91 : (List (List Int)) => (((((((ixR y91 y88.2) : R _).bind fun x92 => (ixR x92 y88.1)) : R _).bind fun x93 => (.ok (x93 + (1 : Int)))) : R _).bind fun x95 => (((rowR y91 y88.2) : R _).bind fun k96 => (((setR k96.2 y88.1 x95) : R _).bind fun w97 => ((fun y94 : (List (List Int)) => (.ok y94)) (List.set y91 k96.1 w97)))))) (List.set s87 k99.1 w100))))))) (s0 := y85) (Γs := fun s87 : (List (List Int)) => [.fr (α := (Int × (Tu (Int × Int)))) t.1, .ot (α := Int) r86 s87, .un, .un, .un]) (Γb := fun (y88 : (Int × Int)) (s87 : (List (List Int))) => [.fr (α := (Int × (Tu (Int × Int)))) t.1, .ot (α := Int) r86 s87, .fr (α := Int) y88.1, .fr (α := Int) y88.2, .un]) (is := [2, 3]) C.hX.calm fr (he := rfl) ?_ ?_ ?_ fun s87 => ?_
  · exact (ei_tup (ev_ixP (md := true) ix21 (ev_var (md := true) n0 rfl rfl) (ev_int (md := true) rfl) rfl) rfl)
  · exact fun y88 s87 => (eg_two C.hX.calm (eg_name (α := Int) l2 rfl (fun _ => rfl)) (eg_name (α := Int) l3 rfl (fun _ => rfl)))
  · intro H1 sH N y88 s87
    replace fr := fr.up sH
    replace hR := hR.up sH
    refine w_setix2 (α := Int) (m1 := (((((ixR s87 y88.1) : R _).bind fun x89 => (ixR x89 y88.2)) : R _).bind fun x90 => (.ok (x90 + (1 : Int))))) (ma := (.ok y88.1)) (mj := (.ok y88.2)) (f := fun y91 => (((((((ixR y91 y88.2) : R _).bind fun x92 => (ixR x92 y88.1)) : R _).bind fun x93 => (.ok (x93 + (1 : Int)))) : R _).bind fun x95 => (((rowR y91 y88.2) : R _).bind fun k96 => (((setR k96.2 y88.1 x95) : R _).bind fun w97 => ((fun y94 : (List (List Int)) => (.ok y94)) (List.set y91 k96.1 w97)))))) (Γ' := fun y91 : (List (List Int)) => [.fr (α := (Int × (Tu (Int × Int)))) t.1, .ot (α := Int) r86 y91, .fr (α := Int) y88.1, .fr (α := Int) y88.2, .un]) fr n1 rfl ?_ ?_ ?_ (he := rfl) fun y91 => ?_
    · exact (ev_add (ma := true) (mb := true) (md := true) (Ev.flat (ma := false) (ev_ixL (md := false) (mb := true) (ev_ixL (md := false) (mb := true) (ev_tab n1 rfl rfl) (ev_var (md := true) n2 rfl rfl) rfl) (ev_var (md := true) n3 rfl rfl) rfl)) (ev_int (md := true) rfl) rfl)
    · exact (ev_var (md := true) n2 rfl rfl)
    · exact (ev_var (md := true) n3 rfl rfl)
    refine w_setix2 (α := Int) (m1 := (((((ixR y91 y88.2) : R _).bind fun x92 => (ixR x92 y88.1)) : R _).bind fun x93 => (.ok (x93 + (1 : Int))))) (ma := (.ok y88.2)) (mj := (.ok y88.1)) (f := fun y94 => (.ok y94)) (Γ' := fun y94 : (List (List Int)) => [.fr (α := (Int × (Tu (Int × Int)))) t.1, .ot (α := Int) r86 y94, .fr (α := Int) y88.1, .fr (α := Int) y88.2, .un]) fr n1 rfl ?_ ?_ ?_ (he := rfl) fun y94 => ?_
    · exact (ev_add (ma := true) (mb := true) (md := true) (Ev.flat (ma := false) (ev_ixL (md := false) (mb := true) (ev_ixL (md := false) (mb := true) (ev_tab n1 rfl rfl) (ev_var (md := true) n3 rfl rfl) rfl) (ev_var (md := true) n2 rfl rfl) rfl)) (ev_int (md := true) rfl) rfl)
    · exact (ev_var (md := true) n3 rfl rfl)
    · exact (ev_var (md := true) n2 rfl rfl)
    exact w_end (s := y94) [2, 3] rfl rfl
  refine w_frzT 1 rfl (Γ' := [.fr (α := (Int × (Tu (Int × Int)))) t.1, .fr (α := (List (List Int))) s87, .un, .un, .un]) rfl ?_
  exact w_ret (m1 := (.ok s87)) (g := fun z => z) fr hR (ev_var (md := true) n1 rfl rfl) (fun _ h => h) rfl
theorem gd_law_rows {P : Program} {w : World} {K : PySem.W.Frag} {mg : PySem.Str → Option Value} {base : Heap} (fc : Fac fe fa fn K mg) : Gd P w K mg base "_law_rows" (spF K (τ := (Int × (Tu (Int × Int))) × Unit) (ρ := (List (List Int))) 1 m_law_rows) 1 1 :=
  gd_F 10 16 fc rfl rfl sc_law_rows rfl bn_law_rows fun X _ _ _ _ _ C H0 qs rt A B fr hR t => b_law_rows (by omega) X C H0 qs rt A B fr hR t
theorem sc_law_standing : FnScope ["script", "houses", "kept", "k", "at", "most", "one"] ["script", "houses"] dd__law_standing.scope := ⟨rfl, rfl, rfl, by decide +kernel, rfl, by decide +kernel, by decide +kernel⟩
theorem bn_law_standing : BindE dd__law_standing ["script", "houses"] := fun _ _ _ _ _ _ us hl => match us, hl with | [_, _], _ => rfl
theorem b_law_standing {k : Nat} (hk : 1 ≤ k) (X : Cx) (C : Cb fe fa fn X (["script", "houses", "kept", "k", "at", "most", "one"] : List PySem.Str) dd__law_standing.scope k) (H0 : Hp) (qs : List Addr) (rt : VK) (A : (List Int) → Prop) (B : Exc → Prop) (fr : Fr X H0 B) (hR : RtO (ρ := Int) X H0 qs rt A) (t : Scr × Int × Unit) :
    W X H0 qs rt (fun _ H => rt .non H) A B [.fr (α := Scr) t.1, .fr (α := Int) t.2.1, .un, .un, .un, .un, .un] dd__law_standing.body (m_law_standing t) := by
  have n0 : Nm X 0 "script" := nm_mk C.hX.toXN (by decide +kernel)
  have n1 : Nm X 1 "houses" := nm_mk C.hX.toXN (by decide +kernel)
  have n2 : Nm X 2 "kept" := nm_mk C.hX.toXN (by decide +kernel)
  have n3 : Nm X 3 "k" := nm_mk C.hX.toXN (by decide +kernel)
  have n4 : Nm X 4 "at" := nm_mk C.hX.toXN (by decide +kernel)
  have l2 : Lc X 2 "kept" := lc_mk C.hX.toXN (by decide +kernel)
  have l3 : Lc X 3 "k" := lc_mk C.hX.toXN (by decide +kernel)
  have l4 : Lc X 4 "at" := lc_mk C.hX.toXN (by decide +kernel)
  have l5 : Lc X 5 "most" := lc_cell C.hX.toXN (C.fnt _) (by decide +kernel)
  have g__law_cell_at : Gn X "_law_cell_at" := gn_mk C.hX.toXN (by decide +kernel)
  have g_len : Gn X "len" := gn_mk C.hX.toXN (by decide +kernel)
  have g_range : Gn X "range" := gn_mk C.hX.toXN (by decide +kernel)
  have f_len : X.mg "len" = none := C.fc.free 21
  have f_range : X.mg "range" = none := C.fc.free 22
  have d_law_cell_at : Dn X "_law_cell_at" (spF X.K (τ := Scr × Int × Unit) (ρ := Int) 2 m_law_cell_at) 2 := (gd_law_cell_at C.fc).dn C.rm (by omega)
  refine w_asgC (α := Int) (Γ' := fun y109 : (List Int) => [.fr (α := Scr) t.1, .fr (α := Int) t.2.1, .ow (α := Int) y109, .un, .un, .un, .un]) fr l2 (by rw [C.hX.hs]; decide +kernel) C.kd (he := rfl) ?_ fun y109 => ?_
  · exact (ec_map (mi := true) (α := Int) (β := Int) (mx := (rngR 0 t.2.1)) (g := (fun y102 => (((mulR y102 y102) : R _).bind fun x107 => (.ok (x107 + y102))))) (own := [("k", 3)]) (Γx := fun y102 : Int => [.fr (α := Scr) t.1, .fr (α := Int) t.2.1, .un, .fr (α := Int) y102, .un, .un, .un]) (is := [3]) C.hX (ei_range1 (ma := true) g_range f_range (ev_var (md := true) n1 rfl rfl) rfl) (.inl rfl) (by decide +kernel) (no1 (fun _ => rfl)) (by decide) (fun X104 b103 y102 => have h105 := b103.ok C.hX; (eg_name (α := Int) (lc_mk (i := 3) (x := "k") h105.toXN (by decide +kernel)) rfl (fun _ => rfl))) (fun X104 b103 D106 y102 => have h105 := b103.ok C.hX; (ev_add (ma := true) (mb := true) (md := true) (ev_mul (ma := true) (mb := true) (md := true) (ev_var (md := true) (nm_mk (i := 3) (x := "k") h105.toXN (by decide +kernel)) rfl rfl) (ev_var (md := true) (nm_mk (i := 3) (x := "k") h105.toXN (by decide +kernel)) rfl rfl) rfl) (ev_var (md := true) (nm_mk (i := 3) (x := "k") h105.toXN (by decide +kernel)) rfl rfl) rfl)) rfl)
  refine w_for (α := Int) (S := (List Int)) (mx := (rngR (1 : Int) (t.1.l.length : Int))) (bd := (fun y111 s110 => (((modR y111 t.2.1) : R Int).bind fun y112 => (((((((((ixR s110 y112) : R _).bind fun x113 => (mulR x113 (31 : Int))) : R _).bind fun x117 => (((((ixR t.1.l y111) : R _).bind fun x115 => (((((mulR (2 : Int) y111) : R _).bind fun x114 => (.ok (x114 + (1 : Int)))) : R _).bind fun x116 => (mulR x115 x116))) : R _).bind fun x118 => (.ok (x117 + x118)))) : R _).bind fun x120 => (((((powR (10 : Int) (60 : Int)) : R _).bind fun x119 => (.ok (x119 + (7 : Int)))) : R _).bind fun x121 => (modR x120 x121))) : R _).bind fun x123 => ((setR s110 y112 x123).bind fun y122 => (.ok y122)))))) (s0 := y109) (Γs := fun s110 : (List Int) => [.fr (α := Scr) t.1, .fr (α := Int) t.2.1, .ow (α := Int) s110, .un, .un, .un, .un]) (Γb := fun (y111 : Int) (s110 : (List Int)) => [.fr (α := Scr) t.1, .fr (α := Int) t.2.1, .ow (α := Int) s110, .fr (α := Int) y111, .un, .un, .un]) (is := [3]) C.hX.calm fr (he := rfl) ?_ ?_ ?_ fun s110 => ?_
  · exact (ei_range2 (ma := true) (mb := true) g_range f_range (ev_int (md := true) rfl) (ev_lenS (ma := true) (md := true) g_len f_len (ev_var (md := true) n0 rfl rfl) rfl) rfl)
  · exact fun y111 s110 => (eg_name (α := Int) l3 rfl (fun _ => rfl))
  · intro H1 sH N y111 s110
    replace fr := fr.up sH
    replace hR := hR.up sH
    refine w_asg (α := Int) (Γ' := fun y112 : Int => [.fr (α := Scr) t.1, .fr (α := Int) t.2.1, .ow (α := Int) s110, .fr (α := Int) y111, .fr (α := Int) y112, .un, .un]) fr l4 (he := rfl) ?_ fun y112 => ?_
    · exact (ev_mod (ma := true) (mb := true) (md := true) (ev_var (md := true) n3 rfl rfl) (ev_var (md := true) n1 rfl rfl) rfl)
    refine w_setix (α := Int) (m1 := (((((((ixR s110 y112) : R _).bind fun x113 => (mulR x113 (31 : Int))) : R _).bind fun x117 => (((((ixR t.1.l y111) : R _).bind fun x115 => (((((mulR (2 : Int) y111) : R _).bind fun x114 => (.ok (x114 + (1 : Int)))) : R _).bind fun x116 => (mulR x115 x116))) : R _).bind fun x118 => (.ok (x117 + x118)))) : R _).bind fun x120 => (((((powR (10 : Int) (60 : Int)) : R _).bind fun x119 => (.ok (x119 + (7 : Int)))) : R _).bind fun x121 => (modR x120 x121)))) (mj := (.ok y112)) (Γ' := fun y122 : (List Int) => [.fr (α := Scr) t.1, .fr (α := Int) t.2.1, .ow (α := Int) y122, .fr (α := Int) y111, .fr (α := Int) y112, .un, .un]) fr n2 rfl ?_ ?_ (he := rfl) fun y122 => ?_
    · exact (ev_mod (ma := true) (mb := true) (md := true) (ev_add (ma := true) (mb := true) (md := true) (ev_mul (ma := true) (mb := true) (md := true) (Ev.flat (ma := false) (ev_ixL (md := false) (mb := true) (ev_own n2 rfl rfl) (ev_var (md := true) n4 rfl rfl) rfl)) (ev_int (md := true) rfl) rfl) (ev_mul (ma := true) (mb := true) (md := true) (ev_ixS (ma := true) (mb := true) (md := true) (ev_var (md := true) n0 rfl rfl) (ev_var (md := true) n3 rfl rfl) rfl) (ev_add (ma := true) (mb := true) (md := true) (ev_mul (ma := true) (mb := true) (md := true) (ev_int (md := true) rfl) (ev_var (md := true) n3 rfl rfl) rfl) (ev_int (md := true) rfl) rfl) rfl) rfl) (ev_add (ma := true) (mb := true) (md := true) (ev_pow (ma := true) (mb := true) (md := true) (ev_int (md := true) rfl) (ev_int (md := true) rfl) rfl) (ev_int (md := true) rfl) rfl) rfl)
    · exact (ev_var (md := true) n4 rfl rfl)
    exact w_end (s := y122) [3, 4] rfl rfl
  refine w_asg (α := Int) (Γ' := fun y133 : Int => [.fr (α := Scr) t.1, .fr (α := Int) t.2.1, .ow (α := Int) s110, .un, .un, .fr (α := Int) y133, .un]) fr l5 (he := rfl) ?_ fun y133 => ?_
  · exact (ev_ixL (md := true) (mb := true) (EvO.fz (ev_lst (md := true) (el_cons (md := true) (ev_int (md := true) rfl) (el_cons (md := true) (ev_int (md := true) rfl) (el_cons (md := true) (ev_pow (ma := true) (mb := true) (md := true) (ev_int (md := true) rfl) (ev_int (md := true) rfl) rfl) (el_cons (md := true) (ev_pow (ma := true) (mb := true) (md := true) (ev_int (md := true) rfl) (ev_int (md := true) rfl) rfl) (el_nil (α := Int) rfl) rfl) rfl) rfl) rfl))) (ev_mod (ma := true) (mb := true) (md := true) (ev_div (ma := true) (mb := true) (md := true) (ev_call (md := true) d_law_cell_at g__law_cell_at (ea_cons (md := true) (ev_var (md := true) n0 rfl rfl) (ea_cons (md := true) (ev_int (md := true) rfl) (ea_nil (md := true) rfl) rfl) rfl) rfl rfl) (ev_int (md := true) rfl) rfl) (ev_int (md := true) rfl) rfl) rfl)
  exact w_retO (m1 := (mapR (fun y134 => (((((((mulR (2 : Int) y133) : R _).bind fun x139 => (.ok (x139 + (1 : Int)))) : R _).bind fun x140 => (modR y134 x140)) : R _).bind fun x141 => (.ok (x141 - y133)))) s110)) (g := fun z => z) fr hR (ev_map (mi := false) (α := Int) (β := Int) (mx := (.ok s110)) (g := (fun y134 => (((((((mulR (2 : Int) y133) : R _).bind fun x139 => (.ok (x139 + (1 : Int)))) : R _).bind fun x140 => (modR y134 x140)) : R _).bind fun x141 => (.ok (x141 - y133))))) (own := [("one", 6)]) (Γx := fun y134 : Int => [.fr (α := Scr) t.1, .fr (α := Int) t.2.1, .ow (α := Int) s110, .un, .un, .fr (α := Int) y133, .fr (α := Int) y134]) (is := [6]) C.hX (ei_list (ev_own n2 rfl rfl)) (.inr PyF.flat) (by decide +kernel) (no1 (fun _ => rfl)) (by decide) (fun X136 b135 y134 => have h137 := b135.ok C.hX; (eg_name (α := Int) (lc_mk (i := 6) (x := "one") h137.toXN (by decide +kernel)) rfl (fun _ => rfl))) (fun X136 b135 D138 y134 => have h137 := b135.ok C.hX; (ev_sub (ma := true) (mb := true) (md := true) (ev_mod (ma := true) (mb := true) (md := true) (ev_var (md := true) (nm_mk (i := 6) (x := "one") h137.toXN (by decide +kernel)) rfl rfl) (ev_add (ma := true) (mb := true) (md := true) (ev_mul (ma := true) (mb := true) (md := true) (ev_int (md := true) rfl) (ev_var (md := true) (nm_mk (i := 5) (x := "most") h137.toXN (by decide +kernel)) rfl rfl) rfl) (ev_int (md := true) rfl) rfl) rfl) (ev_var (md := true) (nm_mk (i := 5) (x := "most") h137.toXN (by decide +kernel)) rfl rfl) rfl)) rfl) (fun _ h => h) rfl
theorem gd_law_standing {P : Program} {w : World} {K : PySem.W.Frag} {mg : PySem.Str → Option Value} {base : Heap} (fc : Fac fe fa fn K mg) : Gd P w K mg base "_law_standing" (spO K (τ := Scr × Int × Unit) (ρ := Int) 2 m_law_standing) 2 2 :=
  gd_O 9 15 fc rfl rfl sc_law_standing rfl bn_law_standing fun X _ _ _ _ _ C H0 qs rt A B fr hR t => b_law_standing (by omega) X C H0 qs rt A B fr hR t
theorem sc_look_at : FnScope ["web", "standing", "house"] ["web", "standing", "house"] dd_look_at.scope := ⟨rfl, rfl, rfl, by decide +kernel, rfl, by decide +kernel, by decide +kernel⟩
theorem bn_look_at : BindE dd_look_at ["web", "standing", "house"] := fun _ _ _ _ _ _ us hl => match us, hl with | [_, _, _], _ => rfl
theorem b_look_at {k : Nat} (hk : 0 ≤ k) (X : Cx) (C : Cb fe fa fn X (["web", "standing", "house"] : List PySem.Str) dd_look_at.scope k) (H0 : Hp) (qs : List Addr) (rt : VK) (A : Unit → Prop) (B : Exc → Prop) (fr : Fr X H0 B) (hR : RtF (ρ := Unit) X H0 qs rt A) (t : (Int × (Tu (Int × Int))) × (List Int) × Int × Unit) :
    W X H0 qs rt (fun _ H => rt .non H) A B [.fr (α := (Int × (Tu (Int × Int)))) t.1, .fr (α := (List Int)) t.2.1, .fr (α := Int) t.2.2.1] dd_look_at.body (m_look_at t) := by
  have n0 : Nm X 0 "web" := nm_mk C.hX.toXN (by decide +kernel)
  have n1 : Nm X 1 "standing" := nm_mk C.hX.toXN (by decide +kernel)
  have n2 : Nm X 2 "house" := nm_mk C.hX.toXN (by decide +kernel)
  have g_BadHouse : Gn X "BadHouse" := gn_mk C.hX.toXN (by decide +kernel)
  have g_BadStanding : Gn X "BadStanding" := gn_mk C.hX.toXN (by decide +kernel)
  have g_len : Gn X "len" := gn_mk C.hX.toXN (by decide +kernel)
  have f_len : X.mg "len" = none := C.fc.free 21
  have x_BadHouse : Xn X .badHouse := C.xn .badHouse 4 5
  have x_BadStanding : Xn X .badStanding := C.xn .badStanding 2 3
  refine w_ifR (mc := (.ok (!pyEq (t.2.1.length : Int) t.1.1))) fr (et_ne (α := Int) (ma := true) (mb := true) C.hu (ev_lenL (ma := true) (md := true) g_len f_len (ev_var (md := true) n1 rfl rfl) rfl) (ev_ixP (md := true) ix20 (ev_var (md := true) n0 rfl rfl) (ev_int (md := true) rfl) rfl) rfl) (fun nx' => ?_) ?_ (he := rfl)
  · skip
    exact w_raise .badStanding C.hX.calm fr x_BadStanding g_BadStanding rfl
  refine w_ifR (mc := (if (decide (t.2.2.1 < (0 : Int))) = true then R.ok true else (R.ok (decide (t.1.1 ≤ t.2.2.1))))) fr (EvW.t (ew_or (et_lt (ma := true) (mb := true) (ev_var (md := true) n2 rfl rfl) (ev_int (md := true) rfl) rfl) (ew_or1 (et_ge (ma := true) (mb := true) (ev_var (md := true) n2 rfl rfl) (ev_ixP (md := true) ix20 (ev_var (md := true) n0 rfl rfl) (ev_int (md := true) rfl) rfl) rfl)) rfl)) (fun nx' => ?_) ?_ (he := rfl)
  · skip
    exact w_raise .badHouse C.hX.calm fr x_BadHouse g_BadHouse rfl
  exact w_endN hR rfl
theorem gd_look_at {P : Program} {w : World} {K : PySem.W.Frag} {mg : PySem.Str → Option Value} {base : Heap} (fc : Fac fe fa fn K mg) : Gd P w K mg base "look_at" (spF K (τ := (Int × (Tu (Int × Int))) × (List Int) × Int × Unit) (ρ := Unit) 3 m_look_at) 3 1 :=
  gd_F 0 6 fc rfl rfl sc_look_at rfl bn_look_at fun X _ _ _ _ _ C H0 qs rt A B fr hR t => b_look_at (by omega) X C H0 qs rt A B fr hR t
theorem sc_tie_rows : FnScope ["web", "rows", "one", "other", "house"] ["web"] dd_tie_rows.scope := ⟨rfl, rfl, rfl, by decide +kernel, rfl, by decide +kernel, by decide +kernel⟩
theorem bn_tie_rows : BindE dd_tie_rows ["web"] := fun _ _ _ _ _ _ us hl => match us, hl with | [_], _ => rfl
theorem b_tie_rows {k : Nat} (hk : 0 ≤ k) (X : Cx) (C : Cb fe fa fn X (["web", "rows", "one", "other", "house"] : List PySem.Str) dd_tie_rows.scope k) (H0 : Hp) (qs : List Addr) (rt : VK) (A : (List (List Int)) → Prop) (B : Exc → Prop) (fr : Fr X H0 B) (hR : RtF (ρ := (List (List Int))) X H0 qs rt A) (t : (Int × (Tu (Int × Int))) × Unit) :
    W X H0 qs rt (fun _ H => rt .non H) A B [.fr (α := (Int × (Tu (Int × Int)))) t.1, .un, .un, .un, .un] dd_tie_rows.body (m_tie_rows t) := by
  have n0 : Nm X 0 "web" := nm_mk C.hX.toXN (by decide +kernel)
  have n1 : Nm X 1 "rows" := nm_mk C.hX.toXN (by decide +kernel)
  have n2 : Nm X 2 "one" := nm_mk C.hX.toXN (by decide +kernel)
  have n3 : Nm X 3 "other" := nm_mk C.hX.toXN (by decide +kernel)
  have l1 : Lc X 1 "rows" := lc_mk C.hX.toXN (by decide +kernel)
  have l2 : Lc X 2 "one" := lc_mk C.hX.toXN (by decide +kernel)
  have l3 : Lc X 3 "other" := lc_mk C.hX.toXN (by decide +kernel)
  have g_range : Gn X "range" := gn_mk C.hX.toXN (by decide +kernel)
  have f_range : X.mg "range" = none := C.fc.free 22
  refine w_asgCt (α := Int) (Γ' := fun r162 (y161 : (List (List Int))) => [.fr (α := (Int × (Tu (Int × Int)))) t.1, .ot (α := Int) r162 y161, .un, .un, .un]) fr l1 (by rw [C.hX.hs]; decide +kernel) C.kd (he := rfl) ?_ fun r162 y161 => ?_
  · exact (ect_map (mi := true) (α := Int) (γ := Int) (mx := (rngR 0 t.1.1)) (g := (fun y149 => (((rngR 0 t.1.1) : R _).bind fun x159 => (mapR (fun y154 => (.ok (0 : Int))) x159)))) (own := [("house", 4)]) (Γx := fun y149 : Int => [.fr (α := (Int × (Tu (Int × Int)))) t.1, .un, .un, .un, .fr (α := Int) y149]) (is := [4]) C.hX (ei_range1 (ma := true) g_range f_range (ev_ixP (md := true) ix20 (ev_var (md := true) n0 rfl rfl) (ev_int (md := true) rfl) rfl) rfl) (.inl rfl) (by decide +kernel) (no1 (fun _ => rfl)) (by decide) (fun X151 b150 y149 => have h152 := b150.ok C.hX; (eg_name (α := Int) (lc_mk (i := 4) (x := "house") h152.toXN (by decide +kernel)) rfl (fun _ => rfl))) (fun X151 b150 D153 y149 => have h152 := b150.ok C.hX; (ev_map (mi := true) (α := Int) (β := Int) (mx := (rngR 0 t.1.1)) (g := (fun y154 => (.ok (0 : Int)))) (own := [("other", 3)]) (Γx := fun y154 : Int => [.fr (α := (Int × (Tu (Int × Int)))) t.1, .un, .un, .fr (α := Int) y154, .fr (α := Int) y149]) (is := [3]) h152 (ei_range1 (ma := true) (gn_mk (x := "range") h152.toXN (by decide +kernel)) (b150.none f_range) (ev_ixP (md := true) ix20 (ev_var (md := true) (nm_mk (i := 0) (x := "web") h152.toXN (by decide +kernel)) rfl rfl) (ev_int (md := true) rfl) rfl) rfl) (.inl rfl) (by decide +kernel) (no1 (fun _ => rfl)) (by decide) (fun X156 b155 y154 => have h157 := b155.ok h152; (eg_name (α := Int) (lc_mk (i := 3) (x := "other") h157.toXN (by decide +kernel)) rfl (fun _ => rfl))) (fun X156 b155 D158 y154 => have h157 := b155.ok h152; (ev_int (md := true) rfl)) rfl)) rfl)
  refine w_for (α := (Int × Int)) (S := (List (List Int))) (mx := (.ok ((t.1.2).l))) (bd := (fun y164 s163 => (((((((ixR s163 y164.1) : R _).bind fun x165 => (ixR x165 y164.2)) : R _).bind fun x166 => (.ok (x166 + (1 : Int)))) : R _).bind fun x174 => (((rowR s163 y164.1) : R _).bind fun k175 => (((setR k175.2 y164.2 x174) : R _).bind fun w176 => ((fun y167 : (List (List Int)) => (((((((ixR y167 y164.2) : R _).bind fun x168 => (ixR x168 y164.1)) : R _).bind fun x169 => (.ok (x169 + (1 : Int)))) : R _).bind fun x171 => (((rowR y167 y164.2) : R _).bind fun k172 => (((setR k172.2 y164.1 x171) : R _).bind fun w173 => ((fun y170 : (List (List Int)) => (.ok y170)) (List.set y167 k172.1 w173)))))) (List.set s163 k175.1 w176))))))) (s0 := y161) (Γs := fun s163 : (List (List Int)) => [.fr (α := (Int × (Tu (Int × Int)))) t.1, .ot (α := Int) r162 s163, .un, .un, .un]) (Γb := fun (y164 : (Int × Int)) (s163 : (List (List Int))) => [.fr (α := (Int × (Tu (Int × Int)))) t.1, .ot (α := Int) r162 s163, .fr (α := Int) y164.1, .fr (α := Int) y164.2, .un]) (is := [2, 3]) C.hX.calm fr (he := rfl) ?_ ?_ ?_ fun s163 => ?_
  · exact (ei_tup (ev_ixP (md := true) ix21 (ev_var (md := true) n0 rfl rfl) (ev_int (md := true) rfl) rfl) rfl)
  · exact fun y164 s163 => (eg_two C.hX.calm (eg_name (α := Int) l2 rfl (fun _ => rfl)) (eg_name (α := Int) l3 rfl (fun _ => rfl)))
  · intro H1 sH N y164 s163
    replace fr := fr.up sH
    replace hR := hR.up sH
    refine w_setix2 (α := Int) (m1 := (((((ixR s163 y164.1) : R _).bind fun x165 => (ixR x165 y164.2)) : R _).bind fun x166 => (.ok (x166 + (1 : Int))))) (ma := (.ok y164.1)) (mj := (.ok y164.2)) (f := fun y167 => (((((((ixR y167 y164.2) : R _).bind fun x168 => (ixR x168 y164.1)) : R _).bind fun x169 => (.ok (x169 + (1 : Int)))) : R _).bind fun x171 => (((rowR y167 y164.2) : R _).bind fun k172 => (((setR k172.2 y164.1 x171) : R _).bind fun w173 => ((fun y170 : (List (List Int)) => (.ok y170)) (List.set y167 k172.1 w173)))))) (Γ' := fun y167 : (List (List Int)) => [.fr (α := (Int × (Tu (Int × Int)))) t.1, .ot (α := Int) r162 y167, .fr (α := Int) y164.1, .fr (α := Int) y164.2, .un]) fr n1 rfl ?_ ?_ ?_ (he := rfl) fun y167 => ?_
    · exact (ev_add (ma := true) (mb := true) (md := true) (Ev.flat (ma := false) (ev_ixL (md := false) (mb := true) (ev_ixL (md := false) (mb := true) (ev_tab n1 rfl rfl) (ev_var (md := true) n2 rfl rfl) rfl) (ev_var (md := true) n3 rfl rfl) rfl)) (ev_int (md := true) rfl) rfl)
    · exact (ev_var (md := true) n2 rfl rfl)
    · exact (ev_var (md := true) n3 rfl rfl)
    refine w_setix2 (α := Int) (m1 := (((((ixR y167 y164.2) : R _).bind fun x168 => (ixR x168 y164.1)) : R _).bind fun x169 => (.ok (x169 + (1 : Int))))) (ma := (.ok y164.2)) (mj := (.ok y164.1)) (f := fun y170 => (.ok y170)) (Γ' := fun y170 : (List (List Int)) => [.fr (α := (Int × (Tu (Int × Int)))) t.1, .ot (α := Int) r162 y170, .fr (α := Int) y164.1, .fr (α := Int) y164.2, .un]) fr n1 rfl ?_ ?_ ?_ (he := rfl) fun y170 => ?_
    · exact (ev_add (ma := true) (mb := true) (md := true) (Ev.flat (ma := false) (ev_ixL (md := false) (mb := true) (ev_ixL (md := false) (mb := true) (ev_tab n1 rfl rfl) (ev_var (md := true) n3 rfl rfl) rfl) (ev_var (md := true) n2 rfl rfl) rfl)) (ev_int (md := true) rfl) rfl)
    · exact (ev_var (md := true) n3 rfl rfl)
    · exact (ev_var (md := true) n2 rfl rfl)
    exact w_end (s := y170) [2, 3] rfl rfl
  refine w_frzT 1 rfl (Γ' := [.fr (α := (Int × (Tu (Int × Int)))) t.1, .fr (α := (List (List Int))) s163, .un, .un, .un]) rfl ?_
  exact w_ret (m1 := (.ok s163)) (g := fun z => z) fr hR (ev_var (md := true) n1 rfl rfl) (fun _ h => h) rfl
theorem gd_tie_rows {P : Program} {w : World} {K : PySem.W.Frag} {mg : PySem.Str → Option Value} {base : Heap} (fc : Fac fe fa fn K mg) : Gd P w K mg base "tie_rows" (spF K (τ := (Int × (Tu (Int × Int))) × Unit) (ρ := (List (List Int))) 1 m_tie_rows) 1 1 :=
  gd_F 1 7 fc rfl rfl sc_tie_rows rfl bn_tie_rows fun X _ _ _ _ _ C H0 qs rt A B fr hR t => b_tie_rows (by omega) X C H0 qs rt A B fr hR t
theorem sc_next_one : FnScope ["standing", "near", "row", "other"] ["standing", "near", "row"] dd_next_one.scope := ⟨rfl, rfl, rfl, by decide +kernel, rfl, by decide +kernel, by decide +kernel⟩
theorem bn_next_one : BindE dd_next_one ["standing", "near", "row"] := fun _ _ _ _ _ _ us hl => match us, hl with | [_, _, _], _ => rfl
theorem b_next_one {k : Nat} (hk : 0 ≤ k) (X : Cx) (C : Cb fe fa fn X (["standing", "near", "row", "other"] : List PySem.Str) dd_next_one.scope k) (H0 : Hp) (qs : List Addr) (rt : VK) (A : Int → Prop) (B : Exc → Prop) (fr : Fr X H0 B) (hR : RtF (ρ := Int) X H0 qs rt A) (t : (List Int) × (List Int) × (List Int) × Unit) :
    W X H0 qs rt (fun _ H => rt .non H) A B [.fr (α := (List Int)) t.1, .fr (α := (List Int)) t.2.1, .fr (α := (List Int)) t.2.2.1, .un] dd_next_one.body (m_next_one t) := by
  have n0 : Nm X 0 "standing" := nm_mk C.hX.toXN (by decide +kernel)
  have n1 : Nm X 1 "near" := nm_mk C.hX.toXN (by decide +kernel)
  have n2 : Nm X 2 "row" := nm_mk C.hX.toXN (by decide +kernel)
  have n3 : Nm X 3 "other" := nm_mk C.hX.toXN (by decide +kernel)
  have l3 : Lc X 3 "other" := lc_mk C.hX.toXN (by decide +kernel)
  have g_len : Gn X "len" := gn_mk C.hX.toXN (by decide +kernel)
  have g_range : Gn X "range" := gn_mk C.hX.toXN (by decide +kernel)
  have f_len : X.mg "len" = none := C.fc.free 21
  have f_range : X.mg "range" = none := C.fc.free 22
  refine w_forM (α := Int) (S := Unit) (mx := (rngR 0 (t.1.length : Int))) (bd := (fun y199 s198 => (((if (!decide (y199 ∈ t.2.2.1)) = true then (((ixR t.1 y199) : R _).bind fun x200 => (((ixR t.2.1 y199) : R _).bind fun x201 => (.ok (decide (x200 < x201))))) else R.ok false) : R Bool).bind fun c202 => if c202 = true then (.ok (.rt y199)) else (.ok (.nx ()))))) (s0 := ()) (Γs := fun s198 : Unit => [.fr (α := (List Int)) t.1, .fr (α := (List Int)) t.2.1, .fr (α := (List Int)) t.2.2.1, .un]) (Γb := fun (y199 : Int) (s198 : Unit) => [.fr (α := (List Int)) t.1, .fr (α := (List Int)) t.2.1, .fr (α := (List Int)) t.2.2.1, .fr (α := Int) y199]) (is := [3]) C.hX.calm fr (he := rfl) ?_ ?_ ?_ fun s198 => ?_
  · exact (ei_range1 (ma := true) g_range f_range (ev_lenL (ma := true) (md := true) g_len f_len (ev_var (md := true) n0 rfl rfl) rfl) rfl)
  · exact fun y199 s198 => (eg_name (α := Int) l3 rfl (fun _ => rfl))
  · intro H1 sH N y199 s198
    replace fr := fr.up sH
    replace hR := hR.up sH
    refine w_ifR (mc := (if (!decide (y199 ∈ t.2.2.1)) = true then (((ixR t.1 y199) : R _).bind fun x200 => (((ixR t.2.1 y199) : R _).bind fun x201 => (.ok (decide (x200 < x201))))) else R.ok false)) fr (EvW.t (ew_and (et_niL (ma := true) (mb := true) (ev_var (md := true) n3 rfl rfl) (ev_var (md := true) n2 rfl rfl) rfl) (ew_and1 (et_lt (ma := true) (mb := true) (ev_ixL (md := true) (mb := true) (ev_var (md := true) n0 rfl rfl) (ev_var (md := true) n3 rfl rfl) rfl) (ev_ixL (md := true) (mb := true) (ev_var (md := true) n1 rfl rfl) (ev_var (md := true) n3 rfl rfl) rfl) rfl)) rfl)) (fun nx' => ?_) ?_ (he := rfl)
    · skip
      exact w_ret (m1 := (.ok y199)) (g := fun z => .rt z) fr hR (ev_var (md := true) n3 rfl rfl) (fun _ h => h) rfl
    exact w_endM (s := ()) [3] rfl rfl
  exact w_ret (m1 := (.ok (-(1 : Int)))) (g := fun z => z) fr hR (ev_neg (ma := true) (md := true) (ev_int (md := true) rfl) rfl) (fun _ h => h) rfl
theorem gd_next_one {P : Program} {w : World} {K : PySem.W.Frag} {mg : PySem.Str → Option Value} {base : Heap} (fc : Fac fe fa fn K mg) : Gd P w K mg base "next_one" (spF K (τ := (List Int) × (List Int) × (List Int) × Unit) (ρ := Int) 3 m_next_one) 3 1 :=
  gd_F 2 8 fc rfl rfl sc_next_one rfl bn_next_one fun X _ _ _ _ _ C H0 qs rt A B fr hR t => b_next_one (by omega) X C H0 qs rt A B fr hR t
theorem sc_queue : FnScope ["web", "standing", "house", "rows", "row", "near", "joins", "other"] ["web", "standing", "house"] dd_queue.scope := ⟨rfl, rfl, rfl, by decide +kernel, rfl, by decide +kernel, by decide +kernel⟩
theorem bn_queue : BindE dd_queue ["web", "standing", "house"] := fun _ _ _ _ _ _ us hl => match us, hl with | [_, _, _], _ => rfl
theorem b_queue {k : Nat} (hk : 1 ≤ k) (X : Cx) (C : Cb fe fa fn X (["web", "standing", "house", "rows", "row", "near", "joins", "other"] : List PySem.Str) dd_queue.scope k) (H0 : Hp) (qs : List Addr) (rt : VK) (A : (List Int) → Prop) (B : Exc → Prop) (fr : Fr X H0 B) (hR : RtO (ρ := Int) X H0 qs rt A) (t : (Int × (Tu (Int × Int))) × (List Int) × Int × Unit) :
    W X H0 qs rt (fun _ H => rt .non H) A B [.fr (α := (Int × (Tu (Int × Int)))) t.1, .fr (α := (List Int)) t.2.1, .fr (α := Int) t.2.2.1, .un, .un, .un, .un, .un] dd_queue.body (m_queue t) := by
  have n0 : Nm X 0 "web" := nm_mk C.hX.toXN (by decide +kernel)
  have n1 : Nm X 1 "standing" := nm_mk C.hX.toXN (by decide +kernel)
  have n2 : Nm X 2 "house" := nm_mk C.hX.toXN (by decide +kernel)
  have n4 : Nm X 4 "row" := nm_mk C.hX.toXN (by decide +kernel)
  have n5 : Nm X 5 "near" := nm_mk C.hX.toXN (by decide +kernel)
  have n6 : Nm X 6 "joins" := nm_mk C.hX.toXN (by decide +kernel)
  have l3 : Lc X 3 "rows" := lc_cell C.hX.toXN (C.fnt _) (by decide +kernel)
  have l4 : Lc X 4 "row" := lc_mk C.hX.toXN (by decide +kernel)
  have l5 : Lc X 5 "near" := lc_cell C.hX.toXN (C.fnt _) (by decide +kernel)
  have l6 : Lc X 6 "joins" := lc_cell C.hX.toXN (C.fnt _) (by decide +kernel)
  have g_look_at : Gn X "look_at" := gn_mk C.hX.toXN (by decide +kernel)
  have g_next_one : Gn X "next_one" := gn_mk C.hX.toXN (by decide +kernel)
  have g_range : Gn X "range" := gn_mk C.hX.toXN (by decide +kernel)
  have g_tie_rows : Gn X "tie_rows" := gn_mk C.hX.toXN (by decide +kernel)
  have f_range : X.mg "range" = none := C.fc.free 22
  have d_look_at : Dn X "look_at" (spF X.K (τ := (Int × (Tu (Int × Int))) × (List Int) × Int × Unit) (ρ := Unit) 3 m_look_at) 3 := (gd_look_at C.fc).dn C.rm (by omega)
  have d_tie_rows : Dn X "tie_rows" (spF X.K (τ := (Int × (Tu (Int × Int))) × Unit) (ρ := (List (List Int))) 1 m_tie_rows) 1 := (gd_tie_rows C.fc).dn C.rm (by omega)
  have d_next_one : Dn X "next_one" (spF X.K (τ := (List Int) × (List Int) × (List Int) × Unit) (ρ := Int) 3 m_next_one) 3 := (gd_next_one C.fc).dn C.rm (by omega)
  refine w_expr (α := Unit) (m1 := (m_look_at (t.1, t.2.1, t.2.2.1, ()))) fr ?_ ?_ (he := rfl)
  · exact (ev_call (md := true) d_look_at g_look_at (ea_cons (md := true) (ev_var (md := true) n0 rfl rfl) (ea_cons (md := true) (ev_var (md := true) n1 rfl rfl) (ea_cons (md := true) (ev_var (md := true) n2 rfl rfl) (ea_nil (md := true) rfl) rfl) rfl) rfl) rfl rfl)
  refine w_asg (α := (List (List Int))) (Γ' := fun y177 : (List (List Int)) => [.fr (α := (Int × (Tu (Int × Int)))) t.1, .fr (α := (List Int)) t.2.1, .fr (α := Int) t.2.2.1, .fr (α := (List (List Int))) y177, .un, .un, .un, .un]) fr l3 (he := rfl) ?_ fun y177 => ?_
  · exact (ev_call (md := true) d_tie_rows g_tie_rows (ea_cons (md := true) (ev_var (md := true) n0 rfl rfl) (ea_nil (md := true) rfl) rfl) rfl rfl)
  refine w_asgO (α := Int) (Γ' := fun y178 : (List Int) => [.fr (α := (Int × (Tu (Int × Int)))) t.1, .fr (α := (List Int)) t.2.1, .fr (α := Int) t.2.2.1, .fr (α := (List (List Int))) y177, .ow (α := Int) y178, .un, .un, .un]) fr l4 (he := rfl) ?_ fun y178 => ?_
  · exact (ev_lst (md := true) (el_nil (α := Int) rfl))
  refine w_asgKf (α := Int) (Γ' := fun y184 : (List Int) => [.fr (α := (Int × (Tu (Int × Int)))) t.1, .fr (α := (List Int)) t.2.1, .fr (α := Int) t.2.2.1, .fr (α := (List (List Int))) y177, .ow (α := Int) y178, .fr (α := (List Int)) y184, .un, .un]) fr l5 (by rw [C.hX.hs]; decide +kernel) (he := rfl) ?_ fun y184 => ?_
  · exact (ev_map (mi := true) (α := Int) (β := Int) (mx := (.ok t.2.1)) (g := (fun y179 => (.ok (0 : Int)))) (own := [("other", 7)]) (Γx := fun y179 : Int => [.fr (α := (Int × (Tu (Int × Int)))) t.1, .fr (α := (List Int)) t.2.1, .fr (α := Int) t.2.2.1, .fr (α := (List (List Int))) y177, .ow (α := Int) y178, .un, .un, .fr (α := Int) y179]) (is := [7]) C.hX (ei_list (ev_var (md := true) n1 rfl rfl)) (.inl rfl) (by decide +kernel) (no1 (fun _ => rfl)) (by decide) (fun X181 b180 y179 => have h182 := b180.ok C.hX; (eg_name (α := Int) (lc_mk (i := 7) (x := "other") h182.toXN (by decide +kernel)) rfl (fun _ => rfl))) (fun X181 b180 D183 y179 => have h182 := b180.ok C.hX; (ev_int (md := true) rfl)) rfl)
  refine w_asg (α := Int) (Γ' := fun y185 : Int => [.fr (α := (Int × (Tu (Int × Int)))) t.1, .fr (α := (List Int)) t.2.1, .fr (α := Int) t.2.2.1, .fr (α := (List (List Int))) y177, .ow (α := Int) y178, .fr (α := (List Int)) y184, .fr (α := Int) y185, .un]) fr l6 (he := rfl) ?_ fun y185 => ?_
  · exact (ev_var (md := true) n2 rfl rfl)
  refine w_while (S := ((List Int) × (List Int) × Int)) (tc := (fun s186 => (.ok (decide ((0 : Int) ≤ s186.2.2))))) (bd := (fun s186 => ((appR s186.1 s186.2.2).bind fun y187 => (((((rngR 0 t.1.1) : R _).bind fun x196 => (mapR (fun y188 => (((ixR s186.2.1 y188) : R _).bind fun x194 => (((((ixR y177 s186.2.2) : R _).bind fun x193 => (ixR x193 y188)) : R _).bind fun x195 => (.ok (x194 + x195))))) x196)) : R (List Int)).bind fun y197 => (((m_next_one (t.2.1, y197, y187, ())) : R Int).bind fun y204 => (.ok (y187, y197, y204))))))) (n := fuel) (s0 := (y178, y184, y185)) (Γs := fun s186 : ((List Int) × (List Int) × Int) => [.fr (α := (Int × (Tu (Int × Int)))) t.1, .fr (α := (List Int)) t.2.1, .fr (α := Int) t.2.2.1, .fr (α := (List (List Int))) y177, .ow (α := Int) s186.1, .fr (α := (List Int)) s186.2.1, .fr (α := Int) s186.2.2, .un]) C.hX.calm fr (he := rfl) ?_ ?_ fun s186 => ?_
  · exact fun s186 => (et_ge (ma := true) (mb := true) (ev_var (md := true) n6 rfl rfl) (ev_int (md := true) rfl) rfl)
  · intro N s186
    refine w_append (α := Int) (m1 := (.ok s186.2.2)) (Γ' := fun y187 : (List Int) => [.fr (α := (Int × (Tu (Int × Int)))) t.1, .fr (α := (List Int)) t.2.1, .fr (α := Int) t.2.2.1, .fr (α := (List (List Int))) y177, .ow (α := Int) y187, .fr (α := (List Int)) s186.2.1, .fr (α := Int) s186.2.2, .un]) fr n4 rfl ?_ (he := rfl) fun y187 => ?_
    · exact (ev_var (md := true) n6 rfl rfl)
    refine w_asgKf (α := Int) (Γ' := fun y197 : (List Int) => [.fr (α := (Int × (Tu (Int × Int)))) t.1, .fr (α := (List Int)) t.2.1, .fr (α := Int) t.2.2.1, .fr (α := (List (List Int))) y177, .ow (α := Int) y187, .fr (α := (List Int)) y197, .fr (α := Int) s186.2.2, .un]) fr l5 (by rw [C.hX.hs]; decide +kernel) (he := rfl) ?_ fun y197 => ?_
    · exact (ev_map (mi := true) (α := Int) (β := Int) (mx := (rngR 0 t.1.1)) (g := (fun y188 => (((ixR s186.2.1 y188) : R _).bind fun x194 => (((((ixR y177 s186.2.2) : R _).bind fun x193 => (ixR x193 y188)) : R _).bind fun x195 => (.ok (x194 + x195)))))) (own := [("other", 7)]) (Γx := fun y188 : Int => [.fr (α := (Int × (Tu (Int × Int)))) t.1, .fr (α := (List Int)) t.2.1, .fr (α := Int) t.2.2.1, .fr (α := (List (List Int))) y177, .ow (α := Int) y187, .fr (α := (List Int)) s186.2.1, .fr (α := Int) s186.2.2, .fr (α := Int) y188]) (is := [7]) C.hX (ei_range1 (ma := true) g_range f_range (ev_ixP (md := true) ix20 (ev_var (md := true) n0 rfl rfl) (ev_int (md := true) rfl) rfl) rfl) (.inl rfl) (by decide +kernel) (no1 (fun _ => rfl)) (by decide) (fun X190 b189 y188 => have h191 := b189.ok C.hX; (eg_name (α := Int) (lc_mk (i := 7) (x := "other") h191.toXN (by decide +kernel)) rfl (fun _ => rfl))) (fun X190 b189 D192 y188 => have h191 := b189.ok C.hX; (ev_add (ma := true) (mb := true) (md := true) (ev_ixL (md := true) (mb := true) (ev_var (md := true) (nm_mk (i := 5) (x := "near") h191.toXN (by decide +kernel)) rfl rfl) (ev_var (md := true) (nm_mk (i := 7) (x := "other") h191.toXN (by decide +kernel)) rfl rfl) rfl) (ev_ixL (md := true) (mb := true) (ev_ixL (md := true) (mb := true) (ev_var (md := true) (nm_mk (i := 3) (x := "rows") h191.toXN (by decide +kernel)) rfl rfl) (ev_var (md := true) (nm_mk (i := 6) (x := "joins") h191.toXN (by decide +kernel)) rfl rfl) rfl) (ev_var (md := true) (nm_mk (i := 7) (x := "other") h191.toXN (by decide +kernel)) rfl rfl) rfl) rfl)) rfl)
    refine w_asg (α := Int) (Γ' := fun y204 : Int => [.fr (α := (Int × (Tu (Int × Int)))) t.1, .fr (α := (List Int)) t.2.1, .fr (α := Int) t.2.2.1, .fr (α := (List (List Int))) y177, .ow (α := Int) y187, .fr (α := (List Int)) y197, .fr (α := Int) y204, .un]) fr l6 (he := rfl) ?_ fun y204 => ?_
    · exact (Ev.flat (ma := false) (ev_call (md := false) d_next_one g_next_one (ea_cons (md := false) (ev_var (md := false) n1 rfl rfl) (ea_cons (md := false) (ev_var (md := false) n5 rfl rfl) (ea_cons (md := false) (ev_own n4 rfl rfl) (ea_nil (md := false) rfl) rfl) rfl) rfl) rfl rfl))
    exact w_end (s := (y187, y197, y204)) [] rfl rfl
  exact w_retV (g := fun z => z) fr hR n4 rfl (fun _ h => h) rfl
theorem gd_queue {P : Program} {w : World} {K : PySem.W.Frag} {mg : PySem.Str → Option Value} {base : Heap} (fc : Fac fe fa fn K mg) : Gd P w K mg base "queue" (spO K (τ := (Int × (Tu (Int × Int))) × (List Int) × Int × Unit) (ρ := Int) 3 m_queue) 3 2 :=
  gd_O 3 9 fc rfl rfl sc_queue rfl bn_queue fun X _ _ _ _ _ C H0 qs rt A B fr hR t => b_queue (by omega) X C H0 qs rt A B fr hR t
theorem sc_outside : FnScope ["web", "standing", "house", "row", "other"] ["web", "standing", "house"] dd_outside.scope := ⟨rfl, rfl, rfl, by decide +kernel, rfl, by decide +kernel, by decide +kernel⟩
theorem bn_outside : BindE dd_outside ["web", "standing", "house"] := fun _ _ _ _ _ _ us hl => match us, hl with | [_, _, _], _ => rfl
theorem b_outside {k : Nat} (hk : 2 ≤ k) (X : Cx) (C : Cb fe fa fn X (["web", "standing", "house", "row", "other"] : List PySem.Str) dd_outside.scope k) (H0 : Hp) (qs : List Addr) (rt : VK) (A : (List Int) → Prop) (B : Exc → Prop) (fr : Fr X H0 B) (hR : RtO (ρ := Int) X H0 qs rt A) (t : (Int × (Tu (Int × Int))) × (List Int) × Int × Unit) :
    W X H0 qs rt (fun _ H => rt .non H) A B [.fr (α := (Int × (Tu (Int × Int)))) t.1, .fr (α := (List Int)) t.2.1, .fr (α := Int) t.2.2.1, .un, .un] dd_outside.body (m_outside t) := by
  have n0 : Nm X 0 "web" := nm_mk C.hX.toXN (by decide +kernel)
  have n1 : Nm X 1 "standing" := nm_mk C.hX.toXN (by decide +kernel)
  have n2 : Nm X 2 "house" := nm_mk C.hX.toXN (by decide +kernel)
  have l3 : Lc X 3 "row" := lc_cell C.hX.toXN (C.fnt _) (by decide +kernel)
  have g_queue : Gn X "queue" := gn_mk C.hX.toXN (by decide +kernel)
  have g_range : Gn X "range" := gn_mk C.hX.toXN (by decide +kernel)
  have f_range : X.mg "range" = none := C.fc.free 22
  have d_queue : Dn X "queue" (spO X.K (τ := (Int × (Tu (Int × Int))) × (List Int) × Int × Unit) (ρ := Int) 3 m_queue) 3 := (gd_queue C.fc).dn C.rm (by omega)
  refine w_asg (α := (List Int)) (Γ' := fun y205 : (List Int) => [.fr (α := (Int × (Tu (Int × Int)))) t.1, .fr (α := (List Int)) t.2.1, .fr (α := Int) t.2.2.1, .fr (α := (List Int)) y205, .un]) fr l3 (he := rfl) ?_ fun y205 => ?_
  · exact (EvO.fz (ev_callO (md := true) d_queue g_queue (ea_cons (md := true) (ev_var (md := true) n0 rfl rfl) (ea_cons (md := true) (ev_var (md := true) n1 rfl rfl) (ea_cons (md := true) (ev_var (md := true) n2 rfl rfl) (ea_nil (md := true) rfl) rfl) rfl) rfl) rfl rfl))
  exact w_retO (m1 := (((rngR 0 t.1.1) : R _).bind fun x211 => (compR (fun y206 => (if (!decide (y206 ∈ y205)) = true then (R.ok (some y206)) else R.ok none)) x211))) (g := fun z => z) fr hR (ev_filt (mi := true) (α := Int) (β := Int) (mx := (rngR 0 t.1.1)) (t := fun y206 => (.ok (!decide (y206 ∈ y205)))) (g := fun y206 => (.ok y206)) (own := [("other", 4)]) (Γx := fun y206 : Int => [.fr (α := (Int × (Tu (Int × Int)))) t.1, .fr (α := (List Int)) t.2.1, .fr (α := Int) t.2.2.1, .fr (α := (List Int)) y205, .fr (α := Int) y206]) (is := [4]) C.hX (ei_range1 (ma := true) g_range f_range (ev_ixP (md := true) ix20 (ev_var (md := true) n0 rfl rfl) (ev_int (md := true) rfl) rfl) rfl) (.inl rfl) (by decide +kernel) (no1 (fun _ => rfl)) (by decide) (fun X208 b207 y206 => have h209 := b207.ok C.hX; (eg_name (α := Int) (lc_mk (i := 4) (x := "other") h209.toXN (by decide +kernel)) rfl (fun _ => rfl))) (fun X208 b207 D210 y206 => have h209 := b207.ok C.hX; (et_niL (ma := true) (mb := true) (ev_var (md := true) (nm_mk (i := 4) (x := "other") h209.toXN (by decide +kernel)) rfl rfl) (ev_var (md := true) (nm_mk (i := 3) (x := "row") h209.toXN (by decide +kernel)) rfl rfl) rfl)) (fun X208 b207 D210 y206 => have h209 := b207.ok C.hX; (ev_var (md := true) (nm_mk (i := 4) (x := "other") h209.toXN (by decide +kernel)) rfl rfl)) rfl) (fun _ h => h) rfl
theorem gd_outside {P : Program} {w : World} {K : PySem.W.Frag} {mg : PySem.Str → Option Value} {base : Heap} (fc : Fac fe fa fn K mg) : Gd P w K mg base "outside" (spO K (τ := (Int × (Tu (Int × Int))) × (List Int) × Int × Unit) (ρ := Int) 3 m_outside) 3 3 :=
  gd_O 4 10 fc rfl rfl sc_outside rfl bn_outside fun X _ _ _ _ _ C H0 qs rt A B fr hR t => b_outside (by omega) X C H0 qs rt A B fr hR t
theorem sc_law_whole : FnScope ["found"] ["found"] dd__law_whole.scope := ⟨rfl, rfl, rfl, by decide +kernel, rfl, by decide +kernel, by decide +kernel⟩
theorem bn_law_whole : BindE dd__law_whole ["found"] := fun _ _ _ _ _ _ us hl => match us, hl with | [_], _ => rfl
theorem b_law_whole {k : Nat} (hk : 0 ≤ k) (X : Cx) (C : Cb fe fa fn X (["found"] : List PySem.Str) dd__law_whole.scope k) (H0 : Hp) (qs : List Addr) (rt : VK) (A : Bool → Prop) (B : Exc → Prop) (fr : Fr X H0 B) (hR : RtF (ρ := Bool) X H0 qs rt A) (t : Int × Unit) :
    W X H0 qs rt (fun _ H => rt .non H) A B [.fr (α := Int) t.1] dd__law_whole.body (m_law_whole t) := by
  have n0 : Nm X 0 "found" := nm_mk C.hX.toXN (by decide +kernel)
  have g_bool : Gn X "bool" := gn_mk C.hX.toXN (by decide +kernel)
  have g_int : Gn X "int" := gn_mk C.hX.toXN (by decide +kernel)
  have g_isinstance : Gn X "isinstance" := gn_mk C.hX.toXN (by decide +kernel)
  have f_bool : X.mg "bool" = none := C.fc.free 31
  have f_int : X.mg "int" = none := C.fc.free 29
  have f_isinstance : X.mg "isinstance" = none := C.fc.free 24
  exact w_ret (m1 := (if true = true then (R.ok (!false)) else R.ok false)) (g := fun z => z) fr hR (ev_and (ma := true) (mb := true) (md := true) (ev_isi (ma := true) (md := true) (n := "int") (c := true) g_isinstance f_isinstance g_int f_int (by decide +kernel) (by decide +kernel) (ev_var (md := true) n0 rfl rfl) rfl) (ev_one (md := true) (ev_not (ma := true) (md := true) (ev_isi (ma := true) (md := true) (n := "bool") (c := false) g_isinstance f_isinstance g_bool f_bool (by decide +kernel) (by decide +kernel) (ev_var (md := true) n0 rfl rfl) rfl) rfl)) rfl) (fun _ h => h) rfl
theorem gd_law_whole {P : Program} {w : World} {K : PySem.W.Frag} {mg : PySem.Str → Option Value} {base : Heap} (fc : Fac fe fa fn K mg) : Gd P w K mg base "_law_whole" (spF K (τ := Int × Unit) (ρ := Bool) 1 m_law_whole) 1 1 :=
  gd_F 6 12 fc rfl rfl sc_law_whole rfl bn_law_whole fun X _ _ _ _ _ C H0 qs rt A B fr hR t => b_law_whole (by omega) X C H0 qs rt A B fr hR t
theorem sc_law_ties_to : FnScope ["rows", "house", "group", "many", "one"] ["rows", "house", "group"] dd__law_ties_to.scope := ⟨rfl, rfl, rfl, by decide +kernel, rfl, by decide +kernel, by decide +kernel⟩
theorem bn_law_ties_to : BindE dd__law_ties_to ["rows", "house", "group"] := fun _ _ _ _ _ _ us hl => match us, hl with | [_, _, _], _ => rfl
theorem b_law_ties_to {k : Nat} (hk : 0 ≤ k) (X : Cx) (C : Cb fe fa fn X (["rows", "house", "group", "many", "one"] : List PySem.Str) dd__law_ties_to.scope k) (H0 : Hp) (qs : List Addr) (rt : VK) (A : Int → Prop) (B : Exc → Prop) (fr : Fr X H0 B) (hR : RtF (ρ := Int) X H0 qs rt A) (t : (List (List Int)) × Int × (List Int) × Unit) :
    W X H0 qs rt (fun _ H => rt .non H) A B [.fr (α := (List (List Int))) t.1, .fr (α := Int) t.2.1, .fr (α := (List Int)) t.2.2.1, .un, .un] dd__law_ties_to.body (m_law_ties_to t) := by
  have n0 : Nm X 0 "rows" := nm_mk C.hX.toXN (by decide +kernel)
  have n1 : Nm X 1 "house" := nm_mk C.hX.toXN (by decide +kernel)
  have n2 : Nm X 2 "group" := nm_mk C.hX.toXN (by decide +kernel)
  have n3 : Nm X 3 "many" := nm_mk C.hX.toXN (by decide +kernel)
  have n4 : Nm X 4 "one" := nm_mk C.hX.toXN (by decide +kernel)
  have l3 : Lc X 3 "many" := lc_mk C.hX.toXN (by decide +kernel)
  have l4 : Lc X 4 "one" := lc_mk C.hX.toXN (by decide +kernel)
  refine w_asg (α := Int) (Γ' := fun y228 : Int => [.fr (α := (List (List Int))) t.1, .fr (α := Int) t.2.1, .fr (α := (List Int)) t.2.2.1, .fr (α := Int) y228, .un]) fr l3 (he := rfl) ?_ fun y228 => ?_
  · exact (ev_int (md := true) rfl)
  refine w_for (α := Int) (S := Int) (mx := (.ok t.2.2.1)) (bd := (fun y230 s229 => (((((((ixR t.1 t.2.1) : R _).bind fun x231 => (ixR x231 y230)) : R _).bind fun x232 => (.ok (s229 + x232))) : R Int).bind fun y233 => (.ok y233)))) (s0 := y228) (Γs := fun s229 : Int => [.fr (α := (List (List Int))) t.1, .fr (α := Int) t.2.1, .fr (α := (List Int)) t.2.2.1, .fr (α := Int) s229, .un]) (Γb := fun (y230 : Int) (s229 : Int) => [.fr (α := (List (List Int))) t.1, .fr (α := Int) t.2.1, .fr (α := (List Int)) t.2.2.1, .fr (α := Int) s229, .fr (α := Int) y230]) (is := [4]) C.hX.calm fr (he := rfl) ?_ ?_ ?_ fun s229 => ?_
  · exact (ei_list (ev_var (md := true) n2 rfl rfl))
  · exact fun y230 s229 => (eg_name (α := Int) l4 rfl (fun _ => rfl))
  · intro H1 sH N y230 s229
    replace fr := fr.up sH
    replace hR := hR.up sH
    refine w_asg (α := Int) (Γ' := fun y233 : Int => [.fr (α := (List (List Int))) t.1, .fr (α := Int) t.2.1, .fr (α := (List Int)) t.2.2.1, .fr (α := Int) y233, .fr (α := Int) y230]) fr l3 (he := rfl) ?_ fun y233 => ?_
    · exact (ev_add (ma := true) (mb := true) (md := true) (ev_var (md := true) n3 rfl rfl) (ev_ixL (md := true) (mb := true) (ev_ixL (md := true) (mb := true) (ev_var (md := true) n0 rfl rfl) (ev_var (md := true) n1 rfl rfl) rfl) (ev_var (md := true) n4 rfl rfl) rfl) rfl)
    exact w_end (s := y233) [4] rfl rfl
  exact w_ret (m1 := (.ok s229)) (g := fun z => z) fr hR (ev_var (md := true) n3 rfl rfl) (fun _ h => h) rfl
theorem gd_law_ties_to {P : Program} {w : World} {K : PySem.W.Frag} {mg : PySem.Str → Option Value} {base : Heap} (fc : Fac fe fa fn K mg) : Gd P w K mg base "_law_ties_to" (spF K (τ := (List (List Int)) × Int × (List Int) × Unit) (ρ := Int) 3 m_law_ties_to) 3 1 :=
  gd_F 11 17 fc rfl rfl sc_law_ties_to rfl bn_law_ties_to fun X _ _ _ _ _ C H0 qs rt A B fr hR t => b_law_ties_to (by omega) X C H0 qs rt A B fr hR t
theorem sc_law_queue : FnScope ["rows", "standing", "house", "row", "joins", "other"] ["rows", "standing", "house"] dd__law_queue.scope := ⟨rfl, rfl, rfl, by decide +kernel, rfl, by decide +kernel, by decide +kernel⟩
theorem bn_law_queue : BindE dd__law_queue ["rows", "standing", "house"] := fun _ _ _ _ _ _ us hl => match us, hl with | [_, _, _], _ => rfl
theorem b_law_queue {k : Nat} (hk : 1 ≤ k) (X : Cx) (C : Cb fe fa fn X (["rows", "standing", "house", "row", "joins", "other"] : List PySem.Str) dd__law_queue.scope k) (H0 : Hp) (qs : List Addr) (rt : VK) (A : (List Int) → Prop) (B : Exc → Prop) (fr : Fr X H0 B) (hR : RtO (ρ := Int) X H0 qs rt A) (t : (List (List Int)) × (List Int) × Int × Unit) :
    W X H0 qs rt (fun _ H => rt .non H) A B [.fr (α := (List (List Int))) t.1, .fr (α := (List Int)) t.2.1, .fr (α := Int) t.2.2.1, .un, .un, .un] dd__law_queue.body (m_law_queue t) := by
  have n0 : Nm X 0 "rows" := nm_mk C.hX.toXN (by decide +kernel)
  have n1 : Nm X 1 "standing" := nm_mk C.hX.toXN (by decide +kernel)
  have n2 : Nm X 2 "house" := nm_mk C.hX.toXN (by decide +kernel)
  have n3 : Nm X 3 "row" := nm_mk C.hX.toXN (by decide +kernel)
  have n4 : Nm X 4 "joins" := nm_mk C.hX.toXN (by decide +kernel)
  have n5 : Nm X 5 "other" := nm_mk C.hX.toXN (by decide +kernel)
  have l3 : Lc X 3 "row" := lc_mk C.hX.toXN (by decide +kernel)
  have l4 : Lc X 4 "joins" := lc_mk C.hX.toXN (by decide +kernel)
  have l5 : Lc X 5 "other" := lc_mk C.hX.toXN (by decide +kernel)
  have g__law_ties_to : Gn X "_law_ties_to" := gn_mk C.hX.toXN (by decide +kernel)
  have g_len : Gn X "len" := gn_mk C.hX.toXN (by decide +kernel)
  have g_range : Gn X "range" := gn_mk C.hX.toXN (by decide +kernel)
  have f_len : X.mg "len" = none := C.fc.free 21
  have f_range : X.mg "range" = none := C.fc.free 22
  have d_law_ties_to : Dn X "_law_ties_to" (spF X.K (τ := (List (List Int)) × Int × (List Int) × Unit) (ρ := Int) 3 m_law_ties_to) 3 := (gd_law_ties_to C.fc).dn C.rm (by omega)
  refine w_asgO (α := Int) (Γ' := fun y222 : (List Int) => [.fr (α := (List (List Int))) t.1, .fr (α := (List Int)) t.2.1, .fr (α := Int) t.2.2.1, .ow (α := Int) y222, .un, .un]) fr l3 (he := rfl) ?_ fun y222 => ?_
  · exact (ev_lst (md := true) (el_cons (md := true) (ev_var (md := true) n2 rfl rfl) (el_nil (α := Int) rfl) rfl))
  refine w_asgO (α := Int) (Γ' := fun y223 : (List Int) => [.fr (α := (List (List Int))) t.1, .fr (α := (List Int)) t.2.1, .fr (α := Int) t.2.2.1, .ow (α := Int) y222, .ow (α := Int) y223, .un]) fr l4 (he := rfl) ?_ fun y223 => ?_
  · exact (ev_lst (md := true) (el_cons (md := true) (ev_var (md := true) n2 rfl rfl) (el_nil (α := Int) rfl) rfl))
  refine w_while (S := ((List Int) × (List Int))) (tc := (fun s224 => (.ok (!pyEq s224.2 ([] : (List Int)))))) (bd := (fun s224 => (((.ok ([] : (List Int))) : R (List Int)).bind fun y225 => (((rngR 0 (t.1.length : Int)) : R _).bind fun x241 => (R.bind (forR (fun y227 s226 => (((if (!decide (y227 ∈ s224.1)) = true then (((ixR t.2.1 y227) : R _).bind fun x234 => (((m_law_ties_to (t.1, y227, s224.1, ())) : R _).bind fun x235 => (.ok (decide (x234 < x235))))) else R.ok false) : R Bool).bind fun c239 => R.bind (if c239 = true then ((appR s226 y227).bind fun y237 => (.ok y237)) else (.ok s226)) fun s236 : (List Int) => (.ok s236))) x241 y225) fun s226 : (List Int) => (((catR s224.1 (cutL s226 none (some (1 : Int)))) : R (List Int)).bind fun y240 => (.ok (y240, s226)))))))) (n := fuel) (s0 := (y222, y223)) (Γs := fun s224 : ((List Int) × (List Int)) => [.fr (α := (List (List Int))) t.1, .fr (α := (List Int)) t.2.1, .fr (α := Int) t.2.2.1, .ow (α := Int) s224.1, .ow (α := Int) s224.2, .un]) C.hX.calm fr (he := rfl) ?_ ?_ fun s224 => ?_
  · exact fun s224 => (et_ne (α := (List Int)) (ma := false) (mb := true) C.hu (ev_own n4 rfl rfl) (EvO.fz (ev_lst (md := true) (el_nil (α := Int) rfl))) rfl)
  · intro N s224
    refine w_asgO (α := Int) (Γ' := fun y225 : (List Int) => [.fr (α := (List (List Int))) t.1, .fr (α := (List Int)) t.2.1, .fr (α := Int) t.2.2.1, .ow (α := Int) s224.1, .ow (α := Int) y225, .un]) fr l4 (he := rfl) ?_ fun y225 => ?_
    · exact (ev_lst (md := true) (el_nil (α := Int) rfl))
    refine w_for (α := Int) (S := (List Int)) (mx := (rngR 0 (t.1.length : Int))) (bd := (fun y227 s226 => (((if (!decide (y227 ∈ s224.1)) = true then (((ixR t.2.1 y227) : R _).bind fun x234 => (((m_law_ties_to (t.1, y227, s224.1, ())) : R _).bind fun x235 => (.ok (decide (x234 < x235))))) else R.ok false) : R Bool).bind fun c239 => R.bind (if c239 = true then ((appR s226 y227).bind fun y237 => (.ok y237)) else (.ok s226)) fun s236 : (List Int) => (.ok s236)))) (s0 := y225) (Γs := fun s226 : (List Int) => [.fr (α := (List (List Int))) t.1, .fr (α := (List Int)) t.2.1, .fr (α := Int) t.2.2.1, .ow (α := Int) s224.1, .ow (α := Int) s226, .un]) (Γb := fun (y227 : Int) (s226 : (List Int)) => [.fr (α := (List (List Int))) t.1, .fr (α := (List Int)) t.2.1, .fr (α := Int) t.2.2.1, .ow (α := Int) s224.1, .ow (α := Int) s226, .fr (α := Int) y227]) (is := [5]) C.hX.calm fr (he := rfl) ?_ ?_ ?_ fun s226 => ?_
    · exact (ei_range1 (ma := true) g_range f_range (ev_lenL (ma := true) (md := true) g_len f_len (ev_var (md := true) n0 rfl rfl) rfl) rfl)
    · exact fun y227 s226 => (eg_name (α := Int) l5 rfl (fun _ => rfl))
    · intro H1 sH N y227 s226
      replace fr := fr.up sH
      replace hR := hR.up sH
      refine w_ifJ (S := (List Int)) (mc := (if (!decide (y227 ∈ s224.1)) = true then (((ixR t.2.1 y227) : R _).bind fun x234 => (((m_law_ties_to (t.1, y227, s224.1, ())) : R _).bind fun x235 => (.ok (decide (x234 < x235))))) else R.ok false)) (ma := ((appR s226 y227).bind fun y237 => (.ok y237))) (mb := (.ok s226)) (Γs := fun s236 : (List Int) => [.fr (α := (List (List Int))) t.1, .fr (α := (List Int)) t.2.1, .fr (α := Int) t.2.2.1, .ow (α := Int) s224.1, .ow (α := Int) s236, .fr (α := Int) y227]) fr (EvW.t (ew_and (et_niL (ma := true) (mb := false) (ev_var (md := true) n5 rfl rfl) (ev_own n3 rfl rfl) rfl) (ew_and1 (et_lt (ma := true) (mb := true) (ev_ixL (md := true) (mb := true) (ev_var (md := true) n1 rfl rfl) (ev_var (md := true) n5 rfl rfl) rfl) (Ev.flat (ma := false) (ev_call (md := false) d_law_ties_to g__law_ties_to (ea_cons (md := false) (ev_var (md := false) n0 rfl rfl) (ea_cons (md := false) (ev_var (md := false) n5 rfl rfl) (ea_cons (md := false) (ev_own n3 rfl rfl) (ea_nil (md := false) rfl) rfl) rfl) rfl) rfl rfl)) rfl)) rfl)) ?_ ?_ (he := rfl) fun s236 => ?_
      · intro N
        refine w_append (α := Int) (m1 := (.ok y227)) (Γ' := fun y237 : (List Int) => [.fr (α := (List (List Int))) t.1, .fr (α := (List Int)) t.2.1, .fr (α := Int) t.2.2.1, .ow (α := Int) s224.1, .ow (α := Int) y237, .fr (α := Int) y227]) fr n4 rfl ?_ (he := rfl) fun y237 => ?_
        · exact (ev_var (md := true) n5 rfl rfl)
        exact w_end (s := y237) [] rfl rfl
      · intro N
        exact w_end (s := s226) [] rfl rfl
      exact w_end (s := s236) [5] rfl rfl
    refine w_asgO (α := Int) (Γ' := fun y240 : (List Int) => [.fr (α := (List (List Int))) t.1, .fr (α := (List Int)) t.2.1, .fr (α := Int) t.2.2.1, .ow (α := Int) y240, .ow (α := Int) s226, .un]) fr l3 (he := rfl) ?_ fun y240 => ?_
    · exact (EvO.flat (ma := false) (ev_cat (md := false) (ev_own n3 rfl rfl) (EvO.fz (ev_cut (md := false) (ev_own n4 rfl rfl) ep_no (ep_of (ma := true) (ev_int (md := true) rfl) rfl) rfl)) rfl))
    exact w_end (s := (y240, s226)) [] rfl rfl
  exact w_retV (g := fun z => z) fr hR n3 rfl (fun _ h => h) rfl
theorem gd_law_queue {P : Program} {w : World} {K : PySem.W.Frag} {mg : PySem.Str → Option Value} {base : Heap} (fc : Fac fe fa fn K mg) : Gd P w K mg base "_law_queue" (spO K (τ := (List (List Int)) × (List Int) × Int × Unit) (ρ := Int) 3 m_law_queue) 3 2 :=
  gd_O 12 18 fc rfl rfl sc_law_queue rfl bn_law_queue fun X _ _ _ _ _ C H0 qs rt A B fr hR t => b_law_queue (by omega) X C H0 qs rt A B fr hR t
theorem sc_law_can_lend : FnScope ["rows", "standing", "group", "away", "one"] ["rows", "standing", "group"] dd__law_can_lend.scope := ⟨rfl, rfl, rfl, by decide +kernel, rfl, by decide +kernel, by decide +kernel⟩
theorem bn_law_can_lend : BindE dd__law_can_lend ["rows", "standing", "group"] := fun _ _ _ _ _ _ us hl => match us, hl with | [_, _, _], _ => rfl
theorem b_law_can_lend {k : Nat} (hk : 1 ≤ k) (X : Cx) (C : Cb fe fa fn X (["rows", "standing", "group", "away", "one"] : List PySem.Str) dd__law_can_lend.scope k) (H0 : Hp) (qs : List Addr) (rt : VK) (A : Bool → Prop) (B : Exc → Prop) (fr : Fr X H0 B) (hR : RtF (ρ := Bool) X H0 qs rt A) (t : (List (List Int)) × (List Int) × (List Int) × Unit) :
    W X H0 qs rt (fun _ H => rt .non H) A B [.fr (α := (List (List Int))) t.1, .fr (α := (List Int)) t.2.1, .fr (α := (List Int)) t.2.2.1, .un, .un] dd__law_can_lend.body (m_law_can_lend t) := by
  have n0 : Nm X 0 "rows" := nm_mk C.hX.toXN (by decide +kernel)
  have n1 : Nm X 1 "standing" := nm_mk C.hX.toXN (by decide +kernel)
  have n2 : Nm X 2 "group" := nm_mk C.hX.toXN (by decide +kernel)
  have n3 : Nm X 3 "away" := nm_mk C.hX.toXN (by decide +kernel)
  have n4 : Nm X 4 "one" := nm_mk C.hX.toXN (by decide +kernel)
  have l3 : Lc X 3 "away" := lc_mk C.hX.toXN (by decide +kernel)
  have l4 : Lc X 4 "one" := lc_mk C.hX.toXN (by decide +kernel)
  have g__law_ties_to : Gn X "_law_ties_to" := gn_mk C.hX.toXN (by decide +kernel)
  have g_len : Gn X "len" := gn_mk C.hX.toXN (by decide +kernel)
  have g_range : Gn X "range" := gn_mk C.hX.toXN (by decide +kernel)
  have f_len : X.mg "len" = none := C.fc.free 21
  have f_range : X.mg "range" = none := C.fc.free 22
  have d_law_ties_to : Dn X "_law_ties_to" (spF X.K (τ := (List (List Int)) × Int × (List Int) × Unit) (ρ := Int) 3 m_law_ties_to) 3 := (gd_law_ties_to C.fc).dn C.rm (by omega)
  refine w_asgCf (α := Int) (Γ' := fun y256 : (List Int) => [.fr (α := (List (List Int))) t.1, .fr (α := (List Int)) t.2.1, .fr (α := (List Int)) t.2.2.1, .fr (α := (List Int)) y256, .un]) fr l3 (by rw [C.hX.hs]; decide +kernel) C.kd (he := rfl) ?_ fun y256 => ?_
  · exact (ec_filt (mi := true) (α := Int) (β := Int) (mx := (rngR 0 (t.1.length : Int))) (t := fun y250 => (.ok (!decide (y250 ∈ t.2.2.1)))) (g := fun y250 => (.ok y250)) (own := [("one", 4)]) (Γx := fun y250 : Int => [.fr (α := (List (List Int))) t.1, .fr (α := (List Int)) t.2.1, .fr (α := (List Int)) t.2.2.1, .un, .fr (α := Int) y250]) (is := [4]) C.hX (ei_range1 (ma := true) g_range f_range (ev_lenL (ma := true) (md := true) g_len f_len (ev_var (md := true) n0 rfl rfl) rfl) rfl) (.inl rfl) (by decide +kernel) (no1 (fun _ => rfl)) (by decide) (fun X252 b251 y250 => have h253 := b251.ok C.hX; (eg_name (α := Int) (lc_mk (i := 4) (x := "one") h253.toXN (by decide +kernel)) rfl (fun _ => rfl))) (fun X252 b251 D254 y250 => have h253 := b251.ok C.hX; (et_niL (ma := true) (mb := true) (ev_var (md := true) (nm_mk (i := 4) (x := "one") h253.toXN (by decide +kernel)) rfl rfl) (ev_var (md := true) (nm_mk (i := 2) (x := "group") h253.toXN (by decide +kernel)) rfl rfl) rfl)) (fun X252 b251 D254 y250 => have h253 := b251.ok C.hX; (ev_var (md := true) (nm_mk (i := 4) (x := "one") h253.toXN (by decide +kernel)) rfl rfl)) rfl)
  refine w_forM (α := Int) (S := Unit) (mx := (.ok t.2.2.1)) (bd := (fun y258 s257 => (((((ixR t.2.1 y258) : R _).bind fun x259 => (((m_law_ties_to (t.1, y258, y256, ())) : R _).bind fun x260 => (.ok (decide (x259 < x260))))) : R Bool).bind fun c261 => if c261 = true then (.ok (.rt false)) else (.ok (.nx ()))))) (s0 := ()) (Γs := fun s257 : Unit => [.fr (α := (List (List Int))) t.1, .fr (α := (List Int)) t.2.1, .fr (α := (List Int)) t.2.2.1, .fr (α := (List Int)) y256, .un]) (Γb := fun (y258 : Int) (s257 : Unit) => [.fr (α := (List (List Int))) t.1, .fr (α := (List Int)) t.2.1, .fr (α := (List Int)) t.2.2.1, .fr (α := (List Int)) y256, .fr (α := Int) y258]) (is := [4]) C.hX.calm fr (he := rfl) ?_ ?_ ?_ fun s257 => ?_
  · exact (ei_list (ev_var (md := true) n2 rfl rfl))
  · exact fun y258 s257 => (eg_name (α := Int) l4 rfl (fun _ => rfl))
  · intro H1 sH N y258 s257
    replace fr := fr.up sH
    replace hR := hR.up sH
    refine w_ifR (mc := (((ixR t.2.1 y258) : R _).bind fun x259 => (((m_law_ties_to (t.1, y258, y256, ())) : R _).bind fun x260 => (.ok (decide (x259 < x260)))))) fr (et_lt (ma := true) (mb := true) (ev_ixL (md := true) (mb := true) (ev_var (md := true) n1 rfl rfl) (ev_var (md := true) n4 rfl rfl) rfl) (ev_call (md := true) d_law_ties_to g__law_ties_to (ea_cons (md := true) (ev_var (md := true) n0 rfl rfl) (ea_cons (md := true) (ev_var (md := true) n4 rfl rfl) (ea_cons (md := true) (ev_var (md := true) n3 rfl rfl) (ea_nil (md := true) rfl) rfl) rfl) rfl) rfl rfl) rfl) (fun nx' => ?_) ?_ (he := rfl)
    · skip
      exact w_ret (m1 := (.ok false)) (g := fun z => .rt z) fr hR (ev_bool (md := true) rfl) (fun _ h => h) rfl
    exact w_endM (s := ()) [4] rfl rfl
  exact w_ret (m1 := (.ok true)) (g := fun z => z) fr hR (ev_bool (md := true) rfl) (fun _ h => h) rfl
theorem gd_law_can_lend {P : Program} {w : World} {K : PySem.W.Frag} {mg : PySem.Str → Option Value} {base : Heap} (fc : Fac fe fa fn K mg) : Gd P w K mg base "_law_can_lend" (spF K (τ := (List (List Int)) × (List Int) × (List Int) × Unit) (ρ := Bool) 3 m_law_can_lend) 3 2 :=
  gd_F 13 19 fc rfl rfl sc_law_can_lend rfl bn_law_can_lend fun X _ _ _ _ _ C H0 qs rt A B fr hR t => b_law_can_lend (by omega) X C H0 qs rt A B fr hR t
theorem sc_law : FnScope ["script", "web", "rows", "standing", "house", "handed", "found", "row", "cell", "group", "one", "other"] ["script"] dd_law.scope := ⟨rfl, rfl, rfl, by decide +kernel, rfl, by decide +kernel, by decide +kernel⟩
theorem bn_law : BindE dd_law ["script"] := fun _ _ _ _ _ _ us hl => match us, hl with | [_], _ => rfl
theorem b_law {k : Nat} (hk : 3 ≤ k) (X : Cx) (C : Cb fe fa fn X (["script", "web", "rows", "standing", "house", "handed", "found", "row", "cell", "group", "one", "other"] : List PySem.Str) dd_law.scope k) (H0 : Hp) (qs : List Addr) (rt : VK) (A : Bool → Prop) (B : Exc → Prop) (fr : Fr X H0 B) (hR : RtF (ρ := Bool) X H0 qs rt A) (t : Scr × Unit) :
    W X H0 qs rt (fun _ H => rt .non H) A B [.fr (α := Scr) t.1, .un, .un, .un, .un, .un, .un, .un, .un, .un, .un, .un] dd_law.body (m_law t) := by
  have n0 : Nm X 0 "script" := nm_mk C.hX.toXN (by decide +kernel)
  have n1 : Nm X 1 "web" := nm_mk C.hX.toXN (by decide +kernel)
  have n2 : Nm X 2 "rows" := nm_mk C.hX.toXN (by decide +kernel)
  have n3 : Nm X 3 "standing" := nm_mk C.hX.toXN (by decide +kernel)
  have n4 : Nm X 4 "house" := nm_mk C.hX.toXN (by decide +kernel)
  have n5 : Nm X 5 "handed" := nm_mk C.hX.toXN (by decide +kernel)
  have n6 : Nm X 6 "found" := nm_mk C.hX.toXN (by decide +kernel)
  have n9 : Nm X 9 "group" := nm_mk C.hX.toXN (by decide +kernel)
  have l1 : Lc X 1 "web" := lc_mk C.hX.toXN (by decide +kernel)
  have l2 : Lc X 2 "rows" := lc_mk C.hX.toXN (by decide +kernel)
  have l3 : Lc X 3 "standing" := lc_mk C.hX.toXN (by decide +kernel)
  have l4 : Lc X 4 "house" := lc_cell C.hX.toXN (C.fnt _) (by decide +kernel)
  have l5 : Lc X 5 "handed" := lc_mk C.hX.toXN (by decide +kernel)
  have l6 : Lc X 6 "found" := lc_cell C.hX.toXN (C.fnt _) (by decide +kernel)
  have l7 : Lc X 7 "row" := lc_cell C.hX.toXN (C.fnt _) (by decide +kernel)
  have l8 : Lc X 8 "cell" := lc_cell C.hX.toXN (C.fnt _) (by decide +kernel)
  have l9 : Lc X 9 "group" := lc_mk C.hX.toXN (by decide +kernel)
  have g__law_can_lend : Gn X "_law_can_lend" := gn_mk C.hX.toXN (by decide +kernel)
  have g__law_cell_at : Gn X "_law_cell_at" := gn_mk C.hX.toXN (by decide +kernel)
  have g__law_queue : Gn X "_law_queue" := gn_mk C.hX.toXN (by decide +kernel)
  have g__law_rows : Gn X "_law_rows" := gn_mk C.hX.toXN (by decide +kernel)
  have g__law_standing : Gn X "_law_standing" := gn_mk C.hX.toXN (by decide +kernel)
  have g__law_web : Gn X "_law_web" := gn_mk C.hX.toXN (by decide +kernel)
  have g_all : Gn X "all" := gn_mk C.hX.toXN (by decide +kernel)
  have g_isinstance : Gn X "isinstance" := gn_mk C.hX.toXN (by decide +kernel)
  have g_list : Gn X "list" := gn_mk C.hX.toXN (by decide +kernel)
  have g_outside : Gn X "outside" := gn_mk C.hX.toXN (by decide +kernel)
  have g_range : Gn X "range" := gn_mk C.hX.toXN (by decide +kernel)
  have f_all : X.mg "all" = none := C.fc.free 30
  have f_isinstance : X.mg "isinstance" = none := C.fc.free 24
  have f_list : X.mg "list" = none := C.fc.free 23
  have f_range : X.mg "range" = none := C.fc.free 22
  have d_law_web : Dn X "_law_web" (spF X.K (τ := Scr × Unit) (ρ := (Int × (Tu (Int × Int)))) 1 m_law_web) 1 := (gd_law_web C.fc).dn C.rm (by omega)
  have d_law_rows : Dn X "_law_rows" (spF X.K (τ := (Int × (Tu (Int × Int))) × Unit) (ρ := (List (List Int))) 1 m_law_rows) 1 := (gd_law_rows C.fc).dn C.rm (by omega)
  have d_law_standing : Dn X "_law_standing" (spO X.K (τ := Scr × Int × Unit) (ρ := Int) 2 m_law_standing) 2 := (gd_law_standing C.fc).dn C.rm (by omega)
  have d_law_cell_at : Dn X "_law_cell_at" (spF X.K (τ := Scr × Int × Unit) (ρ := Int) 2 m_law_cell_at) 2 := (gd_law_cell_at C.fc).dn C.rm (by omega)
  have d_outside : Dn X "outside" (spO X.K (τ := (Int × (Tu (Int × Int))) × (List Int) × Int × Unit) (ρ := Int) 3 m_outside) 3 := (gd_outside C.fc).dn C.rm (by omega)
  have d_law_whole : Dn X "_law_whole" (spF X.K (τ := Int × Unit) (ρ := Bool) 1 m_law_whole) 1 := (gd_law_whole C.fc).dn C.rm (by omega)
  have d_law_queue : Dn X "_law_queue" (spO X.K (τ := (List (List Int)) × (List Int) × Int × Unit) (ρ := Int) 3 m_law_queue) 3 := (gd_law_queue C.fc).dn C.rm (by omega)
  have d_law_can_lend : Dn X "_law_can_lend" (spF X.K (τ := (List (List Int)) × (List Int) × (List Int) × Unit) (ρ := Bool) 3 m_law_can_lend) 3 := (gd_law_can_lend C.fc).dn C.rm (by omega)
  refine w_asg (α := (Int × (Tu (Int × Int)))) (Γ' := fun y72 : (Int × (Tu (Int × Int))) => [.fr (α := Scr) t.1, .fr (α := (Int × (Tu (Int × Int)))) y72, .un, .un, .un, .un, .un, .un, .un, .un, .un, .un]) fr l1 (he := rfl) ?_ fun y72 => ?_
  · exact (ev_call (md := true) d_law_web g__law_web (ea_cons (md := true) (ev_var (md := true) n0 rfl rfl) (ea_nil (md := true) rfl) rfl) rfl rfl)
  refine w_asg (α := (List (List Int))) (Γ' := fun y101 : (List (List Int)) => [.fr (α := Scr) t.1, .fr (α := (Int × (Tu (Int × Int)))) y72, .fr (α := (List (List Int))) y101, .un, .un, .un, .un, .un, .un, .un, .un, .un]) fr l2 (he := rfl) ?_ fun y101 => ?_
  · exact (ev_call (md := true) d_law_rows g__law_rows (ea_cons (md := true) (ev_var (md := true) n1 rfl rfl) (ea_nil (md := true) rfl) rfl) rfl rfl)
  refine w_asg (α := (List Int)) (Γ' := fun y144 : (List Int) => [.fr (α := Scr) t.1, .fr (α := (Int × (Tu (Int × Int)))) y72, .fr (α := (List (List Int))) y101, .fr (α := (List Int)) y144, .un, .un, .un, .un, .un, .un, .un, .un]) fr l3 (he := rfl) ?_ fun y144 => ?_
  · exact (EvO.fz (ev_callO (md := true) d_law_standing g__law_standing (ea_cons (md := true) (ev_var (md := true) n0 rfl rfl) (ea_cons (md := true) (ev_ixP (md := true) ix20 (ev_var (md := true) n1 rfl rfl) (ev_int (md := true) rfl) rfl) (ea_nil (md := true) rfl) rfl) rfl) rfl rfl))
  refine w_asg (α := Int) (Γ' := fun y146 : Int => [.fr (α := Scr) t.1, .fr (α := (Int × (Tu (Int × Int)))) y72, .fr (α := (List (List Int))) y101, .fr (α := (List Int)) y144, .fr (α := Int) y146, .un, .un, .un, .un, .un, .un, .un]) fr l4 (he := rfl) ?_ fun y146 => ?_
  · exact (ev_mod (ma := true) (mb := true) (md := true) (ev_call (md := true) d_law_cell_at g__law_cell_at (ea_cons (md := true) (ev_var (md := true) n0 rfl rfl) (ea_cons (md := true) (ev_int (md := true) rfl) (ea_nil (md := true) rfl) rfl) rfl) rfl rfl) (ev_ixP (md := true) ix20 (ev_var (md := true) n1 rfl rfl) (ev_int (md := true) rfl) rfl) rfl)
  refine w_asg (α := (List Int)) (Γ' := fun y147 : (List Int) => [.fr (α := Scr) t.1, .fr (α := (Int × (Tu (Int × Int)))) y72, .fr (α := (List (List Int))) y101, .fr (α := (List Int)) y144, .fr (α := Int) y146, .fr (α := (List Int)) y147, .un, .un, .un, .un, .un, .un]) fr l5 (he := rfl) ?_ fun y147 => ?_
  · exact (EvO.fz (ev_listL (md := true) g_list f_list (ev_var (md := true) n3 rfl rfl) rfl))
  refine w_asg (α := (List Int)) (Γ' := fun y213 : (List Int) => [.fr (α := Scr) t.1, .fr (α := (Int × (Tu (Int × Int)))) y72, .fr (α := (List (List Int))) y101, .fr (α := (List Int)) y144, .fr (α := Int) y146, .fr (α := (List Int)) y147, .fr (α := (List Int)) y213, .un, .un, .un, .un, .un]) fr l6 (he := rfl) ?_ fun y213 => ?_
  · exact (EvO.fz (ev_callO (md := true) d_outside g_outside (ea_cons (md := true) (ev_var (md := true) n1 rfl rfl) (ea_cons (md := true) (ev_var (md := true) n5 rfl rfl) (ea_cons (md := true) (ev_var (md := true) n4 rfl rfl) (ea_nil (md := true) rfl) rfl) rfl) rfl) rfl rfl))
  refine w_ifR (mc := (if (!true) = true then R.ok true else (if (!pyEq y147 y144) = true then R.ok true else (((((mapR (fun y214 => (m_law_whole (y214, ()))) y213) : R _).bind fun x220 => (.ok (List.all x220 id))) : R _).bind fun x221 => (.ok (!x221)))))) fr (EvW.t (ew_or (et_not (et_val (md := true) (ev_isi (ma := true) (md := true) (n := "list") (c := true) g_isinstance f_isinstance g_list f_list (by decide +kernel) (by decide +kernel) (ev_var (md := true) n6 rfl rfl) rfl)) rfl) (ew_or (et_ne (α := (List Int)) (ma := true) (mb := true) C.hu (ev_var (md := true) n5 rfl rfl) (ev_var (md := true) n3 rfl rfl) rfl) (ew_or1 (et_not (et_val (md := true) (ev_all (ma := true) (md := true) C.hX.calm g_all f_all (EvO.fz (ev_map (mi := true) (α := Int) (β := Bool) (mx := (.ok y213)) (g := (fun y214 => (m_law_whole (y214, ())))) (own := [("one", 10)]) (Γx := fun y214 : Int => [.fr (α := Scr) t.1, .fr (α := (Int × (Tu (Int × Int)))) y72, .fr (α := (List (List Int))) y101, .fr (α := (List Int)) y144, .fr (α := Int) y146, .fr (α := (List Int)) y147, .fr (α := (List Int)) y213, .un, .un, .un, .fr (α := Int) y214, .un]) (is := [10]) C.hX (ei_list (ev_var (md := true) n6 rfl rfl)) (.inl rfl) (by decide +kernel) (no1 (fun _ => rfl)) (by decide) (fun X216 b215 y214 => have h217 := b215.ok C.hX; (eg_name (α := Int) (lc_mk (i := 10) (x := "one") h217.toXN (by decide +kernel)) rfl (fun _ => rfl))) (fun X216 b215 D218 y214 => have h217 := b215.ok C.hX; (ev_call (md := true) (b215.dnF d_law_whole) (gn_mk (x := "_law_whole") h217.toXN (by decide +kernel)) (ea_cons (md := true) (ev_var (md := true) (nm_mk (i := 10) (x := "one") h217.toXN (by decide +kernel)) rfl rfl) (ea_nil (md := true) rfl) rfl) rfl rfl)) rfl)) rfl)) rfl)) rfl) rfl)) (fun nx' => ?_) ?_ (he := rfl)
  · skip
    exact w_ret (m1 := (.ok false)) (g := fun z => z) fr hR (ev_bool (md := true) rfl) (fun _ h => h) rfl
  refine w_asg (α := (List Int)) (Γ' := fun y242 : (List Int) => [.fr (α := Scr) t.1, .fr (α := (Int × (Tu (Int × Int)))) y72, .fr (α := (List (List Int))) y101, .fr (α := (List Int)) y144, .fr (α := Int) y146, .fr (α := (List Int)) y147, .fr (α := (List Int)) y213, .fr (α := (List Int)) y242, .un, .un, .un, .un]) fr l7 (he := rfl) ?_ fun y242 => ?_
  · exact (EvO.fz (ev_callO (md := true) d_law_queue g__law_queue (ea_cons (md := true) (ev_var (md := true) n2 rfl rfl) (ea_cons (md := true) (ev_var (md := true) n3 rfl rfl) (ea_cons (md := true) (ev_var (md := true) n4 rfl rfl) (ea_nil (md := true) rfl) rfl) rfl) rfl) rfl rfl))
  refine w_ifR (mc := (((((rngR 0 y72.1) : R _).bind fun x248 => (compR (fun y243 => (if (!decide (y243 ∈ y242)) = true then (R.ok (some y243)) else R.ok none)) x248)) : R _).bind fun x249 => (.ok (!pyEq y213 x249)))) fr (et_ne (α := (List Int)) (ma := true) (mb := true) C.hu (ev_var (md := true) n6 rfl rfl) (EvO.fz (ev_filt (mi := true) (α := Int) (β := Int) (mx := (rngR 0 y72.1)) (t := fun y243 => (.ok (!decide (y243 ∈ y242)))) (g := fun y243 => (.ok y243)) (own := [("other", 11)]) (Γx := fun y243 : Int => [.fr (α := Scr) t.1, .fr (α := (Int × (Tu (Int × Int)))) y72, .fr (α := (List (List Int))) y101, .fr (α := (List Int)) y144, .fr (α := Int) y146, .fr (α := (List Int)) y147, .fr (α := (List Int)) y213, .fr (α := (List Int)) y242, .un, .un, .un, .fr (α := Int) y243]) (is := [11]) C.hX (ei_range1 (ma := true) g_range f_range (ev_ixP (md := true) ix20 (ev_var (md := true) n1 rfl rfl) (ev_int (md := true) rfl) rfl) rfl) (.inl rfl) (by decide +kernel) (no1 (fun _ => rfl)) (by decide) (fun X245 b244 y243 => have h246 := b244.ok C.hX; (eg_name (α := Int) (lc_mk (i := 11) (x := "other") h246.toXN (by decide +kernel)) rfl (fun _ => rfl))) (fun X245 b244 D247 y243 => have h246 := b244.ok C.hX; (et_niL (ma := true) (mb := true) (ev_var (md := true) (nm_mk (i := 11) (x := "other") h246.toXN (by decide +kernel)) rfl rfl) (ev_var (md := true) (nm_mk (i := 7) (x := "row") h246.toXN (by decide +kernel)) rfl rfl) rfl)) (fun X245 b244 D247 y243 => have h246 := b244.ok C.hX; (ev_var (md := true) (nm_mk (i := 11) (x := "other") h246.toXN (by decide +kernel)) rfl rfl)) rfl)) rfl) (fun nx' => ?_) ?_ (he := rfl)
  · skip
    exact w_ret (m1 := (.ok false)) (g := fun z => z) fr hR (ev_bool (md := true) rfl) (fun _ h => h) rfl
  refine w_ifR (mc := (((m_law_can_lend (y101, y144, y213, ())) : R _).bind fun x262 => (.ok (!x262)))) fr (et_not (et_val (md := true) (ev_call (md := true) d_law_can_lend g__law_can_lend (ea_cons (md := true) (ev_var (md := true) n2 rfl rfl) (ea_cons (md := true) (ev_var (md := true) n3 rfl rfl) (ea_cons (md := true) (ev_var (md := true) n6 rfl rfl) (ea_nil (md := true) rfl) rfl) rfl) rfl) rfl rfl)) rfl) (fun nx' => ?_) ?_ (he := rfl)
  · skip
    exact w_ret (m1 := (.ok false)) (g := fun z => z) fr hR (ev_bool (md := true) rfl) (fun _ h => h) rfl
  refine w_forM (α := Int) (S := Unit) (mx := (.ok ((t.1).l))) (bd := (fun y264 s263 => (((((rngR 0 y72.1) : R _).bind fun x273 => (compR (fun y265 => (((if (!pyEq y265 y146) = true then (((((shrR y264 y265) : R _).bind fun x270 => (.ok (Builtin.bitAnd x270 (1 : Int)))) : R _).bind fun x271 => (.ok (pyEq x271 (1 : Int)))) else R.ok false) : R _).bind fun x272 => (if x272 = true then (R.ok (some y265)) else R.ok none))) x273)) : R (List Int)).bind fun y274 => (((((m_law_can_lend (y101, y144, y274, ())) : R _).bind fun x281 => (if x281 = true then (((compR (fun y275 => (if (!decide (y275 ∈ y213)) = true then (R.ok (some y275)) else R.ok none)) y274) : R _).bind fun x280 => (.ok (!pyEq x280 ([] : (List Int))))) else R.ok false)) : R Bool).bind fun c282 => if c282 = true then (.ok (.rt false)) else (.ok (.nx ())))))) (s0 := ()) (Γs := fun s263 : Unit => [.fr (α := Scr) t.1, .fr (α := (Int × (Tu (Int × Int)))) y72, .fr (α := (List (List Int))) y101, .fr (α := (List Int)) y144, .fr (α := Int) y146, .fr (α := (List Int)) y147, .fr (α := (List Int)) y213, .fr (α := (List Int)) y242, .un, .un, .un, .un]) (Γb := fun (y264 : Int) (s263 : Unit) => [.fr (α := Scr) t.1, .fr (α := (Int × (Tu (Int × Int)))) y72, .fr (α := (List (List Int))) y101, .fr (α := (List Int)) y144, .fr (α := Int) y146, .fr (α := (List Int)) y147, .fr (α := (List Int)) y213, .fr (α := (List Int)) y242, .fr (α := Int) y264, .un, .un, .un]) (is := [8]) C.hX.calm fr (he := rfl) ?_ ?_ ?_ fun s263 => ?_
  · exact (ei_scr (ev_var (md := true) n0 rfl rfl) rfl)
  · exact fun y264 s263 => (eg_name (α := Int) l8 rfl (fun _ => rfl))
  · intro H1 sH N y264 s263
    replace fr := fr.up sH
    replace hR := hR.up sH
    refine w_asgCf (α := Int) (Γ' := fun y274 : (List Int) => [.fr (α := Scr) t.1, .fr (α := (Int × (Tu (Int × Int)))) y72, .fr (α := (List (List Int))) y101, .fr (α := (List Int)) y144, .fr (α := Int) y146, .fr (α := (List Int)) y147, .fr (α := (List Int)) y213, .fr (α := (List Int)) y242, .fr (α := Int) y264, .fr (α := (List Int)) y274, .un, .un]) fr l9 (by rw [C.hX.hs]; decide +kernel) C.kd (he := rfl) ?_ fun y274 => ?_
    · exact (ec_filt (mi := true) (α := Int) (β := Int) (mx := (rngR 0 y72.1)) (t := fun y265 => (if (!pyEq y265 y146) = true then (((((shrR y264 y265) : R _).bind fun x270 => (.ok (Builtin.bitAnd x270 (1 : Int)))) : R _).bind fun x271 => (.ok (pyEq x271 (1 : Int)))) else R.ok false)) (g := fun y265 => (.ok y265)) (own := [("one", 10)]) (Γx := fun y265 : Int => [.fr (α := Scr) t.1, .fr (α := (Int × (Tu (Int × Int)))) y72, .fr (α := (List (List Int))) y101, .fr (α := (List Int)) y144, .fr (α := Int) y146, .fr (α := (List Int)) y147, .fr (α := (List Int)) y213, .fr (α := (List Int)) y242, .fr (α := Int) y264, .un, .fr (α := Int) y265, .un]) (is := [10]) C.hX (ei_range1 (ma := true) g_range f_range (ev_ixP (md := true) ix20 (ev_var (md := true) n1 rfl rfl) (ev_int (md := true) rfl) rfl) rfl) (.inl rfl) (by decide +kernel) (no1 (fun _ => rfl)) (by decide) (fun X267 b266 y265 => have h268 := b266.ok C.hX; (eg_name (α := Int) (lc_mk (i := 10) (x := "one") h268.toXN (by decide +kernel)) rfl (fun _ => rfl))) (fun X267 b266 D269 y265 => have h268 := b266.ok C.hX; (EvW.t (ew_and (et_ne (α := Int) (ma := true) (mb := true) (b266.hu C.hu) (ev_var (md := true) (nm_mk (i := 10) (x := "one") h268.toXN (by decide +kernel)) rfl rfl) (ev_var (md := true) (nm_mk (i := 4) (x := "house") h268.toXN (by decide +kernel)) rfl rfl) rfl) (ew_and1 (et_eq (α := Int) (ma := true) (mb := true) (b266.hu C.hu) (ev_band (ma := true) (mb := true) (md := true) (ev_shr (ma := true) (mb := true) (md := true) (ev_var (md := true) (nm_mk (i := 8) (x := "cell") h268.toXN (by decide +kernel)) rfl rfl) (ev_var (md := true) (nm_mk (i := 10) (x := "one") h268.toXN (by decide +kernel)) rfl rfl) rfl) (ev_int (md := true) rfl) rfl) (ev_int (md := true) rfl) rfl)) rfl))) (fun X267 b266 D269 y265 => have h268 := b266.ok C.hX; (ev_var (md := true) (nm_mk (i := 10) (x := "one") h268.toXN (by decide +kernel)) rfl rfl)) rfl)
    refine w_ifR (mc := (((m_law_can_lend (y101, y144, y274, ())) : R _).bind fun x281 => (if x281 = true then (((compR (fun y275 => (if (!decide (y275 ∈ y213)) = true then (R.ok (some y275)) else R.ok none)) y274) : R _).bind fun x280 => (.ok (!pyEq x280 ([] : (List Int))))) else R.ok false))) fr (EvW.t (ew_and (et_val (md := true) (ev_call (md := true) d_law_can_lend g__law_can_lend (ea_cons (md := true) (ev_var (md := true) n2 rfl rfl) (ea_cons (md := true) (ev_var (md := true) n3 rfl rfl) (ea_cons (md := true) (ev_var (md := true) n9 rfl rfl) (ea_nil (md := true) rfl) rfl) rfl) rfl) rfl rfl)) (ew_and1 (et_ne (α := (List Int)) (ma := true) (mb := true) C.hu (EvO.fz (ev_filt (mi := true) (α := Int) (β := Int) (mx := (.ok y274)) (t := fun y275 => (.ok (!decide (y275 ∈ y213)))) (g := fun y275 => (.ok y275)) (own := [("one", 10)]) (Γx := fun y275 : Int => [.fr (α := Scr) t.1, .fr (α := (Int × (Tu (Int × Int)))) y72, .fr (α := (List (List Int))) y101, .fr (α := (List Int)) y144, .fr (α := Int) y146, .fr (α := (List Int)) y147, .fr (α := (List Int)) y213, .fr (α := (List Int)) y242, .fr (α := Int) y264, .fr (α := (List Int)) y274, .fr (α := Int) y275, .un]) (is := [10]) C.hX (ei_list (ev_var (md := true) n9 rfl rfl)) (.inl rfl) (by decide +kernel) (no1 (fun _ => rfl)) (by decide) (fun X277 b276 y275 => have h278 := b276.ok C.hX; (eg_name (α := Int) (lc_mk (i := 10) (x := "one") h278.toXN (by decide +kernel)) rfl (fun _ => rfl))) (fun X277 b276 D279 y275 => have h278 := b276.ok C.hX; (et_niL (ma := true) (mb := true) (ev_var (md := true) (nm_mk (i := 10) (x := "one") h278.toXN (by decide +kernel)) rfl rfl) (ev_var (md := true) (nm_mk (i := 6) (x := "found") h278.toXN (by decide +kernel)) rfl rfl) rfl)) (fun X277 b276 D279 y275 => have h278 := b276.ok C.hX; (ev_var (md := true) (nm_mk (i := 10) (x := "one") h278.toXN (by decide +kernel)) rfl rfl)) rfl)) (EvO.fz (ev_lst (md := true) (el_nil (α := Int) rfl))) rfl)) rfl)) (fun nx' => ?_) ?_ (he := rfl)
    · skip
      exact w_ret (m1 := (.ok false)) (g := fun z => .rt z) fr hR (ev_bool (md := true) rfl) (fun _ h => h) rfl
    exact w_endM (s := ()) [8, 9] rfl rfl
  exact w_ret (m1 := (.ok true)) (g := fun z => z) fr hR (ev_bool (md := true) rfl) (fun _ h => h) rfl
abbrev Rw : PySem.W.OpenRow := PySem.W.OpenLaw.row PySem.Challenge.rw_owinghall_k16_outside_and_groups
def names : List PySem.Str := (["OwingError", "BadStanding", "BadHouse", "look_at", "tie_rows", "next_one", "queue", "outside", "_law_cell_at", "_law_whole", "_law_names", "_law_web", "_law_standing", "_law_rows", "_law_ties_to"] : List PySem.Str) ++ (["_law_queue", "_law_can_lend"] : List PySem.Str)
abbrev hk : PySem.W.Hook := hookE 5 fe fa fn
def ob (s : PySem.W.SharedT) : AlE := obsEG 5 fe fa fn (HandSHeadRun.getT s)
theorem ob_eq (s : PySem.W.SharedT) : ob s = hk.obs s.abs := obsEG_eq (HandSHeadRun.getT_eq s)
theorem run (w : World) : HandSHeadRun.RunEq Rw (PySem.W.view Rw.prog [20]) hk ob 4000 names w := by
  intro os
  kernel_rfl
/-! ### webs: cells, ties, made -/
def Fit (n : Int) (t : Int × Int) : Prop := t.1 ≠ t.2 ∧ 0 ≤ t.1 ∧ 0 ≤ t.2 ∧ t.1 < n ∧ t.2 < n
/-- all houses hang together -/
def Con (n : Int) (ties : List (Int × Int)) : Prop := ∀ P : Int → Prop, P 0 → (∀ t ∈ ties, P t.1 ↔ P t.2) → ∀ h, 0 ≤ h → h < n → P h
theorem setR_int {α : Type} {xs : List α} {j : Int} {y : α} (h0 : 0 ≤ j) (h : j < xs.length) : setR xs j y = .ok (xs.set j.toNat y) := by
  unfold setR ixN
  rw [if_pos h0, if_pos h] <;> rfl
theorem whileR_end {S : Type} {c : S → R Bool} {b : S → R S} (I : S → Prop) (cb : S → Bool) (μ : S → Nat) (hc : ∀ s, I s → c s = .ok (cb s)) (hb : ∀ s, I s → cb s = true → ∃ s', b s = .ok s' ∧ I s' ∧ μ s' < μ s) : ∀ (n : Nat) (s : S), I s → μ s < n → ∃ s', whileR c b n s = .ok s' ∧ I s' ∧ cb s' = false
  | 0, s, _, h => absurd h (Nat.not_lt_zero _)
  | n + 1, s, i, h => by
    show ∃ s', ((c s).bind fun t => if t = true then (b s).bind fun s' => whileR c b n s' else .ok s) = .ok s' ∧ _
    rw [hc s i, bind_ok]
    cases e : cb s with
    | false => exact ⟨s, rfl, i, e⟩
    | true =>
      obtain ⟨s1, e1, i1, m1⟩ := hb s i e
      rw [ite_t, e1, bind_ok]
      exact whileR_end I cb μ hc hb n s1 i1 (by omega)
theorem cell_ok {ns : List Int} {M : Nat} (hb : ∀ z ∈ ns, bits z ≤ M) {i : Int} (h0 : 0 ≤ i) : ∃ v, m_law_cell_at (⟨ns⟩, i, ()) = .ok v ∧ bits v ≤ M := by
  unfold m_law_cell_at
  dsimp only
  by_cases h : i < ns.length
  · have hl : i.toNat < ns.length := by omega
    refine ⟨ns[i.toNat], ?_, hb _ (List.getElem_mem hl)⟩
    rw [decide_eq_true h, ite_t, ixR_int h0 (List.getElem?_eq_getElem hl)] <;> rfl
  · refine ⟨0, ?_, Nat.zero_le _⟩
    rw [decide_eq_false h, ite_f]
/-! the reached houses -/
abbrev fls (xs : List Bool) : Nat := xs.count false
theorem set_fls {xs : List Bool} {i : Nat} (h : i < xs.length) : fls (xs.set i true) = fls xs - (if xs[i] = false then 1 else 0) := by
  unfold fls
  rw [List.count_set h]
  simp
theorem fls_pos {xs : List Bool} {i : Nat} (h : i < xs.length) (e : xs[i] = false) : 0 < fls xs := List.count_pos_iff.mpr (by rw [← e]; exact List.getElem_mem h)
theorem set_fls_le {xs : List Bool} {i : Nat} : fls (xs.set i true) ≤ fls xs := by
  by_cases h : i < xs.length
  · rw [set_fls h]; omega
  · rw [List.set_eq_of_length_le (by omega)]
    exact Nat.le_refl _
/-- one turn over the ties -/
theorem rangeL_eq (n : Nat) : rangeL 0 (n : Int) = (List.range n).map fun i : Nat => (i : Int) := rangeL_nat n
theorem compGo_all {α : Type} {g : α → R (Option α)} : ∀ {xs : List α}, (∀ x ∈ xs, g x = .ok (some x)) → compGo g xs = .ok xs
  | [], _ => rfl
  | x :: xs, h => by
    show ((g x).sure.bind fun o => (compGo g xs).bind fun ys => .ok (match o with | some y => y :: ys | none => ys)) = _
    rw [h x List.mem_cons_self, compGo_all fun y hy => h y (List.mem_cons_of_mem _ hy)] <;> rfl
theorem compR_all {α : Type} {g : α → R (Option α)} {xs : List α} (h : ∀ x ∈ xs, g x = .ok (some x)) (hl : xs.length ≤ 16777216) : compR g xs = .ok xs := by
  unfold compR
  rw [if_pos hl]
  exact compGo_all h
abbrev mm (t : Int × Int) : Int × Int := (min t.1 t.2, max t.1 t.2)
/-! the ties of a script -/
theorem rangeL_perm_mem {n : Nat} {l : List Int} (h : l.Perm (rangeL 0 (n : Int))) {i : Int} : i ∈ l ↔ 0 ≤ i ∧ i < n := by
  rw [h.mem_iff]
  refine ⟨fun q => mem_rangeL q, fun ⟨h1, h2⟩ => ?_⟩
  unfold rangeL
  exact List.mem_map.mpr ⟨i.toNat, List.mem_range.mpr (by omega), by omega⟩
theorem rangeL_nodup (lo hi : Int) : (rangeL lo hi).Nodup := by
  unfold rangeL
  refine List.Pairwise.map _ (R := (· ≠ ·)) (fun a b h e => h (by omega)) (List.nodup_range (n := (hi - lo).toNat))
abbrev oi (order : List Int) (i : Int) : Int := order.getD i.toNat 0
theorem oi_mem {n : Nat} {order : List Int} (hp : order.Perm (rangeL 0 (n : Int))) {i : Int} (h0 : 0 ≤ i) (h : i < n) : 0 ≤ oi order i ∧ oi order i < n := by
  have hn : order.length = n := by rw [hp.length_eq, rangeL_len]; omega
  have a : i.toNat < order.length := by omega
  refine (rangeL_perm_mem hp).mp ?_
  show order.getD _ _ ∈ order
  rw [List.getD_eq_getElem?_getD, List.getElem?_eq_getElem a]
  exact List.getElem_mem a
theorem oi_inj {n : Nat} {order : List Int} (hp : order.Perm (rangeL 0 (n : Int))) {i j : Int} (h0 : 0 ≤ i) (h : i < n) (k0 : 0 ≤ j) (k : j < n) (e : oi order i = oi order j) : i = j := by
  have hn : order.length = n := by rw [hp.length_eq, rangeL_len]; omega
  have a : i.toNat < order.length := by omega
  have b : j.toNat < order.length := by omega
  have nd : order.Nodup := hp.nodup_iff.mpr (rangeL_nodup _ _)
  have e2 : order[i.toNat] = order[j.toNat] := by
    have e3 : order.getD i.toNat 0 = order.getD j.toNat 0 := e
    rw [List.getD_eq_getElem?_getD, List.getD_eq_getElem?_getD, List.getElem?_eq_getElem a, List.getElem?_eq_getElem b] at e3
    exact e3
  have pw := List.pairwise_iff_getElem.mp nd
  by_cases c1 : i.toNat < j.toNat
  · exact absurd e2 (pw _ _ a b c1)
  · by_cases c2 : j.toNat < i.toNat
    · exact absurd e2.symm (pw _ _ b a c2)
    · omega
theorem oi_surj {n : Nat} {order : List Int} (hp : order.Perm (rangeL 0 (n : Int))) {h : Int} (h0 : 0 ≤ h) (h1 : h < n) : ∃ i : Int, 0 ≤ i ∧ i < n ∧ oi order i = h := by
  have hn : order.length = n := by rw [hp.length_eq, rangeL_len]; omega
  obtain ⟨k, hk, e⟩ := List.mem_iff_getElem.mp ((rangeL_perm_mem hp).mpr ⟨h0, h1⟩)
  refine ⟨k, by omega, by omega, ?_⟩
  show order.getD _ _ = _
  rw [List.getD_eq_getElem?_getD, Int.toNat_natCast, List.getElem?_eq_getElem hk]
  exact e
/-- each but the first is tied to one ahead of it -/
def Base (n : Int) (ties : List (Int × Int)) : Prop := ∀ k : Int, 1 ≤ k → k < n → ∃ t ∈ ties, t.2 = k ∧ 0 ≤ t.1 ∧ t.1 < k
theorem base_all {n : Int} {ties : List (Int × Int)} (hb : Base n ties) (Q : Int → Prop) (hq : ∀ t ∈ ties, Q t.1 ↔ Q t.2) : ∀ m : Nat, (m : Int) < n → (Q m ↔ Q 0) := by
  intro m
  induction m using Nat.strongRecOn with
  | ind m ih =>
    intro hm
    by_cases h : m = 0
    · subst h; exact Iff.rfl
    · obtain ⟨t, ht, e, t0, t1⟩ := hb m (by omega) hm
      have q := hq t ht
      rw [e] at q
      have e1 : ((t.1.toNat : Nat) : Int) = t.1 := by omega
      have := ih t.1.toNat (by omega) (by omega)
      rw [e1] at this
      exact q.symm.trans this
theorem renamed_con {n : Nat} {ties : List (Int × Int)} {order : List Int} (h1 : 1 ≤ n) (hp : order.Perm (rangeL 0 (n : Int))) (hb : Base n ties) : Con n (ties.map fun t => (oi order t.1, oi order t.2)) := by
  intro P p0 hP h h0 hh
  have A := base_all hb (fun i => P (oi order i)) fun t ht => hP _ (List.mem_map.mpr ⟨t, ht, rfl⟩)
  obtain ⟨i, i0, i1, e⟩ := oi_surj hp (show (0 : Int) ≤ 0 by omega) (show (0 : Int) < n by omega)
  obtain ⟨j, j0, j1, e2⟩ := oi_surj hp h0 hh
  have a1 := A i.toNat (by omega)
  have a2 := A j.toNat (by omega)
  rw [show ((i.toNat : Nat) : Int) = i by omega, e] at a1
  rw [show ((j.toNat : Nat) : Int) = j by omega, e2] at a2
  exact a2.mpr (a1.mp p0)
theorem renamed_fit {n : Nat} {ties : List (Int × Int)} {order : List Int} (hp : order.Perm (rangeL 0 (n : Int))) (hf : ∀ t ∈ ties, Fit n t) : ∀ t ∈ ties.map (fun t => (oi order t.1, oi order t.2)), Fit n t := by
  intro t ht
  obtain ⟨u, hu, rfl⟩ := List.mem_map.mp ht
  obtain ⟨f1, f2, f3, f4, f5⟩ := hf u hu
  have a := oi_mem hp f2 f4
  have b := oi_mem hp f3 f5
  exact ⟨fun e => f1 (oi_inj hp f2 f4 f3 f5 e), a.1, b.1, a.2, b.2⟩
theorem script_cut {ns : List Int} (a : Int) (b : Int) (ha : 0 ≤ a) (hab : a ≤ b) : (cutL ns (some a) (some b)).length ≤ (b - a).toNat ∧ ∀ x ∈ cutL ns (some a) (some b), x ∈ ns := by
  refine ⟨?_, fun x hx => List.mem_of_mem_drop (List.mem_of_mem_take hx)⟩
  have e1 : HT.sIx ns.length 0 (some a) = min a.toNat ns.length := by
    show (if a < 0 then _ else _) = _
    rw [if_neg (by omega)]
  have e2 : HT.sIx ns.length ns.length (some b) = min b.toNat ns.length := by
    show (if b < 0 then _ else _) = _
    rw [if_neg (by omega)]
  unfold cutL
  rw [List.length_take, List.length_drop, e1, e2]
  omega
/-! ### lists of a number for each house -/
theorem oi_get {l : List Int} {h : Int} (hl : h.toNat < l.length) : oi l h = l[h.toNat] := by
  show l.getD _ _ = _
  rw [List.getD_eq_getElem?_getD, List.getElem?_eq_getElem hl] <;> rfl
theorem ixR_oi {l : List Int} {h : Int} (h0 : 0 ≤ h) (hl : h < l.length) : ixR l h = .ok (oi l h) := by
  have a : h.toNat < l.length := by omega
  rw [ixR_int h0 (List.getElem?_eq_getElem a), oi_get a]
/-- x more at one place -/
def addAt (l : List Int) (i x : Int) : List Int := l.set i.toNat (oi l i + x)
theorem addAt_len (l : List Int) (i x : Int) : (addAt l i x).length = l.length := List.length_set
theorem oi_addAt {l : List Int} {i x h : Int} (h0 : 0 ≤ h) (h1 : h < l.length) (i0 : 0 ≤ i) (i1 : i < l.length) : oi (addAt l i x) h = oi l h + if h = i then x else 0 := by
  rw [oi_get (by rw [addAt_len]; omega), oi_get (l := l) (by omega)]
  unfold addAt
  rw [List.getElem_set]
  by_cases e : h = i
  · subst e
    rw [if_pos rfl, if_pos rfl, oi_get (by omega)]
  · rw [if_neg (by omega), if_neg e, Int.add_zero]
theorem sum_set (l : List Int) : ∀ (i : Nat) (x : Int), i < l.length → (l.set i (l.getD i 0 + x)).sum = l.sum + x := by
  induction l with
  | nil => intro i x h; simp at h
  | cons a l ih =>
    intro i x h
    cases i with
    | zero =>
      show (a + x) + l.sum = (a + l.sum) + x
      omega
    | succ i =>
      have := ih i x (by simpa using h)
      show a + (l.set i (l.getD i 0 + x)).sum = (a + l.sum) + x
      rw [this]; omega
theorem sum_addAt {l : List Int} {i x : Int} (i0 : 0 ≤ i) (i1 : i < l.length) : (addAt l i x).sum = l.sum + x := sum_set l i.toNat x (by omega)
theorem setR_addAt {l : List Int} {i : Int} (i0 : 0 ≤ i) (i1 : i < l.length) (x : Int) : setR l i (oi l i + x) = .ok (addAt l i x) := setR_int i0 i1
theorem setR_subAt {l : List Int} {i : Int} (i0 : 0 ≤ i) (i1 : i < l.length) (x : Int) : setR l i (oi l i - x) = .ok (addAt l i (-x)) := by
  rw [Int.sub_eq_add_neg]
  exact setR_addAt i0 i1 _
theorem R_assoc {α β γ : Type} (m : R α) (f : α → R β) (g : β → R γ) : (m.bind f).bind g = m.bind fun a => (f a).bind g := by cases m <;> rfl
theorem oi_ext {l l' : List Int} (hl : l.length = l'.length) (h : ∀ i : Int, 0 ≤ i → i < l.length → oi l i = oi l' i) : l = l' := by
  refine List.ext_getElem hl fun i h1 h2 => ?_
  have := h i (by omega) (by omega)
  rw [oi_get (by omega), oi_get (by omega)] at this
  exact this
/-- what a tie brings to a house -/
def gain (sc : List Int) (h : Int) (t : Int × Int) : Int := (if h = t.1 then oi sc t.2 - oi sc t.1 else 0) + if h = t.2 then oi sc t.1 - oi sc t.2 else 0
theorem gain_mm (sc : List Int) (h : Int) (t : Int × Int) : gain sc h (mm t) = gain sc h t := by
  unfold gain mm
  by_cases c : t.1 ≤ t.2
  · rw [Int.min_eq_left c, Int.max_eq_right c]
  · rw [Int.min_eq_right (by omega), Int.max_eq_left (by omega)]
    dsimp only
    omega
theorem sum_app (xs ys : List Int) : (xs ++ ys).sum = xs.sum + ys.sum := by
  induction xs with
  | nil => simp
  | cons x xs ih => rw [List.cons_append, List.sum_cons, List.sum_cons, ih]; omega
theorem sum_perm {xs ys : List Int} (h : xs.Perm ys) : xs.sum = ys.sum := by
  induction h with
  | nil => rfl
  | cons x _ ih => rw [List.sum_cons, List.sum_cons, ih]
  | swap x y l => rw [List.sum_cons, List.sum_cons, List.sum_cons, List.sum_cons]; omega
  | trans _ _ h1 h2 => exact h1.trans h2
theorem gain_web (sc : List Int) (h : Int) (ties : List (Int × Int)) : ((sortP (ties.map mm)).map (gain sc h)).sum = (ties.map (gain sc h)).sum := by
  rw [sum_perm ((sortP_perm _).map _), List.map_map]
  congr 1
  exact List.map_congr_left fun t _ => gain_mm sc h t
theorem fit_web {n : Int} {ties : List (Int × Int)} (hf : ∀ t ∈ ties, Fit n t) : ∀ t ∈ sortP (ties.map mm), Fit n t := by
  intro t ht
  obtain ⟨u, hu, rfl⟩ := List.mem_map.mp ((sortP_perm _).mem_iff.mp ht)
  obtain ⟨f1, f2, f3, f4, f5⟩ := hf u hu
  refine ⟨?_, ?_, ?_, ?_, ?_⟩ <;> dsimp only [mm] <;> omega
/-! ### halls: names, ties, rows, standings -/
theorem names_ok {n : Nat} (h8 : n ≤ 8) {c : Int} (hc : bits c ≤ 1048576) : ∃ order : List Int, order.Perm (rangeL 0 (n : Int)) ∧ m_law_names (c, (n : Int), ()) = .ok order := by
  unfold m_law_names
  dsimp only
  rw [bind_ok, mulR_ok hc (show bits 48271 ≤ 16 by decide) (by decide), bind_ok, bind_ok, modR_ok (by decide), bind_ok, rngR_ok (by omega) (by omega) (by omega) (by omega), bind_ok]
  generalize (c * 48271 + 7).fmod 2147483647 = r0
  have W := forR_inv (b := (fun (y31 : Int) (s30 : List Int × Int) => (((modR s30.2 (y31 + (1 : Int))) : R _).bind fun x34 => ((insR s30.1 x34 y31).bind fun y32 => (((divR s30.2 (y31 + (1 : Int))) : R Int).bind fun y33 => (.ok (y32, y33)))))))
    (fun ys s => s.1.Perm ys) (xs := rangeL 0 (n : Int)) (ys := []) (s := ([], r0)) (List.Perm.refl _) (fun y zs s ⟨r, hr⟩ hp => by
      have hy : y ∈ rangeL 0 (n : Int) := by rw [hr]; exact List.mem_append_right _ List.mem_cons_self
      obtain ⟨y0, y1⟩ := mem_rangeL hy
      have hz : zs.length ≤ 8 := by
        have := congrArg List.length hr
        rw [rangeL_len, List.length_append] at this
        omega
      have b := fmod_bounds s.2 (show 0 < y + 1 by omega)
      have hs : s.1.length ≤ 8 := by
        have := hp.length_eq
        rw [List.nil_append] at this
        omega
      refine ⟨(s.1.take (s.2.fmod (y + 1)).toNat ++ [y] ++ s.1.drop (s.2.fmod (y + 1)).toNat, s.2.fdiv (y + 1)), ?_, ?_⟩
      · have l1 : (y + 1).natAbs.log2 < 9000 := Nat.lt_of_le_of_lt (Nat.log2_le_self _) (by omega)
        rw [modR_ok (by omega), bind_ok, insR_ok (by omega) (by omega) (by omega), bind_ok, divR_ok (by omega) l1, bind_ok]
      · refine List.Perm.trans ?_ (hp.append_right [y])
        have e : s.1 = s.1.take (s.2.fmod (y + 1)).toNat ++ s.1.drop (s.2.fmod (y + 1)).toNat := (List.take_append_drop _ _).symm
        refine List.Perm.trans ?_ (List.Perm.append_right [y] (List.Perm.of_eq e.symm))
        rw [List.append_assoc, List.append_assoc]
        exact (List.perm_append_comm).append_left _)
  obtain ⟨s, e, hp⟩ := W
  rw [List.nil_append] at hp
  rw [e, bind_ok]
  exact ⟨s.1, hp, rfl⟩
theorem con_web {n : Int} {ties : List (Int × Int)} (h : Con n ties) : Con n (sortP (ties.map mm)) := fun P p0 hP => h P p0 fun t ht => by
  have q := hP (mm t) ((sortP_perm _).mem_iff.mpr (List.mem_map.mpr ⟨t, ht, rfl⟩))
  unfold mm at q
  by_cases c : t.1 ≤ t.2
  · rw [Int.min_eq_left c, Int.max_eq_right c] at q; exact q
  · rw [Int.min_eq_right (by omega), Int.max_eq_left (by omega)] at q; exact q.symm
theorem hall_ok {ns : List Int} (hb : ∀ z ∈ ns, bits z ≤ 1048576) : ∃ (n : Nat) (T : List (Int × Int)), m_law_web (⟨ns⟩, ()) = .ok ((n : Int), ⟨T⟩) ∧ 1 ≤ n ∧ n ≤ 8 ∧ T.length ≤ 17 ∧ (∀ t ∈ T, Fit n t) ∧ Con n T := by
  obtain ⟨c0, ec0, bc0⟩ := cell_ok hb (show (0 : Int) ≤ 0 by omega)
  obtain ⟨c1, ec1, bc1⟩ := cell_ok hb (show (0 : Int) ≤ 1 by omega)
  have g0 := fmod_bounds c0 (show (0 : Int) < 8 by decide)
  obtain ⟨n, hn⟩ := Int.eq_ofNat_of_zero_le (show 0 ≤ 1 + c0.fmod 8 by omega)
  have n1 : 1 ≤ n := by omega
  have n8 : n ≤ 8 := by omega
  unfold m_law_web
  dsimp only
  rw [ec0, bind_ok, modR_ok (by decide), bind_ok, bind_ok, hn, bind_ok, rngR_ok (by omega) (by omega) (by omega) (by omega), bind_ok]
  have W1 := forR_inv (b := (fun (y7 : Int) (s6 : List (Int × Int)) => (((((((((m_law_cell_at (⟨ns⟩, y7, ())) : R _).bind fun x8 => (modR x8 y7)) : R _).bind fun x9 => (.ok (x9, (y7, ())))) : R _).bind fun x10 => (.ok (x10.1, x10.2.1))) : R _).bind fun x12 => ((appR s6 x12).bind fun y11 => (.ok y11)))))
    (fun ys s => s.length = ys.length ∧ (∀ t ∈ s, Fit n t) ∧ ∀ k ∈ ys, ∃ t ∈ s, t.2 = k ∧ 0 ≤ t.1 ∧ t.1 < k) (xs := rangeL 1 (n : Int)) (ys := []) (s := []) ⟨rfl, (fun t h => by cases h), fun k h => by cases h⟩ (fun k zs s ⟨r, hr⟩ ⟨i1, i2, i3⟩ => by
      have hk : k ∈ rangeL 1 (n : Int) := by rw [hr]; exact List.mem_append_right _ List.mem_cons_self
      obtain ⟨k0, k1⟩ := mem_rangeL hk
      have hz : zs.length ≤ 8 := by
        have := congrArg List.length hr
        rw [rangeL_len, List.length_append] at this
        omega
      rw [List.nil_append] at i1 i3
      obtain ⟨v, ev, _⟩ := cell_ok hb (show 0 ≤ k by omega)
      have b := fmod_bounds v (show 0 < k by omega)
      refine ⟨s ++ [(v.fmod k, k)], ?_, ?_, fun t ht => ?_, fun j hj => ?_⟩
      · rw [ev, bind_ok, modR_ok (by omega), bind_ok, bind_ok, bind_ok, appR_ok (by omega), bind_ok]
      · rw [List.nil_append, List.length_append, List.length_append, i1] <;> rfl
      · rcases List.mem_append.mp ht with ht | ht
        · exact i2 t ht
        · rw [List.mem_singleton.mp ht]
          exact ⟨by show v.fmod k ≠ k; omega, b.1, by show 0 ≤ k; omega, by show v.fmod k < n; omega, k1⟩
      · rw [List.nil_append] at hj
        rcases List.mem_append.mp hj with hj | hj
        · obtain ⟨t, ht, q⟩ := i3 j hj
          exact ⟨t, List.mem_append_left _ ht, q⟩
        · rw [List.mem_singleton.mp hj]
          exact ⟨_, List.mem_append_right _ List.mem_cons_self, rfl, b.1, b.2⟩)
  obtain ⟨s1, e1, i1, i2, i3⟩ := W1
  rw [List.nil_append] at i1 i3
  rw [e1, bind_ok]
  rw [rangeL_len] at i1
  have g8 := fmod_bounds (c0.fdiv 8) (show (0 : Int) < 10 by decide)
  rw [bind_ok, divR_ok (by decide) (by decide), bind_ok, modR_ok (by decide), bind_ok, rngR_ok (by omega) (by omega) (by omega) (by omega), bind_ok]
  generalize (c0.fdiv 8).fmod 10 = many at g8
  have W2 := forR_inv (b := (fun (y17 : Int) (s16 : List (Int × Int)) => (((m_law_cell_at (⟨ns⟩, (8 : Int) + y17, ())) : R Int).bind fun y18 => (R.bind (if (decide ((1 : Int) < (n : Int))) = true then (((modR y18 (n : Int)) : R Int).bind fun y20 => (((((((((divR y18 (n : Int)) : R _).bind fun x21 => (modR x21 ((n : Int) - (1 : Int)))) : R _).bind fun x22 => (.ok ((y20 + (1 : Int)) + x22))) : R _).bind fun x23 => (modR x23 (n : Int))) : R Int).bind fun y24 => ((appR s16 (y20, y24)).bind fun y25 => (.ok y25)))) else (.ok s16)) fun s19 : (List (Int × Int)) => (.ok s19)))))
    (fun ys s => s.length ≤ s1.length + ys.length ∧ (∀ t ∈ s, Fit n t) ∧ ∀ t ∈ s1, t ∈ s) (xs := rangeL 0 many) (ys := []) (s := s1) ⟨Nat.le_refl _, i2, fun t h => h⟩ (fun k zs s ⟨r, hr⟩ ⟨j1, j2, j3⟩ => by
      have hk : k ∈ rangeL 0 many := by rw [hr]; exact List.mem_append_right _ List.mem_cons_self
      obtain ⟨k0, k1⟩ := mem_rangeL hk
      have hz := congrArg List.length hr
      rw [rangeL_len, List.length_append] at hz
      rw [List.nil_append] at j1
      obtain ⟨c, ev, _⟩ := cell_ok hb (show 0 ≤ 8 + k by omega)
      rw [ev, bind_ok]
      by_cases hn1 : (1 : Int) < n
      · have ln : ((n : Int)).natAbs.log2 < 9000 := Nat.lt_of_le_of_lt (Nat.log2_le_self _) (by omega)
        have b1 := fmod_bounds c (show 0 < (n : Int) by omega)
        have b2 := fmod_bounds (c.fdiv n) (show 0 < (n : Int) - 1 by omega)
        have b3 := fmod_bounds (c.fmod n + 1 + (c.fdiv n).fmod ((n : Int) - 1)) (show 0 < (n : Int) by omega)
        refine ⟨s ++ [(c.fmod n, (c.fmod n + 1 + (c.fdiv n).fmod ((n : Int) - 1)).fmod n)], ?_, ?_, fun t ht => ?_, fun t ht => List.mem_append_left _ (j3 t ht)⟩
        · rw [decide_eq_true hn1, ite_t, modR_ok (by omega), bind_ok, divR_ok (by omega) ln, bind_ok, modR_ok (by omega), bind_ok, bind_ok, modR_ok (by omega), bind_ok, appR_ok (by omega), bind_ok, bind_ok]
        · rw [List.nil_append, List.length_append, List.length_append, List.length_singleton, List.length_singleton]; omega
        · rcases List.mem_append.mp ht with ht | ht
          · exact j2 t ht
          · rw [List.mem_singleton.mp ht]
            refine ⟨fun e => ?_, b1.1, b3.1, b1.2, b3.2⟩
            have e' : c.fmod n = (c.fmod n + 1 + (c.fdiv n).fmod ((n : Int) - 1)).fmod n := e
            generalize c.fmod n = x at *
            generalize (c.fdiv n).fmod ((n : Int) - 1) = y at *
            by_cases w : x + 1 + y < n
            · rw [Int.fmod_eq_of_lt (by omega) w] at e'
              omega
            · have : (x + 1 + y).fmod n = x + 1 + y - n := by
                have e4 : x + 1 + y = (x + 1 + y - n) + n := by omega
                rw [e4, Int.add_fmod_right, Int.fmod_eq_of_lt (by omega) (by omega)]
                omega
              rw [this] at e'
              omega
      · refine ⟨s, ?_, by rw [List.nil_append, List.length_append, List.length_singleton]; omega, j2, j3⟩
        rw [decide_eq_false hn1, ite_f, bind_ok])
  obtain ⟨s2, e2, j1, j2, j3⟩ := W2
  rw [List.nil_append, rangeL_len] at j1
  have hl : s2.length ≤ 17 := by omega
  rw [e2, bind_ok, ec1, bind_ok, bind_ok]
  obtain ⟨order, op, eo⟩ := names_ok n8 bc1
  rw [eo, bind_ok]
  have hord : order.length = n := by rw [op.length_eq, rangeL_len]; omega
  have em : mapR (fun y49 : Int × Int => (((((ixR order y49.1) : R _).bind fun x55 => (((((ixR order y49.2) : R _).bind fun x54 => (.ok (x54, (())))) : R _).bind fun x56 => (.ok (x55, x56)))) : R _).bind fun x57 => (.ok (x57.1, x57.2.1)))) s2 = .ok (s2.map fun t => (oi order t.1, oi order t.2)) := by
    refine mapR_ok (fun t ht => ?_) (by omega)
    obtain ⟨_, f2, f3, f4, f5⟩ := j2 t ht
    have a1 : t.1.toNat < order.length := by omega
    have a2 : t.2.toNat < order.length := by omega
    rw [ixR_int f2 (List.getElem?_eq_getElem a1), bind_ok, ixR_int f3 (List.getElem?_eq_getElem a2), bind_ok, bind_ok, bind_ok]
    show R.ok (_, _) = R.ok (order.getD _ _, order.getD _ _)
    rw [List.getD_eq_getElem?_getD, List.getD_eq_getElem?_getD, List.getElem?_eq_getElem a1, List.getElem?_eq_getElem a2] <;> rfl
  have em2 : mapR (fun y59 : Int × Int => (R.ok (min y59.1 y59.2, max y59.1 y59.2))) (s2.map fun t => (oi order t.1, oi order t.2)) = .ok ((s2.map fun t => (oi order t.1, oi order t.2)).map mm) := mapR_ok (fun _ _ => rfl) (by rw [List.length_map]; omega)
  rw [em, bind_ok, em2]
  refine ⟨n, _, rfl, n1, n8, ?_, fit_web (renamed_fit op j2), con_web (renamed_con n1 op fun k k0 k1 => ?_)⟩
  · rw [(sortP_perm _).length_eq, List.length_map, List.length_map]; exact hl
  · obtain ⟨t, ht, q⟩ := i3 k (by
      unfold rangeL
      exact List.mem_map.mpr ⟨(k - 1).toNat, List.mem_range.mpr (by omega), by omega⟩)
    exact ⟨t, j3 t ht, q⟩
/-! ### tables -/
def ent (rows : List (List Int)) (a b : Int) : Int := oi (rows.getD a.toNat []) b
structure Sq (n : Nat) (rows : List (List Int)) : Prop where
  len : rows.length = n
  row : ∀ a : Int, 0 ≤ a → a < n → (rows.getD a.toNat []).length = n
theorem ixR_row {n : Nat} {rows : List (List Int)} (h : Sq n rows) {a : Int} (a0 : 0 ≤ a) (a1 : a < n) : ixR rows a = .ok (rows.getD a.toNat []) := by
  have hl := h.len
  have q : a.toNat < rows.length := by omega
  rw [ixR_int a0 (List.getElem?_eq_getElem q), List.getD_eq_getElem?_getD, List.getElem?_eq_getElem q] <;> rfl
theorem ixR_ent {n : Nat} {rows : List (List Int)} (h : Sq n rows) {a b : Int} (a0 : 0 ≤ a) (a1 : a < n) (b0 : 0 ≤ b) (b1 : b < n) : ixR (rows.getD a.toNat []) b = .ok (ent rows a b) :=
  ixR_oi b0 (by rw [h.row a a0 a1]; exact b1)
theorem rowR_ok {n : Nat} {rows : List (List Int)} (h : Sq n rows) {a : Int} (a0 : 0 ≤ a) (a1 : a < n) : rowR rows a = .ok (a.toNat, rows.getD a.toNat []) := by
  have hl := h.len
  have q : a.toNat < rows.length := by omega
  unfold rowR ixN
  rw [if_pos a0, if_pos (by omega), Option.bind_some, List.getElem?_eq_getElem q, List.getD_eq_getElem?_getD, List.getElem?_eq_getElem q] <;> rfl
/-- x more at a place -/
def bump (rows : List (List Int)) (a b x : Int) : List (List Int) := rows.set a.toNat (addAt (rows.getD a.toNat []) b x)
theorem getD_set {α : Type} {l : List α} {i j : Nat} {x d : α} (h : i < l.length) : (l.set i x).getD j d = if i = j then x else l.getD j d := by
  rw [List.getD_eq_getElem?_getD, List.getD_eq_getElem?_getD, List.getElem?_set]
  by_cases e : i = j
  · subst e
    rw [if_pos rfl, if_pos rfl, if_pos h] <;> rfl
  · rw [if_neg e, if_neg e]
theorem bump_sq {n : Nat} {rows : List (List Int)} (h : Sq n rows) {a : Int} (b x : Int) (a0 : 0 ≤ a) (a1 : a < n) : Sq n (bump rows a b x) := by
  have hl := h.len
  refine ⟨by unfold bump; rw [List.length_set]; exact hl, fun i i0 i1 => ?_⟩
  unfold bump
  rw [getD_set (by omega)]
  split
  · rw [addAt_len]; exact h.row a a0 a1
  · exact h.row i i0 i1
theorem bump_ent {n : Nat} {rows : List (List Int)} (h : Sq n rows) {a b x i j : Int} (a0 : 0 ≤ a) (a1 : a < n) (b0 : 0 ≤ b) (b1 : b < n) (i0 : 0 ≤ i) (i1 : i < n) (j0 : 0 ≤ j) (j1 : j < n) : ent (bump rows a b x) i j = ent rows i j + if i = a ∧ j = b then x else 0 := by
  have hl := h.len
  have hr := h.row a a0 a1
  unfold ent bump
  rw [getD_set (by omega)]
  by_cases e : i = a
  · subst e
    rw [if_pos rfl, oi_addAt j0 (by omega) b0 (by omega)]
    by_cases e2 : j = b
    · rw [if_pos e2, if_pos ⟨rfl, e2⟩]
    · rw [if_neg e2, if_neg fun z => e2 z.2]
  · rw [if_neg (by omega), if_neg fun z => e z.1, Int.add_zero]
/-- what a tie is in the table -/
def tieAt (i j : Int) (t : Int × Int) : Int := (if i = t.1 ∧ j = t.2 then 1 else 0) + if i = t.2 ∧ j = t.1 then 1 else 0
theorem tieAt_sym (i j : Int) (t : Int × Int) : tieAt i j t = tieAt j i t := by
  unfold tieAt
  by_cases a : i = t.1 ∧ j = t.2
  · by_cases b : i = t.2 ∧ j = t.1
    · rw [if_pos a, if_pos b, if_pos ⟨b.2, b.1⟩, if_pos ⟨a.2, a.1⟩]
    · rw [if_pos a, if_neg b, if_neg fun z => b ⟨z.2, z.1⟩, if_pos ⟨a.2, a.1⟩]; omega
  · by_cases b : i = t.2 ∧ j = t.1
    · rw [if_neg a, if_pos b, if_pos ⟨b.2, b.1⟩, if_neg fun z => a ⟨z.2, z.1⟩]; omega
    · rw [if_neg a, if_neg b, if_neg fun z => b ⟨z.2, z.1⟩, if_neg fun z => a ⟨z.2, z.1⟩]
theorem rows_ok {n : Nat} {T : List (Int × Int)} (h8 : n ≤ 8) (hf : ∀ t ∈ T, Fit n t) : ∃ rows, m_law_rows (((n : Int), ⟨T⟩), ()) = .ok rows ∧ Sq n rows ∧ ∀ i j : Int, 0 ≤ i → i < n → 0 ≤ j → j < n → ent rows i j = (T.map (tieAt i j)).sum := by
  unfold m_law_rows
  dsimp only
  have e0 : mapR (fun y78 : Int => (R.ok (0 : Int))) (rangeL 0 (n : Int)) = .ok ((rangeL 0 (n : Int)).map fun _ => 0) := mapR_ok (fun _ _ => rfl) (by rw [rangeL_len]; omega)
  have er : rngR 0 (n : Int) = .ok (rangeL 0 (n : Int)) := rngR_ok (by omega) (by omega) (by omega) (by omega)
  have e1 : mapR (fun y73 : Int => (((rngR 0 (n : Int)) : R _).bind fun x83 => (mapR (fun y78 : Int => (.ok (0 : Int))) x83))) (rangeL 0 (n : Int)) = .ok ((rangeL 0 (n : Int)).map fun _ => (rangeL 0 (n : Int)).map fun _ => 0) := mapR_ok (fun _ _ => by rw [er, bind_ok, e0]) (by rw [rangeL_len]; omega)
  rw [er, bind_ok]
  rw [er] at e1
  rw [e1, bind_ok]
  have hlen : ((rangeL 0 (n : Int)).map fun _ => (rangeL 0 (n : Int)).map fun _ => (0 : Int)).length = n := by rw [List.length_map, rangeL_len]; omega
  have hget : ∀ a : Int, 0 ≤ a → a < n → ((rangeL 0 (n : Int)).map fun _ => (rangeL 0 (n : Int)).map fun _ => (0 : Int)).getD a.toNat [] = (rangeL 0 (n : Int)).map fun _ => (0 : Int) := fun a a0 a1 => by
    rw [List.getD_eq_getElem?_getD, List.getElem?_eq_getElem (by rw [hlen]; omega), List.getElem_map] <;> rfl
  have W := forR_inv (b := (fun (y88 : Int × Int) (s87 : List (List Int)) => (((((((ixR s87 y88.1) : R _).bind fun x89 => (ixR x89 y88.2)) : R _).bind fun x90 => (.ok (x90 + (1 : Int)))) : R _).bind fun x98 => (((rowR s87 y88.1) : R _).bind fun k99 => (((setR k99.2 y88.2 x98) : R _).bind fun w100 => ((fun y91 : (List (List Int)) => (((((((ixR y91 y88.2) : R _).bind fun x92 => (ixR x92 y88.1)) : R _).bind fun x93 => (.ok (x93 + (1 : Int)))) : R _).bind fun x95 => (((rowR y91 y88.2) : R _).bind fun k96 => (((setR k96.2 y88.1 x95) : R _).bind fun w97 => ((fun y94 : (List (List Int)) => (.ok y94)) (List.set y91 k96.1 w97)))))) (List.set s87 k99.1 w100)))))))
    (fun (ys : List (Int × Int)) (s : List (List Int)) => Sq n s ∧ ∀ i j : Int, 0 ≤ i → i < n → 0 ≤ j → j < n → ent s i j = (ys.map (tieAt i j)).sum) (xs := T) (ys := []) (s := (rangeL 0 (n : Int)).map fun _ => (rangeL 0 (n : Int)).map fun _ => (0 : Int))
    ⟨⟨hlen, fun a a0 a1 => by rw [hget a a0 a1, List.length_map, rangeL_len]; omega⟩, fun i j i0 i1 j0 j1 => by
      show oi _ j = 0
      rw [hget i i0 i1, oi_get (by rw [List.length_map, rangeL_len]; omega), List.getElem_map]⟩ (fun t zs s ⟨r, hr⟩ ⟨sq, i3⟩ => by
      have ht : t ∈ T := by rw [hr]; exact List.mem_append_right _ List.mem_cons_self
      obtain ⟨f1, f2, f3, f4, f5⟩ := hf t ht
      rw [List.nil_append] at i3
      have sq1 := bump_sq sq t.2 1 f2 f4
      have sq2 := bump_sq sq1 t.1 1 f3 f5
      refine ⟨bump (bump s t.1 t.2 1) t.2 t.1 1, ?_, sq2, fun i j i0 i1 j0 j1 => ?_⟩
      · have p1 : setR (s.getD t.1.toNat []) t.2 (ent s t.1 t.2 + 1) = .ok (addAt (s.getD t.1.toNat []) t.2 1) := setR_addAt f3 (by rw [sq.row t.1 f2 f4]; exact f5) 1
        have p2 : setR ((bump s t.1 t.2 1).getD t.2.toNat []) t.1 (ent (bump s t.1 t.2 1) t.2 t.1 + 1) = .ok (addAt ((bump s t.1 t.2 1).getD t.2.toNat []) t.1 1) := setR_addAt f2 (by rw [sq1.row t.2 f3 f5]; exact f4) 1
        rw [ixR_row sq f2 f4, bind_ok, ixR_ent sq f2 f4 f3 f5, bind_ok, bind_ok, rowR_ok sq f2 f4, bind_ok, p1, bind_ok]
        show (((((((ixR (bump s t.1 t.2 1) t.2) : R _).bind fun x92 => (ixR x92 t.1)) : R _).bind fun x93 => (.ok (x93 + (1 : Int)))) : R _).bind fun x95 => (((rowR (bump s t.1 t.2 1) t.2) : R _).bind fun k96 => (((setR k96.2 t.1 x95) : R _).bind fun w97 => (.ok (List.set (bump s t.1 t.2 1) k96.1 w97))))) = _
        rw [ixR_row sq1 f3 f5, bind_ok, ixR_ent sq1 f3 f5 f2 f4, bind_ok, bind_ok, rowR_ok sq1 f3 f5, bind_ok, p2, bind_ok] <;> rfl
      · rw [bump_ent sq1 f3 f5 f2 f4 i0 i1 j0 j1, bump_ent sq f2 f4 f3 f5 i0 i1 j0 j1, i3 i j i0 i1 j0 j1, List.nil_append, List.map_append, sum_app, List.map_singleton]
        show _ = _ + (tieAt i j t + 0)
        unfold tieAt
        omega)
  obtain ⟨s, e, sq, i3⟩ := W
  rw [List.nil_append] at i3
  rw [e, bind_ok]
  exact ⟨s, rfl, sq, i3⟩
theorem standing_ok {n : Nat} {ns : List Int} (h1 : 1 ≤ n) (h8 : n ≤ 8) (hl : ns.length ≤ 63) (hb : ∀ z ∈ ns, bits z ≤ 1048576) : ∃ st, m_law_standing (⟨ns⟩, (n : Int), ()) = .ok st ∧ st.length = n ∧ ∀ x ∈ st, bits x ≤ 202 := by
  obtain ⟨c0, ec0, bc0⟩ := cell_ok hb (show (0 : Int) ≤ 0 by omega)
  unfold m_law_standing
  dsimp only
  have e0 : mapR (fun y102 : Int => (((mulR y102 y102) : R _).bind fun x107 => (.ok (x107 + y102)))) (rangeL 0 (n : Int)) = .ok ((rangeL 0 (n : Int)).map fun k => k * k + k) := mapR_ok (fun k hk => by
    obtain ⟨k0, k1⟩ := mem_rangeL hk
    rw [mulR_ok (m := 4) (n := 4) (bits_of (by omega)) (bits_of (by omega)) (by decide), bind_ok]) (by rw [rangeL_len]; omega)
  have hp : powR (10 : Int) 60 = .ok (10 ^ (60 : Int).toNat) := powR_ok (show bits 10 ≤ 4 by decide) (by decide) (by decide)
  rw [rngR_ok (by omega) (by omega) (by omega) (by omega), bind_ok, e0, bind_ok, rngR_ok (by omega) (by omega) (by omega) (by omega), bind_ok]
  have W := forR_inv (b := (fun (y111 : Int) (s110 : List Int) => (((modR y111 (n : Int)) : R Int).bind fun y112 => (((((((((ixR s110 y112) : R _).bind fun x113 => (mulR x113 (31 : Int))) : R _).bind fun x117 => (((((ixR ns y111) : R _).bind fun x115 => (((((mulR (2 : Int) y111) : R _).bind fun x114 => (.ok (x114 + (1 : Int)))) : R _).bind fun x116 => (mulR x115 x116))) : R _).bind fun x118 => (.ok (x117 + x118)))) : R _).bind fun x120 => (((((powR (10 : Int) (60 : Int)) : R _).bind fun x119 => (.ok (x119 + (7 : Int)))) : R _).bind fun x121 => (modR x120 x121))) : R _).bind fun x123 => ((setR s110 y112 x123).bind fun y122 => (.ok y122))))))
    (fun _ (s : List Int) => s.length = n ∧ ∀ x ∈ s, bits x ≤ 201) (xs := rangeL 1 (ns.length : Int)) (ys := []) (s := (rangeL 0 (n : Int)).map fun k => k * k + k) ⟨by rw [List.length_map, rangeL_len]; omega, fun x hx => by
      obtain ⟨k, hk, rfl⟩ := List.mem_map.mp hx
      obtain ⟨k0, k1⟩ := mem_rangeL hk
      have b1 : bits (k * k) ≤ 4 + 4 := intBits_mul_le (bits_of (by omega)) (bits_of (by omega))
      have b2 : bits (k * k + k) ≤ max 8 4 + 1 := intBits_add_le b1 (bits_of (by omega))
      exact Nat.le_trans b2 (by decide)⟩ (fun k zs s ⟨r, hr⟩ ⟨i1, i2⟩ => by
      have hk : k ∈ rangeL 1 (ns.length : Int) := by rw [hr]; exact List.mem_append_right _ List.mem_cons_self
      obtain ⟨k0, k1⟩ := mem_rangeL hk
      have b := fmod_bounds k (show 0 < (n : Int) by omega)
      have ha : (k.fmod n).toNat < s.length := by omega
      have bo : bits (oi s (k.fmod n)) ≤ 201 := by
        rw [oi_get ha]; exact i2 _ (List.getElem_mem ha)
      have hk2 : k.toNat < ns.length := by omega
      have bs : bits (oi ns k) ≤ 1048576 := by
        rw [oi_get hk2]; exact hb _ (List.getElem_mem hk2)
      have hm : (10 : Int) ^ (60 : Int).toNat + 7 ≠ 0 := by decide
      refine ⟨s.set (k.fmod n).toNat ((oi s (k.fmod n) * 31 + oi ns k * (2 * k + 1)).fmod ((10 : Int) ^ (60 : Int).toNat + 7)), ?_, by rw [List.length_set]; exact i1, fun x hx => ?_⟩
      · rw [modR_ok (by omega), bind_ok, ixR_oi b.1 (by omega), bind_ok, mulR_ok bo (show bits 31 ≤ 5 by decide) (by decide), bind_ok, ixR_oi (by omega) k1, bind_ok, mulR_ok (show bits 2 ≤ 2 by decide) (show bits k ≤ 7 from bits_of (by omega)) (by decide), bind_ok, bind_ok,
          mulR_ok bs (show bits (2 * k + 1) ≤ 8 from bits_of (by omega)) (by decide), bind_ok, bind_ok, hp, bind_ok, bind_ok, modR_ok hm, bind_ok, setR_int b.1 (by omega), bind_ok]
      · rcases List.mem_or_eq_of_mem_set hx with h | h
        · exact i2 x h
        · rw [h]
          exact bits_fmod_by hm (by decide))
  obtain ⟨s, e, i1, i2⟩ := W
  rw [e, bind_ok]
  have g := fmod_bounds (c0.fdiv 80) (show (0 : Int) < 4 by decide)
  have p30 : powR (10 : Int) 30 = .ok (10 ^ (30 : Int).toNat) := powR_ok (show bits 10 ≤ 4 by decide) (by decide) (by decide)
  have p59 : powR (10 : Int) 59 = .ok (10 ^ (59 : Int).toNat) := powR_ok (show bits 10 ≤ 4 by decide) (by decide) (by decide)
  have M : ∃ m : Int, ixR [(3 : Int), 40, 10 ^ (30 : Int).toNat, 10 ^ (59 : Int).toNat] ((c0.fdiv 80).fmod 4) = .ok m ∧ 0 < m ∧ bits m ≤ 197 := by
    generalize (c0.fdiv 80).fmod 4 = i at g
    by_cases q0 : i = 0
    · subst q0; exact ⟨_, rfl, by decide, by decide⟩
    · by_cases q1 : i = 1
      · subst q1; exact ⟨_, rfl, by decide, by decide⟩
      · by_cases q2 : i = 2
        · subst q2; exact ⟨_, rfl, by decide, by decide⟩
        · have q3 : i = 3 := by omega
          subst q3; exact ⟨_, rfl, by decide, by decide⟩
  obtain ⟨m, em, m0, mb⟩ := M
  rw [p30, bind_ok, p59, bind_ok, bind_ok, bind_ok, bind_ok, bind_ok, ec0, bind_ok, divR_ok (by decide) (by decide), bind_ok, modR_ok (by decide), bind_ok, em, bind_ok]
  have b2 : bits (2 * m) ≤ 2 + 197 := intBits_mul_le (show bits 2 ≤ 2 by decide) mb
  have b3 : bits (2 * m + 1) ≤ max 199 1 + 1 := intBits_add_le b2 (show bits 1 ≤ 1 by decide)
  have el : mapR (fun y134 : Int => (((((((mulR (2 : Int) m) : R _).bind fun x139 => (.ok (x139 + (1 : Int)))) : R _).bind fun x140 => (modR y134 x140)) : R _).bind fun x141 => (.ok (x141 - m)))) s = .ok (s.map fun y => y.fmod (2 * m + 1) - m) := mapR_ok (fun y hy => by
    rw [mulR_ok (show bits 2 ≤ 2 by decide) mb (by decide), bind_ok, bind_ok, modR_ok (by omega), bind_ok]) (by omega)
  rw [el, bind_ok]
  refine ⟨_, rfl, by rw [List.length_map]; exact i1, fun x hx => ?_⟩
  obtain ⟨y, hy, rfl⟩ := List.mem_map.mp hx
  have b4 : bits (y.fmod (2 * m + 1)) ≤ 200 := bits_fmod_by (by omega) (Nat.le_trans b3 (by decide))
  exact Nat.le_trans (intBits_sub_le b4 mb) (by decide)
/-! ### queues -/
section
variable (n : Nat) (rows : List (List Int)) (st : List Int)
/-- the ties of a house to those of a row -/
def nearTo (r : List Int) (h : Int) : Int := (r.map fun j => ent rows j h).sum
def joinsB (r : List Int) (h : Int) : Bool := if (!decide (h ∈ r)) = true then decide (oi st h < nearTo rows r h) else false
def nxt (r : List Int) : Option Int := (rangeL 0 (n : Int)).find? (joinsB rows st r)
end
theorem forM_find {α O : Type} {b : α → Unit → R (Ct Unit α)} {p : α → Bool} : ∀ {xs : List α}, (∀ x ∈ xs, b x () = if p x = true then .ok (.rt x) else .ok (.nx ())) → forM b xs () = match xs.find? p with | some x => .ok (.rt x) | none => .ok (.nx ())
  | [], _ => rfl
  | x :: xs, h => by
    show ((b x ()).bind (Ct.by (fun s' => forM b xs s') fun o => .ok (.rt o))) = _
    rw [h x List.mem_cons_self, List.find?_cons]
    cases p x with
    | true => rfl
    | false => exact forM_find (O := O) fun y hy => h y (List.mem_cons_of_mem _ hy)
theorem next_ok {n : Nat} {rows : List (List Int)} {st near r : List Int} (h8 : n ≤ 8) (hs : st.length = n) (hn : near.length = n) (ho : ∀ h : Int, 0 ≤ h → h < n → oi near h = nearTo rows r h) : m_next_one (st, near, r, ()) = .ok ((nxt n rows st r).getD (-1)) := by
  unfold m_next_one
  dsimp only
  rw [hs, rngR_ok (by omega) (by omega) (by omega) (by omega), bind_ok, forM_find (O := Int) (p := joinsB rows st r) (fun h hh => ?_)]
  · unfold nxt
    cases (rangeL 0 (n : Int)).find? (joinsB rows st r) <;> rfl
  · obtain ⟨h0, h1⟩ := mem_rangeL hh
    unfold joinsB
    by_cases c : h ∈ r
    · rw [decide_eq_true c, Bool.not_true, ite_f, ite_f, bind_ok, ite_f]
    · rw [decide_eq_false c, Bool.not_false, ite_t, ite_t, ixR_oi h0 (by omega), bind_ok, ixR_oi h0 (by omega), bind_ok, bind_ok, ho h h0 h1]
/-- one house behind another -/
structure Qu (n : Nat) (rows : List (List Int)) (st : List Int) (house : Int) (r : List Int) : Prop where
  nd : r.Nodup
  inn : ∀ x ∈ r, 0 ≤ x ∧ x < n
  hd : ∀ x, r[0]? = some x → x = house
  ch : ∀ k : Nat, k + 1 < r.length → nxt n rows st (r.take (k + 1)) = r[k + 1]?
theorem nodup_len : ∀ {n : Nat} {r : List Int}, r.Nodup → (∀ x ∈ r, 0 ≤ x ∧ x < n) → r.length ≤ n
  | 0, r, _, inn => by
    cases r with
    | nil => exact Nat.le_refl _
    | cons x r =>
      have := inn x List.mem_cons_self
      omega
  | n + 1, r, nd, inn => by
    by_cases h : (n : Int) ∈ r
    · have := nodup_len (n := n) (r := r.erase (n : Int)) (nd.erase _) fun x hx => by
        obtain ⟨a, b⟩ := (List.Nodup.mem_erase_iff nd).mp hx
        have := inn x b
        omega
      rw [List.length_erase_of_mem h] at this
      omega
    · have := nodup_len (n := n) (r := r) nd fun x hx => by
        have := inn x hx
        have ne : x ≠ n := fun z => h (z ▸ hx)
        omega
      omega
theorem nxt_mem {n : Nat} {rows : List (List Int)} {st r : List Int} {x : Int} (h : nxt n rows st r = some x) : 0 ≤ x ∧ x < n ∧ x ∉ r := by
  unfold nxt at h
  have h1 := List.mem_of_find?_eq_some h
  have h2 := List.find?_some h
  obtain ⟨a, b⟩ := mem_rangeL h1
  refine ⟨a, b, fun c => ?_⟩
  unfold joinsB at h2
  rw [decide_eq_true c, Bool.not_true, ite_f] at h2
  cases h2
theorem look_ok {n : Nat} {T : List (Int × Int)} {st : List Int} {house : Int} (hs : st.length = n) (h0 : 0 ≤ house) (h1 : house < n) : m_look_at (((n : Int), ⟨T⟩), st, house, ()) = .ok () := by
  unfold m_look_at
  dsimp only
  rw [hs, pyEq_refl, Bool.not_true, ite_f, decide_eq_false (by omega), ite_f, decide_eq_false (by omega), bind_ok, ite_f]
theorem queue_ok {n : Nat} {T : List (Int × Int)} {rows : List (List Int)} {st : List Int} {house : Int} (h8 : n ≤ 8) (er : m_law_rows (((n : Int), ⟨T⟩), ()) = .ok rows) (sq : Sq n rows) (hs : st.length = n) (h0 : 0 ≤ house) (h1 : house < n) :
    ∃ r, m_queue (((n : Int), ⟨T⟩), st, house, ()) = .ok r ∧ Qu n rows st house r ∧ r ≠ [] ∧ nxt n rows st r = none := by
  have er' : m_tie_rows (((n : Int), ⟨T⟩), ()) = .ok rows := er
  unfold m_queue
  dsimp only
  have e0 : mapR (fun y179 : Int => (R.ok (0 : Int))) st = .ok (st.map fun _ => 0) := mapR_ok (fun _ _ => rfl) (by omega)
  rw [look_ok hs h0 h1, bind_ok, er', bind_ok, bind_ok, e0, bind_ok, bind_ok]
  have E := whileR_end (c := (fun s186 : List Int × List Int × Int => (R.ok (decide ((0 : Int) ≤ s186.2.2))))) (b := (fun s186 : List Int × List Int × Int => ((appR s186.1 s186.2.2).bind fun y187 => (((((rngR 0 (n : Int)) : R _).bind fun x196 => (mapR (fun y188 => (((ixR s186.2.1 y188) : R _).bind fun x194 => (((((ixR rows s186.2.2) : R _).bind fun x193 => (ixR x193 y188)) : R _).bind fun x195 => (.ok (x194 + x195))))) x196)) : R (List Int)).bind fun y197 => (((m_next_one (st, y197, y187, ())) : R Int).bind fun y204 => (.ok (y187, y197, y204)))))))
    (fun s => Qu n rows st house s.1 ∧ s.2.1.length = n ∧ (∀ h : Int, 0 ≤ h → h < n → oi s.2.1 h = nearTo rows s.1 h) ∧ (s.1 = [] → s.2.2 = house) ∧ (s.1 ≠ [] → s.2.2 = (nxt n rows st s.1).getD (-1))) (fun s => decide ((0 : Int) ≤ s.2.2)) (fun s => n + 1 - s.1.length) (fun s _ => rfl)
    (fun s ⟨q, nl, no, he, hne⟩ hj => by
      have hj' : 0 ≤ s.2.2 := of_decide_eq_true hj
      have J : s.2.2 < n ∧ s.2.2 ∉ s.1 ∧ (s.1 ≠ [] → nxt n rows st s.1 = some s.2.2) := by
        by_cases e : s.1 = []
        · rw [he e]
          exact ⟨h1, by rw [e]; simp, fun z => absurd e z⟩
        · have q1 := hne e
          cases hx : nxt n rows st s.1 with
          | none => rw [hx] at q1; have : s.2.2 = -1 := q1; omega
          | some x =>
            rw [hx] at q1
            have q2 : s.2.2 = x := q1
            obtain ⟨a, b, c⟩ := nxt_mem hx
            rw [q2]
            exact ⟨b, c, fun _ => rfl⟩
      obtain ⟨j1, j2, j3⟩ := J
      have ln := nodup_len q.nd q.inn
      have nd2 : (s.1 ++ [s.2.2]).Nodup := List.nodup_append.mpr ⟨q.nd, List.pairwise_singleton _ _, fun a ha b hb e => by
        rw [List.mem_singleton.mp hb] at e
        exact j2 (e ▸ ha)⟩
      have inn2 : ∀ x ∈ s.1 ++ [s.2.2], 0 ≤ x ∧ x < n := fun x hx => by
        rcases List.mem_append.mp hx with hx | hx
        · exact q.inn x hx
        · rw [List.mem_singleton.mp hx]; exact ⟨hj', j1⟩
      have q2 : Qu n rows st house (s.1 ++ [s.2.2]) := by
        refine ⟨nd2, inn2, fun x hx => ?_, fun k hk => ?_⟩
        · cases hs1 : s.1 with
          | nil =>
            rw [hs1] at hx
            have : s.2.2 = x := Option.some.inj hx
            rw [← this]; exact he hs1
          | cons a l =>
            refine q.hd x ?_
            rw [hs1] at hx ⊢
            exact hx
        · rw [List.length_append, List.length_singleton] at hk
          by_cases e : k + 1 < s.1.length
          · rw [List.take_append_of_le_length (by omega), List.getElem?_append_left e]
            exact q.ch k e
          · have ek : k + 1 = s.1.length := by omega
            rw [List.take_append_of_le_length (by omega), ek, List.take_length, List.getElem?_append_right (Nat.le_refl _), Nat.sub_self]
            exact j3 fun z => by rw [z] at ek; simp at ek
      have em : mapR (fun y188 : Int => (((ixR s.2.1 y188) : R _).bind fun x194 => (((((ixR rows s.2.2) : R _).bind fun x193 => (ixR x193 y188)) : R _).bind fun x195 => (.ok (x194 + x195))))) (rangeL 0 (n : Int)) = .ok ((rangeL 0 (n : Int)).map fun h => oi s.2.1 h + ent rows s.2.2 h) := mapR_ok (fun h hh => by
        obtain ⟨a, b⟩ := mem_rangeL hh
        rw [ixR_oi a (by omega), bind_ok, ixR_row sq hj' j1, bind_ok, ixR_ent sq hj' j1 a b, bind_ok]) (by rw [rangeL_len]; omega)
      have nl2 : ((rangeL 0 (n : Int)).map fun h => oi s.2.1 h + ent rows s.2.2 h).length = n := by rw [List.length_map, rangeL_len]; omega
      have no2 : ∀ h : Int, 0 ≤ h → h < n → oi ((rangeL 0 (n : Int)).map fun h => oi s.2.1 h + ent rows s.2.2 h) h = nearTo rows (s.1 ++ [s.2.2]) h := fun h a b => by
        have g : ((rangeL 0 (n : Int)).map fun h => oi s.2.1 h + ent rows s.2.2 h)[h.toNat]? = some (oi s.2.1 h + ent rows s.2.2 h) := by
          rw [rangeL_nat, List.map_map, List.getElem?_map, List.getElem?_range (by omega)]
          show some (oi s.2.1 ((h.toNat : Nat) : Int) + ent rows s.2.2 ((h.toNat : Nat) : Int)) = _
          rw [show ((h.toNat : Nat) : Int) = h by omega]
        rw [oi_get (by omega)]
        rw [List.getElem?_eq_getElem (by omega)] at g
        rw [Option.some.inj g, no h a b]
        unfold nearTo
        rw [List.map_append, sum_app]
        show _ = _ + (ent rows s.2.2 h + 0)
        omega
      refine ⟨(s.1 ++ [s.2.2], (rangeL 0 (n : Int)).map (fun h => oi s.2.1 h + ent rows s.2.2 h), (nxt n rows st (s.1 ++ [s.2.2])).getD (-1)), ?_, ⟨q2, nl2, no2, fun z => by simp at z, fun _ => rfl⟩, ?_⟩
      · rw [appR_ok (by omega), bind_ok, rngR_ok (by omega) (by omega) (by omega) (by omega), bind_ok, em, bind_ok, next_ok h8 hs nl2 no2, bind_ok]
      · show n + 1 - (s.1 ++ [s.2.2]).length < n + 1 - s.1.length
        rw [List.length_append, List.length_singleton]; omega)
    fuel ([], st.map fun _ => 0, house) ⟨⟨List.Pairwise.nil, (fun x hx => by cases hx), (fun x hx => by cases hx), fun k hk => by simp at hk⟩, by rw [List.length_map]; exact hs, (fun h a b => by
      show oi (st.map fun _ => 0) h = 0
      rw [oi_get (by rw [List.length_map]; omega), List.getElem_map]), fun _ => rfl, fun z => absurd rfl z⟩ (by show n + 1 - 0 < 1000000; omega)
  obtain ⟨s, e, ⟨q, _, _, he, hne⟩, hf⟩ := E
  rw [e, bind_ok]
  have hneg : ¬ 0 ≤ s.2.2 := of_decide_eq_false hf
  have ne : s.1 ≠ [] := fun z => hneg (by rw [he z]; exact h0)
  refine ⟨s.1, rfl, q, ne, ?_⟩
  have q1 := hne ne
  cases hx : nxt n rows st s.1 with
  | none => rfl
  | some x =>
    rw [hx] at q1
    have q2 : s.2.2 = x := q1
    have := (nxt_mem hx).1
    omega
theorem ties_to_ok {n : Nat} {rows : List (List Int)} {r : List Int} {h : Int} (sq : Sq n rows) (sym : ∀ i j : Int, 0 ≤ i → i < n → 0 ≤ j → j < n → ent rows i j = ent rows j i) (h0 : 0 ≤ h) (h1 : h < n) (inn : ∀ x ∈ r, 0 ≤ x ∧ x < n) : m_law_ties_to (rows, h, r, ()) = .ok (nearTo rows r h) := by
  unfold m_law_ties_to
  dsimp only
  rw [bind_ok, forR_ok (f := fun s o => s + ent rows o h) (fun o ho s => by
    obtain ⟨a, b⟩ := inn o ho
    rw [ixR_row sq h0 h1, bind_ok, ixR_ent sq h0 h1 a b, bind_ok, bind_ok, sym h o h0 h1 a b]), bind_ok]
  have F : ∀ (xs : List Int) (a : Int) (f : Int → Int), xs.foldl (fun s o => s + f o) a = a + (xs.map f).sum := fun xs => by
    induction xs with
    | nil => intro a f; simp
    | cons x xs ih => intro a f; rw [List.foldl_cons, ih, List.map_cons, List.sum_cons]; omega
  rw [F r 0 (fun o => ent rows o h), Int.zero_add] <;> rfl
theorem cut_to {α : Type} (xs : List α) {k : Int} (h0 : 0 ≤ k) : cutL xs none (some k) = xs.take k.toNat := by
  have e : HT.sIx xs.length xs.length (some k) = min k.toNat xs.length := by
    show (if k < 0 then (k + (xs.length : Int)).toNat else min k.toNat xs.length) = _
    rw [if_neg (by omega)]
  unfold cutL
  rw [e]
  show (xs.drop 0).take (min k.toNat xs.length - 0) = _
  rw [List.drop_zero, Nat.sub_zero]
  by_cases h : k.toNat ≤ xs.length
  · rw [Nat.min_eq_left h]
  · rw [Nat.min_eq_right (by omega), List.take_of_length_le (Nat.le_refl _), List.take_of_length_le (by omega)]
theorem cut_one {α : Type} (xs : List α) {k : Int} (h0 : 0 ≤ k) (h1 : k < xs.length) : cutL xs (some (k + 1)) (some (k + 2)) = (xs.drop (k.toNat + 1)).take 1 := by
  have e1 : HT.sIx xs.length 0 (some (k + 1)) = k.toNat + 1 := by
    show (if k + 1 < 0 then (k + 1 + (xs.length : Int)).toNat else min (k + 1).toNat xs.length) = _
    rw [if_neg (by omega)]; omega
  have e2 : HT.sIx xs.length xs.length (some (k + 2)) = min (k.toNat + 2) xs.length := by
    show (if k + 2 < 0 then (k + 2 + (xs.length : Int)).toNat else min (k + 2).toNat xs.length) = _
    rw [if_neg (by omega)]; omega
  unfold cutL
  rw [e1, e2]
  by_cases h : k.toNat + 2 ≤ xs.length
  · rw [Nat.min_eq_left h]
    congr 1
    omega
  · have q : xs.drop (k.toNat + 1) = [] := List.drop_eq_nil_of_le (by omega)
    rw [q, List.take_nil, List.take_nil]
theorem take_filter {α : Type} (p : α → Bool) (xs : List α) : (xs.filter p).take 1 = (xs.find? p).toList := by
  induction xs with
  | nil => rfl
  | cons x xs ih =>
    cases h : p x with
    | true => rw [List.filter_cons_of_pos h, List.find?_cons, h] <;> rfl
    | false => rw [List.filter_cons_of_neg (by rw [h]; decide), List.find?_cons, h]; exact ih
theorem take_drop_one {α : Type} (xs : List α) (i : Nat) : (xs.drop i).take 1 = (xs[i]?).toList := by
  induction xs generalizing i with
  | nil => simp
  | cons x xs ih =>
    cases i with
    | zero => rfl
    | succ i => exact ih i
/-! ### plain standings -/
theorem qu_all {n : Nat} {rows : List (List Int)} {st r : List Int} {house : Int} (q : Qu n rows st house r) (ne : r ≠ []) (he : nxt n rows st r = none) (k : Nat) (hk : k + 1 ≤ r.length) : r[k + 1]? = nxt n rows st (r.take (k + 1)) := by
  by_cases c : k + 1 < r.length
  · exact (q.ch k c).symm
  · have e : k + 1 = r.length := by omega
    rw [e, List.take_length, List.getElem?_eq_none (Nat.le_refl _), he]
theorem qu_uniq {n : Nat} {rows : List (List Int)} {st r r' : List Int} {house : Int} (q : Qu n rows st house r) (q' : Qu n rows st house r') (ne : r ≠ []) (ne' : r' ≠ []) (he : nxt n rows st r = none) (he' : nxt n rows st r' = none) : r = r' := by
  have pos : ∀ {l : List Int}, l ≠ [] → 0 < l.length := fun {l} h => by
    cases l with
    | nil => exact absurd rfl h
    | cons a l => simp
  have A : ∀ k : Nat, (∀ j, j ≤ k → r[j]? = r'[j]?) := fun k => by
    induction k with
    | zero =>
      intro j hj
      have : j = 0 := by omega
      subst this
      rw [List.getElem?_eq_getElem (pos ne), List.getElem?_eq_getElem (pos ne'), q.hd _ (List.getElem?_eq_getElem (pos ne)), q'.hd _ (List.getElem?_eq_getElem (pos ne'))]
    | succ k ih =>
      intro j hj
      by_cases e : j ≤ k
      · exact ih j e
      · have ej : j = k + 1 := by omega
        subst ej
        have et : r.take (k + 1) = r'.take (k + 1) := by
          refine List.ext_getElem? fun i => ?_
          by_cases hi : i < k + 1
          · rw [List.getElem?_take_of_lt hi, List.getElem?_take_of_lt hi]
            exact ih i (by omega)
          · rw [List.getElem?_take_eq_none (by omega), List.getElem?_take_eq_none (by omega)]
        have ek := ih k (Nat.le_refl _)
        by_cases c : k + 1 ≤ r.length
        · have c' : k + 1 ≤ r'.length := by
            rw [List.getElem?_eq_getElem (by omega)] at ek
            have := (List.getElem?_eq_some_iff.mp ek.symm).1
            omega
          rw [qu_all q ne he k c, qu_all q' ne' he' k c', et]
        · have c' : ¬ k + 1 ≤ r'.length := fun z => by
            rw [List.getElem?_eq_none (by omega), List.getElem?_eq_getElem (by omega)] at ek
            cases ek
          rw [List.getElem?_eq_none (by omega), List.getElem?_eq_none (by omega)]
  exact List.ext_getElem? fun i => A i i (Nat.le_refl _)
theorem lawq_ok {n : Nat} {rows : List (List Int)} {st : List Int} {house : Int} (h8 : n ≤ 8) (sq : Sq n rows) (sym : ∀ i j : Int, 0 ≤ i → i < n → 0 ≤ j → j < n → ent rows i j = ent rows j i) (hs : st.length = n) (h0 : 0 ≤ house) (h1 : house < n) :
    ∃ r, m_law_queue (rows, st, house, ()) = .ok r ∧ Qu n rows st house r ∧ r ≠ [] ∧ nxt n rows st r = none := by
  unfold m_law_queue
  dsimp only
  rw [bind_ok, bind_ok]
  have er : rngR 0 (rows.length : Int) = .ok (rangeL 0 (n : Int)) := by
    rw [sq.len]
    exact rngR_ok (by omega) (by omega) (by omega) (by omega)
  rw [er]
  have inner : ∀ r : List Int, (∀ x ∈ r, 0 ≤ x ∧ x < n) → forR (fun (y248 : Int) (s247 : List Int) => (((if (!decide (y248 ∈ r)) = true then (((ixR st y248) : R _).bind fun x255 => (((m_law_ties_to (rows, y248, r, ())) : R _).bind fun x256 => (.ok (decide (x255 < x256))))) else R.ok false) : R Bool).bind fun c260 => R.bind (if c260 = true then ((appR s247 y248).bind fun y258 => (.ok y258)) else (.ok s247)) fun s257 : (List Int) => (.ok s257))) (rangeL 0 (n : Int)) [] = .ok ((rangeL 0 (n : Int)).filter (joinsB rows st r)) := fun r inn => by
    have W := forR_inv (b := (fun (y248 : Int) (s247 : List Int) => (((if (!decide (y248 ∈ r)) = true then (((ixR st y248) : R _).bind fun x255 => (((m_law_ties_to (rows, y248, r, ())) : R _).bind fun x256 => (.ok (decide (x255 < x256))))) else R.ok false) : R Bool).bind fun c260 => R.bind (if c260 = true then ((appR s247 y248).bind fun y258 => (.ok y258)) else (.ok s247)) fun s257 : (List Int) => (.ok s257))))
      (fun (ys : List Int) (s : List Int) => s = ys.filter (joinsB rows st r)) (xs := rangeL 0 (n : Int)) (ys := []) (s := []) rfl (fun h zs s ⟨rr, hr⟩ hs' => by
        have hh : h ∈ rangeL 0 (n : Int) := by rw [hr]; exact List.mem_append_right _ List.mem_cons_self
        obtain ⟨h0, h1⟩ := mem_rangeL hh
        have hz := congrArg List.length hr
        rw [rangeL_len, List.length_append] at hz
        rw [List.nil_append] at hs'
        have sl : s.length ≤ 8 := by
          rw [hs']
          have := List.length_filter_le (joinsB rows st r) zs
          omega
        have et : (if (!decide (h ∈ r)) = true then (((ixR st h) : R _).bind fun x217 => (((m_law_ties_to (rows, h, r, ())) : R _).bind fun x218 => (.ok (decide (x217 < x218))))) else R.ok false) = R.ok (joinsB rows st r h) := by
          unfold joinsB
          cases decide (h ∈ r) with
          | true => rfl
          | false => rw [Bool.not_false, ite_t, ite_t, ixR_oi h0 (by omega), bind_ok, ties_to_ok sq sym h0 h1 inn, bind_ok]
        rw [et, bind_ok]
        cases hp : joinsB rows st r h with
        | true =>
          refine ⟨s ++ [h], ?_, ?_⟩
          · rw [ite_t, appR_ok (by omega), bind_ok, bind_ok]
          · rw [hs', List.nil_append, List.filter_append, List.filter_cons_of_pos hp] <;> rfl
        | false =>
          refine ⟨s, ?_, ?_⟩
          · rw [ite_f, bind_ok]
          · rw [hs', List.nil_append, List.filter_append, List.filter_cons_of_neg (by rw [hp]; decide), List.filter_nil, List.append_nil])
    obtain ⟨s, e, hs'⟩ := W
    rw [List.nil_append] at hs'
    rw [e, hs']
  have E := whileR_end (c := (fun s245 : List Int × List Int => (R.ok (!pyEq s245.2 ([] : (List Int)))))) (b := (fun s245 : List Int × List Int => (((.ok ([] : (List Int))) : R (List Int)).bind fun y246 => (((R.ok (rangeL 0 (n : Int))) : R _).bind fun x262 => (R.bind (forR (fun (y248 : Int) (s247 : List Int) => (((if (!decide (y248 ∈ s245.1)) = true then (((ixR st y248) : R _).bind fun x255 => (((m_law_ties_to (rows, y248, s245.1, ())) : R _).bind fun x256 => (.ok (decide (x255 < x256))))) else R.ok false) : R Bool).bind fun c260 => R.bind (if c260 = true then ((appR s247 y248).bind fun y258 => (.ok y258)) else (.ok s247)) fun s257 : (List Int) => (.ok s257))) x262 y246) fun s247 : (List Int) => (((catR s245.1 (cutL s247 none (some (1 : Int)))) : R (List Int)).bind fun y261 => (.ok (y261, s247))))))))
    (fun s => Qu n rows st house s.1 ∧ s.1 ≠ [] ∧ (s.2 = [] → nxt n rows st s.1 = none)) (fun s => !pyEq s.2 []) (fun s => 2 * (n + 1 - s.1.length) + if s.2 = [] then 0 else 1) (fun s _ => rfl)
    (fun s ⟨q, ne, _⟩ hj => by
      have ln := nodup_len q.nd q.inn
      have ne2 : s.2 ≠ [] := fun z => by
        rw [z] at hj
        have : pyEq ([] : List Int) [] = true := pyEq_refl _
        simp [this] at hj
      have ec : cutL ((rangeL 0 (n : Int)).filter (joinsB rows st s.1)) none (some (1 : Int)) = (nxt n rows st s.1).toList := by
        rw [cut_to _ (by decide : (0 : Int) ≤ 1)]
        exact take_filter _ _
      have hfl : ((rangeL 0 (n : Int)).filter (joinsB rows st s.1)) = [] ↔ nxt n rows st s.1 = none := by
        unfold nxt
        rw [List.filter_eq_nil_iff, List.find?_eq_none]
      have lenl : (nxt n rows st s.1).toList.length ≤ 1 := by cases nxt n rows st s.1 <;> simp
      refine ⟨(s.1 ++ (nxt n rows st s.1).toList, (rangeL 0 (n : Int)).filter (joinsB rows st s.1)), ?_, ?_, ?_⟩
      · rw [bind_ok, bind_ok, inner s.1 q.inn, bind_ok, ec, catR_ok (by omega), bind_ok]
      · cases hx : nxt n rows st s.1 with
        | none =>
          refine ⟨?_, ?_, fun _ => ?_⟩
          · show Qu n rows st house (s.1 ++ [])
            rw [List.append_nil]; exact q
          · show s.1 ++ [] ≠ []
            rw [List.append_nil]; exact ne
          · show nxt n rows st (s.1 ++ []) = none
            rw [List.append_nil]; exact hx
        | some x =>
          obtain ⟨x0, x1, x2⟩ := nxt_mem hx
          refine ⟨?_, by simp, fun z => ?_⟩
          · show Qu n rows st house (s.1 ++ [x])
            refine ⟨List.nodup_append.mpr ⟨q.nd, List.pairwise_singleton _ _, fun a ha b hb e => ?_⟩, fun y hy => ?_, fun y hy => ?_, fun k hk => ?_⟩
            · rw [List.mem_singleton.mp hb] at e
              exact x2 (e ▸ ha)
            · rcases List.mem_append.mp hy with hy | hy
              · exact q.inn y hy
              · rw [List.mem_singleton.mp hy]; exact ⟨x0, x1⟩
            · cases hs1 : s.1 with
              | nil => exact absurd hs1 ne
              | cons a l =>
                refine q.hd y ?_
                rw [hs1] at hy ⊢
                exact hy
            · rw [List.length_append, List.length_singleton] at hk
              by_cases e : k + 1 < s.1.length
              · rw [List.take_append_of_le_length (by omega), List.getElem?_append_left e]
                exact q.ch k e
              · have ek : k + 1 = s.1.length := by omega
                rw [List.take_append_of_le_length (by omega), ek, List.take_length, List.getElem?_append_right (Nat.le_refl _), Nat.sub_self]
                exact hx
          · rw [hfl.mp z] at hx
            cases hx
      · rw [if_neg ne2]
        show 2 * (n + 1 - (s.1 ++ (nxt n rows st s.1).toList).length) + (if ((rangeL 0 (n : Int)).filter (joinsB rows st s.1)) = [] then 0 else 1) < _
        rw [List.length_append]
        cases hx : nxt n rows st s.1 with
        | none =>
          rw [if_pos (hfl.mpr hx)]
          show 2 * (n + 1 - (s.1.length + 0)) + 0 < _
          omega
        | some x =>
          rw [if_neg fun z => by rw [hfl.mp z] at hx; cases hx]
          show 2 * (n + 1 - (s.1.length + 1)) + 1 < _
          omega)
    fuel ([house], [house]) ⟨⟨List.pairwise_singleton _ _, (fun x hx => by rw [List.mem_singleton.mp hx]; exact ⟨h0, h1⟩), (fun x hx => (Option.some.inj hx).symm), fun k hk => by simp at hk⟩, by simp, fun z => by cases z⟩ (by
      show 2 * (n + 1 - 1) + _ < 1000000
      rw [if_neg (by simp)]; omega)
  obtain ⟨s, e, ⟨q, ne, hn⟩, hf⟩ := E
  rw [e, bind_ok]
  refine ⟨s.1, rfl, q, ne, hn ?_⟩
  have : pyEq s.2 [] = true := by
    cases h : pyEq s.2 [] with
    | true => rfl
    | false => rw [h] at hf; cases hf
  exact (pyEq_q _ _).mp this
theorem compGo_filter {α : Type} {g : α → R (Option α)} {p : α → Bool} : ∀ {xs : List α}, (∀ x ∈ xs, g x = if p x = true then .ok (some x) else .ok none) → compGo g xs = .ok (xs.filter p)
  | [], _ => rfl
  | x :: xs, h => by
    have ih := compGo_filter (xs := xs) fun y hy => h y (List.mem_cons_of_mem _ hy)
    show ((g x).sure.bind fun o => (compGo g xs).bind fun ys => .ok (match o with | some y => y :: ys | none => ys)) = _
    rw [h x List.mem_cons_self, ih]
    cases e : p x with
    | true => rw [List.filter_cons_of_pos e] <;> rfl
    | false => rw [List.filter_cons_of_neg (by rw [e]; decide)] <;> rfl
theorem forM_any {α O : Type} {b : α → Unit → R (Ct Unit O)} {p : α → Bool} {c : O} : ∀ {xs : List α}, (∀ x ∈ xs, b x () = if p x = true then .ok (.rt c) else .ok (.nx ())) → forM b xs () = if xs.any p = true then .ok (.rt c) else .ok (.nx ())
  | [], _ => rfl
  | x :: xs, h => by
    show ((b x ()).bind (Ct.by (fun s' => forM b xs s') fun o => .ok (.rt o))) = _
    rw [h x List.mem_cons_self, List.any_cons]
    cases p x with
    | true => rfl
    | false =>
      rw [Bool.false_or]
      exact forM_any fun y hy => h y (List.mem_cons_of_mem _ hy)
def owesB (st : List Int) (house y : Int) : Bool := if (!pyEq y house) = true then decide (oi st y < 0) else false
/-! ### the houses outside, groups that can lend -/
theorem notin_ok {n : Nat} (h8 : n ≤ 8) (r : List Int) : ((rngR 0 (n : Int)) : R _).bind (fun x => compR (fun y => (if (!decide (y ∈ r)) = true then (R.ok (some y)) else R.ok none)) x) = .ok ((rangeL 0 (n : Int)).filter fun y => !decide (y ∈ r)) := by
  rw [rngR_ok (by omega) (by omega) (by omega) (by omega), bind_ok]
  unfold compR
  rw [if_pos (by rw [rangeL_len]; omega)]
  exact compGo_filter fun _ _ => rfl
theorem outside_ok {n : Nat} {T : List (Int × Int)} {st r : List Int} {house : Int} (h8 : n ≤ 8) (eq : m_queue (((n : Int), ⟨T⟩), st, house, ()) = .ok r) : m_outside (((n : Int), ⟨T⟩), st, house, ()) = .ok ((rangeL 0 (n : Int)).filter fun y => !decide (y ∈ r)) := by
  unfold m_outside
  dsimp only
  rw [eq, bind_ok, notin_ok h8 r, bind_ok]
/-- the houses that are not in a group -/
abbrev away (n : Nat) (g : List Int) : List Int := (rangeL 0 (n : Int)).filter fun y => !decide (y ∈ g)
theorem lend_ok {n : Nat} {rows : List (List Int)} {st g : List Int} (h8 : n ≤ 8) (sq : Sq n rows) (sym : ∀ i j : Int, 0 ≤ i → i < n → 0 ≤ j → j < n → ent rows i j = ent rows j i) (hs : st.length = n) (inn : ∀ x ∈ g, 0 ≤ x ∧ x < n) :
    m_law_can_lend (rows, st, g, ()) = .ok (!g.any fun x => decide (oi st x < nearTo rows (away n g) x)) := by
  unfold m_law_can_lend
  dsimp only
  rw [sq.len, notin_ok h8 g, bind_ok, forM_any (p := fun x => decide (oi st x < nearTo rows (away n g) x)) (c := false) (fun x hx => ?_)]
  · cases g.any (fun x => decide (oi st x < nearTo rows (away n g) x)) <;> rfl
  · obtain ⟨a, b⟩ := inn x hx
    rw [ixR_oi a (by omega), bind_ok, ties_to_ok sq sym a b (fun y hy => mem_rangeL (List.mem_filter.mp hy).1), bind_ok, bind_ok]
theorem near_mono {n : Nat} {rows : List (List Int)} {h : Int} (nn : ∀ j : Int, 0 ≤ j → j < n → 0 ≤ ent rows j h) : ∀ {l m : List Int}, l.Nodup → (∀ x ∈ l, x ∈ m) → (∀ x ∈ m, 0 ≤ x ∧ x < n) → nearTo rows l h ≤ nearTo rows m h
  | [], m, _, _, inn => by
    show 0 ≤ (m.map _).sum
    induction m with
    | nil => simp
    | cons a m ih =>
      rw [List.map_cons, List.sum_cons]
      have := nn a (inn a List.mem_cons_self).1 (inn a List.mem_cons_self).2
      have := ih (fun x hx => by cases hx) fun x hx => inn x (List.mem_cons_of_mem _ hx)
      omega
  | a :: l, m, nd, sub, inn => by
    obtain ⟨n1, n2⟩ := List.nodup_cons.mp nd
    have ha := sub a List.mem_cons_self
    have pm := List.perm_cons_erase ha
    have e : nearTo rows m h = ent rows a h + nearTo rows (m.erase a) h := by
      unfold nearTo
      rw [sum_perm (pm.map _), List.map_cons, List.sum_cons]
    have := near_mono nn (l := l) (m := m.erase a) n2 (fun x hx => by
      have hm := sub x (List.mem_cons_of_mem _ hx)
      exact (List.mem_erase_of_ne (fun z : x = a => n1 (by rw [← z]; exact hx))).mpr hm) fun x hx => inn x (List.mem_of_mem_erase hx)
    rw [e]
    show ent rows a h + nearTo rows l h ≤ _
    omega
theorem first_in {p : Int → Bool} : ∀ {r : List Int}, (∃ x ∈ r, p x = true) → ∃ k x, r[k]? = some x ∧ p x = true ∧ ∀ y ∈ r.take k, p y = false
  | [], ⟨x, hx, _⟩ => by cases hx
  | a :: r, ⟨x, hx, px⟩ => by
    cases h : p a with
    | true => exact ⟨0, a, rfl, h, fun y hy => by simp at hy⟩
    | false =>
      have hx' : x ∈ r := by
        rcases List.mem_cons.mp hx with e | hx
        · rw [e, h] at px; cases px
        · exact hx
      obtain ⟨k, y, hy, py, hk⟩ := first_in (p := p) (r := r) ⟨x, hx', px⟩
      refine ⟨k + 1, y, hy, py, fun z hz => ?_⟩
      rw [List.take_succ_cons] at hz
      rcases List.mem_cons.mp hz with e | hz
      · rw [e]; exact h
      · exact hk z hz
theorem plain (ns : List Int) (hl : ns.length ≤ 63) (hb : ∀ z ∈ ns, Builtin.Int.intBits z ≤ 1048576) : m_law (⟨ns⟩, ()) = .ok true := by
  have hb' : ∀ z ∈ ns, bits z ≤ 1048576 := hb
  obtain ⟨n, T, ew, n1, n8, tl, tf, tc⟩ := hall_ok hb'
  obtain ⟨rows, er, sq, he⟩ := rows_ok n8 tf
  obtain ⟨st, es, sl, sb⟩ := standing_ok n1 n8 hl hb'
  obtain ⟨c1, ec1, bc1⟩ := cell_ok hb' (show (0 : Int) ≤ 1 by omega)
  have gh := fmod_bounds c1 (show 0 < (n : Int) by omega)
  have sym : ∀ i j : Int, 0 ≤ i → i < n → 0 ≤ j → j < n → ent rows i j = ent rows j i := fun i j i0 i1 j0 j1 => by
    rw [he i j i0 i1 j0 j1, he j i j0 j1 i0 i1]
    congr 1
    exact List.map_congr_left fun t _ => tieAt_sym i j t
  have nn : ∀ i j : Int, 0 ≤ i → i < n → 0 ≤ j → j < n → 0 ≤ ent rows i j := fun i j i0 i1 j0 j1 => by
    rw [he i j i0 i1 j0 j1]
    have ns : ∀ {T : List (Int × Int)}, 0 ≤ (T.map (tieAt i j)).sum := fun {T} => by
      induction T with
      | nil => simp
      | cons u T ih =>
        rw [List.map_cons, List.sum_cons]
        have : 0 ≤ tieAt i j u := by unfold tieAt; split <;> split <;> omega
        omega
    exact ns
  obtain ⟨r, eq, q, rne, rend⟩ := queue_ok (house := c1.fmod n) n8 er sq sl gh.1 gh.2
  obtain ⟨r', eq', q', ne', he'⟩ := lawq_ok (house := c1.fmod n) n8 sq sym sl gh.1 gh.2
  have e := qu_uniq q q' rne ne' rend he'
  subst e
  have eo := outside_ok n8 eq
  have inO : ∀ x ∈ (rangeL 0 (n : Int)).filter (fun y => !decide (y ∈ r)), 0 ≤ x ∧ x < n := fun x hx => mem_rangeL (List.mem_filter.mp hx).1
  -- the houses outside can lend
  have canO : m_law_can_lend (rows, st, (rangeL 0 (n : Int)).filter (fun y => !decide (y ∈ r)), ()) = .ok true := by
    rw [lend_ok n8 sq sym sl inO]
    congr 1
    rw [Bool.not_eq_true', List.any_eq_false]
    intro x hx
    have hx2 := List.mem_filter.mp hx
    have xr : x ∉ r := by simpa using hx2.2
    obtain ⟨x0, x1⟩ := inO x hx
    have fin := rend
    unfold nxt at fin
    rw [List.find?_eq_none] at fin
    have f1 := fin x hx2.1
    unfold joinsB at f1
    rw [decide_eq_false xr, Bool.not_false, ite_t] at f1
    have lt : ¬ oi st x < nearTo rows r x := by simpa using f1
    have le : nearTo rows (away n ((rangeL 0 (n : Int)).filter fun y => !decide (y ∈ r))) x ≤ nearTo rows r x := near_mono (fun j j0 j1 => nn j x j0 j1 x0 x1) ((rangeL_nodup 0 (n : Int)).filter _) (fun y hy => by
      obtain ⟨y1, y2⟩ := List.mem_filter.mp hy
      by_cases c : y ∈ r
      · exact c
      · have : y ∈ (rangeL 0 (n : Int)).filter (fun y => !decide (y ∈ r)) := List.mem_filter.mpr ⟨y1, by simpa using c⟩
        rw [decide_eq_true this] at y2
        cases y2) q.inn
    simpa using (show ¬ oi st x < _ by omega)
  have h2 : pyEq st st = true := pyEq_refl _
  have ew2 : mapR (fun y214 : Int => (m_law_whole (y214, ()))) ((rangeL 0 (n : Int)).filter fun y => !decide (y ∈ r)) = .ok (((rangeL 0 (n : Int)).filter fun y => !decide (y ∈ r)).map fun _ => true) := mapR_ok (fun _ _ => rfl) (by
    have := List.length_filter_le (fun y => !decide (y ∈ r)) (rangeL 0 (n : Int))
    rw [rangeL_len] at this
    omega)
  have eall : (((rangeL 0 (n : Int)).filter fun y => !decide (y ∈ r)).map fun _ => true).all id = true := by
    rw [List.all_eq_true]
    intro x hx
    obtain ⟨_, _, e⟩ := List.mem_map.mp hx
    rw [← e] <;> rfl
  have eoo : pyEq ((rangeL 0 (n : Int)).filter fun y => !decide (y ∈ r)) ((rangeL 0 (n : Int)).filter fun y => !decide (y ∈ r)) = true := pyEq_refl _
  unfold m_law
  dsimp only
  rw [ew, bind_ok, er, bind_ok, es, bind_ok, ec1, bind_ok, modR_ok (by omega), bind_ok, bind_ok, eo, bind_ok]
  simp only [h2, Bool.not_true, Bool.false_eq_true, ↓reduceIte, bind_ok, ew2, eall, eq', notin_ok n8, eoo, canO]
  rw [forM_all (fun c hc => ?_)]
  · rfl
  -- each group
  have eg : ∃ g, (((rngR 0 (n : Int)) : R _).bind fun x273 => (compR (fun y265 => (((if (!pyEq y265 (c1.fmod n)) = true then (((((shrR c y265) : R _).bind fun x270 => (.ok (Builtin.bitAnd x270 (1 : Int)))) : R _).bind fun x271 => (.ok (pyEq x271 (1 : Int)))) else R.ok false) : R _).bind fun x272 => (if x272 = true then (R.ok (some y265)) else R.ok none))) x273)) = .ok g ∧ g.length ≤ 8 ∧ (∀ x ∈ g, 0 ≤ x ∧ x < n ∧ x ≠ c1.fmod n) := by
    rw [rngR_ok (by omega) (by omega) (by omega) (by omega), bind_ok]
    refine ⟨(rangeL 0 (n : Int)).filter (fun y => if (!pyEq y (c1.fmod n)) = true then pyEq (Builtin.bitAnd (c / 2 ^ y.toNat) 1) 1 else false), ?_, ?_, fun x hx => ?_⟩
    · unfold compR
      rw [if_pos (by rw [rangeL_len]; omega)]
      refine compGo_filter fun y hy => ?_
      obtain ⟨y0, y1⟩ := mem_rangeL hy
      have esh : shrR c y = .ok (c / 2 ^ y.toNat) := chk_ok (decide_eq_true y0)
      cases pyEq y (c1.fmod n) with
      | true => rfl
      | false => rw [Bool.not_false, ite_t, ite_t, esh, bind_ok, bind_ok, bind_ok]
    · have := List.length_filter_le (fun y => if (!pyEq y (c1.fmod n)) = true then pyEq (Builtin.bitAnd (c / 2 ^ y.toNat) 1) 1 else false) (rangeL 0 (n : Int))
      rw [rangeL_len] at this
      omega
    · obtain ⟨a, b⟩ := List.mem_filter.mp hx
      obtain ⟨x0, x1⟩ := mem_rangeL a
      refine ⟨x0, x1, fun z => ?_⟩
      have : pyEq x (c1.fmod n) = true := by rw [z]; exact pyEq_refl _
      rw [this, Bool.not_true, ite_f] at b
      cases b
  obtain ⟨g, eg, gl, gi⟩ := eg
  have gin : ∀ x ∈ g, 0 ≤ x ∧ x < n := fun x hx => ⟨(gi x hx).1, (gi x hx).2.1⟩
  rw [eg, bind_ok, lend_ok n8 sq sym sl gin, bind_ok]
  cases hany : g.any (fun x => decide (oi st x < nearTo rows (away n g) x)) with
  | true => rw [Bool.not_true, ite_f, bind_ok, ite_f]
  | false =>
    have hno : ∀ x ∈ r, x ∉ g := by
      intro x hx hg
      obtain ⟨k, y, hy, py, hk⟩ := first_in (p := fun z => decide (z ∈ g)) (r := r) ⟨x, hx, decide_eq_true hg⟩
      have yg : y ∈ g := of_decide_eq_true py
      obtain ⟨y0, y1, yh⟩ := gi y yg
      cases k with
      | zero => exact yh (q.hd y hy)
      | succ k =>
        have kl : k + 1 < r.length := (List.getElem?_eq_some_iff.mp hy).1
        have ch := q.ch k kl
        rw [hy] at ch
        unfold nxt at ch
        have pj := List.find?_some ch
        unfold joinsB at pj
        by_cases c : y ∈ r.take (k + 1)
        · rw [decide_eq_true c, Bool.not_true, ite_f] at pj; cases pj
        · rw [decide_eq_false c, Bool.not_false, ite_t] at pj
          have lt : oi st y < nearTo rows (r.take (k + 1)) y := of_decide_eq_true pj
          have le : nearTo rows (r.take (k + 1)) y ≤ nearTo rows (away n g) y := near_mono (fun j j0 j1 => nn j y j0 j1 y0 y1) (q.nd.sublist (List.take_sublist _ _)) (fun z hz => by
            have zr := List.mem_of_mem_take hz
            obtain ⟨z0, z1⟩ := q.inn z zr
            have zg : z ∉ g := of_decide_eq_false (hk z hz)
            refine List.mem_filter.mpr ⟨?_, by simpa using zg⟩
            unfold rangeL
            exact List.mem_map.mpr ⟨z.toNat, List.mem_range.mpr (by omega), by omega⟩) fun z hz => mem_rangeL (List.mem_filter.mp hz).1
          have := List.any_eq_false.mp hany y yg
          exact this (decide_eq_true (by omega))
    have ec : compR (fun y275 : Int => (if (!decide (y275 ∈ (rangeL 0 (n : Int)).filter fun y => !decide (y ∈ r))) = true then (R.ok (some y275)) else R.ok none)) g = .ok [] := by
      unfold compR
      rw [if_pos (by omega), compGo_filter (p := fun y => !decide (y ∈ (rangeL 0 (n : Int)).filter fun y => !decide (y ∈ r))) fun _ _ => rfl]
      congr 1
      rw [List.filter_eq_nil_iff]
      intro x hx
      obtain ⟨x0, x1, _⟩ := gi x hx
      have xr : x ∉ r := fun z => hno x z hx
      have : x ∈ (rangeL 0 (n : Int)).filter (fun y => !decide (y ∈ r)) := List.mem_filter.mpr ⟨by
        unfold rangeL
        exact List.mem_map.mpr ⟨x.toNat, List.mem_range.mpr (by omega), by omega⟩, by simpa using xr⟩
      rw [decide_eq_true this]
      decide
    have e0 : pyEq ([] : List Int) [] = true := pyEq_refl _
    rw [Bool.not_false, ite_t, ec, bind_ok, e0, Bool.not_true, bind_ok, ite_f]

end Wk
open PySem PySem.W PySem.Calls PyProof.Rows
theorem PySem.Challenge.cw_owinghall_k16_outside_and_groups_holds : PySem.Challenge.rw_owinghall_k16_outside_and_groups.Holds := by
  w_on; o_law
  refine HandSHeadRun.head_any (r := OpenLaw.row PySem.Challenge.rw_owinghall_k16_outside_and_groups) (q := view (OpenLaw.row PySem.Challenge.rw_owinghall_k16_outside_and_groups).prog [20]) (H := Wk.hk) (ob := Wk.ob) (M := 4000) (loose := Wk.names) (d := HandSHeadRun.topDef (OpenLaw.row PySem.Challenge.rw_owinghall_k16_outside_and_groups).prog 20) (kwd := []) Wk.ob_eq
    (by kernel_rfl) (fun s => by kernel_rfl) Wk.run (by kernel_rfl) (by kernel_rfl) (by kernel_rfl) (by rfl) (by first | assumption | decide +kernel) (by decide +kernel) ⟨rfl, rfl, rfl, rfl, rfl, by decide +kernel⟩ ?hw ?hc
  case hw => w_witness2
  case hc =>
    exact Wk.end_of (fe := Wk.fe) (fa := Wk.fa) (fn := Wk.fn) (dd := Wk.dd_law) (hd := 0) (m := Wk.m_law) (k := 3) rfl (by kernel_rfl) (by kernel_rfl) ⟨rfl, by decide, by decide⟩ 14 20 rfl rfl Wk.sc_law Wk.bn_law
      (fun w X _ _ C H0 qs rt A B fr hR t => Wk.b_law (by omega) X C H0 qs rt A B fr hR t) Wk.plain
