import PyProof.Rows.All
import HandS.Defaults
import HandS.EndBits
import HandS.HeadHook2
import HandS.ExcIs
import HandS.IsInst
import PyProof.Rows.Digits
import HandS.Words
import HandS.Head0
import HandS.Head1
import HandS.Head2
import Wide.All
import OpenK.AllK
import Wide.FinOn
import HandS.ForMost
import HandS.ForExc
import HandS.Wide
import HandS.WideBits
import HandS.Walk
import HandS.HeadHook1
import PyProof.Rows.RuleB_pow
import HandS.SortInts
import HandS.SortRule
import HandS.More
import HandS.Conv
import HandS.Deep
import HandS.WordsExc
import KE.DatumOrd
import KE.IntBitsLaws
import KE.RegMulBits
import KE.DatumIndex
import HandS.Style
import HandS.Iter
import HandS.Rev
import HandS.TupAny
import HandS.Zip
import HandS.SortOrd
import HandS.NamedTupSort
import HandS.TupSets
import KE.KTupSum
import KE.LtSeq
import HandS.Text
import HandS.Codes
import HandS.SetFor
import KE.KIntText
import HandS.Steps
import KE.GoesRaise
import HandS.TryOnly
import HandS.HeadEnd
import PySem.Challenge.RW_owinghall_k12_told_papers
set_option Elab.async false
set_option linter.all false
set_option maxRecDepth 100000
/-! Wk0: the facts behind a head. -/
namespace Wk
open PySem PySem.Spec PyProof.Rows L2
/-! ### facts about the error classes, the head's Hook with them -/
/-- the interpreter's own statics hold no limit on digits -/
def nodK (K : PySem.W.Frag) : Bool := match K.lookup cStatics with
  | some o => (match o.data with
    | .dict es _ => es.toList.all (fun e => match e.key with
      | .str .. => true
      | _ => false) && (nsFind es "sys.int_max_str_digits").isNone
    | _ => false)
  | none => false
inductive Fe where
  | nod
  | exc (x : Str)
  | kit (x y : Str) (b : Bool)
  | kitB (x : Str) (n : String) (b : Bool)
def Fe.ok (K : PySem.W.Frag) : Fe → Bool
  | .nod => nodK K
  | .exc x => decide (PySem.W.findIn K (.ref (He.ga K x)) "__getattribute__" = some (some (.builtin "BaseException.__getattribute__"))) && (decide (PySem.W.findIn K (.ref (He.ga K x)) "__getattr__" = some none) && (decide (PySem.W.subIn K (.ref (He.ga K x)) (.type "BaseException") = some true) && (PySem.W.hasDictIn K (He.ga K x) &&
    (decide (PySem.W.findIn K (.ref (He.ga K x)) "__class__" = some (some (.builtin "object.__class__"))) && (decide (PySem.W.specialIn K (.builtin "object.__class__") "__get__" = some (some (.builtin "getset_descriptor.__get__"))) && (decide (PySem.W.takesIn K (.builtin "object.__class__") = some true) && decide (PySem.W.mroIn K (He.ga K x) (.type "object") = some true)))))))
  | .kit x y b => decide (PySem.W.kitOne K (.ref (He.ga K x)) (.ref (He.ga K y)) = some b)
  | .kitB x n b => decide (PySem.W.kitOne K (.ref (He.ga K x)) (.type n) = some b)
abbrev AlE : Type := Bool × He.AlD
def obsE (fe : List Fe) (fa : List He.Fa) (fn : List He.DefD) (K : PySem.W.Frag) : AlE := (fe.all fun f => f.ok K, He.obsD fa fn K)
def valE (fn : List He.DefD) : AlE := (true, He.valD fn)
structure Says (fe : List Fe) (fa : List He.Fa) (fn : List He.DefD) (K : PySem.W.Frag) : Prop where
  e : fe.all (fun f => f.ok K) = true
  d : He.SaysD fa fn K
def obsEG (n : Nat) (fe : List Fe) (fa : List He.Fa) (fn : List He.DefD) (g : Addr → Option Obj) : AlE := obsE fe fa fn (He.frG g (He.asD g n ++ [cStatics]))
def hookE (n : Nat) (fe : List Fe) (fa : List He.Fa) (fn : List He.DefD) : PySem.W.Hook where
  α := AlE
  obs := fun s => obsEG n fe fa fn s.heap.get?
  val := fun _ => valE fn
  says := fun _ h => ∃ K : PySem.W.Frag, K.In h ∧ Says fe fa fn K
  of := fun _ _ e => ⟨_, He.frG_in, ⟨congrArg (fun z : AlE => z.1) e, congrArg (fun z : AlE => z.2) e⟩⟩
  keeps := fun _ _ _ ⟨K, hK, c⟩ k => ⟨K, PySem.W.Frag.In.keeps hK k, c⟩
theorem obsEG_eq {n : Nat} {fe : List Fe} {fa : List He.Fa} {fn : List He.DefD} {g : Addr → Option Obj} {s : Shared} (h : ∀ a, g a = s.heap.get? a) : obsEG n fe fa fn g = (hookE n fe fa fn).obs s := by
  have e : g = s.heap.get? := funext h
  rw [e] <;> rfl
theorem Says.fact {fe : List Fe} {fa : List He.Fa} {fn : List He.DefD} {K : PySem.W.Frag} (c : Says fe fa fn K) (i : Nat) {f : Fe} (h : fe[i]? = some f := by rfl) : f.ok K = true := List.all_eq_true.mp c.e f (List.mem_of_getElem? h)
theorem exc_of {x : Str} {K : PySem.W.Frag} (c : (Fe.exc x).ok K = true) : ExcC K (He.ga K x) := by
  obtain ⟨c1, c⟩ := He.ba c
  obtain ⟨c2, c⟩ := He.ba c
  obtain ⟨c3, c⟩ := He.ba c
  obtain ⟨c4, c⟩ := He.ba c
  obtain ⟨c5, c⟩ := He.ba c
  obtain ⟨c6, c⟩ := He.ba c
  obtain ⟨c7, c8⟩ := He.ba c
  exact ⟨of_decide_eq_true c1, of_decide_eq_true c2, of_decide_eq_true c3, c4, of_decide_eq_true c5, of_decide_eq_true c6, of_decide_eq_true c7, of_decide_eq_true c8⟩
theorem kit_of' {x y : Str} {b : Bool} {K : PySem.W.Frag} (c : (Fe.kit x y b).ok K = true) : PySem.W.kitOne K (.ref (He.ga K x)) (.ref (He.ga K y)) = some b := of_decide_eq_true c
theorem kitB_of {x : Str} {n : String} {b : Bool} {K : PySem.W.Frag} (c : (Fe.kitB x n b).ok K = true) : PySem.W.kitOne K (.ref (He.ga K x)) (.type n) = some b := of_decide_eq_true c
/-- facts behind the top -/
structure Fac (fe : List Fe) (fa : List He.Fa) (fn : List He.DefD) (K : PySem.W.Frag) (mg : Str → Option Value) : Prop where
  ex : ∃ h : Heap, K.In h ∧ h.Ns mainGlobals mg
  s : Says fe fa fn K
section
variable {fe : List Fe} {fa : List He.Fa} {fn : List He.DefD} {K : PySem.W.Frag} {mg : Str → Option Value}
theorem Fac.glo (f : Fac fe fa fn K mg) (i : Nat) {x : Str} (h : fa[i]? = some (.glo x) := by rfl) : mg x = some (.ref (He.ga K x)) := by
  obtain ⟨h', X, G⟩ := f.ex
  exact He.glo_ok X G (f.s.d.fact i h)
theorem Fac.free (f : Fac fe fa fn K mg) (i : Nat) {x : Str} (h : fa[i]? = some (.free x) := by rfl) : mg x = none := by
  obtain ⟨h', X, G⟩ := f.ex
  exact He.free_ok X G (f.s.d.fact i h)
theorem Fac.int (f : Fac fe fa fn K mg) (i : Nat) {x : Str} {z : Int} (h : fa[i]? = some (.int x z) := by rfl) : ∃ t, mg x = some (.int z t) := by
  obtain ⟨h', X, G⟩ := f.ex
  exact He.int_ok X G (f.s.d.fact i h)
theorem Fac.str (f : Fac fe fa fn K mg) (i : Nat) {x z : Str} (h : fa[i]? = some (.str x z) := by rfl) : ∃ t, mg x = some (.str z t) := by
  obtain ⟨h', X, G⟩ := f.ex
  exact He.str_ok X G (f.s.d.fact i h)
end
/-! ### a head's run, looked at in parts -/
theorem map_two {α β γ : Type} {x : Option α} {f : α → β} {g : α → γ} {b : β} {c : γ} (h1 : x.map f = some b) (h2 : x.map g = some c) : ∃ s, x = some s ∧ f s = b ∧ g s = c := by
  obtain ⟨s, hs, e1⟩ := Option.map_eq_some_iff.mp h1
  obtain ⟨s2, hs2, e2⟩ := Option.map_eq_some_iff.mp h2
  rw [hs] at hs2
  injection hs2 with hs2
  subst hs2
  exact ⟨s, hs, e1, e2⟩
theorem obsE_app {fe1 fe2 : List Fe} {fa1 fa2 : List He.Fa} {fn1 fn2 : List He.DefD} {K : PySem.W.Frag} (h1 : obsE fe1 fa1 fn1 K = valE fn1) (h2 : obsE fe2 fa2 fn2 K = valE fn2) : obsE (fe1 ++ fe2) (fa1 ++ fa2) (fn1 ++ fn2) K = valE (fn1 ++ fn2) := by
  have a1 : (fe1.all fun f => f.ok K) = true := congrArg (fun z : AlE => z.1) h1
  have a2 : (fe2.all fun f => f.ok K) = true := congrArg (fun z : AlE => z.1) h2
  have b1 : ((fa1.all fun f => f.ok K) && fn1.all fun d => d.ok K) = true := congrArg (fun z : AlE => z.2.1) h1
  have b2 : ((fa2.all fun f => f.ok K) && fn2.all fun d => d.ok K) = true := congrArg (fun z : AlE => z.2.1) h2
  have c1 : (fn1.map fun d => He.fnW K d.at_) = fn1.map He.DefD.val := congrArg (fun z : AlE => z.2.2) h1
  have c2 : (fn2.map fun d => He.fnW K d.at_) = fn2.map He.DefD.val := congrArg (fun z : AlE => z.2.2) h2
  rw [Bool.and_eq_true] at b1 b2
  show ((fe1 ++ fe2).all _, ((fa1 ++ fa2).all _ && (fn1 ++ fn2).all _, (fn1 ++ fn2).map _)) = (true, (true, (fn1 ++ fn2).map _))
  rw [List.all_append, List.all_append, List.all_append, List.map_append, List.map_append, a1, a2, b1.1, b1.2, b2.1, b2.2, c1, c2]
  rfl
/-- what a part of the facts tells of the run -/
def RunOb (r : PySem.W.OpenRow) (M n : Nat) (fe : List Fe) (fa : List He.Fa) (fn : List He.DefD) (w : World) : Prop :=
  ∀ os : OsState, (HandSHeadRun.endF (HandSHeadRun.stepQ (HandSHeadRun.denQ HandSHeadRun.tabQ) r.prog w) M r.prog w os).map (fun s => obsEG n fe fa fn (HandSHeadRun.getT s)) = some (valE fn)
theorem RunOb.app {r : PySem.W.OpenRow} {M n : Nat} {fe1 fe2 : List Fe} {fa1 fa2 : List He.Fa} {fn1 fn2 : List He.DefD} {w : World} (h1 : RunOb r M n fe1 fa1 fn1 w) (h2 : RunOb r M n fe2 fa2 fn2 w) : RunOb r M n (fe1 ++ fe2) (fa1 ++ fa2) (fn1 ++ fn2) w := fun os => by
  obtain ⟨s, hs, e1, e2⟩ := map_two (h1 os) (h2 os)
  rw [hs]
  exact congrArg some (obsE_app e1 e2)
end Wk
set_option Elab.async false
set_option linter.all false
set_option maxRecDepth 100000
/-! Wk1: outcomes, frozen parts of heaps, typed data, what stands in the slots. -/
namespace Wk
open PySem PySem.Spec PyProof.Rows L2
/-! ### outcomes -/
inductive Exc where
  | owing | badWeb | parted | badStanding | badHouse | badOrder | badNumber | tooWide | noBridge | noText
  deriving DecidableEq
def Exc.nm : Exc → Str
  | .owing => "OwingError" | .badWeb => "BadWeb" | .parted => "Parted" | .badStanding => "BadStanding" | .badHouse => "BadHouse"
  | .badOrder => "BadOrder" | .badNumber => "BadNumber" | .tooWide => "TooWide" | .noBridge => "NoBridge" | .noText => "NoText"
inductive R (α : Type) where
  | ok (a : α) | exc (c : Exc) | stuck
def R.bind {α β : Type} (m : R α) (f : α → R β) : R β := match m with
  | .ok a => f a
  | .exc c => .exc c
  | .stuck => .stuck
/-- a value by a name -/
def R.lt {α β : Type} (a : α) (f : α → R β) : R β := f a
/-- no exception may come out -/
def R.sure {α : Type} : R α → R α
  | .ok a => .ok a
  | _ => .stuck
def R.ofO {α : Type} : Option α → R α
  | some a => .ok a
  | none => .stuck
def R.chk {α : Type} (c : Bool) (a : α) : R α := if c = true then .ok a else .stuck
def PX {α : Type} (A : α → Prop) (B : Exc → Prop) : R α → Prop
  | .ok a => A a
  | .exc c => B c
  | .stuck => False
section
variable {α β : Type} {A A' : α → Prop} {B B' : Exc → Prop}
theorem PX.mono {m : R α} (h : PX A B m) (h1 : ∀ a, A a → A' a) (h2 : ∀ c, B c → B' c) : PX A' B' m := by
  cases m with
  | ok a => exact h1 a h
  | exc c => exact h2 c h
  | stuck => exact h
theorem PX.bind {A : β → Prop} {m : R α} {f : α → R β} (h : PX A B (m.bind f)) : PX (fun x => PX A B (f x)) B m := by
  cases m with
  | ok a => exact h
  | exc c => exact h
  | stuck => exact h
theorem PX.ofO {o : Option α} (h : PX A B (R.ofO o)) : ∃ a, o = some a ∧ A a := by
  cases o with
  | some a => exact ⟨a, rfl, h⟩
  | none => exact h.elim
theorem PX.chk {c : Bool} {a : α} (h : PX A B (R.chk c a)) : c = true ∧ A a := by
  cases c with
  | true => exact ⟨rfl, h⟩
  | false => exact (show False from h).elim
theorem PX.sure {m : R α} (h : PX A B m.sure) : PX A (fun _ => False) m := by
  cases m with
  | ok a => exact h
  | exc c => exact (show False from h).elim
  | stuck => exact (show False from h).elim
end
/-! ### heaps -/
/-- the heap without what stands at ps -/
def Fz (H : Hp) (ps : List Addr) : Hp := fun b => if b ∈ ps then none else H b
section
variable {H H' : Hp} {ps ps' : List Addr} {p b : Addr} {o : HO}
theorem Fz.at (h : b ∉ ps) : Fz H ps b = H b := by unfold Fz; rw [if_neg h]
theorem Fz.some_iff : Fz H ps b = some o ↔ b ∉ ps ∧ H b = some o := by
  unfold Fz
  by_cases h : b ∈ ps
  · rw [if_pos h]; simp [h]
  · rw [if_neg h]; simp [h]
theorem Fz.out : Same (Fz H ps) H := fun b o h => (Fz.some_iff.mp h).2
theorem Fz.go (h : ∀ b o, b ∉ ps → H b = some o → b ∉ ps' ∧ H' b = some o) : Same (Fz H ps) (Fz H' ps') := fun b o q =>
  let ⟨q1, q2⟩ := Fz.some_iff.mp q
  let ⟨q3, q4⟩ := h b o q1 q2
  Fz.some_iff.mpr ⟨q3, q4⟩
theorem Fz.mono (s : Same H H') : Same (Fz H ps) (Fz H' ps) := Fz.go fun b o h q => ⟨h, s b o q⟩
theorem Fz.sub (s : Same H H') (h : ∀ a ∈ ps', a ∈ ps) : Same (Fz H ps) (Fz H' ps') := Fz.go fun b o q r => ⟨fun z => q (h b z), s b o r⟩
theorem Fz.new (s : Same H H') (h : ∀ a ∈ ps', a ∈ ps ∨ H a = none) : Same (Fz H ps) (Fz H' ps') := Fz.go fun b o q r => ⟨fun z => (h b z).elim q fun n => (by rw [n] at r; cases r), s b o r⟩
theorem Fz.mut (hp : p ∈ ps) : Same (Fz H ps) (Fz (upd H p o) ps) := Fz.go fun b o q r => ⟨q, (upd_ne (fun e => q (by rw [e]; exact hp))).trans r⟩
theorem Fz.nil : Fz H [] = H := by
  funext b
  unfold Fz
  simp
theorem same_new (h : H p = none) : Same H (upd H p o) := fun b x e => by
  rw [upd_ne (ne_of_none e h)]
  exact e
theorem same_mut {H0 : Hp} (e : Same H0 H) (h : H0 p = none) : Same H0 (upd H p o) := fun b x q => by
  rw [upd_ne (ne_of_none q h)]
  exact e b x q
end
theorem sqL_mono {K : PySem.W.Frag} {F F' : Hp} {a : Addr} {xs : List V} (e : Same F F') (h : SqL K F a xs) : SqL K F' a xs := e.seq h
theorem sqT_mono {K : PySem.W.Frag} {F F' : Hp} {a : Addr} {xs : List V} (e : Same F F') (h : SqT K F a xs) : SqT K F' a xs := by
  rcases h with (h | ⟨o, h⟩) | h
  · exact .inl (.inl (e _ _ h))
  · exact .inl (.inr ⟨o, e _ _ h⟩)
  · exact .inr h
/-! ### typed data -/
class PyT (α : Type) where
  rep : PySem.W.Frag → Hp → V → α → Prop
  mono : ∀ {K : PySem.W.Frag} {F F' : Hp} {v : V} {x : α}, Same F F' → rep K F v x → rep K F' v x
abbrev rep {α : Type} [PyT α] (K : PySem.W.Frag) (F : Hp) (v : V) (x : α) : Prop := PyT.rep K F v x
def RepL {α : Type} [PyT α] (K : PySem.W.Frag) (F : Hp) : List V → List α → Prop
  | [], [] => True
  | v :: vs, x :: xs => rep K F v x ∧ RepL K F vs xs
  | _, _ => False
section
variable {α : Type} [PyT α] {K : PySem.W.Frag} {F F' : Hp}
theorem RepL.mono (e : Same F F') : ∀ {vs : List V} {xs : List α}, RepL K F vs xs → RepL K F' vs xs
  | [], [], _ => trivial
  | v :: vs, x :: xs, h => ⟨PyT.mono e h.1, RepL.mono e h.2⟩
  | [], _ :: _, h => h.elim
  | _ :: _, [], h => h.elim
theorem RepL.len : ∀ {vs : List V} {xs : List α}, RepL K F vs xs → vs.length = xs.length
  | [], [], _ => rfl
  | v :: vs, x :: xs, h => congrArg Nat.succ (RepL.len h.2)
  | [], _ :: _, h => h.elim
  | _ :: _, [], h => h.elim
theorem RepL.get : ∀ {vs : List V} {xs : List α} {i : Nat} {v : V}, RepL K F vs xs → vs[i]? = some v → ∃ x, xs[i]? = some x ∧ rep K F v x
  | v :: vs, x :: xs, 0, w, h, e => by
    have e2 : v = w := Option.some.inj e
    subst e2
    exact ⟨x, rfl, h.1⟩
  | v :: vs, x :: xs, i + 1, w, h, e => RepL.get (i := i) h.2 e
  | [], [], i, w, h, e => by simp at e
  | [], _ :: _, _, _, h, _ => h.elim
  | _ :: _, [], _, _, h, _ => h.elim
theorem RepL.get' : ∀ {vs : List V} {xs : List α} {i : Nat} {x : α}, RepL K F vs xs → xs[i]? = some x → ∃ v, vs[i]? = some v ∧ rep K F v x
  | v :: vs, x :: xs, 0, w, h, e => by
    have e2 : x = w := Option.some.inj e
    subst e2
    exact ⟨v, rfl, h.1⟩
  | v :: vs, x :: xs, i + 1, w, h, e => RepL.get' (i := i) h.2 e
  | [], [], i, w, h, e => by simp at e
  | [], _ :: _, _, _, h, _ => h.elim
  | _ :: _, [], _, _, h, _ => h.elim
theorem RepL.app : ∀ {vs ws : List V} {xs ys : List α}, RepL K F vs xs → RepL K F ws ys → RepL K F (vs ++ ws) (xs ++ ys)
  | [], _, [], _, _, h2 => h2
  | v :: vs, _, x :: xs, _, h, h2 => ⟨h.1, RepL.app h.2 h2⟩
  | [], _, _ :: _, _, h, _ => h.elim
  | _ :: _, _, [], _, h, _ => h.elim
theorem RepL.one {v : V} {x : α} (h : rep K F v x) : RepL K F [v] [x] := ⟨h, trivial⟩
theorem RepL.set : ∀ {vs : List V} {xs : List α} {i : Nat} {v : V} {x : α}, RepL K F vs xs → rep K F v x → RepL K F (vs.set i v) (xs.set i x)
  | [], [], _, _, _, _, _ => trivial
  | v :: vs, x :: xs, 0, _, _, h, h2 => ⟨h2, h.2⟩
  | v :: vs, x :: xs, i + 1, _, _, h, h2 => ⟨h.1, RepL.set h.2 h2⟩
  | [], _ :: _, _, _, _, h, _ => h.elim
  | _ :: _, [], _, _, _, h, _ => h.elim
theorem RepL.take : ∀ {vs : List V} {xs : List α} (n : Nat), RepL K F vs xs → RepL K F (vs.take n) (xs.take n)
  | _, _, 0, _ => by simp [RepL]
  | [], [], _ + 1, _ => trivial
  | v :: vs, x :: xs, n + 1, h => ⟨h.1, RepL.take n h.2⟩
  | [], _ :: _, _ + 1, h => h.elim
  | _ :: _, [], _ + 1, h => h.elim
theorem RepL.drop : ∀ {vs : List V} {xs : List α} (n : Nat), RepL K F vs xs → RepL K F (vs.drop n) (xs.drop n)
  | _, _, 0, h => h
  | [], [], _ + 1, _ => trivial
  | v :: vs, x :: xs, n + 1, h => RepL.drop n h.2
  | [], _ :: _, _ + 1, h => h.elim
  | _ :: _, [], _ + 1, h => h.elim
theorem RepL.replicate {v : V} {x : α} (h : rep K F v x) : ∀ n : Nat, RepL K F (List.replicate n v) (List.replicate n x)
  | 0 => trivial
  | n + 1 => ⟨h, RepL.replicate h n⟩
theorem RepL.reps {vs : List V} {xs : List α} (h : RepL K F vs xs) : ∀ n : Nat, RepL K F (List.replicate n vs).flatten (List.replicate n xs).flatten
  | 0 => trivial
  | n + 1 => by
    rw [List.replicate_succ, List.replicate_succ, List.flatten_cons, List.flatten_cons]
    exact h.app (RepL.reps h n)
end
/-- data that stand in no heap -/
class PyF (α : Type) extends PyT α where
  flat : ∀ {K : PySem.W.Frag} {F F' : Hp} {v : V} {x : α}, rep K F v x → rep K F' v x
theorem RepL.flat {α : Type} [PyF α] {K : PySem.W.Frag} {F F' : Hp} : ∀ {vs : List V} {xs : List α}, RepL K F vs xs → RepL K F' vs xs
  | [], [], _ => trivial
  | v :: vs, x :: xs, h => ⟨PyF.flat h.1, RepL.flat h.2⟩
  | [], _ :: _, h => h.elim
  | _ :: _, [], h => h.elim
instance : PyF Int where
  rep := fun _ _ v x => v = .int x
  mono := fun _ h => h
  flat := fun h => h
instance : PyF Bool where
  rep := fun _ _ v x => v = .bl x
  mono := fun _ h => h
  flat := fun h => h
instance : PyF Str where
  rep := fun _ _ v x => v = .str x ∧ PyData.strOk x = true
  mono := fun _ h => h
  flat := fun h => h
instance : PyF Unit where
  rep := fun _ _ v _ => v = .non
  mono := fun _ h => h
  flat := fun h => h
instance {α : Type} [PyT α] : PyT (List α) where
  rep := fun K F v xs => ∃ a vs, v = .ref a ∧ F a = some (.lst vs) ∧ RepL K F vs xs
  mono := fun e ⟨a, vs, h1, h2, h3⟩ => ⟨a, vs, h1, e _ _ h2, h3.mono e⟩
/-- the script: a list that the law is handed -/
structure Scr where
  l : List Int
instance : PyT Scr where
  rep := fun K F v xs => ∃ a, v = .ref a ∧ SqL K F a (xs.l.map V.int)
  mono := fun e ⟨a, h1, h2⟩ => ⟨a, h1, sqL_mono e h2⟩
/-- an object without own variables -/
def NoD (K : PySem.W.Frag) (F : Hp) (a : Addr) : Prop := (∃ o u, F a = some (.frz o u) ∧ o.cls = .type "tuple" ∧ o.dict = none) ∨ ∃ o, K.lookup a = some o ∧ o.cls = .type "tuple" ∧ o.dict = none
theorem NoD.mono {K : PySem.W.Frag} {F F' : Hp} {a : Addr} (e : Same F F') : NoD K F a → NoD K F' a
  | .inl ⟨o, u, h, q⟩ => .inl ⟨o, u, e _ _ h, q⟩
  | .inr h => .inr h
/-- a tuple of any length, whose methods may be called -/
structure Tu (α : Type) where
  l : List α
  deriving DecidableEq
instance {α : Type} [PyT α] : PyT (Tu α) where
  rep := fun K F v xs => ∃ a vs, v = .ref a ∧ (SqT K F a vs ∧ NoD K F a) ∧ RepL K F vs xs.l
  mono := fun e ⟨a, vs, h1, h2, h3⟩ => ⟨a, vs, h1, ⟨sqT_mono e h2.1, h2.2.mono e⟩, h3.mono e⟩
/-- a tuple of any length -/
structure Tv (α : Type) where
  l : List α
  deriving DecidableEq
instance {α : Type} [PyT α] : PyT (Tv α) where
  rep := fun K F v xs => ∃ a vs, v = .ref a ∧ F a = some (.tup vs) ∧ RepL K F vs xs.l
  mono := fun e ⟨a, vs, h1, h2, h3⟩ => ⟨a, vs, h1, e _ _ h2, h3.mono e⟩
/-- what a dict with tuples of ints as keys holds -/
def RepD {β : Type} [PyT β] (K : PySem.W.Frag) (F : Hp) : List (List Key × V) → List (List Int × β) → Prop
  | [], [] => True
  | p :: ws, q :: kvs => p.1 = q.1.map Sum.inl ∧ rep K F p.2 q.2 ∧ RepD K F ws kvs
  | _, _ => False
theorem RepD.mono {β : Type} [PyT β] {K : PySem.W.Frag} {F F' : Hp} (e : Same F F') : ∀ {ws : List (List Key × V)} {kvs : List (List Int × β)}, RepD K F ws kvs → RepD K F' ws kvs
  | [], [], _ => trivial
  | p :: ws, q :: kvs, h => ⟨h.1, PyT.mono e h.2.1, RepD.mono e h.2.2⟩
  | [], _ :: _, h => h.elim
  | _ :: _, [], h => h.elim
/-- a dict with ints as keys -/
def RepDi {β : Type} [PyT β] (K : PySem.W.Frag) (F : Hp) : List (Key × V) → List (Int × β) → Prop
  | [], [] => True
  | p :: ws, q :: kvs => p.1 = Sum.inl q.1 ∧ rep K F p.2 q.2 ∧ RepDi K F ws kvs
  | _, _ => False
theorem RepDi.mono {β : Type} [PyT β] {K : PySem.W.Frag} {F F' : Hp} (e : Same F F') : ∀ {ws : List (Key × V)} {kvs : List (Int × β)}, RepDi K F ws kvs → RepDi K F' ws kvs
  | [], [], _ => trivial
  | p :: ws, q :: kvs, h => ⟨h.1, PyT.mono e h.2.1, RepDi.mono e h.2.2⟩
  | [], _ :: _, h => h.elim
  | _ :: _, [], h => h.elim
/-- tuples of one, three, four items (of two: a pair) -/
structure T1 (α : Type) where
  a : α
  deriving DecidableEq
structure T3 (α β γ : Type) where
  a : α
  b : β
  c : γ
  deriving DecidableEq
structure T4 (α β γ δ : Type) where
  a : α
  b : β
  c : γ
  d : δ
  deriving DecidableEq
section
variable {α β γ δ : Type} [PyT α] [PyT β] [PyT γ] [PyT δ]
instance : PyT (T1 α) where
  rep := fun K F v x => ∃ p w, v = .ref p ∧ SqT K F p [w] ∧ rep K F w x.a
  mono := fun e ⟨a, w, h1, h2, h3⟩ => ⟨a, w, h1, sqT_mono e h2, PyT.mono e h3⟩
instance : PyT (α × β) where
  rep := fun K F v x => ∃ p w u, v = .ref p ∧ SqT K F p [w, u] ∧ rep K F w x.1 ∧ rep K F u x.2
  mono := fun e ⟨a, w, u, h1, h2, h3, h4⟩ => ⟨a, w, u, h1, sqT_mono e h2, PyT.mono e h3, PyT.mono e h4⟩
instance : PyT (T3 α β γ) where
  rep := fun K F v x => ∃ p w u t, v = .ref p ∧ SqT K F p [w, u, t] ∧ rep K F w x.a ∧ rep K F u x.b ∧ rep K F t x.c
  mono := fun e ⟨a, w, u, t, h1, h2, h3, h4, h5⟩ => ⟨a, w, u, t, h1, sqT_mono e h2, PyT.mono e h3, PyT.mono e h4, PyT.mono e h5⟩
instance : PyT (T4 α β γ δ) where
  rep := fun K F v x => ∃ p w u t s, v = .ref p ∧ SqT K F p [w, u, t, s] ∧ rep K F w x.a ∧ rep K F u x.b ∧ rep K F t x.c ∧ rep K F s x.d
  mono := fun e ⟨a, w, u, t, s, h1, h2, h3, h4, h5, h6⟩ => ⟨a, w, u, t, s, h1, sqT_mono e h2, PyT.mono e h3, PyT.mono e h4, PyT.mono e h5, PyT.mono e h6⟩
/-- one or the other -/
instance : PyT (α ⊕ β) where
  rep := fun K F v x => match x with
    | .inl a => rep K F v a
    | .inr b => rep K F v b
  mono := fun {K F F' v x} e h => by
    cases x with
    | inl a => exact PyT.mono (α := α) e h
    | inr b => exact PyT.mono (α := β) e h
/-- nothing, or a thing -/
instance : PyT (Option α) where
  rep := fun K F v x => match x with
    | none => v = .non
    | some a => rep K F v a
  mono := fun {K F F' v x} e h => by
    cases x with
    | none => exact h
    | some a => exact PyT.mono (α := α) e h
end
/-! ### lists whose items are no more known -/
inductive Jc where
  | li | an
  | t2 (a b : Jc) | t3 (a b c : Jc) | t4 (a b c d : Jc)
  | ls (n : Nat) (c : Jc)
def Jc.fl : Jc → Bool
  | .li => true
  | .an => true
  | .t2 a b => a.fl && b.fl
  | .t3 a b c => a.fl && (b.fl && c.fl)
  | .t4 a b c d => a.fl && (b.fl && (c.fl && d.fl))
  | .ls _ _ => false
def JV (K : PySem.W.Frag) (H : Hp) (pi po : List Addr) : Jc → V → Prop
  | .li, v => ∃ a, v = .ref a ∧ a ∈ pi
  | .an, _ => True
  | .t2 a b, v => ∃ p w1 w2, v = .ref p ∧ SqT K H p [w1, w2] ∧ JV K H pi po a w1 ∧ JV K H pi po b w2
  | .t3 a b c, v => ∃ p w1 w2 w3, v = .ref p ∧ SqT K H p [w1, w2, w3] ∧ JV K H pi po a w1 ∧ JV K H pi po b w2 ∧ JV K H pi po c w3
  | .t4 a b c d, v => ∃ p w1 w2 w3 w4, v = .ref p ∧ SqT K H p [w1, w2, w3, w4] ∧ JV K H pi po a w1 ∧ JV K H pi po b w2 ∧ JV K H pi po c w3 ∧ JV K H pi po d w4
  | .ls n c, v => ∃ p vs, v = .ref p ∧ p ∈ po ∧ H p = some (.lst vs) ∧ vs.length = n ∧ ∀ w ∈ vs, JV K H pi po c w
theorem JV.mono {K : PySem.W.Frag} {H H' : Hp} {pi pi' po : List Addr} (h1 : ∀ a ∈ pi, a ∈ pi') (h2 : ∀ p xs, SqT K H p xs → SqT K H' p xs) (h3 : ∀ p ∈ po, ∀ vs, H p = some (.lst vs) → H' p = some (.lst vs)) : ∀ {c : Jc} {v : V}, JV K H pi po c v → JV K H' pi' po c v
  | .li, v, ⟨a, e, m⟩ => ⟨a, e, h1 a m⟩
  | .an, _, _ => trivial
  | .t2 a b, v, ⟨p, w1, w2, e, q, j1, j2⟩ => ⟨p, w1, w2, e, h2 _ _ q, JV.mono h1 h2 h3 j1, JV.mono h1 h2 h3 j2⟩
  | .t3 a b c, v, ⟨p, w1, w2, w3, e, q, j1, j2, j3⟩ => ⟨p, w1, w2, w3, e, h2 _ _ q, JV.mono h1 h2 h3 j1, JV.mono h1 h2 h3 j2, JV.mono h1 h2 h3 j3⟩
  | .t4 a b c d, v, ⟨p, w1, w2, w3, w4, e, q, j1, j2, j3, j4⟩ => ⟨p, w1, w2, w3, w4, e, h2 _ _ q, JV.mono h1 h2 h3 j1, JV.mono h1 h2 h3 j2, JV.mono h1 h2 h3 j3, JV.mono h1 h2 h3 j4⟩
  | .ls n c, v, ⟨p, vs, e, m, q, l, j⟩ => ⟨p, vs, e, m, h3 p m vs q, l, fun w hw => JV.mono h1 h2 h3 (j w hw)⟩
theorem JV.flat {K : PySem.W.Frag} {H : Hp} {pi po : List Addr} : ∀ {c : Jc} {v : V}, c.fl = true → JV K H pi po c v → JV K H pi [] c v
  | .li, v, _, h => h
  | .an, _, _, _ => trivial
  | .t2 a b, v, f, ⟨p, w1, w2, e, q, j1, j2⟩ => by
    have f := Bool.and_eq_true_iff.mp (show (a.fl && b.fl) = true from f)
    exact ⟨p, w1, w2, e, q, j1.flat f.1, j2.flat f.2⟩
  | .t3 a b c, v, f, ⟨p, w1, w2, w3, e, q, j1, j2, j3⟩ => by
    have f := Bool.and_eq_true_iff.mp (show (a.fl && (b.fl && c.fl)) = true from f)
    have g := Bool.and_eq_true_iff.mp f.2
    exact ⟨p, w1, w2, w3, e, q, j1.flat f.1, j2.flat g.1, j3.flat g.2⟩
  | .t4 a b c d, v, f, ⟨p, w1, w2, w3, w4, e, q, j1, j2, j3, j4⟩ => by
    have f := Bool.and_eq_true_iff.mp (show (a.fl && (b.fl && (c.fl && d.fl))) = true from f)
    have g := Bool.and_eq_true_iff.mp f.2
    have k := Bool.and_eq_true_iff.mp g.2
    exact ⟨p, w1, w2, w3, w4, e, q, j1.flat f.1, j2.flat g.1, j3.flat k.1, j4.flat k.2⟩
  | .ls n c, v, f, _ => by cases f
/-- neither a tuple nor a thing known to the object stands there -/
def NT (H : Hp) (p : Addr) : Prop := (∀ xs, H p ≠ some (.tup xs)) ∧ ∀ o u, H p ≠ some (.frz o u)
theorem NT.lst {H : Hp} {p : Addr} {vs : List V} (h : H p = some (.lst vs)) : NT H p := ⟨fun xs r => (by rw [h] at r; cases r), fun o u r => by rw [h] at r; cases r⟩
theorem NT.dT {H : Hp} {p : Addr} {ws : List (List Key × V)} (h : H p = some (.dT ws)) : NT H p := ⟨fun xs r => (by rw [h] at r; cases r), fun o u r => by rw [h] at r; cases r⟩
theorem NT.dK {H : Hp} {p : Addr} {ws : List (Key × V)} (h : H p = some (.dK ws)) : NT H p := ⟨fun xs r => (by rw [h] at r; cases r), fun o u r => by rw [h] at r; cases r⟩
theorem NT.rd {H : Hp} {p : Addr} (h : NT H p) (xs : List V) : ¬ Rd H p (.tup xs) := fun r => r.elim (h.1 xs) fun ⟨o, r⟩ => h.2 o _ r
theorem NT.sq {K : PySem.W.Frag} {H : Hp} {p : Addr} {u : HO} (h : NT H p) {b : Addr} {xs : List V} (q : SqT K H b xs) : SqT K (upd H p u) b xs := by
  rcases q with q | q
  · by_cases e : b = p
    · rw [e] at q
      exact (h.rd xs q).elim
    · rcases q with q | ⟨o, q⟩
      · exact .inl (.inl ((upd_ne e).trans q))
      · exact .inl (.inr ⟨o, (upd_ne e).trans q⟩)
  · exact .inr q
/-- the heap with no lists but those at ps -/
def Onl (H : Hp) (ps : List Addr) : Hp := fun b => match H b with
  | some (.tup xs) => some (.tup xs)
  | some (.frz o u) => some (.frz o u)
  | o => if b ∈ ps then o else none
theorem Onl.cases {H : Hp} {ps : List Addr} {b : Addr} {o : HO} : Onl H ps b = some o ↔ H b = some o ∧ (¬ NT H b ∨ b ∈ ps) := by
  unfold Onl
  split
  · rename_i xs e
    rw [e]
    exact ⟨fun h => ⟨h, .inl fun n => n.1 _ e⟩, fun h => h.1⟩
  · rename_i u xs e
    rw [e]
    exact ⟨fun h => ⟨h, .inl fun n => n.2 _ _ e⟩, fun h => h.1⟩
  · rename_i h1 h2
    constructor
    · intro h
      split at h
      · rename_i m
        exact ⟨h, .inr m⟩
      · cases h
    · rintro ⟨h, h3⟩
      rcases h3 with h3 | h3
      · exact (h3 ⟨fun xs e => h1 xs e, fun o u e => h2 o u e⟩).elim
      · rw [if_pos h3]; exact h
theorem Onl.out {H : Hp} {ps : List Addr} : Same (Onl H ps) H := fun b o h => (Onl.cases.mp h).1
theorem NT.back {H H' : Hp} {b : Addr} {o : HO} (h : H b = some o) (e : Same H H') (n : NT H' b) : NT H b := ⟨fun xs k => n.1 xs (e _ _ k), fun o u k => n.2 o u (e _ _ k)⟩
theorem NT.go {H H' : Hp} {b : Addr} {o : HO} (h : H b = some o) (e : Same H H') (n : NT H b) : NT H' b := ⟨fun xs k => n.1 xs (by rw [← k, h]; exact (e _ _ h).symm), fun w u k => n.2 w u (by rw [← k, h]; exact (e _ _ h).symm)⟩
theorem Onl.grow {H H' : Hp} {ps : List Addr} (e : Same H H') : Same (Onl H ps) (Onl H' ps) := fun b o h => by
  obtain ⟨h1, h2⟩ := Onl.cases.mp h
  exact Onl.cases.mpr ⟨e _ _ h1, h2.imp (fun k n => k (n.back h1 e)) id⟩
theorem Onl.more {H : Hp} {ps ps' : List Addr} (h : ∀ a ∈ ps, a ∈ ps') : Same (Onl H ps) (Onl H ps') := fun b o q => by
  obtain ⟨h1, h2⟩ := Onl.cases.mp q
  exact Onl.cases.mpr ⟨h1, h2.imp id (h b)⟩
theorem Onl.upd {H : Hp} {ps : List Addr} {p : Addr} {u : HO} (np : p ∉ ps) (nt : NT H p) : Same (Onl H ps) (Onl (L2.upd H p u) ps) := fun b o h => by
  obtain ⟨h1, h2⟩ := Onl.cases.mp h
  have e : b ≠ p := fun z => by
    rw [z] at h2
    exact h2.elim (fun k => k nt) np
  refine Onl.cases.mpr ⟨(upd_ne e).trans h1, h2.imp (fun k n => k ?_) id⟩
  exact ⟨fun xs z => n.1 xs ((upd_ne e).trans z), fun w u z => n.2 w u ((upd_ne e).trans z)⟩
/-- a list of ints that isn't empty -/
def JI (n : Nat) (H : Hp) (a : Addr) : Prop := ∃ vs, H a = some (.lst vs) ∧ vs ≠ [] ∧ vs.length ≤ n ∧ ∀ w ∈ vs, ∃ i, w = V.int i
/-! ### what stands in the slots -/
inductive Sl : Type 1 where
  | un
  /-- a value that isn't changed -/
  | fr {α : Type} [PyT α] (x : α)
  /-- a list of the def's own, of these items -/
  | ow {α : Type} [PyT α] (xs : List α)
  /-- a value that isn't changed as long as none of the def's own lists is -/
  | tm {α : Type} [PyT α] (x : α)
  /-- a dict of the def's own, its keys tuples of ints -/
  | dc {β : Type} [PyT β] (kvs : List (List Int × β))
  /-- .. its keys ints -/
  | di {β : Type} [PyT β] (kvs : List (Int × β))
  /-- a table of the def's own: its rows' addresses, their items -/
  | ot {α : Type} [PyT α] (rs : List Addr) (xss : List (List α))
  /-- a value that was handed in (in the heap G) and may lean on what is to be left alone -/
  | pm {α : Type} [PyT α] (G : Hp) (x : α)
  /-- a value whose lists, all at ps, are the def's own -/
  | nw {α : Type} [PyT α] (ps : List Addr) (x : α)
  /-- lists of ints at pi, other lists at po, all the def's own; what they hold is no more known -/
  | jk (n : Nat) (pi po : List Addr) (c : Jc)
  /-- a value that leads to such lists of ints -/
  | jr (pi : List Addr) (c : Jc)
def Rows (K : PySem.W.Frag) (F H H0 : Hp) {α : Type} [PyT α] : List Addr → List (List α) → Prop
  | [], [] => True
  | r :: rs, xs :: xss => (∃ vs, H r = some (.lst vs) ∧ RepL K F vs xs) ∧ H0 r = none ∧ Rows K F H H0 rs xss
  | _, _ => False
section
variable {K : PySem.W.Frag} {F F' H H' H0 H1 : Hp} {α : Type} [PyT α] {p : Addr}
theorem Rows.grow (e : Same F F') (e2 : Same H H') : ∀ {rs : List Addr} {xss : List (List α)}, Rows K F H H0 rs xss → Rows K F' H' H0 rs xss
  | [], [], _ => trivial
  | r :: rs, xs :: xss, ⟨⟨vs, h1, h2⟩, h3, h4⟩ => ⟨⟨vs, e2 _ _ h1, h2.mono e⟩, h3, Rows.grow e e2 h4⟩
  | [], _ :: _, h => h.elim
  | _ :: _, [], h => h.elim
theorem Rows.base : ∀ {rs : List Addr} {xss : List (List α)}, Rows K F H H0 rs xss → (∀ r ∈ rs, H1 r = none) → Rows K F H H1 rs xss
  | [], [], _, _ => trivial
  | r :: rs, xs :: xss, ⟨h1, h3, h4⟩, h => ⟨h1, h r List.mem_cons_self, Rows.base h4 fun q hq => h q (List.mem_cons_of_mem _ hq)⟩
  | [], _ :: _, h, _ => h.elim
  | _ :: _, [], h, _ => h.elim
theorem Rows.upd {o : HO} (e : Same F F') : ∀ {rs : List Addr} {xss : List (List α)}, Rows K F H H0 rs xss → p ∉ rs → Rows K F' (L2.upd H p o) H0 rs xss
  | [], [], _, _ => trivial
  | r :: rs, xs :: xss, ⟨⟨vs, h1, h2⟩, h3, h4⟩, h => ⟨⟨vs, (upd_ne (fun z => h (by rw [← z]; exact List.mem_cons_self))).trans h1, h2.mono e⟩, h3, Rows.upd e h4 fun z => h (List.mem_cons_of_mem _ z)⟩
  | [], _ :: _, h, _ => h.elim
  | _ :: _, [], h, _ => h.elim
theorem Rows.mem : ∀ {rs : List Addr} {xss : List (List α)}, Rows K F H H0 rs xss → p ∈ rs → H p ≠ none ∧ H0 p = none
  | r :: rs, xs :: xss, ⟨⟨vs, h1, h2⟩, h3, h4⟩, h => by
    rcases List.mem_cons.mp h with e | h
    · subst e
      exact ⟨(by rw [h1]; intro z; cases z), h3⟩
    · exact Rows.mem h4 h
  | [], _, _, h => by cases h
  | _ :: _, [], h, _ => h.elim
theorem Rows.lst : ∀ {rs : List Addr} {xss : List (List α)}, Rows K F H H0 rs xss → p ∈ rs → ∃ vs, H p = some (.lst vs)
  | r :: rs, xs :: xss, ⟨⟨vs, h1, h2⟩, h3, h4⟩, h => by
    rcases List.mem_cons.mp h with e | h
    · subst e
      exact ⟨vs, h1⟩
    · exact Rows.lst h4 h
  | [], _, _, h => by cases h
  | _ :: _, [], h, _ => h.elim
theorem Rows.len : ∀ {rs : List Addr} {xss : List (List α)}, Rows K F H H0 rs xss → rs.length = xss.length
  | [], [], _ => rfl
  | r :: rs, xs :: xss, ⟨_, _, h4⟩ => congrArg Nat.succ (Rows.len h4)
  | [], _ :: _, h => h.elim
  | _ :: _, [], h => h.elim
/-- rows no more changed -/
theorem Rows.rep (G : Hp) : ∀ {rs : List Addr} {xss : List (List α)}, Rows K F H H0 rs xss → Same F G → (∀ r ∈ rs, ∀ o, H r = some o → G r = some o) → RepL K G (rs.map V.ref) xss
  | [], [], _, _, _ => trivial
  | r :: rs, xs :: xss, ⟨⟨vs, h1, h2⟩, h3, h4⟩, e, hg => ⟨⟨r, vs, rfl, hg r List.mem_cons_self _ h1, h2.mono e⟩, Rows.rep G h4 e fun q hq => hg q (List.mem_cons_of_mem _ hq)⟩
  | [], _ :: _, h, _, _ => h.elim
  | _ :: _, [], h, _, _ => h.elim
/-- one row -/
theorem Rows.get : ∀ {rs : List Addr} {xss : List (List α)} {i : Nat} {xs : List α}, Rows K F H H0 rs xss → xss[i]? = some xs → ∃ r vs, rs[i]? = some r ∧ H r = some (.lst vs) ∧ H0 r = none ∧ RepL K F vs xs
  | r :: rs, xs :: xss, 0, ys, ⟨⟨vs, h1, h2⟩, h3, h4⟩, e => by
    cases e
    exact ⟨r, vs, rfl, h1, h3, h2⟩
  | r :: rs, xs :: xss, i + 1, ys, ⟨_, _, h4⟩, e => Rows.get (i := i) h4 e
  | [], [], _, _, _, e => by simp at e
  | [], _ :: _, _, _, h, _ => h.elim
  | _ :: _, [], _, _, h, _ => h.elim
/-- .. changed -/
theorem Rows.set {vs' : List V} {xs' : List α} (e : Same F F') (hr : RepL K F' vs' xs') : ∀ {rs : List Addr} {xss : List (List α)} {i : Nat}, Rows K F H H0 rs xss → rs.Nodup → rs[i]? = some p → Rows K F' (L2.upd H p (.lst vs')) H0 rs (xss.set i xs')
  | r :: rs, xs :: xss, 0, ⟨_, h3, h4⟩, nd, hi => by
    cases hi
    exact ⟨⟨vs', upd_same, hr⟩, h3, h4.upd e (List.nodup_cons.mp nd).1⟩
  | r :: rs, xs :: xss, i + 1, ⟨⟨vs, h1, h2⟩, h3, h4⟩, nd, hi => by
    have hm : p ∈ rs := List.mem_of_getElem? (i := i) hi
    have ne : r ≠ p := fun z => (List.nodup_cons.mp nd).1 (by rw [z]; exact hm)
    exact ⟨⟨vs, (upd_ne ne).trans h1, h2.mono e⟩, h3, Rows.set (i := i) e hr h4 (List.nodup_cons.mp nd).2 hi⟩
  | [], _, _, _, _, hi => by simp at hi
  | _ :: _, [], _, h, _, _ => h.elim
theorem Rows.app : ∀ {rs : List Addr} {xss : List (List α)} {r : Addr} {vs : List V} {xs : List α}, Rows K F H H0 rs xss → H r = some (.lst vs) → H0 r = none → RepL K F vs xs → Rows K F H H0 (rs ++ [r]) (xss ++ [xs])
  | [], [], r, vs, xs, _, h1, h2, h3 => ⟨⟨vs, h1, h3⟩, h2, trivial⟩
  | r :: rs, xs :: xss, _, _, _, ⟨h1, h3, h4⟩, a, b, c => ⟨h1, h3, Rows.app h4 a b c⟩
  | [], _ :: _, _, _, _, h, _, _, _ => h.elim
  | _ :: _, [], _, _, _, h, _, _, _ => h.elim
end
def SlOk (K : PySem.W.Frag) (F H H0 : Hp) : Sl → Option V → Prop
  | .un, _ => True
  | @Sl.fr α i x, o => ∃ v, o = some v ∧ @PyT.rep α i K F v x
  | @Sl.ow α i xs, o => ∃ p vs, o = some (.ref p) ∧ H p = some (.lst vs) ∧ H0 p = none ∧ @RepL α i K F vs xs
  | @Sl.tm α i x, o => ∃ v, o = some v ∧ @PyT.rep α i K H v x
  | @Sl.ot α i rs xss, o => ∃ p rs', o = some (.ref p) ∧ rs'.Perm rs ∧ H p = some (.lst (rs'.map V.ref)) ∧ H0 p = none ∧ @Rows K F H H0 α i rs' xss
  | @Sl.dc β i kvs, o => ∃ p ws, o = some (.ref p) ∧ H p = some (.dT ws) ∧ H0 p = none ∧ @RepD β i K F ws kvs
  | @Sl.di β i kvs, o => ∃ p ws, o = some (.ref p) ∧ H p = some (.dK ws) ∧ H0 p = none ∧ @RepDi β i K F ws kvs
  | @Sl.pm α i G x, o => ∃ v, o = some v ∧ @PyT.rep α i K G v x ∧ Same G H0
  | @Sl.nw α i ps x, o => ∃ v, o = some v ∧ @PyT.rep α i K (Onl H ps) v x ∧ ∀ p ∈ ps, (∃ vs, H p = some (.lst vs)) ∧ H0 p = none
  | .jk n pi po c, o => ∃ v, o = some v ∧ JV K H pi po c v ∧ (∀ a ∈ pi, JI n H a ∧ H0 a = none) ∧ ∀ p ∈ po, (∃ vs, H p = some (.lst vs)) ∧ H0 p = none
  | .jr pi c, o => ∃ v, o = some v ∧ c.fl = true ∧ JV K H pi [] c v
/-- what a slot adds -/
def own1 : Sl → Option V → List Addr
  | @Sl.ow _ _ _, some (.ref p) => [p]
  | @Sl.dc _ _ _, some (.ref p) => [p]
  | @Sl.di _ _ _, some (.ref p) => [p]
  | @Sl.ot _ _ rs _, some (.ref p) => p :: rs
  | @Sl.nw _ _ ps _, _ => ps
  | .jk _ pi po _, _ => pi ++ po
  | _, _ => []
def tmF1 : Sl → Bool
  | @Sl.tm _ _ _ => false
  | _ => true
/-- nothing stands that leans on the def's own lists -/
def tmF (Γ : List Sl) : Bool := Γ.all tmF1
/-- the lists of the def's own -/
def owA : List Sl → L2.St → List Addr
  | s :: Γ, o :: σ => own1 s o ++ owA Γ σ
  | _, _ => []
def AllOk (K : PySem.W.Frag) (F H H0 : Hp) : List Sl → L2.St → Prop
  | [], [] => True
  | s :: Γ, o :: σ => SlOk K F H H0 s o ∧ AllOk K F H H0 Γ σ
  | _, _ => False
/-- a thing that isn't a tuple stands there -/
def Hv (H : Hp) (q : Addr) : Prop := ∃ o, H q = some o ∧ (∀ xs, o ≠ HO.tup xs) ∧ ∀ a u, o ≠ HO.frz a u
theorem Hv.ne {H : Hp} {q : Addr} (h : Hv H q) : H q ≠ none := fun z => by
  obtain ⟨o, e, _⟩ := h
  rw [z] at e
  cases e
theorem Hv.grow {H H' : Hp} {q : Addr} (h : Hv H q) (s : Same H H') : Hv H' q := by
  obtain ⟨o, e, n⟩ := h
  exact ⟨o, s q o e, n⟩
theorem Hv.lst {H : Hp} {q : Addr} {vs : List V} (h : H q = some (.lst vs)) : Hv H q := ⟨_, h, (fun _ z => by cases z), fun _ _ z => by cases z⟩
theorem Hv.nt {H : Hp} {q : Addr} (h : Hv H q) : NT H q := let ⟨o, e, n1, n2⟩ := h; ⟨fun xs z => n1 xs (by rw [e] at z; exact Option.some.inj z), fun a u z => n2 a u (by rw [e] at z; exact Option.some.inj z)⟩
theorem Hv.tup {H : Hp} {q : Addr} {vs : List V} (h : Hv H q) (e : H q = some (.tup vs)) : False := by
  obtain ⟨o, e2, n⟩ := h
  rw [e] at e2
  exact n.1 vs (Option.some.inj e2).symm
theorem Hv.other {H : Hp} {q p : Addr} {o : HO} (h : Hv H q) (n : q ≠ p) : Hv (upd H p o) q := by
  obtain ⟨u, e, k⟩ := h
  exact ⟨u, (upd_ne n).trans e, k⟩
structure At (K : PySem.W.Frag) (H0 : Hp) (qs : List Addr) (Γ : List Sl) (σ : L2.St) (H : Hp) : Prop where
  ex : Same H0 H
  ok : AllOk K (Fz H (owA Γ σ ++ qs)) H H0 Γ σ
  nd : (owA Γ σ).Nodup
  sep : ∀ p ∈ owA Γ σ, p ∉ qs
  qd : ∀ q ∈ qs, Hv H q
section
variable {K : PySem.W.Frag} {F F' H H' H0 : Hp} {qs : List Addr} {Γ Γ' : List Sl} {σ : L2.St}
theorem SlOk.grow {s : Sl} {o : Option V} (h : SlOk K F H H0 s o) (e : Same F F') (e2 : Same H H') : SlOk K F' H' H0 s o := by
  cases s with
  | un => trivial
  | fr x =>
    obtain ⟨v, h1, h2⟩ := h
    exact ⟨v, h1, PyT.mono e h2⟩
  | ow xs =>
    obtain ⟨p, vs, h1, h2, h3, h4⟩ := h
    exact ⟨p, vs, h1, e2 _ _ h2, h3, h4.mono e⟩
  | dc xs =>
    obtain ⟨p, vs, h1, h2, h3, h4⟩ := h
    exact ⟨p, vs, h1, e2 _ _ h2, h3, h4.mono e⟩
  | di xs =>
    obtain ⟨p, vs, h1, h2, h3, h4⟩ := h
    exact ⟨p, vs, h1, e2 _ _ h2, h3, h4.mono e⟩
  | tm x =>
    obtain ⟨v, h1, h2⟩ := h
    exact ⟨v, h1, PyT.mono e2 h2⟩
  | ot rs xss =>
    obtain ⟨p, rs', h1, hp, h2, h3, h4⟩ := h
    exact ⟨p, rs', h1, hp, e2 _ _ h2, h3, h4.grow e e2⟩
  | pm G x => exact h
  | nw ps x =>
    obtain ⟨v, h1, h2, h3⟩ := h
    exact ⟨v, h1, PyT.mono (Onl.grow e2) h2, fun p hp => let ⟨⟨vs, k⟩, k0⟩ := h3 p hp; ⟨⟨vs, e2 _ _ k⟩, k0⟩⟩
  | jk n pi po c =>
    obtain ⟨v, h1, h2, h3, h4⟩ := h
    exact ⟨v, h1, h2.mono (fun _ z => z) (fun _ _ z => sqT_mono e2 z) (fun _ _ _ z => e2 _ _ z), fun a ha => let ⟨⟨vs, k, k1⟩, k0⟩ := h3 a ha; ⟨⟨vs, e2 _ _ k, k1⟩, k0⟩, fun p hp => let ⟨⟨vs, k⟩, k0⟩ := h4 p hp; ⟨⟨vs, e2 _ _ k⟩, k0⟩⟩
  | jr pi c =>
    obtain ⟨v, h1, h2, h3⟩ := h
    exact ⟨v, h1, h2, h3.mono (fun _ z => z) (fun _ _ z => sqT_mono e2 z) (fun _ m => by cases m)⟩
theorem AllOk.grow (e : Same F F') (e2 : Same H H') : ∀ {Γ : List Sl} {σ : L2.St}, AllOk K F H H0 Γ σ → AllOk K F' H' H0 Γ σ
  | [], [], _ => trivial
  | s :: Γ, o :: σ, h => ⟨h.1.grow e e2, AllOk.grow e e2 h.2⟩
  | [], _ :: _, h => h.elim
  | _ :: _, [], h => h.elim
theorem AllOk.len : ∀ {Γ : List Sl} {σ : L2.St}, AllOk K F H H0 Γ σ → Γ.length = σ.length
  | [], [], _ => rfl
  | s :: Γ, o :: σ, h => congrArg Nat.succ (AllOk.len h.2)
  | [], _ :: _, h => h.elim
  | _ :: _, [], h => h.elim
theorem AllOk.get : ∀ {Γ : List Sl} {σ : L2.St} {i : Nat} {s : Sl}, AllOk K F H H0 Γ σ → Γ[i]? = some s → ∃ o, σ[i]? = some o ∧ SlOk K F H H0 s o
  | s :: Γ, o :: σ, 0, t, h, e => by
    have e2 : s = t := Option.some.inj e
    subst e2
    exact ⟨o, rfl, h.1⟩
  | s :: Γ, o :: σ, i + 1, t, h, e => AllOk.get (i := i) h.2 e
  | [], [], _, _, _, e => by simp at e
  | [], _ :: _, _, _, h, _ => h.elim
  | _ :: _, [], _, _, h, _ => h.elim
theorem owA_cons {s : Sl} {o : Option V} : owA (s :: Γ) (o :: σ) = own1 s o ++ owA Γ σ := rfl
theorem owA_nil : owA Γ [] = [] := by cases Γ <;> rfl
theorem owA_mem : ∀ {Γ : List Sl} {σ : L2.St} {i : Nat} {α : Type} [PyT α] {xs : List α} {p : Addr}, Γ[i]? = some (.ow xs) → σ[i]? = some (some (.ref p)) → p ∈ owA Γ σ
  | s :: Γ, o :: σ, 0, _, _, _, p, e1, e2 => by
    have q1 := Option.some.inj e1
    have q2 := Option.some.inj e2
    subst q1 q2
    rw [owA_cons]
    exact List.mem_append_left _ (by simp [own1])
  | s :: Γ, o :: σ, i + 1, _, _, _, p, e1, e2 => by
    have ih := owA_mem (Γ := Γ) (σ := σ) (i := i) e1 e2
    rw [owA_cons]
    exact List.mem_append_right _ ih
  | [], _, _, _, _, _, _, e, _ => by simp at e
  | _ :: _, [], _, _, _, _, _, _, e => by simp at e
theorem owA_set_sub {s : Sl} {o : Option V} : ∀ {Γ : List Sl} {σ : L2.St} {i : Nat} {a : Addr}, a ∈ owA (Γ.set i s) (σ.set i o) → a ∈ own1 s o ∨ a ∈ owA Γ σ
  | [], [], _, _, h => .inr h
  | [], _ :: _, _, _, h => by cases h
  | t :: Γ, [], i, a, h => by
    rw [List.set_nil, owA_nil] at h
    cases h
  | t :: Γ, u :: σ, 0, a, h => by
    rw [List.set_cons_zero, List.set_cons_zero, owA_cons] at h
    rw [owA_cons]
    rcases List.mem_append.mp h with h | h
    · exact .inl h
    · exact .inr (List.mem_append_right _ h)
  | t :: Γ, u :: σ, i + 1, a, h => by
    rw [List.set_cons_succ, List.set_cons_succ, owA_cons] at h
    rw [owA_cons]
    rcases List.mem_append.mp h with h | h
    · exact .inr (List.mem_append_left _ h)
    · rcases owA_set_sub h with h | h
      · exact .inl h
      · exact .inr (List.mem_append_right _ h)
theorem owA_set_nd {s : Sl} {o : Option V} (h1 : (own1 s o).Nodup) : ∀ {Γ : List Sl} {σ : L2.St} {i : Nat}, (∀ a ∈ own1 s o, a ∉ owA Γ σ) → (owA Γ σ).Nodup → (owA (Γ.set i s) (σ.set i o)).Nodup
  | [], _, _, _, _ => by simp [owA]
  | t :: Γ, [], i, _, _ => by cases i <;> simp [owA]
  | t :: Γ, u :: σ, 0, hn, hd => by
    rw [List.set_cons_zero, List.set_cons_zero, owA_cons]
    rw [owA_cons] at hd hn
    refine List.nodup_append.mpr ⟨h1, (List.nodup_append.mp hd).2.1, fun a ha b hb e => ?_⟩
    subst e
    exact hn a ha (List.mem_append_right _ hb)
  | t :: Γ, u :: σ, i + 1, hn, hd => by
    rw [List.set_cons_succ, List.set_cons_succ, owA_cons]
    rw [owA_cons] at hd hn
    obtain ⟨d1, d2, d3⟩ := List.nodup_append.mp hd
    refine List.nodup_append.mpr ⟨d1, owA_set_nd h1 (fun a ha hb => hn a ha (List.mem_append_right _ hb)) d2, fun a ha b hb e => ?_⟩
    subst e
    rcases owA_set_sub hb with hb | hb
    · exact hn a hb (List.mem_append_left _ ha)
    · exact d3 a ha a hb rfl
theorem AllOk.set {s : Sl} {o : Option V} (hs : SlOk K F H H0 s o) : ∀ {Γ : List Sl} {σ : L2.St} {i : Nat}, AllOk K F H H0 Γ σ → AllOk K F H H0 (Γ.set i s) (σ.set i o)
  | [], [], _, _ => trivial
  | t :: Γ, u :: σ, 0, h => ⟨hs, h.2⟩
  | t :: Γ, u :: σ, i + 1, h => ⟨h.1, AllOk.set hs h.2⟩
  | [], _ :: _, _, h => h.elim
  | _ :: _, [], _, h => h.elim
theorem At.own_hv (a : At K H0 qs Γ σ H) {p : Addr} (hp : p ∈ owA Γ σ) : Hv H p := by
  have go : ∀ {Γ : List Sl} {σ : L2.St} {F : Hp}, AllOk K F H H0 Γ σ → p ∈ owA Γ σ → Hv H p := by
    intro Γ
    induction Γ with
    | nil => intro σ F _ h; cases h
    | cons t Γ ih =>
      intro σ F ok h
      cases σ with
      | nil =>
        rw [owA_nil] at h
        cases h
      | cons u σ =>
        rw [owA_cons] at h
        rcases List.mem_append.mp h with h | h
        · cases t with
          | ow xs =>
            obtain ⟨q, vs, e1, e2, _⟩ := ok.1
            subst e1
            have e : p = q := by simpa [own1] using h
            rw [e]
            exact ⟨_, e2, (fun _ z => by cases z), fun _ _ z => by cases z⟩
          | dc xs =>
            obtain ⟨q, vs, e1, e2, _⟩ := ok.1
            subst e1
            have e : p = q := by simpa [own1] using h
            rw [e]
            exact ⟨_, e2, (fun _ z => by cases z), fun _ _ z => by cases z⟩
          | di xs =>
            obtain ⟨q, vs, e1, e2, _⟩ := ok.1
            subst e1
            have e : p = q := by simpa [own1] using h
            rw [e]
            exact ⟨_, e2, (fun _ z => by cases z), fun _ _ z => by cases z⟩
          | un => cases h
          | fr x => cases h
          | tm x => cases h
          | pm G x => cases h
          | jr pi c => cases h
          | nw ps x =>
            obtain ⟨v, e1, e2, e3⟩ := ok.1
            subst e1
            obtain ⟨⟨vs, z⟩, _⟩ := e3 p h
            exact ⟨_, z, (fun _ z => by cases z), fun _ _ z => by cases z⟩
          | jk n pi po c =>
            obtain ⟨v, e1, e2, e3, e4⟩ := ok.1
            subst e1
            rcases List.mem_append.mp (show p ∈ pi ++ po from h) with h | h
            · obtain ⟨⟨vs, z, _⟩, _⟩ := e3 p h
              exact ⟨_, z, (fun _ z => by cases z), fun _ _ z => by cases z⟩
            · obtain ⟨⟨vs, z⟩, _⟩ := e4 p h
              exact ⟨_, z, (fun _ z => by cases z), fun _ _ z => by cases z⟩
          | ot rs xss =>
            obtain ⟨q, rs', e1, ep, e2, e3, e4⟩ := ok.1
            subst e1
            rcases List.mem_cons.mp (show p ∈ q :: rs from h) with e | h
            · rw [e]
              exact ⟨_, e2, (fun _ z => by cases z), fun _ _ z => by cases z⟩
            · exact let ⟨_, z⟩ := e4.lst (ep.mem_iff.mpr h); ⟨_, z, (fun _ z => by cases z), fun _ _ z => by cases z⟩
        · exact ih ok.2 h
  exact go a.ok hp
theorem At.own_there (a : At K H0 qs Γ σ H) {p : Addr} (hp : p ∈ owA Γ σ) : H p ≠ none := (a.own_hv hp).ne
theorem At.av_hv (a : At K H0 qs Γ σ H) {p : Addr} (hp : p ∈ owA Γ σ ++ qs) : Hv H p := (List.mem_append.mp hp).elim a.own_hv (a.qd p)
theorem At.av_there (a : At K H0 qs Γ σ H) {p : Addr} (hp : p ∈ owA Γ σ ++ qs) : H p ≠ none := (a.av_hv hp).ne
theorem At.grow (a : At K H0 qs Γ σ H) (e : Same H H') : At K H0 qs Γ σ H' :=
  ⟨a.ex.trans e, a.ok.grow (Fz.mono e) e, a.nd, a.sep, fun q hq => (a.qd q hq).grow e⟩
theorem At.len (a : At K H0 qs Γ σ H) : Γ.length = σ.length := a.ok.len
theorem At.fr {i : Nat} {α : Type} [PyT α] {x : α} (a : At K H0 qs Γ σ H) (h : Γ[i]? = some (.fr x)) : ∃ v, σ[i]? = some (some v) ∧ rep K (Fz H (owA Γ σ ++ qs)) v x := by
  obtain ⟨o, h1, v, h2, h3⟩ := a.ok.get h
  subst h2
  exact ⟨v, h1, h3⟩
theorem At.ow {i : Nat} {α : Type} [PyT α] {xs : List α} (a : At K H0 qs Γ σ H) (h : Γ[i]? = some (.ow xs)) :
    ∃ p vs, σ[i]? = some (some (.ref p)) ∧ p ∈ owA Γ σ ∧ H p = some (.lst vs) ∧ H0 p = none ∧ RepL K (Fz H (owA Γ σ ++ qs)) vs xs := by
  obtain ⟨o, h1, p, vs, h2, h3, h4, h5⟩ := a.ok.get h
  subst h2
  exact ⟨p, vs, h1, owA_mem h h1, h3, h4, h5⟩
theorem At.setFr {i : Nat} {α : Type} [PyT α] {x : α} {v : V} (a : At K H0 qs Γ σ H) (h : rep K (Fz H (owA Γ σ ++ qs)) v x) : At K H0 qs (Γ.set i (.fr x)) (σ.set i (some v)) H := by
  have sub : ∀ b ∈ owA (Γ.set i (.fr x)) (σ.set i (some v)), b ∈ owA Γ σ := fun b hb => (owA_set_sub hb).elim (fun z => by cases z) id
  have e : Same (Fz H (owA Γ σ ++ qs)) (Fz H (owA (Γ.set i (.fr x)) (σ.set i (some v)) ++ qs)) := Fz.sub (fun _ _ z => z) fun b hb => (List.mem_append.mp hb).elim (fun z => List.mem_append_left _ (sub b z)) (List.mem_append_right _)
  exact ⟨a.ex, (AllOk.grow e (fun _ _ z => z) a.ok).set (s := .fr x) (o := some v) ⟨v, rfl, PyT.mono e h⟩, owA_set_nd (s := .fr x) (o := some v) List.nodup_nil (fun b hb => by cases hb) a.nd, fun p hp => a.sep p (sub p hp), a.qd⟩
theorem At.setUn {i : Nat} {o : Option V} (a : At K H0 qs Γ σ H) : At K H0 qs (Γ.set i .un) (σ.set i o) H := by
  have sub : ∀ b ∈ owA (Γ.set i .un) (σ.set i o), b ∈ owA Γ σ := fun b hb => (owA_set_sub hb).elim (fun z => by cases z) id
  have e : Same (Fz H (owA Γ σ ++ qs)) (Fz H (owA (Γ.set i .un) (σ.set i o) ++ qs)) := Fz.sub (fun _ _ z => z) fun b hb => (List.mem_append.mp hb).elim (fun z => List.mem_append_left _ (sub b z)) (List.mem_append_right _)
  exact ⟨a.ex, (AllOk.grow e (fun _ _ z => z) a.ok).set (s := .un) (o := o) trivial, owA_set_nd (s := .un) (o := o) List.nodup_nil (fun b hb => by cases hb) a.nd, fun p hp => a.sep p (sub p hp), a.qd⟩
/-- a new list comes into a slot -/
theorem At.setOw {i : Nat} {α : Type} [PyT α] {xs : List α} {p : Addr} {vs : List V} (a : At K H0 qs Γ σ H) (e : Same H H') (hp : H p = none) (hp' : H' p = some (.lst vs)) (h : RepL K (Fz H' (p :: (owA Γ σ ++ qs))) vs xs) :
    At K H0 qs (Γ.set i (.ow xs)) (σ.set i (some (.ref p))) H' := by
  have a' := a.grow e
  have np : p ∉ owA Γ σ := fun z => a.own_there z hp
  have nq : p ∉ qs := fun z => (a.qd p z).ne hp
  have sub : ∀ b ∈ owA (Γ.set i (.ow xs)) (σ.set i (some (.ref p))), b = p ∨ b ∈ owA Γ σ := fun b hb => (owA_set_sub hb).imp (fun z => by simpa [own1] using z) id
  have e1 : Same (Fz H' (p :: (owA Γ σ ++ qs))) (Fz H' (owA (Γ.set i (.ow xs)) (σ.set i (some (.ref p))) ++ qs)) := Fz.sub (fun _ _ z => z) fun b hb => (List.mem_append.mp hb).elim
    (fun z => (sub b z).elim (fun q => by rw [q]; exact List.mem_cons_self) fun q => List.mem_cons_of_mem _ (List.mem_append_left _ q)) fun z => List.mem_cons_of_mem _ (List.mem_append_right _ z)
  have e2 : Same (Fz H (owA Γ σ ++ qs)) (Fz H' (owA (Γ.set i (.ow xs)) (σ.set i (some (.ref p))) ++ qs)) := Fz.new e fun b hb => (List.mem_append.mp hb).elim
    (fun z => (sub b z).elim (fun q => .inr (by rw [q]; exact hp)) fun q => .inl (List.mem_append_left _ q)) fun z => .inl (List.mem_append_right _ z)
  refine ⟨a'.ex, (AllOk.grow e2 e a.ok).set (s := .ow xs) (o := some (.ref p)) ⟨p, vs, rfl, hp', a.ex.free hp, h.mono e1⟩, owA_set_nd (s := .ow xs) (o := some (.ref p)) (by simp [own1]) (fun b hb => ?_) a.nd, fun b hb => (sub b hb).elim (fun q => by rw [q]; exact nq) (a.sep b), a'.qd⟩
  have q : b = p := by simpa [own1] using hb
  rw [q]; exact np
theorem SlOk.upd {s : Sl} {ov : Option V} {p : Addr} {o : HO} (h : SlOk K F H H0 s ov) (e : Same F F') (np : p ∉ own1 s ov) (ht : tmF1 s = true) (nt : NT H p) : SlOk K F' (L2.upd H p o) H0 s ov := by
  cases s with
  | un => trivial
  | fr x =>
    obtain ⟨v, k1, k2⟩ := h
    exact ⟨v, k1, PyT.mono e k2⟩
  | ow ys =>
    obtain ⟨q, ws, k1, k2, k3, k4⟩ := h
    subst k1
    exact ⟨q, ws, rfl, (upd_ne (fun z => np (by rw [← z]; simp [own1]))).trans k2, k3, k4.mono e⟩
  | dc ys =>
    obtain ⟨q, ws, k1, k2, k3, k4⟩ := h
    subst k1
    exact ⟨q, ws, rfl, (upd_ne (fun z => np (by rw [← z]; simp [own1]))).trans k2, k3, k4.mono e⟩
  | di ys =>
    obtain ⟨q, ws, k1, k2, k3, k4⟩ := h
    subst k1
    exact ⟨q, ws, rfl, (upd_ne (fun z => np (by rw [← z]; simp [own1]))).trans k2, k3, k4.mono e⟩
  | tm x => cases ht
  | ot rs xss =>
    obtain ⟨q, rs', k1, kp, k2, k3, k4⟩ := h
    subst k1
    exact ⟨q, rs', rfl, kp, (upd_ne (fun z => np (by rw [← z]; exact List.mem_cons_self))).trans k2, k3, k4.upd e fun z => np (List.mem_cons_of_mem _ (kp.mem_iff.mp z))⟩
  | pm G x => exact h
  | nw ps x =>
    obtain ⟨v, h1, h2, h3⟩ := h
    have np' : p ∉ ps := np
    exact ⟨v, h1, PyT.mono (Onl.upd np' nt) h2, fun q hq => let ⟨⟨vs, k⟩, k0⟩ := h3 q hq; ⟨⟨vs, (upd_ne fun z => np' (by rw [← z]; exact hq)).trans k⟩, k0⟩⟩
  | jk n pi po c =>
    obtain ⟨v, h1, h2, h3, h4⟩ := h
    have n1 : ∀ q, q ∈ pi ∨ q ∈ po → q ≠ p := fun q hq z => np (by rw [← z]; exact List.mem_append.mpr hq)
    exact ⟨v, h1, h2.mono (fun _ z => z) (fun _ _ z => nt.sq z) (fun q m _ z => (upd_ne (n1 q (.inr m))).trans z), fun a ha => let ⟨⟨vs, k, k1⟩, k0⟩ := h3 a ha; ⟨⟨vs, (upd_ne (n1 a (.inl ha))).trans k, k1⟩, k0⟩, fun q hq => let ⟨⟨vs, k⟩, k0⟩ := h4 q hq; ⟨⟨vs, (upd_ne (n1 q (.inr hq))).trans k⟩, k0⟩⟩
  | jr pi c =>
    obtain ⟨v, h1, h2, h3⟩ := h
    exact ⟨v, h1, h2, h3.mono (fun _ z => z) (fun _ _ z => nt.sq z) (fun _ m => by cases m)⟩
theorem AllOk.upd {p : Addr} {o : HO} (e : Same F F') (nt : NT H p) : ∀ {Γ : List Sl} {σ : L2.St}, AllOk K F H H0 Γ σ → p ∉ owA Γ σ → tmF Γ = true → AllOk K F' (L2.upd H p o) H0 Γ σ
  | [], [], _, _, _ => trivial
  | s :: Γ, ov :: σ, h, np, ht => by
    rw [owA_cons] at np
    obtain ⟨h1, h2⟩ := Bool.and_eq_true_iff.mp (show (tmF1 s && tmF Γ) = true from ht)
    exact ⟨h.1.upd e (fun z => np (List.mem_append_left _ z)) h1 nt, AllOk.upd e nt h.2 (fun z => np (List.mem_append_right _ z)) h2⟩
  | [], _ :: _, h, _, _ => h.elim
  | _ :: _, [], h, _, _ => h.elim
theorem owA_mem1 {s : Sl} {ov : Option V} {p : Addr} : ∀ {Γ : List Sl} {σ : L2.St} {i : Nat}, Γ[i]? = some s → σ[i]? = some ov → p ∈ own1 s ov → p ∈ owA Γ σ
  | t :: Γ, o :: σ, 0, e1, e2, h => by
    cases e1
    cases e2
    rw [owA_cons]
    exact List.mem_append_left _ h
  | t :: Γ, o :: σ, i + 1, e1, e2, h => by
    rw [owA_cons]
    exact List.mem_append_right _ (owA_mem1 (i := i) e1 e2 h)
  | [], _, _, e, _, _ => by simp at e
  | _ :: _, [], _, _, e, _ => by simp at e
/-- the list of a slot changes -/
theorem AllOk.mut {p : Addr} {o : HO} {s s' : Sl} {ov : Option V} (nt : NT H p) (e : Same F F') (hs : SlOk K F' (L2.upd H p o) H0 s' ov) (hp : p ∈ own1 s ov) : ∀ {Γ : List Sl} {σ : L2.St} {i : Nat}, AllOk K F H H0 Γ σ → (owA Γ σ).Nodup → tmF Γ = true →
    Γ[i]? = some s → σ[i]? = some ov → AllOk K F' (L2.upd H p o) H0 (Γ.set i s') σ
  | t :: Γ, w :: σ, 0, h, nd, ht, e1, e2 => by
    cases e1
    cases e2
    rw [owA_cons] at nd
    obtain ⟨d1, d2, d3⟩ := List.nodup_append.mp nd
    obtain ⟨h1, h2⟩ := Bool.and_eq_true_iff.mp (show (tmF1 s && tmF Γ) = true from ht)
    exact ⟨hs, h.2.upd e nt (fun z => d3 p hp p z rfl) h2⟩
  | t :: Γ, w :: σ, i + 1, h, nd, ht, e1, e2 => by
    rw [owA_cons] at nd
    obtain ⟨d1, d2, d3⟩ := List.nodup_append.mp nd
    obtain ⟨h1, h2⟩ := Bool.and_eq_true_iff.mp (show (tmF1 t && tmF Γ) = true from ht)
    have hm : p ∈ owA Γ σ := owA_mem1 (i := i) e1 e2 hp
    exact ⟨h.1.upd e (fun z => d3 p z p hm rfl) h1 nt, AllOk.mut (i := i) nt e hs hp h.2 d2 h2 e1 e2⟩
  | [], _, _, _, _, _, e, _ => by simp at e
  | _ :: _, [], _, _, _, _, _, e => by simp at e
theorem owA_set_same {s s' : Sl} {ov : Option V} (hs : own1 s' ov = own1 s ov) : ∀ {Γ : List Sl} {σ : L2.St} {i : Nat}, Γ[i]? = some s → σ[i]? = some ov → owA (Γ.set i s') σ = owA Γ σ
  | t :: Γ, o :: σ, 0, e1, e2 => by
    cases e1
    cases e2
    rw [List.set_cons_zero, owA_cons, owA_cons, hs]
  | t :: Γ, o :: σ, i + 1, e1, e2 => by
    rw [List.set_cons_succ, owA_cons, owA_cons, owA_set_same (i := i) hs e1 e2]
  | [], _, _, e, _ => by simp at e
  | _ :: _, [], _, _, e => by simp at e
theorem At.mut {i : Nat} {α : Type} [PyT α] {xs xs' : List α} {p : Addr} {vs' : List V} (a : At K H0 qs Γ σ H) (h : Γ[i]? = some (.ow xs)) (hp : σ[i]? = some (some (.ref p))) (hv : RepL K (Fz H (owA Γ σ ++ qs)) vs' xs') (ht : tmF Γ = true) :
    At K H0 qs (Γ.set i (.ow xs')) σ (upd H p (.lst vs')) := by
  obtain ⟨p', vs, k1, k2, k3, k4, k5⟩ := a.ow h
  have e : p' = p := by rw [hp] at k1; exact (V.ref.inj (Option.some.inj (Option.some.inj k1))).symm
  subst e
  have eo : owA (Γ.set i (.ow xs')) σ = owA Γ σ := owA_set_same (s := .ow xs) (s' := .ow xs') (ov := some (.ref p')) rfl h hp
  have e1 : Same (Fz H (owA Γ σ ++ qs)) (Fz (upd H p' (.lst vs')) (owA Γ σ ++ qs)) := Fz.mut (List.mem_append_left _ k2)
  refine ⟨same_mut a.ex k4, ?_, by rw [eo]; exact a.nd, by rw [eo]; exact a.sep, fun q hq => ?_⟩
  · rw [eo]
    exact AllOk.mut (s := .ow xs) (s' := .ow xs') (NT.lst k3) e1 ⟨p', vs', rfl, upd_same, k4, hv.mono e1⟩ List.mem_cons_self a.ok a.nd ht h hp
  · exact (a.qd q hq).other fun z => a.sep p' k2 (by rw [← z]; exact hq)
/-- a dict of the def's own -/
theorem At.dc {i : Nat} {β : Type} [PyT β] {kvs : List (List Int × β)} (a : At K H0 qs Γ σ H) (h : Γ[i]? = some (.dc kvs)) :
    ∃ p ws, σ[i]? = some (some (.ref p)) ∧ p ∈ owA Γ σ ∧ H p = some (.dT ws) ∧ H0 p = none ∧ RepD K (Fz H (owA Γ σ ++ qs)) ws kvs := by
  obtain ⟨o, h1, p, ws, h2, h3, h4, h5⟩ := a.ok.get h
  subst h2
  exact ⟨p, ws, h1, owA_mem1 (ov := some (.ref p)) h h1 List.mem_cons_self, h3, h4, h5⟩
/-- a dict of the def's own -/
theorem At.di {i : Nat} {β : Type} [PyT β] {kvs : List (Int × β)} (a : At K H0 qs Γ σ H) (h : Γ[i]? = some (.di kvs)) :
    ∃ p ws, σ[i]? = some (some (.ref p)) ∧ p ∈ owA Γ σ ∧ H p = some (.dK ws) ∧ H0 p = none ∧ RepDi K (Fz H (owA Γ σ ++ qs)) ws kvs := by
  obtain ⟨o, h1, p, ws, h2, h3, h4, h5⟩ := a.ok.get h
  subst h2
  exact ⟨p, ws, h1, owA_mem1 (ov := some (.ref p)) h h1 List.mem_cons_self, h3, h4, h5⟩
/-- a table of the def's own -/
theorem At.ot {i : Nat} {α : Type} [PyT α] {rs : List Addr} {xss : List (List α)} (a : At K H0 qs Γ σ H) (h : Γ[i]? = some (.ot rs xss)) :
    ∃ p rs', σ[i]? = some (some (.ref p)) ∧ rs'.Perm rs ∧ (∀ q ∈ p :: rs', q ∈ owA Γ σ) ∧ H p = some (.lst (rs'.map V.ref)) ∧ H0 p = none ∧ Rows K (Fz H (owA Γ σ ++ qs)) H H0 rs' xss := by
  obtain ⟨o, h1, p, rs', h2, hp, h3, h4, h5⟩ := a.ok.get h
  subst h2
  exact ⟨p, rs', h1, hp, fun q hq => owA_mem1 (ov := some (.ref p)) h h1 (List.mem_cons.mpr ((List.mem_cons.mp hq).imp id hp.mem_iff.mp)), h3, h4, h5⟩
theorem own_nd {s : Sl} {ov : Option V} : ∀ {Γ : List Sl} {σ : L2.St} {i : Nat}, Γ[i]? = some s → σ[i]? = some ov → (owA Γ σ).Nodup → (own1 s ov).Nodup := by
  intro Γ
  induction Γ with
  | nil => intro σ i e; simp at e
  | cons t Γ ih =>
    intro σ i e1 e2 nd
    cases σ with
    | nil => simp at e2
    | cons w σ =>
      rw [owA_cons] at nd
      cases i with
      | zero =>
        cases e1
        cases e2
        exact (List.nodup_append.mp nd).1
      | succ i => exact ih (i := i) e1 e2 (List.nodup_append.mp nd).2.1
theorem At.otNd {i : Nat} {α : Type} [PyT α] {rs : List Addr} {xss : List (List α)} {p : Addr} {rs' : List Addr} (a : At K H0 qs Γ σ H) (h : Γ[i]? = some (.ot rs xss)) (k : σ[i]? = some (some (.ref p))) (hp : rs'.Perm rs) : (p :: rs').Nodup :=
  ((List.Perm.cons p hp).nodup_iff).mpr (own_nd h k a.nd)
/-- one of its rows changes -/
theorem At.mutT {i j : Nat} {α : Type} [PyT α] {rs rs' : List Addr} {xss : List (List α)} {p r : Addr} {vs' : List V} {xs' : List α} (a : At K H0 qs Γ σ H) (h : Γ[i]? = some (.ot rs xss)) (k1 : σ[i]? = some (some (.ref p))) (hp : rs'.Perm rs) (k3 : H p = some (.lst (rs'.map V.ref))) (k4 : H0 p = none) (k5 : Rows K (Fz H (owA Γ σ ++ qs)) H H0 rs' xss)
    (hr : rs'[j]? = some r) (hv : RepL K (Fz H (owA Γ σ ++ qs)) vs' xs') (ht : tmF Γ = true) :
    At K H0 qs (Γ.set i (.ot rs (xss.set j xs'))) σ (upd H r (.lst vs')) := by
  have rm : r ∈ rs' := List.mem_of_getElem? hr
  have ndp := a.otNd h k1 hp
  have rr : r ∈ own1 (.ot rs xss) (some (.ref p)) := List.mem_cons_of_mem _ (hp.mem_iff.mp rm)
  have kr : r ∈ owA Γ σ := owA_mem1 (ov := some (.ref p)) h k1 rr
  have eo : owA (Γ.set i (.ot rs (xss.set j xs'))) σ = owA Γ σ := owA_set_same (s := .ot rs xss) (s' := .ot rs (xss.set j xs')) (ov := some (.ref p)) rfl h k1
  have e1 : Same (Fz H (owA Γ σ ++ qs)) (Fz (upd H r (.lst vs')) (owA Γ σ ++ qs)) := Fz.mut (List.mem_append_left _ kr)
  have np : p ≠ r := fun z => (List.nodup_cons.mp ndp).1 (by rw [z]; exact rm)
  refine ⟨same_mut a.ex (k5.mem rm).2, ?_, by rw [eo]; exact a.nd, by rw [eo]; exact a.sep, fun q hq => ?_⟩
  · rw [eo]
    exact AllOk.mut (s := .ot rs xss) (s' := .ot rs (xss.set j xs')) (let ⟨_, z⟩ := k5.lst rm; NT.lst z) e1 ⟨p, rs', rfl, hp, (upd_ne np).trans k3, k4, k5.set e1 (hv.mono e1) (List.nodup_cons.mp ndp).2 hr⟩ rr a.ok a.nd ht h k1
  · exact (a.qd q hq).other fun z => a.sep r kr (by rw [← z]; exact hq)
/-- its rows come into another order -/
theorem At.permT {i : Nat} {α : Type} [PyT α] {rs rs' rs2 : List Addr} {xss yss : List (List α)} {p : Addr} (a : At K H0 qs Γ σ H) (h : Γ[i]? = some (.ot rs xss)) (k1 : σ[i]? = some (some (.ref p))) (hp : rs'.Perm rs) (k3 : H p = some (.lst (rs'.map V.ref))) (k4 : H0 p = none)
    (hp2 : rs2.Perm rs') (k6 : Rows K (Fz H (owA Γ σ ++ qs)) H H0 rs2 yss) (ht : tmF Γ = true) :
    At K H0 qs (Γ.set i (.ot rs yss)) σ (upd H p (.lst (rs2.map V.ref))) := by
  have ndp := a.otNd h k1 hp
  have rr : p ∈ own1 (.ot rs xss) (some (.ref p)) := List.mem_cons_self
  have kr : p ∈ owA Γ σ := owA_mem1 (ov := some (.ref p)) h k1 rr
  have eo : owA (Γ.set i (.ot rs yss)) σ = owA Γ σ := owA_set_same (s := .ot rs xss) (s' := .ot rs yss) (ov := some (.ref p)) rfl h k1
  have e1 : Same (Fz H (owA Γ σ ++ qs)) (Fz (upd H p (.lst (rs2.map V.ref))) (owA Γ σ ++ qs)) := Fz.mut (List.mem_append_left _ kr)
  refine ⟨same_mut a.ex k4, ?_, by rw [eo]; exact a.nd, by rw [eo]; exact a.sep, fun q hq => ?_⟩
  · rw [eo]
    exact AllOk.mut (s := .ot rs xss) (s' := .ot rs yss) (NT.lst k3) e1 ⟨p, rs2, rfl, hp2.trans hp, upd_same, k4, k6.upd e1 fun z => (List.nodup_cons.mp ndp).1 (hp2.mem_iff.mp z)⟩ rr a.ok a.nd ht h k1
  · exact (a.qd q hq).other fun z => a.sep p kr (by rw [← z]; exact hq)
theorem At.tm {i : Nat} {α : Type} [PyT α] {x : α} (a : At K H0 qs Γ σ H) (h : Γ[i]? = some (.tm x)) : ∃ v, σ[i]? = some (some v) ∧ rep K H v x := by
  obtain ⟨o, h1, v, h2, h3⟩ := a.ok.get h
  subst h2
  exact ⟨v, h1, h3⟩
/-- a list no more changed -/
theorem frz_out {α : Type} [PyT α] {xs : List α} {p : Addr} : ∀ {Γ : List Sl} {σ : L2.St} {i : Nat}, Γ[i]? = some (.ow xs) → σ[i]? = some (some (.ref p)) → (owA Γ σ).Nodup → p ∉ owA (Γ.set i (.fr xs)) σ
  | s :: Γ, o :: σ, 0, e1, e2, nd => by
    have q1 := Option.some.inj e1
    have q2 := Option.some.inj e2
    subst q1 q2
    exact (List.nodup_cons.mp nd).1
  | s :: Γ, o :: σ, i + 1, e1, e2, nd => by
    rw [List.set_cons_succ, owA_cons]
    rw [owA_cons] at nd
    obtain ⟨_, d2, d3⟩ := List.nodup_append.mp nd
    intro h
    rcases List.mem_append.mp h with h | h
    · exact d3 p h p (owA_mem e1 e2) rfl
    · exact frz_out (i := i) e1 e2 d2 h
  | [], _, _, e, _, _ => by simp at e
  | _ :: _, [], _, _, e, _ => by simp at e
theorem At.frz {i : Nat} {α : Type} [PyT α] {xs : List α} (a : At K H0 qs Γ σ H) (h : Γ[i]? = some (.ow xs)) : At K H0 qs (Γ.set i (.fr xs)) σ H := by
  obtain ⟨p, vs, k1, k2, k3, k4, k5⟩ := a.ow h
  have es : σ.set i (some (.ref p)) = σ := by
    obtain ⟨hl, e⟩ := List.getElem?_eq_some_iff.mp k1
    rw [← e]
    exact List.set_getElem_self hl
  have sub : ∀ b ∈ owA (Γ.set i (.fr xs)) σ, b ∈ owA Γ σ := fun b hb => by
    have hb' : b ∈ owA (Γ.set i (.fr xs)) (σ.set i (some (.ref p))) := by rw [es]; exact hb
    exact (owA_set_sub hb').elim (fun z => by cases z) id
  have e : Same (Fz H (owA Γ σ ++ qs)) (Fz H (owA (Γ.set i (.fr xs)) σ ++ qs)) := Fz.sub (fun _ _ z => z) fun b hb => (List.mem_append.mp hb).elim (fun z => List.mem_append_left _ (sub b z)) (List.mem_append_right _)
  have np : p ∉ owA (Γ.set i (.fr xs)) σ := frz_out h k1 a.nd
  have hq : Fz H (owA (Γ.set i (.fr xs)) σ ++ qs) p = some (.lst vs) := Fz.some_iff.mpr ⟨fun z => (List.mem_append.mp z).elim np (a.sep p k2), k3⟩
  have ok := (AllOk.grow e (fun _ _ z => z) a.ok).set (s := .fr xs) (o := some (.ref p)) (i := i) ⟨.ref p, rfl, p, vs, rfl, hq, k5.mono e⟩
  rw [es] at ok
  have nd := owA_set_nd (s := .fr xs) (o := some (.ref p)) (i := i) List.nodup_nil (fun b hb => by cases hb) a.nd
  rw [es] at nd
  exact ⟨a.ex, ok, nd, fun b hb => a.sep b (sub b hb), a.qd⟩
end
end Wk
set_option Elab.async false
set_option linter.all false
set_option maxRecDepth 100000
/-! Wk2: what an expression comes to, by typed rules. -/
namespace Wk
open PySem PySem.Spec PyProof.Rows L2
/-! ### the weakest readings -/
def wE (X : Cx) (e : Expr) : TE := fun σ H Q => ∀ (pins : List (Addr × Obj)) (s : Shared), Inv X pins σ H s → wpAny (model X.prog X.w) X.A (eval e X.env) (EP X pins σ Q) X.xe s
def wT (X : Cx) (e : Expr) : TT := fun σ H Q => ∀ (pins : List (Addr × Obj)) (s : Shared), Inv X pins σ H s → wpAny (model X.prog X.w) X.A (isTrue e X.env (eval e X.env)) (TP X pins σ Q) X.xe s
def wA (X : Cx) (es : List Expr) : TA := fun σ H Q => ∀ (pos : Pos) (pins : List (Addr × Obj)) (s : Shared), Inv X pins σ H s → wpAny (model X.prog X.w) X.A (spliced (backTo pos (starEach es X.env))) (AP X pins σ Q) X.xe s
def wS (X : Cx) (st : Stmt) : TS := fun D σ H => ∀ (pins : List (Addr × Obj)) (s : Shared), Inv X pins σ H s → wpAny (model X.prog X.w) X.A (exec st X.env) (SP X pins D) X.xe s
def wSs (X : Cx) (st : List Stmt) : TS := fun D σ H => ∀ (pins : List (Addr × Obj)) (s : Shared), Inv X pins σ H s → wpAny (model X.prog X.w) X.A (execs st X.env) (SP X pins D) X.xe s
section
variable {X : Cx} {e : Expr} {es : List Expr} {st : Stmt} {ss : List Stmt} {σ : L2.St} {H : Hp} {Q : VK} {D : Ends}
theorem pe_w : PE X e (wE X e) := ⟨fun pins s _ _ _ I h => h pins s I⟩
theorem pt_w : PT X e (wT X e) := ⟨fun pins s _ _ _ I h => h pins s I⟩
theorem pa_w : PA X es (wA X es) := ⟨fun pos pins s _ _ _ I h => h pos pins s I⟩
theorem ps_w : PS X st (wS X st) := ⟨fun pins s _ _ _ I h => h pins s I⟩
theorem pss_w : PSs X ss (wSs X ss) := ⟨fun pins s _ _ _ I h => h pins s I⟩
theorem wE_of {t : TE} (h : PE X e t) (q : t σ H Q) : wE X e σ H Q := fun pins s I => h.run pins s σ H Q I q
theorem wT_of {t : TT} {Q : Bool → Hp → Prop} (h : PT X e t) (q : t σ H Q) : wT X e σ H Q := fun pins s I => h.run pins s σ H Q I q
theorem wA_of {t : TA} {Q : List V → Hp → Prop} (h : PA X es t) (q : t σ H Q) : wA X es σ H Q := fun pos pins s I => h.run pos pins s σ H Q I q
theorem wS_of {t : TS} (h : PS X st t) (q : t D σ H) : wS X st D σ H := fun pins s I => h.run pins s σ H D I q
theorem wSs_of {t : TS} (h : PSs X ss t) (q : t D σ H) : wSs X ss D σ H := fun pins s I => h.run pins s σ H D I q
end
/-! ### names -/
/-- the names of a context -/
structure XN (X : Cx) (N : List Str) (sc : Scope) : Prop where
  hN : X.N = N
  hs : X.env.scope = sc
  nd : X.N.Nodup
structure XOk (X : Cx) (N : List Str) (sc : Scope) : Prop extends XN X N sc where
  calm : X.calm = true
def visB (k : Option NameKind) : Bool := match k with
  | some .local => true
  | some .cell => true
  | some .free => true
  | _ => false
def nmC (N : List Str) (sc : Scope) (i : Nat) (x : Str) : Bool := decide (N[i]? = some x) && (visB (sc.names.lookup x) && (!(x == ("__debug__" : Str)) && !(x == ("__classdict__" : Str))))
structure Nm (X : Cx) (i : Nat) (x : Str) : Prop where
  hi : X.N[i]? = some x
  vis : Vis X.env.scope x
  hd : (x == ("__debug__" : Str)) = false
  hc : (x == ("__classdict__" : Str)) = false
theorem nm_mk {X : Cx} {N : List Str} {sc : Scope} {i : Nat} {x : Str} (hX : XN X N sc) (h : nmC N sc i x = true) : Nm X i x := by
  unfold nmC at h
  simp only [Bool.and_eq_true, Bool.not_eq_true', decide_eq_true_eq] at h
  obtain ⟨h1, h2, h3, h4⟩ := h
  refine ⟨by rw [hX.hN]; exact h1, ?_, h3, h4⟩
  rw [hX.hs]
  unfold visB at h2
  split at h2 <;> first | (rename_i q; first | exact .inl q | exact .inr (.inl q) | exact .inr (.inr q)) | cases h2
def glC (sc : Scope) (x : Str) : Bool := decide (sc.names.lookup x = some .globalImplicit) && !(x == ("__debug__" : Str))
structure Gn (X : Cx) (x : Str) : Prop where
  gl : Gl X x
  hd : (x == ("__debug__" : Str)) = false
theorem gn_mk {X : Cx} {N : List Str} {sc : Scope} {x : Str} (hX : XN X N sc) (h : glC sc x = true) : Gn X x := by
  unfold glC at h
  simp only [Bool.and_eq_true, Bool.not_eq_true', decide_eq_true_eq] at h
  exact ⟨by show X.env.scope.names.lookup x = _; rw [hX.hs]; exact h.1, h.2⟩
/-! ### judgements -/
/-- the lists that what is told doesn't lean on -/
def av (md : Bool) (Γ : List Sl) (σ : L2.St) (qs : List Addr) : List Addr := match md with
  | true => owA Γ σ ++ qs
  | false => []
/-- an exception goes out -/
def XW (X : Cx) (E : XK) (H : Hp) : Exc → Prop := fun c => ∀ H', Same H H' → E (.ref (He.ga X.K c.nm)) none H'
structure Pas (X : Cx) (σ : L2.St) (E : XK) : Prop where
  out : PassesAt (L2.CX X.prog X.w) X σ E
  tk : X.stack = X.env :: X.outer → ∃ W : WX, Takes X W ∧ WE W σ = E
theorem XW.grow {X : Cx} {E : XK} {H H' : Hp} {c : Exc} (s : Same H H') (h : XW X E H c) : XW X E H' c := fun H2 s2 => h H2 (s.trans s2)
section
variable (X : Cx) (H0 : Hp) (qs : List Addr) (md : Bool) (Γ : List Sl)
/-- a value that isn't changed -/
def Ev {α : Type} [PyT α] (e : Expr) (m : R α) : Prop :=
  ∀ σ H, At X.K H0 qs Γ σ H → ∀ E : XK, Pas X σ E → ∀ Q : VK, PX (fun x => ∀ v H', Same H H' → rep X.K (Fz H' (av md Γ σ qs)) v x → Q v H') (XW X E H) m → wE X e σ H Q
/-- a new list -/
def EvO {α : Type} [PyT α] (e : Expr) (m : R (List α)) : Prop :=
  ∀ σ H, At X.K H0 qs Γ σ H → ∀ E : XK, Pas X σ E → ∀ Q : VK, PX (fun xs => ∀ p vs H', Same H H' → H p = none → H' p = some (.lst vs) → RepL X.K (Fz H' (p :: av md Γ σ qs)) vs xs → Q (.ref p) H') (XW X E H) m → wE X e σ H Q
/-- a test -/
def EvT (e : Expr) (m : R Bool) : Prop :=
  ∀ σ H, At X.K H0 qs Γ σ H → ∀ E : XK, Pas X σ E → ∀ Q : Bool → Hp → Prop, PX (fun b => ∀ H', Same H H' → Q b H') (XW X E H) m → wT X e σ H Q
end
/-- arguments -/
class PyA (τ : Type) where
  reps : PySem.W.Frag → Hp → List V → τ → Prop
  mono : ∀ {K : PySem.W.Frag} {F F' : Hp} {vs : List V} {x : τ}, Same F F' → reps K F vs x → reps K F' vs x
instance : PyA Unit where
  reps := fun _ _ vs _ => vs = []
  mono := fun _ h => h
instance {α τ : Type} [PyT α] [PyA τ] : PyA (α × τ) where
  reps := fun K F vs x => ∃ v ws, vs = v :: ws ∧ rep K F v x.1 ∧ PyA.reps K F ws x.2
  mono := fun e ⟨v, ws, h1, h2, h3⟩ => ⟨v, ws, h1, PyT.mono e h2, PyA.mono e h3⟩
def EvA (X : Cx) (H0 : Hp) (qs : List Addr) (md : Bool) (Γ : List Sl) {τ : Type} [PyA τ] (es : List Expr) (m : R τ) : Prop :=
  ∀ σ H, At X.K H0 qs Γ σ H → ∀ E : XK, Pas X σ E → ∀ Q : List V → Hp → Prop, PX (fun x => ∀ vs H', Same H H' → vs.length = es.length → PyA.reps X.K (Fz H' (av md Γ σ qs)) vs x → Q vs H') (XW X E H) m → wA X es σ H Q
section
variable {X : Cx} {H0 : Hp} {qs : List Addr} {md ma mb : Bool} {Γ : List Sl} {a b e : Expr} {es : List Expr} {pos : Pos}
theorem av_out {K : PySem.W.Frag} {α : Type} [PyT α] {x : α} {v : V} {H : Hp} {σ : L2.St} (h : rep K (Fz H (av md Γ σ qs)) v x) : rep K H v x := PyT.mono Fz.out h
theorem av_same {H H' : Hp} {σ : L2.St} (s : Same H H') : Same (Fz H (av md Γ σ qs)) (Fz H' (av md Γ σ qs)) := Fz.mono s
theorem av_there {H : Hp} {σ : L2.St} (a : At X.K H0 qs Γ σ H) : ∀ q ∈ av md Γ σ qs, Hv H q := fun q hq => by
  cases md with
  | true => exact a.av_hv hq
  | false => cases hq
/-! leaves -/
theorem ev_var {i : Nat} {x : Str} {α : Type} [PyT α] {y : α} {m : R α} (n : Nm X i x) (h : Γ[i]? = some (.fr y) := by rfl) (he : m = .ok y := by rfl) : Ev X H0 qs md Γ (.Name x pos) m := by
  intro σ H at_ E pe Q q
  subst he
  obtain ⟨v, h1, h2⟩ := at_.fr h
  refine wE_of (pe_var n.hi n.vis n.hd n.hc) ⟨v, h1, q v H (Same.refl H) ?_⟩
  cases md with
  | true => exact h2
  | false => exact PyT.mono (Fz.sub (Same.refl _) fun _ z => by cases z) h2
/-- a list of the def's own, read -/
theorem ev_own {i : Nat} {x : Str} {α : Type} [PyT α] {ys : List α} {m : R (List α)} (n : Nm X i x) (h : Γ[i]? = some (.ow ys) := by rfl) (he : m = .ok ys := by rfl) : Ev X H0 qs false Γ (.Name x pos) m := by
  intro σ H at_ E pe Q q
  subst he
  obtain ⟨p, vs, h1, h2, h3, h4, h5⟩ := at_.ow h
  refine wE_of (pe_var n.hi n.vis n.hd n.hc) ⟨_, h1, q _ H (Same.refl H) ⟨p, vs, rfl, ?_, ?_⟩⟩
  · show Fz H [] p = some (.lst vs)
    rw [Fz.nil]
    exact h3
  · exact h5.mono (Fz.sub (Same.refl _) fun _ z => by cases z)
theorem ev_int {i : Int} {j : Nat} {m : R Int} (he : m = .ok i := by rfl) : Ev X H0 qs md Γ (.Constant (.int i) j pos) m := by
  intro σ H at_ E pe Q q
  subst he
  exact wE_of pe_int (q (.int i) H (Same.refl H) rfl)
theorem ev_bool {i : Bool} {j : Nat} {m : R Bool} (he : m = .ok i := by rfl) : Ev X H0 qs md Γ (.Constant (.bool i) j pos) m := by
  intro σ H at_ E pe Q q
  subst he
  exact wE_of pe_bl (q (.bl i) H (Same.refl H) rfl)
theorem ev_str {i : Str} {j : Nat} {m : R Str} (he : m = .ok i := by rfl) (hk : PyData.strOk i = true := by decide +kernel) : Ev X H0 qs md Γ (.Constant (.str i) j pos) m := by
  intro σ H at_ E pe Q q
  subst he
  exact wE_of pe_str (q (.str i) H (Same.refl H) ⟨rfl, hk⟩)
/-- a module's constant -/
theorem ev_gint {x : Str} {i : Int} {t : Tok} {m : R Int} (g : Gn X x) (hm : X.mg x = some (.int i t)) (he : m = .ok i := by rfl) : Ev X H0 qs md Γ (.Name x pos) m := by
  intro σ H at_ E pe Q q
  subst he
  exact wE_of (pe_glob (v := .int i) g.gl hm ⟨t, rfl⟩ g.hd) (q (.int i) H (Same.refl H) rfl)
/-! turns of a judgement -/
theorem Ev.flat {α : Type} [PyF α] {m : R α} (d : Ev X H0 qs ma Γ e m) : Ev X H0 qs md Γ e m := fun σ H at_ E pe Q q =>
  d σ H at_ E pe Q (q.mono (fun x k v H' s r => k v H' s (PyF.flat r)) fun _ z => z)
theorem EvO.flat {α : Type} [PyF α] {m : R (List α)} (d : EvO X H0 qs ma Γ e m) : EvO X H0 qs md Γ e m := fun σ H at_ E pe Q q =>
  d σ H at_ E pe Q (q.mono (fun x k p vs H' s n l r => k p vs H' s n l r.flat) fun _ z => z)
/-- a new list, no more changed -/
theorem EvO.fz {α : Type} [PyT α] {m : R (List α)} (d : EvO X H0 qs md Γ e m) : Ev X H0 qs md Γ e m := fun σ H at_ E pe Q q =>
  d σ H at_ E pe Q (q.mono (fun x k p vs H' s n l r => k (.ref p) H' s ⟨p, vs, rfl, Fz.some_iff.mpr ⟨fun z => (av_there (X := X) (md := md) at_ p z).ne n, l⟩, r.mono (Fz.sub (Same.refl _) fun b z => List.mem_cons_of_mem _ z)⟩) fun _ z => z)
/-- one side of a pair of types -/
theorem Ev.inl {α β : Type} [PyT α] [PyT β] {m : R α} {m' : R (α ⊕ β)} (d : Ev X H0 qs md Γ e m) (he : m' = m.bind fun x => .ok (.inl x) := by rfl) : Ev X H0 qs md Γ e m' := fun σ H at_ E pe Q q => by
  subst he
  exact d σ H at_ E pe Q ((PX.bind q).mono (fun x k v H' s r => k v H' s r) fun _ z => z)
theorem Ev.inr {α β : Type} [PyT α] [PyT β] {m : R β} {m' : R (α ⊕ β)} (d : Ev X H0 qs md Γ e m) (he : m' = m.bind fun x => .ok (.inr x) := by rfl) : Ev X H0 qs md Γ e m' := fun σ H at_ E pe Q q => by
  subst he
  exact d σ H at_ E pe Q ((PX.bind q).mono (fun x k v H' s r => k v H' s r) fun _ z => z)
theorem Ev.some {α : Type} [PyT α] {m : R α} {m' : R (Option α)} (d : Ev X H0 qs md Γ e m) (he : m' = m.bind fun x => .ok (some x) := by rfl) : Ev X H0 qs md Γ e m' := fun σ H at_ E pe Q q => by
  subst he
  exact d σ H at_ E pe Q ((PX.bind q).mono (fun x k v H' s r => k v H' s r) fun _ z => z)
/-- a way that isn't come to -/
theorem Ev.stuck {α : Type} [PyT α] : Ev X H0 qs md Γ e (.stuck : R α) := fun σ H at_ E pe Q q => q.elim
theorem EvT.stuck : EvT X H0 qs Γ e .stuck := fun σ H at_ E pe Q q => q.elim
/-! two things, one behind another -/
theorem two {α β γ : Type} [PyT α] [PyT β] {m1 : R α} {m2 : R β} {f : α → β → R γ} (da : Ev X H0 qs ma Γ a m1) (db : Ev X H0 qs mb Γ b m2) {σ : L2.St} {H : Hp} (at_ : At X.K H0 qs Γ σ H) {E : XK} (pe : Pas X σ E)
    {A : γ → Prop} (q : PX A (XW X E H) (m1.bind fun x => m2.bind fun y => f x y)) {K : V → V → Hp → Prop}
    (k : ∀ x y v w H2, Same H H2 → rep X.K (Fz H2 (av ma Γ σ qs)) v x → rep X.K (Fz H2 (av mb Γ σ qs)) w y → PX A (XW X E H2) (f x y) → K v w H2) :
    wE X a σ H fun v H1 => wE X b σ H1 fun w H2 => K v w H2 := by
  refine da σ H at_ E pe _ ((PX.bind q).mono (fun x q2 v H1 s1 r1 => ?_) fun _ z => z)
  refine db σ H1 (at_.grow s1) E pe _ ((PX.bind q2).mono (fun y q3 w H2 s2 r2 => ?_) fun _ z => z.grow s1)
  exact k x y v w H2 (s1.trans s2) (PyT.mono (av_same s2) r1) r2 (q3.mono (fun _ z => z) fun _ z => z.grow (s1.trans s2))
/-- an operation of flat outcome, by values -/
def OpF (X : Cx) {α β γ : Type} [PyT α] [PyT β] [PyF γ] (r : R2) (f : α → β → R γ) : Prop :=
  ∀ (H : Hp) (x : α) (y : β) (v w : V) (Q : VK) (B : Exc → Prop), rep X.K H v x → rep X.K H w y → PX (fun z => ∀ u, (∀ F, rep X.K F u z) → ∀ H', Same H H' → Q u H') B (f x y) → r v w H Q
theorem ev_op {α β γ : Type} [PyT α] [PyT β] [PyF γ] {op : Operator} {r : R2} {f : α → β → R γ} {m1 : R α} {m2 : R β} {m : R γ} (ho : OpR X (binaryOp op) r) (hf : OpF X r f) (da : Ev X H0 qs ma Γ a m1) (db : Ev X H0 qs mb Γ b m2)
    (he : m = m1.bind fun x => m2.bind fun y => f x y) : Ev X H0 qs md Γ (.BinOp a op b pos) m := by
  intro σ H at_ E pe Q q
  subst he
  refine wE_of (pe_op ho pe_w pe_w) (two da db at_ pe q fun x y v w H2 s rx ry q2 => ?_)
  exact hf H2 x y v w Q _ (av_out rx) (av_out ry) (q2.mono (fun z k u hu H' s' => k u H' (s.trans s') (hu _)) fun _ z => z)
theorem ev_cmp {α β : Type} [PyT α] [PyT β] {op : CmpOp} {r : R2} {f : α → β → R Bool} {m1 : R α} {m2 : R β} {m : R Bool} (ho : OpR X (compareOp op) r) (hf : OpF X r f) (da : Ev X H0 qs ma Γ a m1) (db : Ev X H0 qs mb Γ b m2)
    (he : m = m1.bind fun x => m2.bind fun y => f x y) (hm : behindInMarks op b = false) : Ev X H0 qs md Γ (.Compare a [op] [b] pos) m := by
  intro σ H at_ E pe Q q
  subst he
  refine wE_of (pe_cmpR ho pe_w pe_w hm) (two da db at_ pe q fun x y v w H2 s rx ry q2 => ?_)
  exact hf H2 x y v w Q _ (av_out rx) (av_out ry) (q2.mono (fun z k u hu H' s' => k u H' (s.trans s') (hu _)) fun _ z => z)
theorem et_cmp {α β : Type} [PyT α] [PyT β] {op : CmpOp} {r : R2} {f : α → β → R Bool} {m1 : R α} {m2 : R β} {m : R Bool} (ho : OpR X (compareOp op) r) (hf : OpF X r f) (da : Ev X H0 qs ma Γ a m1) (db : Ev X H0 qs mb Γ b m2)
    (he : m = m1.bind fun x => m2.bind fun y => f x y) (hm : behindInMarks op b = false) : EvT X H0 qs Γ (.Compare a [op] [b] pos) m := by
  intro σ H at_ E pe Q q
  subst he
  refine wT_of (pt_cmpR ho pe_w pe_w hm) (two da db at_ pe q fun x y v w H2 s rx ry q2 => ?_)
  refine hf H2 x y v w _ _ (av_out rx) (av_out ry) (q2.mono (fun z k u hu H' s' => ?_) fun _ z => z)
  exact ⟨z, hu H', k H' (s.trans s')⟩
/-! ### ints -/
def CFd (i j : Int) : Prop := j ≠ 0 ∧ j.natAbs.log2 < 9000
theorem cfd_of {x y : Int} (h : decide (y ≠ 0 ∧ y.natAbs.log2 < 9000) = true) : CFd x y := by
  have h2 : y ≠ 0 ∧ y.natAbs.log2 < 9000 := of_decide_eq_true h
  exact h2
theorem op_fdX : OpR X (binaryOp .FloorDiv) (rI CFd fun i j => .int (i.fdiv j)) := opI fun _ _ _ _ _ _ _ hc q => floordiv_int hc.1 q (.inl (PyProof.noPylong_of_log2 hc.2))
def CPw (i j : Int) : Prop := 0 ≤ j ∧ (Builtin.Int.intBits i : Int) * j ≤ 2 ^ 27
theorem op_pwX : OpR X (binaryOp .Pow) (rI CPw fun i j => .int (i ^ j.toNat)) := opI fun _ _ _ _ _ _ _ hc q => pow_int hc.1 hc.2 q
theorem opf_I0 {g : Int → Int → Int} : OpF X (rI0 fun i j => .int (g i j)) (fun x y => R.ok (g x y)) := fun H x y v w Q B hx hy k => ⟨x, y, hx, hy, k _ (fun _ => rfl) H (Same.refl H)⟩
theorem opf_B0 {g : Int → Int → Bool} : OpF X (rI0 fun i j => .bl (g i j)) (fun x y => R.ok (g x y)) := fun H x y v w Q B hx hy k => ⟨x, y, hx, hy, k _ (fun _ => rfl) H (Same.refl H)⟩
theorem opf_I {C : Int → Int → Prop} {c : Int → Int → Bool} {g : Int → Int → Int} (hc : ∀ x y, c x y = true → C x y) : OpF X (rI C fun i j => .int (g i j)) (fun x y => R.chk (c x y) (g x y)) := fun H x y v w Q B hx hy k => by
  obtain ⟨k1, k2⟩ := PX.chk k
  exact ⟨x, y, hx, hy, hc x y k1, k2 _ (fun _ => rfl) H (Same.refl H)⟩
/-- the bits of a factor, of both -/
def bits (i : Int) : Nat := Builtin.Int.intBits i
def mulR (x y : Int) : R Int := R.chk (decide (bits x + bits y ≤ 134217728)) (x * y)
def divR (x y : Int) : R Int := R.chk (decide (y ≠ 0 ∧ y.natAbs.log2 < 9000)) (x.fdiv y)
def modR (x y : Int) : R Int := R.chk (decide (y ≠ 0)) (x.fmod y)
def powR (x y : Int) : R Int := R.chk (decide (0 ≤ y ∧ (bits x : Int) * y ≤ 134217728)) (x ^ y.toNat)
variable {m1 m2 m : R Int}
theorem ev_add (da : Ev X H0 qs ma Γ a m1) (db : Ev X H0 qs mb Γ b m2) (he : m = m1.bind fun x => m2.bind fun y => .ok (x + y) := by rfl) : Ev X H0 qs md Γ (.BinOp a .Add b pos) m := ev_op op_add opf_I0 da db he
theorem ev_sub (da : Ev X H0 qs ma Γ a m1) (db : Ev X H0 qs mb Γ b m2) (he : m = m1.bind fun x => m2.bind fun y => .ok (x - y) := by rfl) : Ev X H0 qs md Γ (.BinOp a .Sub b pos) m := ev_op op_sub opf_I0 da db he
theorem ev_mul (da : Ev X H0 qs ma Γ a m1) (db : Ev X H0 qs mb Γ b m2) (he : m = m1.bind fun x => m2.bind fun y => mulR x y := by rfl) : Ev X H0 qs md Γ (.BinOp a .Mult b pos) m :=
  ev_op op_mulX (opf_I fun x y h => by have := of_decide_eq_true h; unfold bits at this; unfold CMulX; omega) da db he
theorem ev_div (da : Ev X H0 qs ma Γ a m1) (db : Ev X H0 qs mb Γ b m2) (he : m = m1.bind fun x => m2.bind fun y => divR x y := by rfl) : Ev X H0 qs md Γ (.BinOp a .FloorDiv b pos) m :=
  ev_op op_fdX (opf_I fun x y h => cfd_of h) da db he
theorem ev_mod (da : Ev X H0 qs ma Γ a m1) (db : Ev X H0 qs mb Γ b m2) (he : m = m1.bind fun x => m2.bind fun y => modR x y := by rfl) : Ev X H0 qs md Γ (.BinOp a .Mod b pos) m :=
  ev_op op_modN (opf_I fun x y h => of_decide_eq_true h) da db he
theorem ev_pow (da : Ev X H0 qs ma Γ a m1) (db : Ev X H0 qs mb Γ b m2) (he : m = m1.bind fun x => m2.bind fun y => powR x y := by rfl) : Ev X H0 qs md Γ (.BinOp a .Pow b pos) m :=
  ev_op op_pwX (opf_I fun x y h => by
    obtain ⟨h1, h2⟩ := of_decide_eq_true h
    have e : (2 : Int) ^ 27 = 134217728 := by decide
    exact ⟨h1, by rw [e]; exact h2⟩) da db he
theorem ev_neg (da : Ev X H0 qs ma Γ a m1) (he : m = m1.bind fun x => .ok (-x) := by rfl) : Ev X H0 qs md Γ (.UnaryOp .USub a pos) m := by
  intro σ H at_ E pe Q q
  subst he
  refine wE_of (pe_un un_neg pe_w) (da σ H at_ E pe _ ((PX.bind q).mono (fun x k v H' s r => ⟨x, r, k _ H' s rfl⟩) fun _ z => z))
variable {mB : R Bool}
theorem ev_lt (da : Ev X H0 qs ma Γ a m1) (db : Ev X H0 qs mb Γ b m2) (he : mB = m1.bind fun x => m2.bind fun y => .ok (decide (x < y)) := by rfl) : Ev X H0 qs md Γ (.Compare a [.Lt] [b] pos) mB := ev_cmp op_lt opf_B0 da db he (nomark _)
theorem ev_ge (da : Ev X H0 qs ma Γ a m1) (db : Ev X H0 qs mb Γ b m2) (he : mB = m1.bind fun x => m2.bind fun y => .ok (decide (y ≤ x)) := by rfl) : Ev X H0 qs md Γ (.Compare a [.GtE] [b] pos) mB := ev_cmp op_ge opf_B0 da db he (nomark _)
theorem et_lt (da : Ev X H0 qs ma Γ a m1) (db : Ev X H0 qs mb Γ b m2) (he : mB = m1.bind fun x => m2.bind fun y => .ok (decide (x < y)) := by rfl) : EvT X H0 qs Γ (.Compare a [.Lt] [b] pos) mB := et_cmp op_lt opf_B0 da db he (nomark _)
theorem et_gt (da : Ev X H0 qs ma Γ a m1) (db : Ev X H0 qs mb Γ b m2) (he : mB = m1.bind fun x => m2.bind fun y => .ok (decide (y < x)) := by rfl) : EvT X H0 qs Γ (.Compare a [.Gt] [b] pos) mB := et_cmp op_gt opf_B0 da db he (nomark _)
/-! ### tests -/
theorem et_val {mB : R Bool} (d : Ev X H0 qs md Γ e mB) (hw : ∀ env whole, isTrue e env whole = (do let v ← whole; standAt e.pos; holding [v] (truthy v)) := by intro _ _; rfl) : EvT X H0 qs Γ e mB := by
  intro σ H at_ E pe Q q
  exact wT_of (pt_val pe_w (hw X.env)) (d σ H at_ E pe _ (q.mono (fun b k v H' s r => ⟨b, r, k H' s⟩) fun _ z => z))
theorem et_not {mB m : R Bool} (d : EvT X H0 qs Γ e mB) (he : m = mB.bind fun b => .ok (!b) := by rfl) : EvT X H0 qs Γ (.UnaryOp .Not e pos) m := by
  intro σ H at_ E pe Q q
  subst he
  exact wT_of (pt_not pt_w) (d σ H at_ E pe _ ((PX.bind q).mono (fun b k H' s => k H' s) fun _ z => z))
/-- a test whatever its whole is -/
def EvW (X : Cx) (H0 : Hp) (qs : List Addr) (Γ : List Sl) (e : Expr) (m : R Bool) : Prop :=
  ∀ σ H, At X.K H0 qs Γ σ H → ∀ E : XK, Pas X σ E → ∀ Q : Bool → Hp → Prop, PX (fun b => ∀ H', Same H H' → Q b H') (XW X E H) m →
    ∀ (whole : Sem Value) (pins : List (Addr × Obj)) (s : Shared), Inv X pins σ H s → wpAny (model X.prog X.w) X.A (isTrue e X.env whole) (TP X pins σ Q) X.xe s
theorem EvW.t {m : R Bool} (d : EvW X H0 qs Γ e m) : EvT X H0 qs Γ e m := fun σ H at_ E pe Q q pins s I => d σ H at_ E pe Q q _ pins s I
variable {ma' mb' m' : R Bool} {rest : List Expr}
theorem ew_and1 (d : EvT X H0 qs Γ a m') : EvW X H0 qs Γ (.BoolOp .And [a] pos) m' := fun σ H at_ E pe Q q wh pins s I =>
  (pw_and1 (pt_w (X := X) (e := a))).run wh pins s σ H Q I (d σ H at_ E pe Q q)
theorem ew_or1 (d : EvT X H0 qs Γ a m') : EvW X H0 qs Γ (.BoolOp .Or [a] pos) m' := fun σ H at_ E pe Q q wh pins s I =>
  (pw_or1 (pt_w (X := X) (e := a))).run wh pins s σ H Q I (d σ H at_ E pe Q q)
theorem ew_and (da : EvT X H0 qs Γ a ma') (db : EvW X H0 qs Γ (.BoolOp .And (b :: rest) pos) mb') (he : m' = ma'.bind fun x => if x = true then mb' else .ok false := by rfl) : EvW X H0 qs Γ (.BoolOp .And (a :: b :: rest) pos) m' := by
  intro σ H at_ E pe Q q wh pins s I
  subst he
  let tb : TT := fun σ H Q => ∀ (wh : Sem Value) (pins : List (Addr × Obj)) (s : Shared), Inv X pins σ H s → wpAny (model X.prog X.w) X.A (isTrue (.BoolOp .And (b :: rest) pos) X.env wh) (TP X pins σ Q) X.xe s
  have pb : PW X (.BoolOp .And (b :: rest) pos) tb := ⟨fun wh pins s σ H Q I h => h wh pins s I⟩
  refine (pw_and (pt_w (X := X) (e := a)) pb).run wh pins s σ H Q I ?_
  refine da σ H at_ E pe _ ((PX.bind q).mono (fun x k H' s' => ?_) fun _ z => z)
  cases x with
  | true =>
    show tb σ H' Q
    exact db σ H' (at_.grow s') E pe Q ((show PX _ _ mb' from k).mono (fun y k2 H2 s2 => k2 H2 (s'.trans s2)) fun _ z => z.grow s')
  | false =>
    show Q false H'
    exact (show ∀ H', Same H H' → Q false H' from k) H' s'
theorem ew_or (da : EvT X H0 qs Γ a ma') (db : EvW X H0 qs Γ (.BoolOp .Or (b :: rest) pos) mb') (he : m' = ma'.bind fun x => if x = true then .ok true else mb' := by rfl) : EvW X H0 qs Γ (.BoolOp .Or (a :: b :: rest) pos) m' := by
  intro σ H at_ E pe Q q wh pins s I
  subst he
  let tb : TT := fun σ H Q => ∀ (wh : Sem Value) (pins : List (Addr × Obj)) (s : Shared), Inv X pins σ H s → wpAny (model X.prog X.w) X.A (isTrue (.BoolOp .Or (b :: rest) pos) X.env wh) (TP X pins σ Q) X.xe s
  have pb : PW X (.BoolOp .Or (b :: rest) pos) tb := ⟨fun wh pins s σ H Q I h => h wh pins s I⟩
  refine (pw_or (pt_w (X := X) (e := a)) pb).run wh pins s σ H Q I ?_
  refine da σ H at_ E pe _ ((PX.bind q).mono (fun x k H' s' => ?_) fun _ z => z)
  cases x with
  | true =>
    show Q true H'
    exact (show ∀ H', Same H H' → Q true H' from k) H' s'
  | false =>
    show tb σ H' Q
    exact db σ H' (at_.grow s') E pe Q ((show PX _ _ mb' from k).mono (fun y k2 H2 s2 => k2 H2 (s'.trans s2)) fun _ z => z.grow s')
/-- and, or, not as values -/
theorem ev_one {op : BoolOp} (d : Ev X H0 qs md Γ a m') : Ev X H0 qs md Γ (.BoolOp op [a] pos) m' := fun σ H at_ E pe Q q => wE_of (pe_one pe_w) (d σ H at_ E pe Q q)
theorem ev_and (da : Ev X H0 qs ma Γ a ma') (db : Ev X H0 qs mb Γ (.BoolOp .And (b :: rest) pos) mb') (he : m' = ma'.bind fun x => if x = true then mb' else .ok false := by rfl) : Ev X H0 qs md Γ (.BoolOp .And (a :: b :: rest) pos) m' := by
  intro σ H at_ E pe Q q
  subst he
  refine wE_of (pe_and pe_w pe_w) (da σ H at_ E pe _ ((PX.bind q).mono (fun x k v H' s' r => ⟨x, r, ?_⟩) fun _ z => z))
  cases x with
  | true =>
    show wE X _ σ H' Q
    exact db σ H' (at_.grow s') E pe Q ((show PX _ _ mb' from k).mono (fun y k2 v2 H2 s2 r2 => k2 v2 H2 (s'.trans s2) r2) fun _ z => z.grow s')
  | false =>
    show Q (.bl false) H'
    exact (show ∀ v H', Same H H' → v = .bl false → Q v H' from k) _ H' s' rfl
theorem ev_not (da : Ev X H0 qs ma Γ a ma') (he : m' = ma'.bind fun x => .ok (!x) := by rfl) : Ev X H0 qs md Γ (.UnaryOp .Not a pos) m' := by
  intro σ H at_ E pe Q q
  subst he
  exact wE_of (pe_not pe_w) (da σ H at_ E pe _ ((PX.bind q).mono (fun x k v H' s' r => ⟨x, r, k _ H' s' rfl⟩) fun _ z => z))
/-- a if t else b -/
theorem ev_ifx {α : Type} [PyT α] {c : Expr} {mc : R Bool} {mx my mz : R α} (dc : EvT X H0 qs Γ c mc) (da : Ev X H0 qs md Γ a mx) (db : Ev X H0 qs md Γ b my) (he : mz = mc.bind fun x => if x = true then mx else my := by rfl) : Ev X H0 qs md Γ (.IfExp c a b pos) mz := by
  intro σ H at_ E pe Q q
  subst he
  refine wE_of (pe_ifExp pt_w pe_w pe_w) (dc σ H at_ E pe _ ((PX.bind q).mono (fun x k H' s' => ?_) fun _ z => z))
  cases x with
  | true =>
    show wE X a σ H' Q
    exact da σ H' (at_.grow s') E pe Q ((show PX _ _ mx from k).mono (fun y k2 v2 H2 s2 r2 => k2 v2 H2 (s'.trans s2) r2) fun _ z => z.grow s')
  | false =>
    show wE X b σ H' Q
    exact db σ H' (at_.grow s') E pe Q ((show PX _ _ my from k).mono (fun y k2 v2 H2 s2 r2 => k2 v2 H2 (s'.trans s2) r2) fun _ z => z.grow s')
end
end Wk
set_option Elab.async false
set_option linter.all false
set_option maxRecDepth 100000
/-! Wk3: lists, tuples, built-ins, calls. -/
namespace Wk
open PySem PySem.Spec PyProof.Rows L2
/-! ### more of typed data -/
theorem repI {K : PySem.W.Frag} {F : Hp} : ∀ {vs : List V} {ns : List Int}, RepL K F vs ns → vs = ns.map V.int
  | [], [], _ => rfl
  | v :: vs, n :: ns, h => by
    have h1 : v = .int n := h.1
    rw [h1, repI h.2] <;> rfl
  | [], _ :: _, h => h.elim
  | _ :: _, [], h => h.elim
theorem iRep {K : PySem.W.Frag} {F : Hp} : ∀ ns : List Int, RepL K F (ns.map V.int) ns
  | [] => trivial
  | n :: ns => ⟨rfl, iRep ns⟩
theorem RepL.atI {α : Type} [PyT α] {K : PySem.W.Frag} {F : Hp} {vs : List V} {xs : List α} {i : Int} {x : α} (h : RepL K F vs xs) (e : atI xs i = some x) : ∃ v, L2.atI vs i = some v ∧ rep K F v x := by
  unfold L2.atI at e ⊢
  rw [h.len]
  cases q : ixN xs.length i with
  | none => rw [q] at e; cases e
  | some j =>
    rw [q] at e
    exact h.get' (show xs[j]? = some x from e)
/-- the items of xs[lo:hi] -/
def cutL {α : Type} (xs : List α) (lo hi : Option Int) : List α := (xs.drop (HT.sIx xs.length 0 lo)).take (HT.sIx xs.length xs.length hi - HT.sIx xs.length 0 lo)
theorem RepL.cut {α : Type} [PyT α] {K : PySem.W.Frag} {F : Hp} {vs : List V} {xs : List α} (h : RepL K F vs xs) (lo hi : Option Int) : RepL K F (cutV vs lo hi) (cutL xs lo hi) := by
  unfold cutV cutL
  rw [h.len]
  exact (h.drop _).take _
def ixR {α : Type} (xs : List α) (i : Int) : R α := R.ofO (atI xs i)
section
variable {X : Cx} {H0 : Hp} {qs : List Addr} {md ma mb : Bool} {Γ : List Sl} {a b e : Expr} {es : List Expr} {pos : Pos} {α β γ : Type}
/-! ### one, two things to a thing that stands in the heap -/
theorem ev_ixL [PyT α] {m1 : R (List α)} {m2 : R Int} {m : R α} (da : Ev X H0 qs md Γ a m1) (db : Ev X H0 qs mb Γ b m2) (he : m = m1.bind fun xs => m2.bind fun i => ixR xs i := by rfl) (hs : PlainIx b := by exact fun _ _ => rfl) :
    Ev X H0 qs md Γ (.Subscript a b pos) m := by
  intro σ H at_ E pe Q q
  subst he
  refine wE_of (pe_ix ix_list pe_w pe_w hs) (two da db at_ pe q fun xs i v w H2 s rx ry q2 => ?_)
  obtain ⟨p, vs, e1, e2, e3⟩ := rx
  obtain ⟨x, k1, k2⟩ := PX.ofO q2
  obtain ⟨u, k3, k4⟩ := e3.atI k1
  exact ⟨p, vs, i, u, e1, ry, SqL.of (Fz.out _ _ e2), k3, k2 u H2 s k4⟩
theorem ev_ixS {m1 : R Scr} {m2 m : R Int} (da : Ev X H0 qs ma Γ a m1) (db : Ev X H0 qs mb Γ b m2) (he : m = m1.bind fun xs => m2.bind fun i => ixR xs.l i := by rfl) (hs : PlainIx b := by exact fun _ _ => rfl) :
    Ev X H0 qs md Γ (.Subscript a b pos) m := by
  intro σ H at_ E pe Q q
  subst he
  refine wE_of (pe_ix ix_list pe_w pe_w hs) (two da db at_ pe q fun xs i v w H2 s rx ry q2 => ?_)
  obtain ⟨p, e1, e2⟩ := rx
  obtain ⟨x, k1, k2⟩ := PX.ofO q2
  obtain ⟨u, k3, k4⟩ := (iRep (K := X.K) (F := H2) xs.l).atI k1
  exact ⟨p, _, i, u, e1, ry, sqL_mono Fz.out e2, k3, k2 u H2 s k4⟩
/-- a written place of a tuple of written items -/
def IxP [PyT α] [PyT β] (i : Int) (f : α → Option β) : Prop := ∀ (K : PySem.W.Frag) (F : Hp) (v : V) (x : α) (z : β), rep K F v x → f x = some z → ∃ p xs w, v = .ref p ∧ SqT K F p xs ∧ atI xs i = some w ∧ rep K F w z
theorem ev_ixP [PyT α] [PyT β] {f : α → Option β} {i : Int} {m1 : R α} {m : R β} (hf : IxP i f) (da : Ev X H0 qs md Γ a m1) (db : Ev X H0 qs md Γ b (R.ok i)) (he : m = m1.bind fun t => R.ofO (f t) := by rfl) (hs : PlainIx b := by exact fun _ _ => rfl) :
    Ev X H0 qs md Γ (.Subscript a b pos) m := by
  intro σ H at_ E pe Q q
  have e2 : m = m1.bind fun t => (R.ok i).bind fun j => if j = i then R.ofO (f t) else .stuck := by
    rw [he]
    refine congrArg m1.bind (funext fun t => ?_)
    show _ = if i = i then R.ofO (f t) else .stuck
    rw [if_pos rfl]
  subst e2
  refine wE_of (pe_ix ix_tup pe_w pe_w hs) (two (f := fun t j => if j = i then R.ofO (f t) else .stuck) da db at_ pe q fun x j v w H2 s rx ry q2 => ?_)
  by_cases hj : j = i
  · rw [if_pos hj] at q2
    obtain ⟨z, k1, k2⟩ := PX.ofO q2
    obtain ⟨p, xs, u, e1, e2, e3, e4⟩ := hf _ _ v x z rx k1
    have ry' : w = .int j := ry
    exact ⟨p, xs, i, u, e1, by rw [ry', hj], sqT_mono Fz.out e2, e3, k2 u H2 s e4⟩
  · rw [if_neg hj] at q2
    exact (show False from q2).elim
theorem ix20 [PyT α] [PyT β] : IxP 0 (fun t : α × β => some t.1) := fun K F v x z ⟨p, w, u, h1, h2, h3, h4⟩ e => ⟨p, _, w, h1, h2, rfl, by cases e; exact h3⟩
theorem ix21 [PyT α] [PyT β] : IxP 1 (fun t : α × β => some t.2) := fun K F v x z ⟨p, w, u, h1, h2, h3, h4⟩ e => ⟨p, _, u, h1, h2, rfl, by cases e; exact h4⟩
theorem ix10 [PyT α] : IxP 0 (fun t : T1 α => some t.a) := fun K F v x z ⟨p, w, h1, h2, h3⟩ e => ⟨p, _, w, h1, h2, rfl, by cases e; exact h3⟩
theorem ix30 [PyT α] [PyT β] [PyT γ] : IxP 0 (fun t : T3 α β γ => some t.a) := fun K F v x z ⟨p, w, u, t, h1, h2, h3, h4, h5⟩ e => ⟨p, _, w, h1, h2, rfl, by cases e; exact h3⟩
theorem ix31 [PyT α] [PyT β] [PyT γ] : IxP 1 (fun t : T3 α β γ => some t.b) := fun K F v x z ⟨p, w, u, t, h1, h2, h3, h4, h5⟩ e => ⟨p, _, u, h1, h2, rfl, by cases e; exact h4⟩
theorem ix32 [PyT α] [PyT β] [PyT γ] : IxP 2 (fun t : T3 α β γ => some t.c) := fun K F v x z ⟨p, w, u, t, h1, h2, h3, h4, h5⟩ e => ⟨p, _, t, h1, h2, rfl, by cases e; exact h5⟩
theorem ixNo [PyT α] [PyT β] {i : Int} : IxP i (fun _ : α => (none : Option β)) := fun K F v x z _ e => by cases e
/-! ### parts of slices -/
def EvP (X : Cx) (H0 : Hp) (qs : List Addr) (Γ : List Sl) (o : Option Expr) (m : R (Option Int)) : Prop := match o with
  | none => m = .ok none
  | some e => ∃ m1, Ev X H0 qs false Γ e m1 ∧ m = m1.bind fun i => .ok (some i)
theorem ep_no : EvP X H0 qs Γ none (.ok none) := rfl
theorem ep_of {m1 : R Int} {m : R (Option Int)} (d : Ev X H0 qs ma Γ e m1) (he : m = m1.bind fun i => .ok (some i) := by rfl) : EvP X H0 qs Γ (some e) m := ⟨m1, d.flat, he⟩
/-- the reading of a part -/
def wP (X : Cx) (o : Option Expr) : TO := match o with
  | none => tNoPart
  | some e => tPart (wE X e)
theorem po_w {o : Option Expr} : PO X o (wP X o) := by
  cases o with
  | none => exact po_none
  | some e => exact po_some pe_w
theorem EvP.use {o : Option Expr} {m : R (Option Int)} (d : EvP X H0 qs Γ o m) {σ : L2.St} {H : Hp} (at_ : At X.K H0 qs Γ σ H) {E : XK} (pe : Pas X σ E) {Q : Option Int → Hp → Prop}
    (q : PX (fun x => ∀ H', Same H H' → Q x H') (XW X E H) m) : wP X o σ H Q := by
  cases o with
  | none =>
    have e : m = .ok none := d
    subst e
    exact q H (Same.refl H)
  | some e =>
    obtain ⟨m1, d1, rfl⟩ := d
    exact d1 σ H at_ E pe _ ((PX.bind q).mono (fun i k v H' s r => ⟨i, r, k H' s⟩) fun _ z => z)
variable {p2 : Pos} {lo hi : Option Expr} {ml mh : R (Option Int)}
theorem ev_cut [PyT α] {m1 m : R (List α)} (da : Ev X H0 qs md Γ a m1) (dl : EvP X H0 qs Γ lo ml) (dh : EvP X H0 qs Γ hi mh) (he : m = m1.bind fun xs => ml.bind fun l => mh.bind fun h => .ok (cutL xs l h) := by rfl) :
    EvO X H0 qs md Γ (.Subscript a (.Slice lo hi none p2) pos) m := by
  intro σ H at_ E pe Q q
  subst he
  refine wE_of (pe_slice sl_list pe_w po_w po_w) (da σ H at_ E pe _ ((PX.bind q).mono (fun xs q2 v H1 s1 r1 => ?_) fun _ z => z))
  refine dl.use (at_.grow s1) pe ((PX.bind q2).mono (fun l q3 H2 s2 => ?_) fun _ z => z.grow s1)
  refine dh.use (at_.grow (s1.trans s2)) pe ((PX.bind q3).mono (fun h q4 H3 s3 => ?_) fun _ z => z.grow (s1.trans s2))
  have s := (s1.trans s2).trans s3
  obtain ⟨p, vs, e1, e2, e3⟩ := PyT.mono (av_same (qs := qs) (Γ := Γ) (σ := σ) (md := md) (s2.trans s3)) r1
  refine ⟨p, vs, e1, SqL.of (Fz.out _ _ e2), fun D hD => ?_⟩
  have h0 : H D = none := s.free hD
  refine (show ∀ p vs H', Same H H' → H p = none → H' p = some (.lst vs) → RepL X.K (Fz H' (p :: av md Γ σ qs)) vs (cutL xs l h) → Q (.ref p) H' from q4) D _ _ (s.trans (same_new hD)) h0 upd_same ?_
  exact (e3.cut l h).mono (Fz.new (same_new hD) fun b hb => (List.mem_cons.mp hb).elim (fun z => .inr (by rw [z]; exact hD)) .inl)
/-! ### new lists of two things -/
theorem fz_new {H : Hp} {D : Addr} {ps : List Addr} {o : HO} (hD : H D = none) : Same (Fz H ps) (Fz (upd H D o) (D :: ps)) := Fz.new (same_new hD) fun b hb => (List.mem_cons.mp hb).elim (fun z => .inr (by rw [z]; exact hD)) .inl
theorem fz_new' {H : Hp} {D : Addr} {ps : List Addr} {o : HO} (hD : H D = none) : Same (Fz H ps) (Fz (upd H D o) ps) := Fz.mono (same_new hD)
/-- an operation that gives a new list, by values -/
def OpN (X : Cx) {α β γ : Type} [PyT α] [PyT β] [PyT γ] (r : R2) (f : α → β → R (List γ)) : Prop :=
  ∀ (H : Hp) (ps pt : List Addr) (x : α) (y : β) (v w : V) (Q : VK) (B : Exc → Prop), rep X.K (Fz H ps) v x → rep X.K (Fz H pt) w y → (∀ b ∈ pt, b ∈ ps) →
    PX (fun z => ∀ p vs H', Same H H' → H p = none → H' p = some (.lst vs) → RepL X.K (Fz H' (p :: pt)) vs z → Q (.ref p) H') B (f x y) → r v w H Q
theorem ev_opN {δ : Type} [PyT α] [PyT β] [PyT δ] {op : Operator} {r : R2} {f : α → β → R (List δ)} {m1 : R α} {m2 : R β} {m : R (List δ)} (ho : OpR X (binaryOp op) r) (hf : OpN X r f) (da : Ev X H0 qs md Γ a m1) (db : Ev X H0 qs md Γ b m2)
    (he : m = m1.bind fun x => m2.bind fun y => f x y) : EvO X H0 qs md Γ (.BinOp a op b pos) m := by
  intro σ H at_ E pe Q q
  subst he
  refine wE_of (pe_op ho pe_w pe_w) (two da db at_ pe q fun x y v w H2 s rx ry q2 => ?_)
  exact hf H2 _ _ x y v w Q _ rx ry (fun _ z => z) (q2.mono (fun z k p vs H' s' n l r => k p vs H' (s.trans s') (s.free n) l r) fun _ z => z)
def catR (xs ys : List α) : R (List α) := R.chk (decide (xs.length + ys.length ≤ 16777216)) (xs ++ ys)
theorem ev_cat [PyT α] {m1 m2 m : R (List α)} (da : Ev X H0 qs md Γ a m1) (db : Ev X H0 qs md Γ b m2) (he : m = m1.bind fun x => m2.bind fun y => catR x y := by rfl) : EvO X H0 qs md Γ (.BinOp a .Add b pos) m :=
  ev_opN op_cat (fun H ps pt x y v w Q B hx hy hsub k => by
    obtain ⟨p, vs, rfl, h2, h3⟩ := hx
    obtain ⟨p', ws, rfl, k2, k3⟩ := hy
    obtain ⟨c, k⟩ := PX.chk k
    refine ⟨p, p', vs, ws, rfl, rfl, Fz.out _ _ h2, Fz.out _ _ k2, ?_, fun D hD => k D _ _ (same_new hD) hD upd_same ?_⟩
    · rw [h3.len, k3.len, sizeLine_eq]
      exact of_decide_eq_true c
    · exact ((h3.mono (Fz.sub (Same.refl H) hsub)).app k3).mono (fz_new hD)) da db he
/-! ### displays -/
/-- items of one kind -/
def EvLs (X : Cx) (H0 : Hp) (qs : List Addr) (md : Bool) (Γ : List Sl) [PyT α] (es : List Expr) (m : R (List α)) : Prop :=
  ∀ σ H, At X.K H0 qs Γ σ H → ∀ E : XK, Pas X σ E → ∀ Q : List V → Hp → Prop, PX (fun xs => ∀ vs H', Same H H' → vs.length = es.length → RepL X.K (Fz H' (av md Γ σ qs)) vs xs → Q vs H') (XW X E H) m → wA X es σ H Q
theorem el_nil [PyT α] {m : R (List α)} (he : m = .ok [] := by rfl) : EvLs X H0 qs md Γ [] m := fun σ H at_ E pe Q q => by
  subst he
  exact wA_of pa_nil (q [] H (Same.refl H) rfl trivial)
theorem el_cons [PyT α] {m1 : R α} {m2 m : R (List α)} (d : Ev X H0 qs md Γ e m1) (ds : EvLs X H0 qs md Γ es m2) (he : m = m1.bind fun x => m2.bind fun xs => .ok (x :: xs) := by rfl)
    (hs : ∀ env, starEach (e :: es) env = (false, eval e env) :: starEach es env := by intro _; rfl) : EvLs X H0 qs md Γ (e :: es) m := fun σ H at_ E pe Q q => by
  subst he
  refine wA_of (pa_cons pe_w pa_w (hs X.env)) (d σ H at_ E pe _ ((PX.bind q).mono (fun x q2 v H1 s1 r1 => ?_) fun _ z => z))
  refine ds σ H1 (at_.grow s1) E pe _ ((PX.bind q2).mono (fun xs q3 vs H2 s2 hl r2 => ?_) fun _ z => z.grow s1)
  exact (show ∀ vs H', Same H H' → vs.length = (e :: es).length → RepL X.K (Fz H' (av md Γ σ qs)) vs (x :: xs) → Q vs H' from q3) _ H2 (s1.trans s2) (by rw [List.length_cons, List.length_cons, hl]) ⟨PyT.mono (av_same s2) r1, r2⟩
theorem ev_lst [PyT α] {m : R (List α)} (ds : EvLs X H0 qs md Γ es m) (hl : es.length ≤ 100000 := by decide) : EvO X H0 qs md Γ (.List es pos) m := fun σ H at_ E pe Q q =>
  wE_of (pe_lst pa_w) (ds σ H at_ E pe _ (q.mono (fun xs k vs H1 s1 el r1 =>
    ⟨by rw [el, sizeLine_eq]; omega, fun D hD => k D vs _ (s1.trans (same_new hD)) (s1.free hD) upd_same (r1.mono (fz_new hD))⟩) fun _ z => z))
/-! arguments, tuples -/
theorem ea_nil {m : R Unit} (he : m = .ok () := by rfl) : EvA X H0 qs md Γ [] m := fun σ H at_ E pe Q q => by
  subst he
  exact wA_of pa_nil (q [] H (Same.refl H) rfl rfl)
theorem ea_cons {τ : Type} [PyT α] [PyA τ] {m1 : R α} {m2 : R τ} {m : R (α × τ)} (d : Ev X H0 qs md Γ e m1) (ds : EvA X H0 qs md Γ es m2) (he : m = m1.bind fun x => m2.bind fun xs => .ok (x, xs) := by rfl)
    (hs : ∀ env, starEach (e :: es) env = (false, eval e env) :: starEach es env := by intro _; rfl) : EvA X H0 qs md Γ (e :: es) m := fun σ H at_ E pe Q q => by
  subst he
  refine wA_of (pa_cons pe_w pa_w (hs X.env)) (d σ H at_ E pe _ ((PX.bind q).mono (fun x q2 v H1 s1 r1 => ?_) fun _ z => z))
  refine ds σ H1 (at_.grow s1) E pe _ ((PX.bind q2).mono (fun xs q3 vs H2 s2 hl r2 => ?_) fun _ z => z.grow s1)
  exact (show ∀ vs H', Same H H' → vs.length = (e :: es).length → PyA.reps X.K (Fz H' (av md Γ σ qs)) vs (x, xs) → Q vs H' from q3) _ H2 (s1.trans s2) (by rw [List.length_cons, List.length_cons, hl]) ⟨v, vs, rfl, PyT.mono (av_same s2) r1, r2⟩
/-- a tuple display of items told one by one -/
def TupP {τ : Type} [PyA τ] [PyT α] (f : τ → α) : Prop := ∀ (K : PySem.W.Frag) (F : Hp) (vs : List V) (t : τ) (p : Addr), PyA.reps K F vs t → F p = some (.tup vs) → rep K F (.ref p) (f t)
theorem ev_tup {τ : Type} [PyA τ] [PyT α] {f : τ → α} {k : Nat} {m1 : R τ} {m : R α} (hf : TupP f) (ds : EvA X H0 qs md Γ es m1) (he : m = m1.bind fun t => .ok (f t) := by rfl) (hl : es.length ≤ 100000 := by decide) : Ev X H0 qs md Γ (.Tuple es k pos) m := fun σ H at_ E pe Q q => by
  subst he
  refine wE_of (pe_tup pa_w) (ds σ H at_ E pe _ ((PX.bind q).mono (fun t q2 vs H1 s1 el r1 => ⟨by rw [el, sizeLine_eq]; omega, fun D hD => ?_⟩) fun _ z => z))
  have np : D ∉ av md Γ σ qs := fun z => (av_there (X := X) (md := md) (at_.grow s1) D z).ne hD
  exact (show ∀ v H', Same H H' → rep X.K (Fz H' (av md Γ σ qs)) v (f t) → Q v H' from q2) _ _ (s1.trans (same_new hD)) (hf X.K _ vs t D (PyA.mono (fz_new' hD) r1) (Fz.some_iff.mpr ⟨np, upd_same⟩))
theorem tup1 [PyT α] : TupP (fun t : α × Unit => T1.mk t.1) := fun K F vs t p ⟨v, ws, h1, h2, h3⟩ e => by
  have h4 : ws = [] := h3
  subst h1 h4
  exact ⟨p, v, rfl, SqT.of e, h2⟩
theorem tup2 [PyT α] [PyT β] : TupP (fun t : α × β × Unit => (t.1, t.2.1)) := fun K F vs t p ⟨v, ws, h1, h2, v2, ws2, h3, h4, h5⟩ e => by
  have h6 : ws2 = [] := h5
  subst h1 h3 h6
  exact ⟨p, v, v2, rfl, SqT.of e, h2, h4⟩
theorem tup3 [PyT α] [PyT β] [PyT γ] : TupP (fun t : α × β × γ × Unit => T3.mk t.1 t.2.1 t.2.2.1) := fun K F vs t p ⟨v, ws, h1, h2, v2, ws2, h3, h4, v3, ws3, h5, h6, h7⟩ e => by
  have h8 : ws3 = [] := h7
  subst h1 h3 h5 h8
  exact ⟨p, v, v2, v3, rfl, SqT.of e, h2, h4, h6⟩
/-! tuples cut and put together -/
/-! ### built-ins by their names -/
/-- a built-in's call of flat outcome, by values -/
def CbF (X : Cx) {τ γ : Type} [PyA τ] [PyF γ] (r : List V → Hp → VK → Prop) (f : τ → R γ) : Prop :=
  ∀ (H : Hp) (t : τ) (vs : List V) (Q : VK) (B : Exc → Prop), PyA.reps X.K H vs t → PX (fun z => ∀ u, (∀ F, rep X.K F u z) → ∀ H', Same H H' → Q u H') B (f t) → r vs H Q
variable {p : Pos} {x : Str} {id T : String} {r : List V → Hp → VK → Prop}
theorem ev_callB {τ : Type} [PyA τ] [PyF γ] {f : τ → R γ} {m1 : R τ} {m : R γ} (hc : CallR X (.builtin id) r) (hf : CbF X r f) (g : Gn X x) (hm : X.mg x = none) (hv : bootBuiltins x = some (.builtin id)) (hn : x ≠ "__name__")
    (d : EvA X H0 qs ma Γ (a :: es) m1) (he : m = m1.bind f) (hs : ∀ env, starEach (a :: es) env = (false, eval a env) :: starEach es env) (hp : ∀ env, (backTo pos (starEach es env)).any (·.1) = false) :
    Ev X H0 qs md Γ (.Call (.Name x p) (a :: es) [] pos) m := by
  intro σ H at_ E pe Q q
  subst he
  refine wE_of (pe_callB hc g.gl hm hv pa_w hn g.hd (hs X.env) (hp X.env)) (d σ H at_ E pe _ ((PX.bind q).mono (fun t q2 vs H1 s1 _ r1 => ?_) fun _ z => z))
  exact hf H1 t vs Q _ (PyA.mono Fz.out r1) (q2.mono (fun z k u hu H' s' => k u H' (s1.trans s') (hu _)) fun _ z => z)
theorem one_of [PyT α] {K : PySem.W.Frag} {F : Hp} {vs : List V} {t : α × Unit} (h : PyA.reps K F vs t) : ∃ v, vs = [v] ∧ rep K F v t.1 := by
  obtain ⟨v, ws, h1, h2, h3⟩ := h
  have h4 : ws = [] := h3
  subst h1 h4
  exact ⟨v, rfl, h2⟩
theorem two_of [PyT α] [PyT β] {K : PySem.W.Frag} {F : Hp} {vs : List V} {t : α × β × Unit} (h : PyA.reps K F vs t) : ∃ v w, vs = [v, w] ∧ rep K F v t.1 ∧ rep K F w t.2.1 := by
  obtain ⟨v, ws, h1, h2, w, ws2, h3, h4, h5⟩ := h
  have h6 : ws2 = [] := h5
  subst h1 h3 h6
  exact ⟨v, w, rfl, h2, h4⟩
/-- len of a list, a tuple, a text, the script -/
theorem ev_lenL [PyT α] {m1 : R (List α)} {m : R Int} (g : Gn X "len") (hm : X.mg "len" = none) (d : Ev X H0 qs ma Γ a m1) (he : m = m1.bind fun xs => .ok (xs.length : Int) := by rfl) (hs : ∀ env, starEach [a] env = (false, eval a env) :: starEach [] env := by intro _; rfl) :
    Ev X H0 qs md Γ (.Call (.Name "len" p) [a] [] pos) m :=
  ev_callB (f := fun t => .ok (t.1.length : Int)) (m1 := m1.bind fun x => .ok (x, ())) call_len_seq (fun H t vs Q B h k => by
    obtain ⟨v, rfl, q, ws, rfl, h2, h3⟩ := one_of h
    exact ⟨q, ws, rfl, .inl (SqL.of h2), by rw [h3.len]; exact k _ (fun _ => rfl) H (Same.refl H)⟩) g hm PySem.boot_len (by decide) (ea_cons d ea_nil (by cases m1 <;> rfl) hs) (by rw [he]; cases m1 <;> rfl) hs (fun _ => rfl)
theorem ev_lenS {m1 : R Scr} {m : R Int} (g : Gn X "len") (hm : X.mg "len" = none) (d : Ev X H0 qs ma Γ a m1) (he : m = m1.bind fun xs => .ok (xs.l.length : Int) := by rfl) (hs : ∀ env, starEach [a] env = (false, eval a env) :: starEach [] env := by intro _; rfl) :
    Ev X H0 qs md Γ (.Call (.Name "len" p) [a] [] pos) m :=
  ev_callB (f := fun t => .ok (t.1.l.length : Int)) (m1 := m1.bind fun x => .ok (x, ())) call_len_seq (fun H t vs Q B h k => by
    obtain ⟨v, rfl, q, rfl, h2⟩ := one_of h
    exact ⟨q, _, rfl, .inl h2, by rw [List.length_map]; exact k _ (fun _ => rfl) H (Same.refl H)⟩) g hm PySem.boot_len (by decide) (ea_cons d ea_nil (by cases m1 <;> rfl) hs) (by rw [he]; cases m1 <;> rfl) hs (fun _ => rfl)
end
end Wk
set_option Elab.async false
set_option linter.all false
set_option maxRecDepth 100000
/-! Wk4: more built-ins, ==, in, isinstance, calls of the text's own defs. -/
namespace Wk
open PySem PySem.Spec PyProof.Rows L2
section
variable {X : Cx} {H0 : Hp} {qs : List Addr} {md ma mb : Bool} {Γ : List Sl} {a b e : Expr} {es : List Expr} {pos p : Pos} {α β γ : Type}
variable {x : Str} {idn T : String} {r : List V → Hp → VK → Prop}
/-- what star says of one, two arguments -/
abbrev St1 (a : Expr) : Prop := ∀ env, starEach [a] env = (false, eval a env) :: starEach [] env
abbrev St2 (a b : Expr) : Prop := ∀ env, starEach [a, b] env = (false, eval a env) :: starEach [b] env
theorem ev_b1 [PyT α] [PyF γ] {f : α → R γ} {m1 : R α} {m : R γ} (hc : CallR X (.builtin idn) r)
    (hf : ∀ (H : Hp) (y : α) (v : V) (Q : VK) (B : Exc → Prop), rep X.K H v y → PX (fun z => ∀ u, (∀ F, rep X.K F u z) → ∀ H', Same H H' → Q u H') B (f y) → r [v] H Q)
    (g : Gn X x) (hm : X.mg x = none) (hv : bootBuiltins x = some (.builtin idn)) (hn : x ≠ "__name__") (d : Ev X H0 qs ma Γ a m1) (he : m = m1.bind f) (hs : St1 a) :
    Ev X H0 qs md Γ (.Call (.Name x p) [a] [] pos) m :=
  ev_callB (f := fun t : α × Unit => f t.1) (m1 := m1.bind fun y => .ok (y, ())) hc (fun H t vs Q B h k => by
    obtain ⟨v, rfl, h2⟩ := one_of h
    exact hf H t.1 v Q B h2 k) g hm hv hn (ea_cons d ea_nil (by cases m1 <;> rfl) hs) (by rw [he]; cases m1 <;> rfl) hs (fun _ => rfl)
theorem ev_b2 [PyT α] [PyT β] [PyF γ] {f : α → β → R γ} {m1 : R α} {m2 : R β} {m : R γ} (hc : CallR X (.builtin idn) r)
    (hf : ∀ (H : Hp) (y : α) (z : β) (v w : V) (Q : VK) (B : Exc → Prop), rep X.K H v y → rep X.K H w z → PX (fun z => ∀ u, (∀ F, rep X.K F u z) → ∀ H', Same H H' → Q u H') B (f y z) → r [v, w] H Q)
    (g : Gn X x) (hm : X.mg x = none) (hv : bootBuiltins x = some (.builtin idn)) (hn : x ≠ "__name__") (d : Ev X H0 qs false Γ a m1) (d2 : Ev X H0 qs false Γ b m2) (he : m = m1.bind fun y => m2.bind fun z => f y z) (hs : St2 a b) (hs2 : St1 b) (hp : ∀ env, (backTo pos (starEach [b] env)).any (·.1) = false) :
    Ev X H0 qs md Γ (.Call (.Name x p) [a, b] [] pos) m :=
  ev_callB (f := fun t : α × β × Unit => f t.1 t.2.1) (m1 := m1.bind fun y => m2.bind fun z => .ok (y, z, ())) hc (fun H t vs Q B h k => by
    obtain ⟨v, w, rfl, h2, h3⟩ := two_of h
    exact hf H t.1 t.2.1 v w Q B h2 h3 k) g hm hv hn (ea_cons (m2 := m2.bind fun z => .ok (z, ())) d (ea_cons d2 ea_nil (by cases m2 <;> rfl) hs2) (by cases m1 <;> first | rfl | (cases m2 <;> rfl)) hs) (by rw [he]; cases m1 <;> first | rfl | (cases m2 <;> rfl)) hs hp
theorem ev_sum {m1 : R (List Int)} {m : R Int} (hc : X.calm = true) (g : Gn X "sum") (hm : X.mg "sum" = none) (d : Ev X H0 qs ma Γ a m1) (he : m = m1.bind fun xs => .ok xs.sum := by rfl) (hs : St1 a := by intro _; rfl) : Ev X H0 qs md Γ (.Call (.Name "sum" p) [a] [] pos) m :=
  ev_b1 (f := fun xs => .ok xs.sum) (cr_sum hc) (fun H y v Q B h k => by
    obtain ⟨q, ws, rfl, h2, h3⟩ := h
    rw [repI h3] at h2
    exact ⟨q, y, rfl, SqL.of h2, k _ (fun _ => rfl) H (Same.refl H)⟩) g hm (by decide +kernel) (by decide) d he hs
theorem ev_min2 {m1 m2 m : R Int} (hc : X.calm = true) (g : Gn X "min") (hm : X.mg "min" = none) (d : Ev X H0 qs ma Γ a m1) (d2 : Ev X H0 qs mb Γ b m2) (he : m = m1.bind fun y => m2.bind fun z => .ok (min y z) := by rfl) (hs : St2 a b := by intro _; rfl) (hs2 : St1 b := by intro _; rfl)
    (hp : ∀ env, (backTo pos (starEach [b] env)).any (·.1) = false := by intro _; rfl) : Ev X H0 qs md Γ (.Call (.Name "min" p) [a, b] [] pos) m :=
  ev_b2 (f := fun y z => .ok (min y z)) (call_min2 hc) (fun H y z v w Q B hv hw k => ⟨y, z, by rw [show v = .int y from hv, show w = .int z from hw], by
    have e : (if z < y then z else y) = min y z := by split <;> omega
    rw [e]
    exact k _ (fun _ => rfl) H (Same.refl H)⟩) g hm (by decide +kernel) (by decide) d.flat d2.flat he hs hs2 hp
/-! ### built-ins that give a new list -/
theorem ev_tN [PyT α] [PyT β] {f : α → R (List β)} {m1 : R α} {m : R (List β)} (hc : CallR X (.type T) r)
    (hf : ∀ (H : Hp) (ps : List Addr) (y : α) (v : V) (Q : VK) (B : Exc → Prop), rep X.K (Fz H ps) v y → PX (fun z => ∀ p vs H', Same H H' → H p = none → H' p = some (.lst vs) → RepL X.K (Fz H' (p :: ps)) vs z → Q (.ref p) H') B (f y) → r [v] H Q)
    (g : Gn X x) (hm : X.mg x = none) (hv : bootBuiltins x = some (.type T)) (hn : x ≠ "__name__") (d : Ev X H0 qs md Γ a m1) (he : m = m1.bind f) (hs : St1 a) :
    EvO X H0 qs md Γ (.Call (.Name x p) [a] [] pos) m := fun σ H at_ E pe Q q => by
  subst he
  refine wE_of (pe_callTy hc g.gl hm hv (pa_cons pe_w pa_nil (hs X.env)) hn g.hd (hs X.env) rfl) (d σ H at_ E pe _ ((PX.bind q).mono (fun y q2 v H1 s1 r1 => ?_) fun _ z => z))
  exact hf H1 _ y v Q _ r1 (q2.mono (fun z k p vs H' s' n l r => k p vs H' (s1.trans s') (s1.free n) l r) fun _ z => z)
theorem ev_bN [PyT α] [PyT β] {f : α → R (List β)} {m1 : R α} {m : R (List β)} (hc : CallR X (.builtin idn) r)
    (hf : ∀ (H : Hp) (ps : List Addr) (y : α) (v : V) (Q : VK) (B : Exc → Prop), rep X.K (Fz H ps) v y → PX (fun z => ∀ p vs H', Same H H' → H p = none → H' p = some (.lst vs) → RepL X.K (Fz H' (p :: ps)) vs z → Q (.ref p) H') B (f y) → r [v] H Q)
    (g : Gn X x) (hm : X.mg x = none) (hv : bootBuiltins x = some (.builtin idn)) (hn : x ≠ "__name__") (d : Ev X H0 qs md Γ a m1) (he : m = m1.bind f) (hs : St1 a) :
    EvO X H0 qs md Γ (.Call (.Name x p) [a] [] pos) m := fun σ H at_ E pe Q q => by
  subst he
  refine wE_of (pe_callB hc g.gl hm hv (pa_cons pe_w pa_nil (hs X.env)) hn g.hd (hs X.env) rfl) (d σ H at_ E pe _ ((PX.bind q).mono (fun y q2 v H1 s1 r1 => ?_) fun _ z => z))
  exact hf H1 _ y v Q _ r1 (q2.mono (fun z k p vs H' s' n l r => k p vs H' (s1.trans s') (s1.free n) l r) fun _ z => z)
theorem ev_listL [PyT α] {m1 m : R (List α)} (g : Gn X "list") (hm : X.mg "list" = none) (d : Ev X H0 qs md Γ a m1) (he : m = m1.bind fun xs => .ok xs := by rfl) (hs : St1 a := by intro _; rfl) : EvO X H0 qs md Γ (.Call (.Name "list" p) [a] [] pos) m :=
  ev_tN (f := fun xs => .ok xs) call_list_of (fun H ps y v Q B h k => by
    obtain ⟨q, ws, rfl, h2, h3⟩ := h
    exact ⟨q, ws, rfl, .inl (SqL.of (Fz.out _ _ h2)), fun l hl => k l ws _ (same_new hl) hl upd_same (h3.mono (fz_new hl))⟩) g hm (by decide +kernel) (by decide) d he hs
theorem call_tuple_ofD {X : Cx} : CallR X (.type "tuple") (fun xs H Q => ∃ p ys, xs = [.ref p] ∧ SqL X.K H p ys ∧ ∀ l (o : Obj), H l = none → o.cls = .type "tuple" → o.dict = none → Q (.ref l) (upd H l (.frz o (.tup ys)))) := by
  intro pins s σ H xs us Q I r h
  obtain ⟨p, ys, rfl, hq, q⟩ := h
  obtain ⟨u, rfl, rx⟩ := vals1 r
  cases rx
  obtain ⟨its, r', pl, hz⟩ := I.list hq
  have hlen := r'.length
  refine call_tuple_list pl.isList (fun h' kp => ?_) (by simp only [List.size_toArray] <;> omega)
  have I1 : Inv X pins σ H { s with heap := h' } := I.kept (t' := s.toks) kp
  have I2 : Inv X pins σ (upd H h'.objs.size (.frz { cls := .type "tuple", data := .seq its.toArray } (.tup ys))) { s with heap := h'.push { cls := .type "tuple", data := .seq its.toArray } } :=
    I1.laid (t' := s.toks) (fun b o e => Heap.get?_push_of_some _ e) (Nat.le_refl _) (show ObjOk X.prog X.w _ _ _ (.frz _ (.tup ys)) from ⟨Heap.get?_push_size _ rfl, hz, its, r', IsTup.new _ _⟩)
  exact ⟨.ref h'.objs.size, _, I2, rfl, q _ _ (I1.hok.fresh (Nat.le_refl _)) rfl rfl⟩
/-- tuple(a list) -/
theorem ev_tupL [PyT α] {m1 : R (List α)} {m : R (Tu α)} (g : Gn X "tuple") (hm : X.mg "tuple" = none) (d : Ev X H0 qs md Γ a m1) (he : m = m1.bind fun xs => .ok (Tu.mk xs) := by rfl) (hs : St1 a := by intro _; rfl) : Ev X H0 qs md Γ (.Call (.Name "tuple" p) [a] [] pos) m := fun σ H at_ E pe Q q => by
  subst he
  refine wE_of (pe_callTy call_tuple_ofD g.gl hm (by decide +kernel) (pa_cons pe_w pa_nil (hs X.env)) (by decide) g.hd (hs X.env) rfl) (d σ H at_ E pe _ ((PX.bind q).mono (fun y q2 v H1 s1 r1 => ?_) fun _ z => z))
  obtain ⟨q', ws, rfl, h2, h3⟩ := r1
  refine ⟨q', ws, rfl, SqL.of (Fz.out _ _ h2), fun D o hD hc hd => ?_⟩
  have np : D ∉ av md Γ σ qs := fun z => (av_there (X := X) (md := md) (at_.grow s1) D z).ne hD
  have hf : Fz (upd H1 D (.frz o (.tup ws))) (av md Γ σ qs) D = some (.frz o (.tup ws)) := Fz.some_iff.mpr ⟨np, upd_same⟩
  exact (show ∀ v H', Same H H' → rep X.K (Fz H' (av md Γ σ qs)) v (Tu.mk y) → Q v H' from q2) _ _ (s1.trans (same_new hD)) ⟨D, ws, rfl, ⟨.inl (.inr ⟨o, hf⟩), .inl ⟨o, _, hf, hc, hd⟩⟩, h3.mono (fz_new' hD)⟩
/-- tuple(a list), further -/
theorem ev_tupLV [PyT α] {m1 : R (List α)} {m : R (Tv α)} (g : Gn X "tuple") (hm : X.mg "tuple" = none) (d : Ev X H0 qs md Γ a m1) (he : m = m1.bind fun xs => .ok (Tv.mk xs) := by rfl) (hs : St1 a := by intro _; rfl) : Ev X H0 qs md Γ (.Call (.Name "tuple" p) [a] [] pos) m := fun σ H at_ E pe Q q => by
  subst he
  refine wE_of (pe_callTy call_tuple_of g.gl hm (by decide +kernel) (pa_cons pe_w pa_nil (hs X.env)) (by decide) g.hd (hs X.env) rfl) (d σ H at_ E pe _ ((PX.bind q).mono (fun y q2 v H1 s1 r1 => ?_) fun _ z => z))
  obtain ⟨q', ws, rfl, h2, h3⟩ := r1
  refine ⟨q', ws, rfl, .inl ⟨SqL.of (Fz.out _ _ h2), fun D hD => ?_⟩⟩
  have np : D ∉ av md Γ σ qs := fun z => (av_there (X := X) (md := md) (at_.grow s1) D z).ne hD
  exact (show ∀ v H', Same H H' → rep X.K (Fz H' (av md Γ σ qs)) v (Tv.mk y) → Q v H' from q2) _ _ (s1.trans (same_new hD)) ⟨D, ws, rfl, Fz.some_iff.mpr ⟨np, upd_same⟩, h3.mono (fz_new' hD)⟩
end
end Wk
set_option Elab.async false
set_option linter.all false
set_option maxRecDepth 100000
/-! Wk5: ==, in, is None, isinstance, calls of the text's own defs. -/
namespace Wk
open PySem PySem.Spec PyProof.Rows L2
/-! ### data for == -/
class PyD (α : Type) extends PyT α where
  toD : α → PyData
  dp : ∀ {K : PySem.W.Frag} {H : Hp} {v : V} {x : α}, rep K H v x → Dp K H v (toD x) ∧ (toD x).canLay0 = true
  dep : Nat
  depth : ∀ x : α, (toD x).depth ≤ dep
/-- == is equality -/
class PyQ (α : Type) extends PyD α where
  eq : ∀ x y : α, PyData.eqv (toD x) (toD y) = true ↔ x = y
  nn : ∀ x : α, PyData.eqv .none (toD x) = false ∧ PyData.eqv (toD x) .none = false
theorem dpAll {α : Type} [PyD α] {K : PySem.W.Frag} {H : Hp} : ∀ {vs : List V} {xs : List α}, RepL K H vs xs → DpAll K H vs (xs.map PyD.toD) ∧ PyData.canLayAll0 (xs.map PyD.toD) = true
  | [], [], _ => ⟨.nil, by simp [PyData.canLayAll0]⟩
  | v :: vs, x :: xs, h => by
    obtain ⟨h1, h2⟩ := PyD.dp h.1
    obtain ⟨h3, h4⟩ := dpAll h.2
    exact ⟨.cons h1 h3, by simp only [List.map_cons, PyData.canLayAll0, h2, h4, Bool.and_true]⟩
  | [], _ :: _, h => h.elim
  | _ :: _, [], h => h.elim
theorem depAll {α : Type} [d : PyD α] : ∀ xs : List α, PyData.depthAll (xs.map d.toD) ≤ d.dep
  | [] => by simp [PyData.depthAll]
  | x :: xs => by
    have h1 := d.depth x
    have h2 := depAll xs
    rw [List.map_cons, PyData.depthAll]
    omega
theorem eqAll {α : Type} [q : PyQ α] : ∀ xs ys : List α, PyData.eqvAll (xs.map q.toD) (ys.map q.toD) = true ↔ xs = ys
  | [], [] => by simp [PyData.eqvAll]
  | [], y :: ys => by simp [PyData.eqvAll]
  | x :: xs, [] => by simp [PyData.eqvAll]
  | x :: xs, y :: ys => by
    rw [List.map_cons, List.map_cons, PyData.eqvAll, Bool.and_eq_true, q.eq, eqAll xs ys]
    exact ⟨fun h => by rw [h.1, h.2], fun h => List.cons.inj h⟩
instance : PyQ Int where
  toD := .int
  dp := fun h => ⟨by rw [show _ = V.int _ from h]; exact .int _, by simp [PyData.canLay0]⟩
  dep := 0
  depth := fun _ => by simp [PyData.depth]
  eq := fun x y => by rw [PyData.eqv]; exact beq_iff_eq
  nn := fun _ => ⟨by simp [PyData.eqv], by simp [PyData.eqv]⟩
instance : PyQ Bool where
  toD := .bool
  dp := fun h => ⟨by rw [show _ = V.bl _ from h]; exact .bl _, by simp [PyData.canLay0]⟩
  dep := 0
  depth := fun _ => by simp [PyData.depth]
  eq := fun x y => by rw [PyData.eqv]; exact beq_iff_eq
  nn := fun _ => ⟨by simp [PyData.eqv], by simp [PyData.eqv]⟩
instance : PyQ Str where
  toD := .str
  dp := fun h => ⟨by rw [show _ = V.str _ from h.1]; exact .str _, by simp only [PyData.canLay0]; exact h.2⟩
  dep := 0
  depth := fun _ => by simp [PyData.depth]
  eq := fun x y => by rw [PyData.eqv]; exact beq_iff_eq
  nn := fun _ => ⟨by simp [PyData.eqv], by simp [PyData.eqv]⟩
instance {α : Type} [q : PyQ α] : PyQ (List α) where
  toD := fun xs => .list (xs.map q.toD)
  dp := fun {K H v x} h => by
    obtain ⟨a, vs, h1, h2, h3⟩ := h
    obtain ⟨d1, d2⟩ := dpAll h3
    exact ⟨by rw [h1]; exact .lst (SqL.of h2) d1, by simp only [PyData.canLay0]; exact d2⟩
  dep := q.dep + 1
  depth := fun xs => by
    have h := depAll xs
    simp only [PyData.depth]
    omega
  eq := fun x y => by rw [PyData.eqv, eqAll]
  nn := fun _ => ⟨by simp [PyData.eqv], by simp [PyData.eqv]⟩
instance {α : Type} [q : PyQ α] : PyQ (Tu α) where
  toD := fun xs => .tuple (xs.l.map q.toD)
  dp := fun {K H v x} h => by
    obtain ⟨a, vs, h1, h2, h3⟩ := h
    obtain ⟨d1, d2⟩ := dpAll h3
    exact ⟨by rw [h1]; exact .tup h2.1 d1, by simp only [PyData.canLay0]; exact d2⟩
  dep := q.dep + 1
  depth := fun xs => by
    have h := depAll xs.l
    simp only [PyData.depth]
    omega
  eq := fun x y => by
    rw [PyData.eqv, eqAll]
    exact ⟨fun h => by cases x; cases y; exact congrArg Tu.mk h, fun h => by rw [h]⟩
  nn := fun _ => ⟨by simp [PyData.eqv], by simp [PyData.eqv]⟩
instance {α : Type} [q : PyQ α] : PyQ (Tv α) where
  toD := fun xs => .tuple (xs.l.map q.toD)
  dp := fun {K H v x} h => by
    obtain ⟨a, vs, h1, h2, h3⟩ := h
    obtain ⟨d1, d2⟩ := dpAll h3
    exact ⟨by rw [h1]; exact .tup (SqT.of h2) d1, by simp only [PyData.canLay0]; exact d2⟩
  dep := q.dep + 1
  depth := fun xs => by
    have h := depAll xs.l
    simp only [PyData.depth]
    omega
  eq := fun x y => by
    rw [PyData.eqv, eqAll]
    exact ⟨fun h => by cases x; cases y; exact congrArg Tv.mk h, fun h => by rw [h]⟩
  nn := fun _ => ⟨by simp [PyData.eqv], by simp [PyData.eqv]⟩
instance {α β : Type} [q : PyQ α] [u : PyQ β] : PyQ (α × β) where
  toD := fun t => .tuple [q.toD t.1, u.toD t.2]
  dp := fun {K H v x} h => by
    obtain ⟨a, w, z, h1, h2, h3, h4⟩ := h
    obtain ⟨d1, d2⟩ := PyD.dp h3
    obtain ⟨e1, e2⟩ := PyD.dp h4
    exact ⟨by rw [h1]; exact .tup h2 (.cons d1 (.cons e1 .nil)), by simp only [PyData.canLay0, PyData.canLayAll0, d2, e2, Bool.and_true]⟩
  dep := max q.dep u.dep + 1
  depth := fun t => by
    have h := q.depth t.1
    have h2 := u.depth t.2
    simp only [PyData.depth, PyData.depthAll]
    omega
  eq := fun x y => by
    rw [PyData.eqv, PyData.eqvAll, PyData.eqvAll, PyData.eqvAll, Bool.and_true, Bool.and_eq_true, q.eq, u.eq]
    exact ⟨fun h => Prod.ext h.1 h.2, fun h => by rw [h]; exact ⟨rfl, rfl⟩⟩
  nn := fun _ => ⟨by simp [PyData.eqv], by simp [PyData.eqv]⟩
instance {α : Type} [q : PyQ α] : PyQ (T1 α) where
  toD := fun t => .tuple [q.toD t.a]
  dp := fun {K H v x} h => by
    obtain ⟨a, w, h1, h2, h3⟩ := h
    obtain ⟨d1, d2⟩ := PyD.dp h3
    exact ⟨by rw [h1]; exact .tup h2 (.cons d1 .nil), by simp only [PyData.canLay0, PyData.canLayAll0, d2, Bool.and_true]⟩
  dep := q.dep + 1
  depth := fun t => by
    have h := q.depth t.a
    simp only [PyData.depth, PyData.depthAll]
    omega
  eq := fun x y => by
    rw [PyData.eqv, PyData.eqvAll, PyData.eqvAll, Bool.and_true, q.eq]
    exact ⟨fun h => by cases x; cases y; exact congrArg T1.mk h, fun h => by rw [h]⟩
  nn := fun _ => ⟨by simp [PyData.eqv], by simp [PyData.eqv]⟩
instance {α β γ : Type} [q : PyQ α] [u : PyQ β] [w : PyQ γ] : PyQ (T3 α β γ) where
  toD := fun t => .tuple [q.toD t.a, u.toD t.b, w.toD t.c]
  dp := fun {K H v x} h => by
    obtain ⟨a, w, z, y, h1, h2, h3, h4, h5⟩ := h
    obtain ⟨d1, d2⟩ := PyD.dp h3
    obtain ⟨e1, e2⟩ := PyD.dp h4
    obtain ⟨f1, f2⟩ := PyD.dp h5
    exact ⟨by rw [h1]; exact .tup h2 (.cons d1 (.cons e1 (.cons f1 .nil))), by simp only [PyData.canLay0, PyData.canLayAll0, d2, e2, f2, Bool.and_true]⟩
  dep := max (max q.dep u.dep) w.dep + 1
  depth := fun t => by
    have h := q.depth t.a
    have h2 := u.depth t.b
    have h3 := w.depth t.c
    simp only [PyData.depth, PyData.depthAll]
    omega
  eq := fun x y => by
    rw [PyData.eqv, PyData.eqvAll, PyData.eqvAll, PyData.eqvAll, PyData.eqvAll, Bool.and_true, Bool.and_eq_true, Bool.and_eq_true, q.eq, u.eq, w.eq]
    refine ⟨fun h => ?_, fun h => by rw [h]; exact ⟨rfl, rfl, rfl⟩⟩
    cases x; cases y
    simp only [T3.mk.injEq]
    exact h
  nn := fun _ => ⟨by simp [PyData.eqv], by simp [PyData.eqv]⟩
/-- nothing, or a thing -/
def optD {α : Type} [q : PyQ α] : Option α → PyData
  | none => .none
  | some a => q.toD a
instance {α : Type} [q : PyQ α] : PyD (Option α) where
  toD := optD
  dp := fun {K H v x} h => by
    cases x with
    | none => exact ⟨by rw [show v = V.non from h]; exact .non, by simp [optD, PyData.canLay0]⟩
    | some a => exact PyD.dp (α := α) h
  dep := q.dep
  depth := fun x => by
    cases x with
    | none => simp [optD, PyData.depth]
    | some a => exact q.depth a
section
variable {X : Cx} {H0 : Hp} {qs : List Addr} {md ma mb : Bool} {Γ : List Sl} {a b e : Expr} {es : List Expr} {pos p : Pos} {α β γ : Type}
def pyEq [PyD α] (x y : α) : Bool := PyData.eqv (PyD.toD x) (PyD.toD y)
theorem opf_eqD [d : PyD α] (hd : d.dep ≤ 64) : OpF X (rEqD X.K) (fun x y : α => R.ok (pyEq x y)) := fun H x y v w Q B hx hy k => by
  obtain ⟨d1, d2⟩ := PyD.dp hx
  obtain ⟨e1, e2⟩ := PyD.dp hy
  have sh : ∀ z : α, (PyD.toD z).canLay0 = true → SeqAt.shaped (PyD.toD z) = true := fun z h => by
    unfold SeqAt.shaped
    rw [h, decide_eq_true (Nat.le_trans (d.depth z) hd)] <;> rfl
  exact ⟨_, _, d1, e1, sh _ d2, sh _ e2, k _ (fun _ => rfl) H (Same.refl H)⟩
theorem opf_neD [d : PyD α] (hd : d.dep ≤ 64) : OpF X (rNeD X.K) (fun x y : α => R.ok (!pyEq x y)) := fun H x y v w Q B hx hy k => by
  obtain ⟨d1, d2⟩ := PyD.dp hx
  obtain ⟨e1, e2⟩ := PyD.dp hy
  have sh : ∀ z : α, (PyD.toD z).canLay0 = true → SeqAt.shaped (PyD.toD z) = true := fun z h => by
    unfold SeqAt.shaped
    rw [h, decide_eq_true (Nat.le_trans (d.depth z) hd)] <;> rfl
  exact ⟨_, _, d1, e1, sh _ d2, sh _ e2, k _ (fun _ => rfl) H (Same.refl H)⟩
variable {mB : R Bool}
theorem ev_eq [d : PyD α] {m1 m2 : R α} (hu : X.A.units + 64 < cLine) (da : Ev X H0 qs ma Γ a m1) (db : Ev X H0 qs mb Γ b m2) (he : mB = m1.bind fun x => m2.bind fun y => .ok (pyEq x y) := by rfl) (hd : d.dep ≤ 64 := by decide) : Ev X H0 qs md Γ (.Compare a [.Eq] [b] pos) mB := ev_cmp (op_eqD hu) (opf_eqD hd) da db he (nomark _)
theorem ev_ne [d : PyD α] {m1 m2 : R α} (hu : X.A.units + 64 < cLine) (da : Ev X H0 qs ma Γ a m1) (db : Ev X H0 qs mb Γ b m2) (he : mB = m1.bind fun x => m2.bind fun y => .ok (!pyEq x y) := by rfl) (hd : d.dep ≤ 64 := by decide) : Ev X H0 qs md Γ (.Compare a [.NotEq] [b] pos) mB := ev_cmp (op_neD hu) (opf_neD hd) da db he (nomark _)
theorem et_eq [d : PyD α] {m1 m2 : R α} (hu : X.A.units + 64 < cLine) (da : Ev X H0 qs ma Γ a m1) (db : Ev X H0 qs mb Γ b m2) (he : mB = m1.bind fun x => m2.bind fun y => .ok (pyEq x y) := by rfl) (hd : d.dep ≤ 64 := by decide) : EvT X H0 qs Γ (.Compare a [.Eq] [b] pos) mB := et_cmp (op_eqD hu) (opf_eqD hd) da db he (nomark _)
theorem et_ne [d : PyD α] {m1 m2 : R α} (hu : X.A.units + 64 < cLine) (da : Ev X H0 qs ma Γ a m1) (db : Ev X H0 qs mb Γ b m2) (he : mB = m1.bind fun x => m2.bind fun y => .ok (!pyEq x y) := by rfl) (hd : d.dep ≤ 64 := by decide) : EvT X H0 qs Γ (.Compare a [.NotEq] [b] pos) mB := et_cmp (op_neD hu) (opf_neD hd) da db he (nomark _)
theorem pyEq_q [q : PyQ α] (x y : α) : pyEq x y = true ↔ x = y := q.eq x y
/-! ### in -/
variable {m1 : R Int} {m2 : R (List Int)} {mp : R (Int × Int)}
/-! ### kinds -/
class PyK (α : Type) [PyT α] where
  ty : String
  is : ∀ {K : PySem.W.Frag} {H : Hp} {v : V} {x : α}, rep K H v x → TyX K H v (.type ty)
  nn : ∀ {K : PySem.W.Frag} {H : Hp} {v : V} {x : α}, rep K H v x → v ≠ .non
theorem ty_tup {K : PySem.W.Frag} {H : Hp} {p : Addr} {xs : List V} (h : SqT K H p xs) : TyX K H (.ref p) (.type "tuple") := by
  rcases h with (h | ⟨o, h⟩) | ⟨o, its, n, h1, h2, _⟩
  · exact .base (.tup h)
  · exact .fTuple h
  · exact .kTuple h1 h2
instance : PyK Int where
  ty := "int"
  is := fun h => by rw [show _ = V.int _ from h]; exact .base (.int _)
  nn := fun h => by rw [show _ = V.int _ from h]; exact fun z => by cases z
instance : PyK Bool where
  ty := "bool"
  is := fun h => by rw [show _ = V.bl _ from h]; exact .base (.bl _)
  nn := fun h => by rw [show _ = V.bl _ from h]; exact fun z => by cases z
instance : PyK Str where
  ty := "str"
  is := fun h => by rw [show _ = V.str _ from h.1]; exact .base (.str _)
  nn := fun h => by rw [show _ = V.str _ from h.1]; exact fun z => by cases z
instance [PyT α] : PyK (List α) where
  ty := "list"
  is := fun ⟨a, vs, h1, h2, _⟩ => by rw [h1]; exact .base (.lst h2)
  nn := fun ⟨a, vs, h1, h2, _⟩ => by rw [h1]; exact fun z => by cases z
instance [PyT α] : PyK (Tu α) where
  ty := "tuple"
  is := fun ⟨a, vs, h1, h2, _⟩ => by rw [h1]; exact ty_tup h2.1
  nn := fun ⟨a, vs, h1, h2, _⟩ => by rw [h1]; exact fun z => by cases z
instance [PyT α] : PyK (Tv α) where
  ty := "tuple"
  is := fun ⟨a, vs, h1, h2, _⟩ => by rw [h1]; exact ty_tup (SqT.of h2)
  nn := fun ⟨a, vs, h1, h2, _⟩ => by rw [h1]; exact fun z => by cases z
instance [PyT α] [PyT β] : PyK (α × β) where
  ty := "tuple"
  is := fun ⟨a, _, _, h1, h2, _⟩ => by rw [h1]; exact ty_tup h2
  nn := fun ⟨a, _, _, h1, h2, _⟩ => by rw [h1]; exact fun z => by cases z
instance [PyT α] : PyK (T1 α) where
  ty := "tuple"
  is := fun ⟨a, _, h1, h2, _⟩ => by rw [h1]; exact ty_tup h2
  nn := fun ⟨a, _, h1, h2, _⟩ => by rw [h1]; exact fun z => by cases z
instance [PyT α] [PyT β] [PyT γ] : PyK (T3 α β γ) where
  ty := "tuple"
  is := fun ⟨a, _, _, _, h1, h2, _⟩ => by rw [h1]; exact ty_tup h2
  nn := fun ⟨a, _, _, _, h1, h2, _⟩ => by rw [h1]; exact fun z => by cases z
/-- isinstance(x, T), T a built-in class -/
theorem ev_isi [PyT α] [k : PyK α] {m1 : R α} {T : Str} {n : String} {c : Bool} {p1 pT : Pos} (g : Gn X "isinstance") (hm : X.mg "isinstance" = none) (gT : Gn X T) (hmT : X.mg T = none) (hv : bootBuiltins T = some (.type n)) (hk : kitB k.ty n = some c) (d : Ev X H0 qs ma Γ a m1)
    (he : mB = m1.bind fun _ => .ok c := by rfl) (hs : ∀ env, starEach [a, .Name T pT] env = (false, eval a env) :: starEach [.Name T pT] env := by intro _; rfl) (hn : T ≠ "__name__" := by decide +kernel) : Ev X H0 qs md Γ (.Call (.Name "isinstance" p1) [a, .Name T pT] [] pos) mB := fun σ H at_ E pe Q q => by
  subst he
  have hT : PE X (.Name T pT) (tC (.ty n)) := pe_bltn gT.gl hmT hv rfl hn gT.hd
  refine wE_of (pe_callB call_isi g.gl hm (by decide +kernel) (pa_cons pe_w (pa_cons hT pa_nil (by rfl)) (hs X.env)) (by decide) g.hd (hs X.env) (by rfl)) (d σ H at_ E pe _ ((PX.bind q).mono (fun x q2 v H1 s1 r1 => ?_) fun _ z => z))
  exact ⟨v, .ty n, .type k.ty, .type n, c, rfl, .ty n, k.is (av_out r1), kit_ty hk, (show ∀ v H', Same H H' → v = .bl c → Q v H' from q2) _ _ s1 rfl⟩
/-! ### calls of the text's own defs -/
/-- the promise: what is told isn't changed | is a new list -/
def spF (K : PySem.W.Frag) {τ ρ : Type} [PyA τ] [PyT ρ] (n : Nat) (f : τ → R ρ) : Sp := fun vs H Q E => ∃ (ps : List Addr) (x : τ), vs.length = n ∧ (∀ q ∈ ps, Hv H q) ∧ PyA.reps K (Fz H ps) vs x ∧
  PX (fun r => ∀ v H', Same H H' → rep K (Fz H' ps) v r → Q v H') (fun c => ∀ H', Same H H' → E (.ref (He.ga K c.nm)) none H') (f x)
def spO (K : PySem.W.Frag) {τ ρ : Type} [PyA τ] [PyT ρ] (n : Nat) (f : τ → R (List ρ)) : Sp := fun vs H Q E => ∃ (ps : List Addr) (x : τ), vs.length = n ∧ (∀ q ∈ ps, Hv H q) ∧ PyA.reps K (Fz H ps) vs x ∧
  PX (fun r => ∀ p vs H', Same H H' → H p = none → H' p = some (.lst vs) → RepL K (Fz H' (p :: ps)) vs r → Q (.ref p) H') (fun c => ∀ H', Same H H' → E (.ref (He.ga K c.nm)) none H') (f x)
/-- a def of the text that keeps its promise -/
structure Dn (X : Cx) (x : Str) (sp : Sp) (n : Nat) : Prop where
  ex : ∃ (k : Nat) (f : Addr) (fd : FuncData) (ps : List Str), FnOk X.prog X.w X.K X.mg X.base (L2.CX X.prog X.w) k f fd ps sp ∧ Room k X.A ∧ X.mg x = some (.ref f) ∧ PySem.W.keepIn X.K (.ref f) = true ∧ Binds X.K fd ps [] ∧ ps.length = n
theorem call_any {x : Str} {sp : Sp} {n : Nat} {t : TA} {E : XK} {σ : L2.St} {H : Hp} {Q : VK} {pX : Pos} (D : Dn X x sp n) (g : Gn X x) (pe : Pas X σ E) (hs : ∀ env, starEach (a :: es) env = (false, eval a env) :: starEach es env) (hp : ∀ env, (backTo pos (starEach es env)).any (·.1) = false)
    (h : wA X (a :: es) σ H fun vs H1 => sp vs H1 Q E) : wE X (.Call (.Name x pX) (a :: es) [] pos) σ H Q := by
  obtain ⟨k, f, fd, ps, F, hr, hm, hk, hb, _⟩ := D.ex
  intro pins s I
  refine wpAny_Call_Name_kw (ld_glob I g.gl hm ?_ g.hd)
  refine PySem.W.callWith_K (h₀ := X.base) I.ok.mod.kin hk (thn (h pos pins s I) fun us s1 ⟨vs, H1, I1, r, q⟩ => ⟨I1.kIn, ?_⟩) (hs X.env) (hp X.env)
  exact run_fnS (E := fun _ => E) F hr hb pe.out I1 r q
theorem ev_call {τ ρ : Type} [PyA τ] [PyT ρ] {f : τ → R ρ} {x : Str} {n : Nat} {m1 : R τ} {m : R ρ} {pX : Pos} (D : Dn X x (spF X.K n f) n) (g : Gn X x) (d : EvA X H0 qs md Γ (a :: es) m1) (hn : (a :: es).length = n) (he : m = m1.bind f := by rfl)
    (hs : ∀ env, starEach (a :: es) env = (false, eval a env) :: starEach es env := by intro _; rfl) (hp : ∀ env, (backTo pos (starEach es env)).any (·.1) = false := by intro _; rfl) : Ev X H0 qs md Γ (.Call (.Name x pX) (a :: es) [] pos) m := fun σ H at_ E pe Q q => by
  subst he
  refine call_any (t := fun _ _ _ => True) D g pe hs hp (d σ H at_ E pe _ ((PX.bind q).mono (fun y q2 vs H1 s1 el r1 => ?_) fun _ z => z))
  exact ⟨av md Γ σ qs, y, by rw [el, hn], av_there (X := X) (at_.grow s1), r1, q2.mono (fun z k v H' s r => k v H' (s1.trans s) r) fun c z => z.grow s1⟩
theorem ev_callO {τ ρ : Type} [PyA τ] [PyT ρ] {f : τ → R (List ρ)} {x : Str} {n : Nat} {m1 : R τ} {m : R (List ρ)} {pX : Pos} (D : Dn X x (spO X.K n f) n) (g : Gn X x) (d : EvA X H0 qs md Γ (a :: es) m1) (hn : (a :: es).length = n) (he : m = m1.bind f := by rfl)
    (hs : ∀ env, starEach (a :: es) env = (false, eval a env) :: starEach es env := by intro _; rfl) (hp : ∀ env, (backTo pos (starEach es env)).any (·.1) = false := by intro _; rfl) : EvO X H0 qs md Γ (.Call (.Name x pX) (a :: es) [] pos) m := fun σ H at_ E pe Q q => by
  subst he
  refine call_any (t := fun _ _ _ => True) D g pe hs hp (d σ H at_ E pe _ ((PX.bind q).mono (fun y q2 vs H1 s1 el r1 => ?_) fun _ z => z))
  exact ⟨av md Γ σ qs, y, by rw [el, hn], av_there (X := X) (at_.grow s1), r1, q2.mono (fun z k p ws H' s n0 l r => k p ws H' (s1.trans s) (s1.free n0) l r) fun c z => z.grow s1⟩
end
end Wk
set_option Elab.async false
set_option linter.all false
set_option maxRecDepth 100000
/-! Wk6: what is walked; comprehensions. -/
namespace Wk
open PySem PySem.Spec PyProof.Rows L2
def wI (X : Cx) (tg it : Expr) : TI := fun σ H R => ∀ (pins : List (Addr × Obj)) (s : Shared), Inv X pins σ H s → wpAny (model X.prog X.w) X.A (eval it X.env) (fun v s1 => wpAny (model X.prog X.w) X.A (pyIter v) (PIE X pins σ tg R) X.xe s1) X.xe s
theorem pi_w {X : Cx} {tg it : Expr} : PI X tg it (wI X tg it) := ⟨fun pins s _ _ _ I h => h pins s I⟩
theorem wI_of {X : Cx} {tg it : Expr} {wi : TI} {σ : L2.St} {H : Hp} {R : It → Hp → Prop} (h : PI X tg it wi) (q : wi σ H R) : wI X tg it σ H R := fun pins s I => h.run pins s σ H R I q
/-- a walk of these things, while what F tells stands -/
structure WalkT (K : PySem.W.Frag) {α : Type} [PyT α] (J : It) (xs : List α) (F : Hp) : Prop where
  goes : ∀ i H', i < xs.length → Same F H' → J.go i H'
  stops : ∀ H', Same F H' → J.stop xs.length H'
  yields : ∀ i H' v H'', i < xs.length → Same F H' → J.yld i H' v H'' → Same H' H'' ∧ ∃ x, xs[i]? = some x ∧ ∀ ps, Same F (Fz H' ps) → (∀ q ∈ ps, Hv H' q) → rep K (Fz H'' ps) v x
def EvI (X : Cx) (H0 : Hp) (qs : List Addr) (md : Bool) (Γ : List Sl) {α : Type} [PyT α] (tg it : Expr) (m : R (List α)) : Prop :=
  ∀ σ H, At X.K H0 qs Γ σ H → ∀ E : XK, Pas X σ E → ∀ Rk : It → Hp → Prop, PX (fun xs => ∀ J H1, Same H H1 → WalkT X.K J xs (Fz H1 (av md Γ σ qs)) → Rk J H1) (XW X E H) m → wI X tg it σ H Rk
section
variable {X : Cx} {H0 : Hp} {qs : List Addr} {md ma mb : Bool} {Γ : List Sl} {a b c tg : Expr} {pos p tpos : Pos} {α β γ : Type}
theorem walkL {K : PySem.W.Frag} [PyT α] {q : Addr} {vs : List V} {xs : List α} {F : Hp} (h : SqL K F q vs) (r : RepL K F vs xs) : WalkT K (Itl K q) xs F where
  goes := fun i H' hi s => by
    obtain ⟨v, hv, _⟩ := r.get' (i := i) (x := xs[i]) (List.getElem?_eq_getElem hi)
    exact ⟨vs, v, sqL_mono s h, hv⟩
  stops := fun H' s => ⟨vs, sqL_mono s h, by rw [r.len]; exact Nat.le_refl _⟩
  yields := fun i H' v H'' hi s ⟨e, y⟩ => by
    subst e
    obtain ⟨x, k1, k2⟩ := r.get (y vs (sqL_mono s h))
    exact ⟨Same.refl _, x, k1, fun ps s2 _ => PyT.mono s2 k2⟩
theorem walkTu {K : PySem.W.Frag} [PyT α] {q : Addr} {vs : List V} {xs : List α} {F : Hp} (h : SqT K F q vs) (r : RepL K F vs xs) : WalkT K (Itt K q) xs F where
  goes := fun i H' hi s => by
    obtain ⟨v, hv, _⟩ := r.get' (i := i) (x := xs[i]) (List.getElem?_eq_getElem hi)
    exact ⟨vs, v, sqT_mono s h, hv⟩
  stops := fun H' s => ⟨vs, sqT_mono s h, by rw [r.len]; exact Nat.le_refl _⟩
  yields := fun i H' v H'' hi s ⟨e, y⟩ => by
    subst e
    obtain ⟨x, k1, k2⟩ := r.get (y vs (sqT_mono s h))
    exact ⟨Same.refl _, x, k1, fun ps s2 _ => PyT.mono s2 k2⟩
theorem ei_list [PyT α] {m : R (List α)} (d : Ev X H0 qs md Γ a m) : EvI X H0 qs md Γ tg a m := fun σ H at_ E pe Rk q => by
  refine wI_of (pi_list pe_w) (d σ H at_ E pe _ (q.mono (fun xs k v H1 s1 r1 => ?_) fun _ z => z))
  obtain ⟨q', vs, rfl, h2, h3⟩ := r1
  exact ⟨q', rfl, ⟨vs, SqL.of (Fz.out _ _ h2)⟩, k _ H1 s1 (walkL (SqL.of h2) h3)⟩
theorem ei_tup [PyT α] {m1 : R (Tu α)} {m : R (List α)} (d : Ev X H0 qs md Γ a m1) (he : m = m1.bind fun t => .ok t.l := by rfl) : EvI X H0 qs md Γ tg a m := fun σ H at_ E pe Rk q => by
  subst he
  refine wI_of (pi_tup pe_w) (d σ H at_ E pe _ ((PX.bind q).mono (fun xs k v H1 s1 r1 => ?_) fun _ z => z))
  obtain ⟨q', vs, rfl, h2, h3⟩ := r1
  exact ⟨q', rfl, ⟨vs, sqT_mono Fz.out h2.1⟩, (show ∀ J H1, Same H H1 → WalkT X.K J xs.l (Fz H1 (av md Γ σ qs)) → Rk J H1 from k) _ H1 s1 (walkTu h2.1 h3)⟩
/-- ranges -/
def rangeL (lo hi : Int) : List Int := (List.range (hi - lo).toNat).map fun i : Nat => lo + (i : Int)
theorem rangeL_len (lo hi : Int) : (rangeL lo hi).length = (hi - lo).toNat := by unfold rangeL; rw [List.length_map, List.length_range]
theorem rangeL_get {lo hi : Int} {i : Nat} (h : i < (hi - lo).toNat) : (rangeL lo hi)[i]? = some (lo + (i : Int)) := by
  unfold rangeL
  rw [List.getElem?_map, List.getElem?_range h] <;> rfl
theorem walkR {K : PySem.W.Frag} {lo hi : Int} {n : Nat} {F : Hp} (hn : n = (hi - lo).toNat) : WalkT K (Itr lo n) (rangeL lo hi) F where
  goes := fun i H' h s => by rw [rangeL_len] at h; show i < n; omega
  stops := fun H' s => by rw [rangeL_len]; show n ≤ _; omega
  yields := fun i H' v H'' h s ⟨e, y⟩ => by
    rw [rangeL_len] at h
    subst e y
    exact ⟨Same.refl _, _, rangeL_get h, fun ps _ _ => rfl⟩
/-- the ends of a range within what is walked -/
def rngR (lo hi : Int) : R (List Int) := R.chk (decide (-1000000000000000000 ≤ lo ∧ lo ≤ 1000000000000000000 ∧ -1000000000000000000 ≤ hi ∧ hi ≤ 1000000000000000000)) (rangeL lo hi)
theorem ei_range1 {m1 : R Int} {m : R (List Int)} (g : Gn X "range") (hm : X.mg "range" = none) (d : Ev X H0 qs ma Γ a m1) (he : m = m1.bind fun n => rngR 0 n := by rfl) (hs : St1 a := by intro _; rfl) : EvI X H0 qs md Γ tg (.Call (.Name "range" p) [a] [] pos) m := fun σ H at_ E pe Rk q => by
  subst he
  refine wI_of (pi_range1 g.gl hm (pa_cons pe_w pa_nil (hs X.env)) (hs X.env)) (d σ H at_ E pe _ ((PX.bind q).mono (fun n k v H1 s1 r1 => ?_) fun _ z => z))
  obtain ⟨c, k⟩ := PX.chk k
  have c' := of_decide_eq_true c
  have hv : v = .int n := r1
  subst hv
  exact ⟨n, rfl, by omega, by omega, k _ H1 s1 (walkR (by omega))⟩
theorem ei_range2 {m1 m2 : R Int} {m : R (List Int)} (g : Gn X "range") (hm : X.mg "range" = none) (d : Ev X H0 qs ma Γ a m1) (d2 : Ev X H0 qs mb Γ b m2) (he : m = m1.bind fun l => m2.bind fun n => rngR l n := by rfl) (hs : St2 a b := by intro _; rfl) (hs2 : St1 b := by intro _; rfl) :
    EvI X H0 qs md Γ tg (.Call (.Name "range" p) [a, b] [] pos) m := fun σ H at_ E pe Rk q => by
  subst he
  refine wI_of (pi_range2 g.gl hm (pa_cons pe_w (pa_cons pe_w pa_nil (hs2 X.env)) (hs X.env)) (by rw [hs X.env, hs2 X.env]; rfl) (hs2 X.env)) (d σ H at_ E pe _ ((PX.bind q).mono (fun l k v H1 s1 r1 => ?_) fun _ z => z))
  refine d2 σ H1 (at_.grow s1) E pe _ ((PX.bind k).mono (fun n k2 w H2 s2 r2 => ?_) fun _ z => z.grow s1)
  obtain ⟨c, k⟩ := PX.chk k2
  have c' := of_decide_eq_true c
  have hv : v = .int l := r1
  have hw : w = .int n := r2
  subst hv hw
  exact ⟨l, n, rfl, ⟨by omega, by omega, by omega, by omega⟩, k _ H2 (s1.trans s2) (walkR rfl)⟩
/-- pairs of a place and a thing -/
def enumL {α : Type} (xs : List α) : List (Int × α) := xs.zipIdx.map fun t => ((t.2 : Int), t.1)
theorem enumL_len (xs : List α) : (enumL xs).length = xs.length := by unfold enumL; rw [List.length_map, List.length_zipIdx]
theorem enumL_get {xs : List α} {i : Nat} {x : α} (h : xs[i]? = some x) : (enumL xs)[i]? = some ((i : Int), x) := by
  unfold enumL
  rw [List.getElem?_map, List.getElem?_zipIdx, h]
  simp
theorem ei_enum [PyT α] {m1 : R (List α)} {m : R (List (Int × α))} {elts : List Expr} {kk : Nat} (g : Gn X "enumerate") (hm : X.mg "enumerate" = none) (d : Ev X H0 qs md Γ a m1) (he : m = m1.bind fun xs => .ok (enumL xs) := by rfl) (hs : St1 a := by intro _; rfl) :
    EvI X H0 qs md Γ (.Tuple elts kk tpos) (.Call (.Name "enumerate" p) [a] [] pos) m := fun σ H at_ E pe Rk q => by
  subst he
  refine wI_of (pi_enum g.gl hm (pa_cons pe_w pa_nil (hs X.env)) (hs X.env)) (d σ H at_ E pe _ ((PX.bind q).mono (fun xs k v H1 s1 r1 => ?_) fun _ z => z))
  obtain ⟨q', vs, rfl, h2, h3⟩ := r1
  refine ⟨q', vs, rfl, SqL.of (Fz.out _ _ h2), (show ∀ J H1, Same H H1 → WalkT X.K J (enumL xs) (Fz H1 (av md Γ σ qs)) → Rk J H1 from k) _ H1 s1 ⟨fun i H' hi s => ?_, fun H' s => ?_, fun i H' v H'' hi s y => ?_⟩⟩
  · rw [enumL_len] at hi
    obtain ⟨v, hv, _⟩ := h3.get' (i := i) (x := xs[i]) (List.getElem?_eq_getElem hi)
    exact ⟨vs, v, SqL.of (s _ _ h2), hv⟩
  · rw [enumL_len]
    exact ⟨vs, SqL.of (s _ _ h2), by rw [h3.len]; exact Nat.le_refl _⟩
  · obtain ⟨T, x, rfl, hT, rfl, hx⟩ := y
    obtain ⟨y, k1, k2⟩ := h3.get (hx vs (SqL.of (s _ _ h2)))
    refine ⟨same_new hT, _, enumL_get k1, fun ps s2 hps => ⟨T, _, _, rfl, SqT.of (Fz.some_iff.mpr ⟨fun z => (hps T z).ne hT, upd_same⟩), rfl, PyT.mono (fz_new' hT) (PyT.mono s2 k2)⟩⟩
/-! ### targets -/
def wG (X : Cx) (tg : Expr) : TG := fun v σ H Q => ∀ (pins : List (Addr × Obj)) (s : Shared) (u : Value), Inv X pins σ H s → RelV v u → wpAny (model X.prog X.w) X.A (assign tg X.env u) (fun _ s' => ∃ σ' H', Inv X pins σ' H' s' ∧ Q σ' H') X.xe s
theorem pg_w {tg : Expr} : PG X tg (wG X tg) := ⟨fun pins s _ _ _ u _ I r h => h pins s u I r⟩
theorem wG_of {tg : Expr} {g : TG} {v : V} {σ : L2.St} {H : Hp} {Q : L2.St → Hp → Prop} (h : PG X tg g) (q : g v σ H Q) : wG X tg v σ H Q := fun pins s u I r => h.run pins s σ H v u Q I r q
/-- a name that is stored -/
structure Lc (X : Cx) (i : Nat) (x : Str) : Prop where
  hi : X.N[i]? = some x
  loc : Loc X.env.scope x
  fn : X.fn x = true ∨ X.env.scope.names.lookup x = some .local
  nd : X.N.Nodup
def lcC (N : List Str) (sc : Scope) (i : Nat) (x : Str) : Bool := decide (N[i]? = some x) && (match sc.names.lookup x with
  | some .local => true
  | _ => false)
theorem lc_mk {X : Cx} {N : List Str} {sc : Scope} {i : Nat} {x : Str} (hX : XN X N sc) (h : lcC N sc i x = true) : Lc X i x := by
  unfold lcC at h
  simp only [Bool.and_eq_true, decide_eq_true_eq] at h
  obtain ⟨h1, h2⟩ := h
  have h3 : X.env.scope.names.lookup x = some .local := by
    rw [hX.hs]
    split at h2
    · rename_i q; exact q
    · cases h2
  exact ⟨by rw [hX.hN]; exact h1, .inl h3, .inr h3, hX.nd⟩
/-- .. a cell of the def's own -/
def lcK (N : List Str) (sc : Scope) (i : Nat) (x : Str) : Bool := decide (N[i]? = some x) && (match sc.names.lookup x with
  | some .cell => true
  | _ => false)
theorem lc_cell {X : Cx} {N : List Str} {sc : Scope} {i : Nat} {x : Str} (hX : XN X N sc) (hf : X.fn x = true) (h : lcK N sc i x = true) : Lc X i x := by
  unfold lcK at h
  simp only [Bool.and_eq_true, decide_eq_true_eq] at h
  obtain ⟨h1, h2⟩ := h
  have h3 : X.env.scope.names.lookup x = some .cell := by
    rw [hX.hs]
    split at h2
    · rename_i q; exact q
    · cases h2
  exact ⟨by rw [hX.hN]; exact h1, .inr h3, .inl hf, hX.nd⟩
/-- a thing comes to a target, at these slots -/
def EvG (X : Cx) (Γ : List Sl) {α : Type} [PyT α] (tg : Expr) (x : α) (Γ' : List Sl) (is : List Nat) : Prop :=
  ∀ (H0 : Hp) (qs : List Addr) σ H v, At X.K H0 qs Γ σ H → rep X.K (Fz H (owA Γ σ ++ qs)) v x → ∀ Q : L2.St → Hp → Prop,
    (∀ σ', At X.K H0 qs Γ' σ' H → owA Γ' σ' = owA Γ σ → σ'.length = σ.length → (∀ i, i ∉ is → σ'[i]? = σ[i]?) → Q σ' H) → wG X tg v σ H Q
theorem owA_set_no {s : Sl} {o : Option V} (h1 : own1 s o = []) : ∀ {Γ : List Sl} {σ : L2.St} {i : Nat}, (∀ o, own1 (Γ.getD i .un) o = []) → owA (Γ.set i s) (σ.set i o) = owA Γ σ
  | [], σ, i, _ => by simp [owA]
  | t :: Γ, [], i, _ => by rw [List.set_nil, owA_nil, owA_nil]
  | t :: Γ, u :: σ, 0, h => by
    rw [List.set_cons_zero, List.set_cons_zero, owA_cons, owA_cons, h1]
    have h2 : own1 t u = [] := h u
    rw [h2]
  | t :: Γ, u :: σ, i + 1, h => by
    rw [List.set_cons_succ, List.set_cons_succ, owA_cons, owA_cons, owA_set_no h1 (i := i) (fun o => h o)]
/-- the slot holds no list of the def's own -/
abbrev NoOw (Γ : List Sl) (i : Nat) : Prop := ∀ o, own1 (Γ.getD i .un) o = []
theorem eg_name [PyT α] {x : α} {i : Nat} {n : Str} {Γ' : List Sl} (l : Lc X i n) (hΓ : Γ' = Γ.set i (.fr x) := by rfl) (hno : NoOw Γ i := by intro _; rfl) : EvG X Γ (.Name n p) x Γ' [i] := fun H0 qs σ H v at_ r Q k => by
  subst hΓ
  exact wG_of (pg_name l.nd l.hi l.loc l.fn) (k _ (at_.setFr r) (owA_set_no rfl hno) (by rw [List.length_set]) fun j hj => List.getElem?_set_ne (fun e => hj (by rw [e]; exact List.mem_cons_self)))
theorem av_eq {σ σ1 : L2.St} {Γ1 : List Sl} {H : Hp} (h : owA Γ1 σ1 = owA Γ σ) {K : PySem.W.Frag} [PyT α] {v : V} {x : α} (r : rep K (Fz H (owA Γ σ ++ qs)) v x) : rep K (Fz H (owA Γ1 σ1 ++ qs)) v x := by rw [h]; exact r
theorem eg_two [PyT α] [PyT β] {x : α × β} {e1 e2 : Expr} {kk : Nat} {Γ1 Γ2 : List Sl} {i1 i2 : List Nat} (hc : X.calm = true) (g1 : EvG X Γ e1 x.1 Γ1 i1) (g2 : EvG X Γ1 e2 x.2 Γ2 i2)
    (hn : ∀ env, (assignEach [e1, e2] env).length = 2 := by intro _; rfl) (hst : ∀ env, (assignEach [e1, e2] env).findIdx? (·.1) = none := by intro _; rfl)
    (h1 : ∀ env, (assignEach [e1, e2] env).map (·.2) = assign e1 env :: (assignEach [e2] env).map (·.2) := by intro _; rfl) (h2 : ∀ env, (assignEach [e2] env).map (·.2) = assign e2 env :: (assignEach [] env).map (·.2) := by intro _; rfl) :
    EvG X Γ (.Tuple [e1, e2] kk p) x Γ2 (i1 ++ i2) := fun H0 qs σ H v at_ r Q k => by
  obtain ⟨q, w, u, rfl, r1, r2, r3⟩ := r
  refine wG_of (pg_tup hc (pgs_cons pg_w (pgs_cons pg_w pgs_nil (h2 X.env)) (h1 X.env)) (hn X.env) (hst X.env)) ⟨q, [w, u], rfl, sqT_mono Fz.out r1, rfl, w, [u], rfl, ?_⟩
  refine g1 H0 qs σ H w at_ r2 _ fun σ1 a1 o1 l1 k1 => ⟨u, [], rfl, ?_⟩
  refine g2 H0 qs σ1 H u a1 (av_eq o1 r3) _ fun σ2 a2 o2 l2 k2 => ⟨rfl, ?_⟩
  exact k σ2 a2 (o2.trans o1) (l2.trans l1) fun i hi => (k2 i fun z => hi (List.mem_append_right _ z)).trans (k1 i fun z => hi (List.mem_append_left _ z))
end
end Wk
set_option Elab.async false
set_option linter.all false
set_option maxRecDepth 100000
/-! Wk7: comprehensions. -/
namespace Wk
open PySem PySem.Spec PyProof.Rows L2
/-- a comprehension's block within X -/
structure Blk (X X' : Cx) (sc : Scope) : Prop where
  prog : X'.prog = X.prog
  w : X'.w = X.w
  K : X'.K = X.K
  mg : X'.mg = X.mg
  base : X'.base = X.base
  A : X'.A = X.A
  N : X'.N = X.N
  calm : X'.calm = X.calm
  hs : X'.env.scope = sc
  fnc : ∀ x, sc.names.lookup x = some .cell → X.env.scope.names.lookup x ≠ some .cell → X'.fn x = true
  pas : ∀ σ, Pas X' σ E0
theorem Blk.ok {X X' : Cx} {sc sc' : Scope} {N : List Str} (b : Blk X X' sc') (h : XOk X N sc) : XOk X' N sc' := ⟨⟨b.N.trans h.hN, b.hs, by rw [b.N]; exact h.nd⟩, b.calm.trans h.calm⟩
theorem Blk.dn {X X' : Cx} {sc : Scope} {x : Str} {sp : Sp} {n : Nat} (b : Blk X X' sc) (D : Dn X x sp n) : Dn X' x sp n := by
  obtain ⟨k, f, fd, ps, F, h1, h2, h3, h4, h5⟩ := D.ex
  refine ⟨k, f, fd, ps, ?_, by rw [b.A]; exact h1, by rw [b.mg]; exact h2, by rw [b.K]; exact h3, by rw [b.K]; exact h4, h5⟩
  rw [b.prog, b.w, b.K, b.mg, b.base]
  exact F
theorem Blk.none {X X' : Cx} {sc : Scope} {x : Str} (b : Blk X X' sc) (h : X.mg x = Option.none) : X'.mg x = Option.none := by rw [b.mg]; exact h
theorem Blk.some {X X' : Cx} {sc : Scope} {x : Str} {v : Value} (b : Blk X X' sc) (h : X.mg x = Option.some v) : X'.mg x = Option.some v := by rw [b.mg]; exact h
theorem Blk.hu {X X' : Cx} {sc : Scope} (b : Blk X X' sc) (h : X.A.units + 64 < cLine) : X'.A.units + 64 < cLine := by rw [b.A]; exact h
/-- a comprehension's name that an inner one uses -/
def lcB (N : List Str) (sc so : Scope) (i : Nat) (x : Str) : Bool := lcK N sc i x && (match so.names.lookup x with
  | some .cell => false
  | _ => true)
theorem lc_blk {X X' : Cx} {sc so : Scope} {N : List Str} {i : Nat} {x : Str} (b : Blk X X' sc) (ho : X.env.scope = so) (hX : XN X' N sc) (h : lcB N sc so i x = true) : Lc X' i x := by
  unfold lcB at h
  obtain ⟨h1, h2⟩ := Bool.and_eq_true_iff.mp h
  refine lc_cell hX (b.fnc x ?_ ?_) h1
  · unfold lcK at h1
    obtain ⟨_, h3⟩ := Bool.and_eq_true_iff.mp h1
    split at h3
    · assumption
    · cases h3
  · rw [ho]
    intro q
    rw [q] at h2
    cases h2
/-- the outcomes of a comprehension's turns -/
def compGo {α β : Type} (g : α → R (Option β)) : List α → R (List β)
  | [] => .ok []
  | x :: r => (g x).sure.bind fun o => (compGo g r).bind fun ys => .ok (match o with | some y => y :: ys | none => ys)
def compR {α β : Type} (g : α → R (Option β)) (xs : List α) : R (List β) := if xs.length ≤ 16777216 then compGo g xs else .stuck
def mapGo {α β : Type} (g : α → R β) : List α → R (List β)
  | [] => .ok []
  | x :: r => (g x).sure.bind fun y => (mapGo g r).bind fun ys => .ok (y :: ys)
def mapR {α β : Type} (g : α → R β) (xs : List α) : R (List β) := if xs.length ≤ 16777216 then mapGo g xs else .stuck
theorem mapGo_comp {α β : Type} (g : α → R β) : ∀ xs : List α, mapGo g xs = compGo (fun x => (g x).bind fun y => .ok (some y)) xs
  | [] => rfl
  | x :: r => by
    show (g x).sure.bind _ = ((g x).bind _).sure.bind _
    rw [mapGo_comp g r]
    cases g x <;> rfl
def wipeG (Γ : List Sl) : List Nat → List Sl
  | [] => Γ
  | v :: vs => (wipeG Γ vs).set v .un
theorem wipe_in {σ : L2.St} {i : Nat} : ∀ {vs : List Nat}, i ∈ vs → (wipe σ vs)[i]? = if i < σ.length then some none else none
  | [], h => by cases h
  | v :: vs, h => by
    have hl : (wipe σ vs).length = σ.length := wipe_length σ vs
    show ((wipe σ vs).set v none)[i]? = _
    by_cases e : v = i
    · subst e
      rw [List.getElem?_set]
      simp only [if_true, hl]
    · rw [List.getElem?_set_ne e]
      exact wipe_in ((List.mem_cons.mp h).resolve_left fun z => e z.symm)
theorem wipe_ext {a b : L2.St} {vs : List Nat} (hl : a.length = b.length) (h : ∀ i, i ∉ vs → a[i]? = b[i]?) : wipe a vs = wipe b vs := by
  refine List.ext_getElem? fun i => ?_
  by_cases hi : i ∈ vs
  · rw [wipe_in hi, wipe_in hi, hl]
  · rw [wipe_out hi, wipe_out hi]
    exact h i hi
theorem At.wipe {K : PySem.W.Frag} {H0 H : Hp} {qs : List Addr} {Γ : List Sl} {σ : L2.St} (a : At K H0 qs Γ σ H) : ∀ vs : List Nat, At K H0 qs (wipeG Γ vs) (L2.wipe σ vs) H
  | [] => a
  | v :: vs => (At.wipe a vs).setUn
theorem wipe_own {Γ : List Sl} {σ : L2.St} : ∀ {vs : List Nat}, (∀ v ∈ vs, NoOw Γ v) → owA (wipeG Γ vs) (L2.wipe σ vs) = owA Γ σ
  | [], _ => rfl
  | v :: vs, h => by
    have ih := wipe_own (σ := σ) (vs := vs) fun u hu => h u (List.mem_cons_of_mem _ hu)
    show owA ((wipeG Γ vs).set v .un) ((L2.wipe σ vs).set v none) = _
    rw [owA_set_no rfl ?_, ih]
    have go : ∀ vs : List Nat, ∀ o, own1 ((wipeG Γ vs).getD v .un) o = [] := by
      intro vs
      induction vs with
      | nil => exact h v List.mem_cons_self
      | cons u us ih2 =>
        intro o
        show own1 (((wipeG Γ us).set u .un).getD v .un) o = []
        rw [List.getD_eq_getElem?_getD]
        by_cases e : u = v
        · subst e
          rw [List.getElem?_set]
          simp only [if_true]
          split <;> rfl
        · rw [List.getElem?_set_ne e]
          have q := ih2 o
          rw [List.getD_eq_getElem?_getD] at q
          exact q
    exact go vs
theorem At.addq {K : PySem.W.Frag} {H0 H H' : Hp} {qs : List Addr} {Γ : List Sl} {σ : L2.St} {D : Addr} (a : At K H0 qs Γ σ H) (s : Same H H') (h1 : H D = none) (h2 : Hv H' D) : At K H0 (D :: qs) Γ σ H' := by
  have a' := a.grow s
  have e : Same (Fz H (owA Γ σ ++ qs)) (Fz H' (owA Γ σ ++ D :: qs)) := Fz.new s fun b hb => (List.mem_append.mp hb).elim (fun z => .inl (List.mem_append_left _ z)) fun z => (List.mem_cons.mp z).elim (fun q => .inr (by rw [q]; exact h1)) fun q => .inl (List.mem_append_right _ q)
  refine ⟨a'.ex, a.ok.grow e s, a.nd, fun p hp z => ?_, fun q hq => ?_⟩
  · rcases List.mem_cons.mp z with z | z
    · exact a.own_there hp (by rw [z]; exact h1)
    · exact a.sep p hp z
  · rcases List.mem_cons.mp hq with z | z
    · rw [z]; exact h2
    · exact a'.qd q z
section
variable {X : Cx} {H0 : Hp} {qs : List Addr} {md mi : Bool} {Γ : List Sl} {it elt tg : Expr} {pos : Pos} {α β : Type}
/-- the weakest over all blocks -/
def bE (X : Cx) (sc : Scope) (e : Expr) : TE := fun σ H Q => ∀ X', Blk X X' sc → wE X' e σ H Q
def bT (X : Cx) (sc : Scope) (e : Expr) : TT := fun σ H Q => ∀ X', Blk X X' sc → wT X' e σ H Q
def bG (X : Cx) (sc : Scope) (e : Expr) : TG := fun v σ H Q => ∀ X', Blk X X' sc → wG X' e v σ H Q
theorem rel_look {so : Scope} {x : Str} : ∀ l : List (Str × NameKind), (l.map fun (n, k) => if (k == .free && so.kind == .function && so.names.lookup n == some .cell) then (n, NameKind.cell) else (n, k)).lookup x = some .cell → so.names.lookup x ≠ some .cell → l.lookup x = some .cell
  | [], h, _ => h
  | (n, k) :: r, h, h2 => by
    rw [List.map_cons] at h
    change List.lookup x ((if (k == NameKind.free && so.kind == ScopeKind.function && so.names.lookup n == some NameKind.cell) = true then (n, NameKind.cell) else (n, k)) :: _) = _ at h
    by_cases e : x = n
    · subst e
      have hne : (so.names.lookup x == some NameKind.cell) = false := by
        cases q : so.names.lookup x with
        | none => rfl
        | some z =>
          rw [q] at h2
          cases z <;> first | rfl | exact absurd rfl h2
      simp only [hne, Bool.and_false] at h
      simpa using h
    · have e2 : (x == n) = false := by simpa using e
      have ih := rel_look (so := so) (x := x) r
      rw [List.lookup_cons, e2]
      refine ih ?_ h2
      by_cases c : (k == NameKind.free && so.kind == ScopeKind.function && so.names.lookup n == some NameKind.cell) = true
      · rw [if_pos c, List.lookup_cons, e2] at h
        exact h
      · rw [if_neg c, List.lookup_cons, e2] at h
        exact h
theorem blk_is {s : Shared} {H : Hp} {scope : Scope} {C : Addr} {cl : List (Str × Addr)} {fp : List Addr} : Blk X (X.blk s H scope (compEnvC scope cl C X.env) fp) (relS scope X.env.scope) :=
  ⟨rfl, rfl, rfl, rfl, rfl, rfl, rfl, rfl, rfl, fun x h h2 => by
    have q := rel_look scope.names h h2
    show (scope.names.lookup x == some .cell) = true
    rw [q] <;> rfl, fun σ => ⟨fun pins H s e s' _ h => by
    obtain ⟨_, _, _, _, _, _, _, _, _, _, _, _, z⟩ := h
    exact z.elim, fun z => absurd (congrArg List.length (show X.stack = _ :: X.stack from z)) (by simp)⟩⟩
/-- the core: one test or none -/
theorem lc_any [PyT α] [PyT β] {scope : Scope} {own : List (Str × Nat)} {ifs : List Expr} {mx : R (List α)} {g : α → R (Option β)} {m : R (List β)} {Γx : α → List Sl} {is : List Nat} {tt : TT}
    (hX : ∃ N sc, XOk X N sc) (hi : EvI X H0 qs mi Γ tg it mx) (fl : mi = true ∨ ∀ {K : PySem.W.Frag} {F F' : Hp} {v : V} {x : α}, rep K F v x → rep K F' v x) (fe : md = true ∨ ∀ {K : PySem.W.Frag} {F F' : Hp} {v : V} {x : β}, rep K F v x → rep K F' v x) (hno : ∀ p ∈ own, NoOw Γ p.2) (his : ∀ i ∈ is, i ∈ own.map (·.2))
    (hg : ∀ X', Blk X X' (relS scope X.env.scope) → ∀ x, EvG X' (wipeG Γ (own.map (·.2))) tg x (Γx x) is)
    (htt : ∀ (s : Shared) (H : Hp) (C : Addr) (cl : List (Str × Addr)) (fp : List Addr), PTs (X.blk s H scope (compEnvC scope cl C X.env) fp) ifs tt)
    (hturn : ∀ X', Blk X X' (relS scope X.env.scope) → ∀ (D : Addr) (x : α) σ H, At X.K H0 (D :: qs) (Γx x) σ H → ∀ (A : Option β → Prop), PX A (fun _ => False) (g x) → ∀ Qt : Bool → Hp → Prop,
      (∀ b H', Same H H' → (b = true → ∀ Qe : VK, (∀ y v H'', Same H' H'' → A (some y) → rep X.K (Fz H'' (av md (Γx x) σ (D :: qs))) v y → Qe v H'') → bE X (relS scope X.env.scope) elt σ H' Qe) → (b = false → A none) → Qt b H') → tt σ H Qt)
    (he : m = mx.bind (compR g)) (hs : ∀ env x, foldedSetIterable it env x = pure x) :
    ∀ σ H, At X.K H0 qs Γ σ H → ∀ E : XK, Pas X σ E → ∀ Q : VK, PX (fun xs => ∀ p vs H', Same H H' → H p = none → H' p = some (.lst vs) → RepL X.K (Fz H' (p :: av md Γ σ qs)) vs xs → Q (.ref p) H') (XW X E H) m →
      tLc (wI X tg it) (bG X (relS scope X.env.scope) tg) tt (bE X (relS scope X.env.scope) elt) (own.map (·.2)) σ H Q := by
  intro σ H at_ E pe Q q
  subst he
  obtain ⟨N, sc, hX⟩ := hX
  refine hi σ H at_ E pe _ ((PX.bind q).mono (fun xs q2 J H1 s1 wk D hD => ?_) fun _ z => z)
  unfold compR at q2
  by_cases hlen : xs.length ≤ 16777216
  case neg => rw [if_neg hlen] at q2; exact (show False from q2).elim
  rw [if_pos hlen] at q2
  have at1 := at_.grow s1
  have hD0 : H D = none := s1.free hD
  let Pv : Nat → Hp → Prop := fun i H' => Same H1 H' ∧ ∃ acc ys, H' D = some (.lst acc) ∧ RepL X.K (Fz H' (D :: av md Γ σ qs)) acc ys ∧ acc.length ≤ i ∧
    PX (fun zs => ∀ p vs H', Same H H' → H p = none → H' p = some (.lst vs) → RepL X.K (Fz H' (p :: av md Γ σ qs)) vs (ys ++ zs) → Q (.ref p) H') (XW X E H) (compGo g (xs.drop i))
  refine ⟨fun i m H' => m = xs.length - i ∧ i ≤ xs.length ∧ Pv i H', ⟨xs.length, by simp, Nat.zero_le _, same_new hD, [], [], upd_same, trivial, Nat.le_refl _, ?_⟩, ?_⟩
  · rw [List.drop_zero]
    exact q2.mono (fun zs k p vs H' a b c d => k p vs H' a b c d) fun _ z => z
  rintro i m H2 ⟨rfl, hi', s2, acc, ys, hacc, hrep, hal, hrest⟩
  have sF : Same (Fz H1 (av mi Γ σ qs)) H2 := fun b o z => s2 b o (Fz.out b o z)
  by_cases hlt : i < xs.length
  · refine .inr ⟨wk.goes i H2 hlt sF, Pv (i + 1), fun H' p' => ⟨xs.length - (i + 1), by omega, rfl, hlt, p'⟩, fun v H3 hy => ?_⟩
    obtain ⟨s3, x, hx, hxr⟩ := wk.yields i H2 v H3 hlt sF hy
    have hdrop : xs.drop i = x :: xs.drop (i + 1) := by
      obtain ⟨h1, h2⟩ := List.getElem?_eq_some_iff.mp hx
      rw [List.drop_eq_getElem_cons h1, h2]
    rw [hdrop] at hrest
    have hD3 : H3 D = some (.lst acc) := s3 _ _ hacc
    have at3 : At X.K H0 (D :: qs) Γ σ H3 := at1.addq (s2.trans s3) hD (Hv.lst hD3)
    have at3w := at3.wipe (own.map (·.2))
    have hown : owA (wipeG Γ (own.map (·.2))) (wipe σ (own.map (·.2))) = owA Γ σ := wipe_own fun v hv => by
      obtain ⟨p, hp, rfl⟩ := List.mem_map.mp hv
      exact hno p hp
    have hr3 : rep X.K (Fz H3 (owA (wipeG Γ (own.map (·.2))) (wipe σ (own.map (·.2))) ++ D :: qs)) v x := by
      rcases fl with fl | fl
      · subst fl
        refine hxr _ ?_ ?_
        · rw [hown]
          exact Fz.new s2 fun b hb => (List.mem_append.mp hb).elim (fun z => .inl (List.mem_append_left _ z)) fun z => (List.mem_cons.mp z).elim (fun q => .inr (by rw [q]; exact hD)) fun q => .inl (List.mem_append_right _ q)
        · rw [hown]
          intro q hq
          rcases List.mem_append.mp hq with z | z
          · exact (at1.grow s2).own_hv z
          · rcases List.mem_cons.mp z with z | z
            · rw [z]; exact Hv.lst hacc
            · exact (at1.grow s2).qd q z
      · exact fl (hxr [] (fun b o z => by rw [Fz.nil]; exact sF b o z) fun q hq => by cases hq)
    intro X' hB
    have hK : X'.K = X.K := hB.K
    refine hg X' hB x H0 (D :: qs) (wipe σ (own.map (·.2))) H3 v (by rw [hK]; exact at3w) (by rw [hK]; exact hr3) _ ?_
    intro σ4 at4 ho4 hl4 hk4
    refine ⟨?_, ?_⟩
    · refine wipe_ext (by rw [hl4, wipe_length]) fun j hj => ?_
      rw [hk4 j fun z => hj (his j z), wipe_out hj]
    rw [hK] at at4
    have how : owA (Γx x) σ4 = owA Γ σ := ho4.trans hown
    have hq3 : PX _ _ ((g x).sure.bind fun o => (compGo g (xs.drop (i + 1))).bind fun ys => .ok (match o with | some y => y :: ys | none => ys)) := hrest
    have hq4 := PX.sure (PX.bind hq3)
    refine hturn X' hB D x σ4 H3 at4 _ hq4 _ fun b H4 s4 hb1 hb0 => ?_
    have sD4 : H4 D = some (.lst acc) := s4 _ _ hD3
    cases b with
    | false =>
      show Pv (i + 1) H4
      have k := PX.bind (hb0 rfl)
      refine ⟨(s2.trans s3).trans s4, acc, ys, sD4, hrep.mono (Fz.mono (s3.trans s4)), Nat.le_succ_of_le hal, k.mono (fun zs k2 => k2) fun _ z => z⟩
    | true =>
      show bE X _ elt σ4 H4 _
      refine hb1 rfl _ fun y u H5 s5 hy5 hr5 => ⟨acc, s5 _ _ sD4, by rw [sizeLine_eq]; omega, ?_⟩
      have k := PX.bind hy5
      have hfz : rep X.K (Fz (upd H5 D (.lst (acc ++ [u]))) (D :: av md Γ σ qs)) u y := by
        rcases fe with fe | fe
        · subst fe
          refine PyT.mono ?_ hr5
          refine Fz.go fun b o hb hb2 => ?_
          have e1 : av true (Γx x) σ4 (D :: qs) = owA Γ σ ++ D :: qs := by rw [← how]; rfl
          rw [e1] at hb
          have nb : b ≠ D := fun z => hb (List.mem_append_right _ (by rw [z]; exact List.mem_cons_self))
          refine ⟨fun z => ?_, (upd_ne nb).trans hb2⟩
          rcases List.mem_cons.mp z with z | z
          · exact nb z
          · rcases List.mem_append.mp z with z | z
            · exact hb (List.mem_append_left _ z)
            · exact hb (List.mem_append_right _ (List.mem_cons_of_mem _ z))
        · exact fe hr5
      refine ⟨same_mut (((s2.trans s3).trans s4).trans s5) hD, acc ++ [u], ys ++ [y], upd_same, ?_, by rw [List.length_append, List.length_singleton]; omega, k.mono (fun zs k2 => by rw [List.append_assoc]; exact k2) fun _ z => z⟩
      refine (hrep.mono ?_).app (RepL.one hfz)
      exact Same.trans (Fz.mono ((s3.trans s4).trans s5)) (Fz.mut List.mem_cons_self)
  · have e : i = xs.length := by omega
    subst e
    refine .inl ⟨wk.stops H2 sF, ?_⟩
    rw [List.drop_length] at hrest
    have k : ∀ p vs H', Same H H' → H p = none → H' p = some (.lst vs) → RepL X.K (Fz H' (p :: av md Γ σ qs)) vs (ys ++ []) → Q (.ref p) H' := hrest
    exact k D acc H2 (s1.trans s2) hD0 hacc (by rw [List.append_nil]; exact hrep)
theorem pts_b {scope : Scope} {c : Expr} {s : Shared} {H : Hp} {C : Addr} {cl : List (Str × Addr)} {fp : List Addr} : PTs (X.blk s H scope (compEnvC scope cl C X.env) fp) [c] (bT X (relS scope X.env.scope) c) :=
  pts_one ⟨fun pins s' σ H' Q I h => (pt_w (X := X.blk s H scope (compEnvC scope cl C X.env) fp) (e := c)).run pins s' σ H' Q I (h _ blk_is)⟩
theorem pg_b {scope : Scope} {tg : Expr} {s : Shared} {H : Hp} {C : Addr} {cl : List (Str × Addr)} {fp : List Addr} : PG (X.blk s H scope (compEnvC scope cl C X.env) fp) tg (bG X (relS scope X.env.scope) tg) :=
  ⟨fun pins s' σ H' v u Q I r h => (pg_w (X := X.blk s H scope (compEnvC scope cl C X.env) fp) (tg := tg)).run pins s' σ H' v u Q I r (h _ blk_is)⟩
theorem pe_b {scope : Scope} {e : Expr} {s : Shared} {H : Hp} {C : Addr} {cl : List (Str × Addr)} {fp : List Addr} : PE (X.blk s H scope (compEnvC scope cl C X.env) fp) e (bE X (relS scope X.env.scope) e) :=
  ⟨fun pins s' σ H' Q I h => (pe_w (X := X.blk s H scope (compEnvC scope cl C X.env) fp) (e := e)).run pins s' σ H' Q I (h _ blk_is)⟩
/-- a turn without a test -/
theorem turn_map [PyT α] [PyT β] {sc : Scope} {g : α → R β} {Γx : α → List Sl} (hel : ∀ X', Blk X X' sc → ∀ (D : Addr) (x : α), Ev X' H0 (D :: qs) true (Γx x) elt (g x)) :
    ∀ X', Blk X X' sc → ∀ (D : Addr) (x : α) σ H, At X.K H0 (D :: qs) (Γx x) σ H → ∀ (A : Option β → Prop), PX A (fun _ => False) ((g x).bind fun y => .ok (some y)) → ∀ Qt : Bool → Hp → Prop,
      (∀ b H', Same H H' → (b = true → ∀ Qe : VK, (∀ y v H'', Same H' H'' → A (some y) → rep X.K (Fz H'' (av true (Γx x) σ (D :: qs))) v y → Qe v H'') → bE X sc elt σ H' Qe) → (b = false → A none) → Qt b H') → tYes σ H Qt := fun X' hB D x σ H at_ A hA Qt k => by
  refine k true H (Same.refl H) (fun _ Qe kq X2 hB2 => ?_) (fun z => by cases z)
  have hK : X2.K = X.K := hB2.K
  have q := PX.bind hA
  refine hel X2 hB2 D x σ H (by rw [hK]; exact at_) E0 (hB2.pas σ) Qe (q.mono (fun y ay v H'' s r => kq y v H'' s ay (by rw [hK] at r; exact r)) fun c z => z.elim)
/-- a turn with a test -/
theorem turn_filt [PyT α] [PyT β] {sc : Scope} {c : Expr} {t : α → R Bool} {g : α → R β} {Γx : α → List Sl} (hc : ∀ X', Blk X X' sc → ∀ (D : Addr) (x : α), EvT X' H0 (D :: qs) (Γx x) c (t x)) (hel : ∀ X', Blk X X' sc → ∀ (D : Addr) (x : α), Ev X' H0 (D :: qs) true (Γx x) elt (g x)) :
    ∀ X', Blk X X' sc → ∀ (D : Addr) (x : α) σ H, At X.K H0 (D :: qs) (Γx x) σ H → ∀ (A : Option β → Prop), PX A (fun _ => False) ((t x).bind fun b => if b = true then (g x).bind fun y => .ok (some y) else .ok none) → ∀ Qt : Bool → Hp → Prop,
      (∀ b H', Same H H' → (b = true → ∀ Qe : VK, (∀ y v H'', Same H' H'' → A (some y) → rep X.K (Fz H'' (av true (Γx x) σ (D :: qs))) v y → Qe v H'') → bE X sc elt σ H' Qe) → (b = false → A none) → Qt b H') → bT X sc c σ H Qt := fun X' hB D x σ H at_ A hA Qt k X3 hB3 => by
  have hK3 : X3.K = X.K := hB3.K
  refine hc X3 hB3 D x σ H (by rw [hK3]; exact at_) E0 (hB3.pas σ) Qt ((PX.bind hA).mono (fun b q H' s => ?_) fun c z => z.elim)
  cases b with
  | false => exact k false H' s (fun z => by cases z) (fun _ => q)
  | true =>
    refine k true H' s (fun _ Qe kq X2 hB2 => ?_) (fun z => by cases z)
    have hK : X2.K = X.K := hB2.K
    have q2 : PX A (fun _ => False) ((g x).bind fun y => .ok (some y)) := q
    refine hel X2 hB2 D x σ H' (by rw [hK]; exact at_.grow s) E0 (hB2.pas σ) Qe ((PX.bind q2).mono (fun y ay v H'' s r => kq y v H'' s ay (by rw [hK] at r; exact r)) fun c z => z.elim)
abbrev Fold (it : Expr) : Prop := ∀ env x, foldedSetIterable it env x = pure x
variable {scope : Scope} {own : List (Str × Nat)} {mx : R (List α)} {Γx : α → List Sl} {is : List Nat} {N : List Str} {sc : Scope}
theorem map_core [PyT α] [PyT β] {g : α → R β} {m : R (List β)} (hX : XOk X N sc) (hi : EvI X H0 qs mi Γ tg it mx) (fl : mi = true ∨ ∀ {K : PySem.W.Frag} {F F' : Hp} {v : V} {x : α}, rep K F v x → rep K F' v x) (hno : ∀ p ∈ own, NoOw Γ p.2) (his : ∀ i ∈ is, i ∈ own.map (·.2))
    (hg : ∀ X', Blk X X' (relS scope sc) → ∀ x, EvG X' (wipeG Γ (own.map (·.2))) tg x (Γx x) is) (hel : ∀ X', Blk X X' (relS scope sc) → ∀ (D : Addr) (x : α), Ev X' H0 (D :: qs) true (Γx x) elt (g x))
    (he : m = mx.bind (mapR g)) (hs : Fold it) :
    ∀ σ H, At X.K H0 qs Γ σ H → ∀ E : XK, Pas X σ E → ∀ Q : VK, PX (fun xs => ∀ p vs H', Same H H' → H p = none → H' p = some (.lst vs) → RepL X.K (Fz H' (p :: av true Γ σ qs)) vs xs → Q (.ref p) H') (XW X E H) m →
      tLc (wI X tg it) (bG X (relS scope X.env.scope) tg) tYes (bE X (relS scope X.env.scope) elt) (own.map (·.2)) σ H Q := by
  have hsc : X.env.scope = sc := hX.hs
  rw [← hsc] at hg hel
  refine lc_any (md := true) ⟨_, _, hX⟩ hi fl (.inl rfl) hno his hg (fun _ _ _ _ _ => pts_nil) (g := fun x => (g x).bind fun y => .ok (some y)) (turn_map hel) ?_ hs
  rw [he]
  refine congrArg mx.bind (funext fun xs => ?_)
  unfold mapR compR
  split
  · exact mapGo_comp g xs
  · rfl
theorem ev_map [PyT α] [PyT β] {g : α → R β} {m : R (List β)} (hX : XOk X N sc) (hi : EvI X H0 qs mi Γ tg it mx) (fl : mi = true ∨ ∀ {K : PySem.W.Frag} {F F' : Hp} {v : V} {x : α}, rep K F v x → rep K F' v x) (hb : blkC N sc scope own = true) (hno : ∀ p ∈ own, NoOw Γ p.2) (his : ∀ i ∈ is, i ∈ own.map (·.2))
    (hg : ∀ X', Blk X X' (relS scope sc) → ∀ x, EvG X' (wipeG Γ (own.map (·.2))) tg x (Γx x) is) (hel : ∀ X', Blk X X' (relS scope sc) → ∀ (D : Addr) (x : α), Ev X' H0 (D :: qs) true (Γx x) elt (g x))
    (he : m = mx.bind (mapR g) := by rfl) (hs : Fold it := by intro _ _; rfl) : EvO X H0 qs true Γ (.ListComp elt [⟨tg, it, [], 0⟩] scope pos) m := fun σ H at_ E pe Q q =>
  wE_of (pe_lc hX.calm hX.nd pi_w (blkOk_by (by rw [hX.hN, hX.hs]; exact hb)) (fun _ _ _ _ _ => pg_b) (fun _ _ _ _ _ => pts_nil) (fun _ _ _ _ _ => pe_b) (hs X.env)) (map_core hX hi fl hno his hg hel he hs σ H at_ E pe Q q)
theorem filt_core [PyT α] [PyT β] {c : Expr} {t : α → R Bool} {g : α → R β} {m : R (List β)} (hX : XOk X N sc) (hi : EvI X H0 qs mi Γ tg it mx) (fl : mi = true ∨ ∀ {K : PySem.W.Frag} {F F' : Hp} {v : V} {x : α}, rep K F v x → rep K F' v x) (hno : ∀ p ∈ own, NoOw Γ p.2) (his : ∀ i ∈ is, i ∈ own.map (·.2))
    (hg : ∀ X', Blk X X' (relS scope sc) → ∀ x, EvG X' (wipeG Γ (own.map (·.2))) tg x (Γx x) is) (hc : ∀ X', Blk X X' (relS scope sc) → ∀ (D : Addr) (x : α), EvT X' H0 (D :: qs) (Γx x) c (t x)) (hel : ∀ X', Blk X X' (relS scope sc) → ∀ (D : Addr) (x : α), Ev X' H0 (D :: qs) true (Γx x) elt (g x))
    (he : m = mx.bind (compR fun x => (t x).bind fun b => if b = true then (g x).bind fun y => .ok (some y) else .ok none)) (hs : Fold it) :
    ∀ σ H, At X.K H0 qs Γ σ H → ∀ E : XK, Pas X σ E → ∀ Q : VK, PX (fun xs => ∀ p vs H', Same H H' → H p = none → H' p = some (.lst vs) → RepL X.K (Fz H' (p :: av true Γ σ qs)) vs xs → Q (.ref p) H') (XW X E H) m →
      tLc (wI X tg it) (bG X (relS scope X.env.scope) tg) (bT X (relS scope X.env.scope) c) (bE X (relS scope X.env.scope) elt) (own.map (·.2)) σ H Q := by
  have hsc : X.env.scope = sc := hX.hs
  rw [← hsc] at hg hel hc
  exact lc_any (md := true) ⟨_, _, hX⟩ hi fl (.inl rfl) hno his hg (fun _ _ _ _ _ => pts_b) (turn_filt hc hel) he hs
theorem ev_filt [PyT α] [PyT β] {c : Expr} {t : α → R Bool} {g : α → R β} {m : R (List β)} (hX : XOk X N sc) (hi : EvI X H0 qs mi Γ tg it mx) (fl : mi = true ∨ ∀ {K : PySem.W.Frag} {F F' : Hp} {v : V} {x : α}, rep K F v x → rep K F' v x) (hb : blkC N sc scope own = true) (hno : ∀ p ∈ own, NoOw Γ p.2) (his : ∀ i ∈ is, i ∈ own.map (·.2))
    (hg : ∀ X', Blk X X' (relS scope sc) → ∀ x, EvG X' (wipeG Γ (own.map (·.2))) tg x (Γx x) is) (hc : ∀ X', Blk X X' (relS scope sc) → ∀ (D : Addr) (x : α), EvT X' H0 (D :: qs) (Γx x) c (t x)) (hel : ∀ X', Blk X X' (relS scope sc) → ∀ (D : Addr) (x : α), Ev X' H0 (D :: qs) true (Γx x) elt (g x))
    (he : m = mx.bind (compR fun x => (t x).bind fun b => if b = true then (g x).bind fun y => .ok (some y) else .ok none) := by rfl) (hs : Fold it := by intro _ _; rfl) : EvO X H0 qs true Γ (.ListComp elt [⟨tg, it, [c], 0⟩] scope pos) m := fun σ H at_ E pe Q q =>
  wE_of (pe_lc hX.calm hX.nd pi_w (blkOk_by (by rw [hX.hN, hX.hs]; exact hb)) (fun _ _ _ _ _ => pg_b) (fun _ _ _ _ _ => pts_b) (fun _ _ _ _ _ => pe_b) (hs X.env)) (filt_core hX hi fl hno his hg hc hel he hs σ H at_ E pe Q q)
/-- what y = [..] asks: y = [..] on a line -/
def EvC (X : Cx) (H0 : Hp) (qs : List Addr) (Γ : List Sl) [PyT β] (e : Expr) (m : R (List β)) : Prop :=
  ∀ (i : Nat) (y : Str) (py spos : Pos) (D : Ends) (σ : L2.St) (H : Hp), Lc X i y → X.env.scope.names.lookup y = some .local → (∀ l env, env.scope.kind = .function → env.scope.names.lookup y = some .local → swapsWith e (some (.Name y py)) l env = pure true) → X.env.scope.kind = .function →
    At X.K H0 qs Γ σ H → ∀ E : XK, Pas X σ E → PX (fun xs => ∀ p vs H', Same H H' → H p = none → H' p = some (.lst vs) → RepL X.K (Fz H' (p :: av true Γ σ qs)) vs xs → D.nx (σ.set i (some (.ref p))) H') (XW X E H) m →
      wS X (.Assign [.Name y py] e spos) D σ H
theorem ec_map [PyT α] [PyT β] {g : α → R β} {m : R (List β)} (hX : XOk X N sc) (hi : EvI X H0 qs mi Γ tg it mx) (fl : mi = true ∨ ∀ {K : PySem.W.Frag} {F F' : Hp} {v : V} {x : α}, rep K F v x → rep K F' v x) (hb : blkC N sc scope own = true) (hno : ∀ p ∈ own, NoOw Γ p.2) (his : ∀ i ∈ is, i ∈ own.map (·.2))
    (hg : ∀ X', Blk X X' (relS scope sc) → ∀ x, EvG X' (wipeG Γ (own.map (·.2))) tg x (Γx x) is) (hel : ∀ X', Blk X X' (relS scope sc) → ∀ (D : Addr) (x : α), Ev X' H0 (D :: qs) true (Γx x) elt (g x))
    (he : m = mx.bind (mapR g) := by rfl) (hs : Fold it := by intro _ _; rfl) : EvC X H0 qs Γ (.ListComp elt [⟨tg, it, [], 0⟩] scope pos) m := fun i y py spos D σ H l hl hsw hk at_ E pe q =>
  wS_of (ps_setLc hX.calm hX.nd l.hi hl (hsw _ _ hk hl) pi_w (blkOk_by (by rw [hX.hN, hX.hs]; exact hb)) (fun _ _ _ _ _ => pg_b) (fun _ _ _ _ _ => pts_nil) (fun _ _ _ _ _ => pe_b) (hs X.env))
    (map_core hX hi fl hno his hg hel he hs σ H at_ E pe (fun v H1 => gName i v σ H1 D.nx) q)
end
end Wk
set_option Elab.async false
set_option linter.all false
set_option maxRecDepth 100000
/-! Wk8: statements, by typed rules. -/
namespace Wk
open PySem PySem.Spec PyProof.Rows L2
structure Fr (X : Cx) (H0 : Hp) (B : Exc → Prop) : Prop where
  ex : ∃ E : XK, Takes X (fun cls d _ H => E cls d H) ∧ ∀ c, B c → ∀ H, Same H0 H → E (.ref (He.ga X.K c.nm)) none H
  po : X.calm = true → PassesOwn (model X.prog X.w) X.A X.env X.xe
theorem Fr.up {X : Cx} {H0 H1 : Hp} {B : Exc → Prop} (f : Fr X H0 B) (s : Same H0 H1) : Fr X H1 B :=
  ⟨let ⟨E, h1, h2⟩ := f.ex; ⟨E, h1, fun c hc H s2 => h2 c hc H (s.trans s2)⟩, f.po⟩
theorem Fr.use {X : Cx} {H0 : Hp} {B : Exc → Prop} (f : Fr X H0 B) : ∃ E : XK, (∀ σ, Pas X σ E) ∧ ∀ c H, Same H0 H → B c → XW X E H c := by
  obtain ⟨E, h1, h2⟩ := f.ex
  exact ⟨E, fun σ => ⟨passAt h1 σ, fun _ => ⟨_, h1, rfl⟩⟩, fun c H s hc H' s2 => h2 c hc H' (s.trans s2)⟩
/-- a block -/
def W (X : Cx) (H0 : Hp) (qs : List Addr) (rt : VK) (nx : L2.St → Hp → Prop) {O : Type} (A : O → Prop) (B : Exc → Prop) (Γ : List Sl) (ss : List Stmt) (m : R O) : Prop :=
  PX A B m → ∀ σ H, At X.K H0 qs Γ σ H → wSs X ss { nx := nx, rt := rt } σ H
/-- what is told at a return -/
def RtF (X : Cx) (H0 : Hp) (qs : List Addr) (rt : VK) {ρ : Type} [PyT ρ] (A : ρ → Prop) : Prop := ∀ x, A x → ∀ v H', Same H0 H' → rep X.K (Fz H' qs) v x → rt v H'
def RtO (X : Cx) (H0 : Hp) (qs : List Addr) (rt : VK) {ρ : Type} [PyT ρ] (A : List ρ → Prop) : Prop := ∀ xs, A xs → ∀ p vs H', Same H0 H' → H0 p = none → H' p = some (.lst vs) → RepL X.K (Fz H' (p :: qs)) vs xs → rt (.ref p) H'
theorem RtF.up {X : Cx} {H0 H1 : Hp} {qs : List Addr} {rt : VK} {ρ : Type} [PyT ρ] {A : ρ → Prop} (h : RtF X H0 qs rt A) (s : Same H0 H1) : RtF X H1 qs rt A := fun x a v H' s2 r => h x a v H' (s.trans s2) r
theorem RtO.up {X : Cx} {H0 H1 : Hp} {qs : List Addr} {rt : VK} {ρ : Type} [PyT ρ] {A : List ρ → Prop} (h : RtO X H0 qs rt A) (s : Same H0 H1) : RtO X H1 qs rt A := fun x a p vs H' s2 n l r => h x a p vs H' (s.trans s2) (s.free n) l r
/-- the end of a block whose state is s -/
def Nx (X : Cx) (H0 : Hp) (qs : List Addr) {S : Type} (Γ : S → List Sl) (N : S → Prop) : L2.St → Hp → Prop := fun σ H => ∃ s, N s ∧ At X.K H0 qs (Γ s) σ H
/-- on, or out with what is told -/
inductive Ct (S O : Type) where
  | nx (s : S) | rt (o : O)
def ctA {S O : Type} (N : S → Prop) (A : O → Prop) : Ct S O → Prop
  | .nx s => N s
  | .rt o => A o
/-- by cases -/
def Ct.by {S O β : Type} (f : S → β) (g : O → β) : Ct S O → β
  | .nx s => f s
  | .rt o => g o
/-- on from a block that may have told -/
def R.ct {S O : Type} (m : R (Ct S O)) (f : S → R O) : R O := m.bind (Ct.by f .ok)
def forR {α S : Type} (b : α → S → R S) : List α → S → R S
  | [], s => .ok s
  | x :: r, s => (b x s).bind fun s' => forR b r s'
def forM {α S O : Type} (b : α → S → R (Ct S O)) : List α → S → R (Ct S O)
  | [], s => .ok (.nx s)
  | x :: r, s => (b x s).bind (Ct.by (fun s' => forM b r s') fun o => .ok (.rt o))
def whileR {S : Type} (c : S → R Bool) (b : S → R S) : Nat → S → R S
  | 0, _ => .stuck
  | n + 1, s => (c s).bind fun t => if t = true then (b s).bind fun s' => whileR c b n s' else .ok s
section
variable {X : Cx} {H0 : Hp} {qs : List Addr} {rt : VK} {nx : L2.St → Hp → Prop} {O : Type} {A : O → Prop} {B : Exc → Prop} {Γ : List Sl} {rest : List Stmt} {m : R O} {e a b : Expr} {pos p p1 p2 p3 : Pos} {x : Str} {i : Nat} {α β S : Type}
theorem SP_mono {D D' : Ends} (h1 : ∀ σ H, D.nx σ H → D'.nx σ H) (h2 : ∀ v H, D.rt v H → D'.rt v H) (h3 : ∀ σ H, D.bk σ H → D'.bk σ H) (h4 : ∀ σ H, D.ct σ H → D'.ct σ H) {pins : List (Addr × Obj)} {f : Flow} {s : Shared} (h : SP X pins D f s) : SP X pins D' f s := by
  cases f with
  | next => obtain ⟨σ, H, I, q⟩ := h; exact ⟨σ, H, I, h1 σ H q⟩
  | brk => obtain ⟨σ, H, I, q⟩ := h; exact ⟨σ, H, I, h3 σ H q⟩
  | cont => obtain ⟨σ, H, I, q⟩ := h; exact ⟨σ, H, I, h4 σ H q⟩
  | ret u => obtain ⟨v, σ, H, I, r, q⟩ := h; exact ⟨v, σ, H, I, r, h2 v H q⟩
theorem wSs_mono {D D' : Ends} {ss : List Stmt} {σ : L2.St} {H : Hp} (h1 : ∀ σ H, D.nx σ H → D'.nx σ H) (h2 : ∀ v H, D.rt v H → D'.rt v H) (h3 : ∀ σ H, D.bk σ H → D'.bk σ H) (h4 : ∀ σ H, D.ct σ H → D'.ct σ H) (h : wSs X ss D σ H) : wSs X ss D' σ H :=
  fun pins s I => thn (h pins s I) fun f s' q => SP_mono h1 h2 h3 h4 q
theorem wSs_cons {st : Stmt} {D : Ends} {σ : L2.St} {H : Hp} (h : wS X st { D with nx := wSs X rest D } σ H) : wSs X (st :: rest) D σ H := wSs_of (pss_cons ps_w pss_w) h
theorem cons_of {st : Stmt} {σ : L2.St} {H : Hp} (h : wS X st { nx := wSs X rest { nx := nx, rt := rt }, rt := rt } σ H) : wSs X (st :: rest) { nx := nx, rt := rt } σ H := wSs_cons h
/-- a name comes to stand for a value -/
theorem w_asg [PyT α] {m1 : R α} {f : α → R O} {Γ' : α → List Sl} (fr : Fr X H0 B) (l : Lc X i x) (d : Ev X H0 qs true Γ e m1) (k : ∀ y, W X H0 qs rt nx A B (Γ' y) rest (f y)) (hΓ : ∀ y, Γ' y = Γ.set i (.fr y) := by intro _; rfl) (he : m = m1.bind f := by rfl)
    (hs : ∀ env, swapsWith e (some (.Name x p)) pos.line env = pure false := by intro _; rfl) : W X H0 qs rt nx A B Γ (.Assign [.Name x p] e pos :: rest) m := fun q σ H at_ => by
  subst he
  obtain ⟨E, pe, hx⟩ := fr.use
  refine cons_of (wS_of (ps_set l.nd l.hi l.loc pe_w (hs X.env) l.fn) ?_)
  refine d σ H at_ E (pe σ) _ ((PX.bind q).mono (fun y q2 v H1 s1 r1 => ?_) fun c z => hx c H at_.ex z)
  exact k y q2 _ H1 (by rw [hΓ]; exact (at_.grow s1).setFr r1)
/-- .. for a new list -/
theorem w_asgO [PyT α] {m1 : R (List α)} {f : List α → R O} {Γ' : List α → List Sl} (fr : Fr X H0 B) (l : Lc X i x) (d : EvO X H0 qs true Γ e m1) (k : ∀ y, W X H0 qs rt nx A B (Γ' y) rest (f y)) (hΓ : ∀ y, Γ' y = Γ.set i (.ow y) := by intro _; rfl) (he : m = m1.bind f := by rfl)
    (hs : ∀ env, swapsWith e (some (.Name x p)) pos.line env = pure false := by intro _; rfl) : W X H0 qs rt nx A B Γ (.Assign [.Name x p] e pos :: rest) m := fun q σ H at_ => by
  subst he
  obtain ⟨E, pe, hx⟩ := fr.use
  refine cons_of (wS_of (ps_set l.nd l.hi l.loc pe_w (hs X.env) l.fn) ?_)
  refine d σ H at_ E (pe σ) _ ((PX.bind q).mono (fun y q2 p vs H1 s1 hn hl r1 => ?_) fun c z => hx c H at_.ex z)
  exact k y q2 _ H1 (by rw [hΓ]; exact at_.setOw s1 hn hl r1)
/-- .. for a comprehension, the name a local -/
theorem w_asgC [PyT α] {m1 : R (List α)} {f : List α → R O} {Γ' : List α → List Sl} (fr : Fr X H0 B) (l : Lc X i x) (hl : X.env.scope.names.lookup x = some .local) (hk : X.env.scope.kind = .function) (d : EvC X H0 qs Γ e m1) (k : ∀ y, W X H0 qs rt nx A B (Γ' y) rest (f y))
    (hΓ : ∀ y, Γ' y = Γ.set i (.ow y) := by intro _; rfl) (he : m = m1.bind f := by rfl)
    (hsw : ∀ l env, env.scope.kind = .function → env.scope.names.lookup x = some .local → swapsWith e (some (.Name x p)) l env = pure true := by intro _ _ h1 h2; exact sw_true h1 h2 rfl (by decide +kernel)) : W X H0 qs rt nx A B Γ (.Assign [.Name x p] e pos :: rest) m := fun q σ H at_ => by
  subst he
  obtain ⟨E, pe, hx⟩ := fr.use
  refine cons_of (d i x p pos _ σ H l hl hsw hk at_ E (pe σ) ((PX.bind q).mono (fun y q2 p vs H1 s1 hn hl r1 => ?_) fun c z => hx c H at_.ex z))
  exact k y q2 _ H1 (by rw [hΓ]; exact at_.setOw s1 hn hl r1)
theorem w_asgCf [PyT α] {m1 : R (List α)} {f : List α → R O} {Γ' : List α → List Sl} (fr : Fr X H0 B) (l : Lc X i x) (hl : X.env.scope.names.lookup x = some .local) (hk : X.env.scope.kind = .function) (d : EvC X H0 qs Γ e m1) (k : ∀ y, W X H0 qs rt nx A B (Γ' y) rest (f y))
    (hΓ : ∀ y, Γ' y = Γ.set i (.fr y) := by intro _; rfl) (he : m = m1.bind f := by rfl)
    (hsw : ∀ l env, env.scope.kind = .function → env.scope.names.lookup x = some .local → swapsWith e (some (.Name x p)) l env = pure true := by intro _ _ h1 h2; exact sw_true h1 h2 rfl (by decide +kernel)) : W X H0 qs rt nx A B Γ (.Assign [.Name x p] e pos :: rest) m := fun q σ H at_ => by
  subst he
  obtain ⟨E, pe, hx⟩ := fr.use
  refine cons_of (d i x p pos _ σ H l hl hsw hk at_ E (pe σ) ((PX.bind q).mono (fun y q2 p vs H1 s1 hn hl r1 => ?_) fun c z => hx c H at_.ex z))
  refine k y q2 _ H1 ?_
  rw [hΓ]
  exact (at_.grow s1).setFr ⟨p, vs, rfl, Fz.some_iff.mpr ⟨fun z => at_.av_there z hn, hl⟩, r1.mono (Fz.sub (Same.refl _) fun b z => List.mem_cons_of_mem _ z)⟩
/-- a list of the def's own is no more changed | a slot is forgotten -/
theorem w_frz [PyT α] {xs : List α} {Γ' : List Sl} {ss : List Stmt} (i : Nat) (h : Γ[i]? = some (.ow xs)) (hΓ : Γ' = Γ.set i (.fr xs)) (k : W X H0 qs rt nx A B Γ' ss m) : W X H0 qs rt nx A B Γ ss m := fun q σ H at_ => k q σ H (by rw [hΓ]; exact at_.frz h)
theorem At.unn {K : PySem.W.Frag} {H : Hp} {σ : L2.St} (at_ : At K H0 qs Γ σ H) (i : Nat) : At K H0 qs (Γ.set i .un) σ H := by
  have h := at_.setUn (i := i) (o := (σ[i]?).getD Option.none)
  have e : σ.set i ((σ[i]?).getD Option.none) = σ := by
    refine List.ext_getElem? fun j => ?_
    by_cases hj : i = j
    · subst hj
      rw [List.getElem?_set]
      simp only [if_true]
      by_cases hl : i < σ.length
      · rw [if_pos hl, List.getElem?_eq_getElem hl] <;> rfl
      · rw [if_neg hl, List.getElem?_eq_none (by omega)]
    · rw [List.getElem?_set_ne hj]
  rw [e] at h
  exact h
def unAll : List Sl → List Nat → List Sl
  | Γ, [] => Γ
  | Γ, i :: is => unAll (Γ.set i .un) is
theorem At.uns {K : PySem.W.Frag} {H : Hp} {σ : L2.St} : ∀ {Γ : List Sl} (is : List Nat), At K H0 qs Γ σ H → At K H0 qs (unAll Γ is) σ H
  | _, [], a => a
  | _, i :: is, a => At.uns is (a.unn i)
/-- the block's end -/
theorem w_end {N : S → Prop} {Γs : S → List Sl} {s : S} {m : R S} (is : List Nat) (hΓ : Γs s = unAll Γ is := by rfl) (he : m = .ok s := by rfl) : W X H0 qs rt (Nx X H0 qs Γs N) N B Γ [] m := fun q σ H at_ => by
  subst he
  exact wSs_of pss_nil ⟨s, q, by rw [hΓ]; exact at_.uns is⟩
theorem w_endM {N : S → Prop} {Γs : S → List Sl} {s : S} {m : R (Ct S O)} (is : List Nat) (hΓ : Γs s = unAll Γ is := by rfl) (he : m = .ok (.nx s) := by rfl) : W X H0 qs rt (Nx X H0 qs Γs N) (ctA N A) B Γ [] m := fun q σ H at_ => by
  subst he
  exact wSs_of pss_nil ⟨s, q, by rw [hΓ]; exact at_.uns is⟩
/-- the def's end without a return -/
theorem w_endN {A : Unit → Prop} {m : R Unit} (hR : RtF X H0 qs rt A) (he : m = .ok () := by rfl) : W X H0 qs rt (fun _ H => rt .non H) A B Γ [] m := fun q σ H at_ => by
  subst he
  exact wSs_of pss_nil (hR () q .non H at_.ex rfl)
/-- return e -/
theorem w_ret {ρ : Type} [PyT ρ] {A' : ρ → Prop} {m1 : R ρ} {g : ρ → O} (fr : Fr X H0 B) (hR : RtF X H0 qs rt A') (d : Ev X H0 qs true Γ e m1) (hg : ∀ x, A (g x) → A' x) (he : m = m1.bind fun x => .ok (g x)) : W X H0 qs rt nx A B Γ (.Return (some e) pos :: rest) m := fun q σ H at_ => by
  subst he
  obtain ⟨E, pe, hx⟩ := fr.use
  refine cons_of (wS_of (ps_ret pe_w) ?_)
  refine d σ H at_ E (pe σ) _ ((PX.bind q).mono (fun y q2 v H1 s1 r1 => ?_) fun c z => hx c H at_.ex z)
  exact hR y (hg y q2) v H1 (at_.ex.trans s1) (PyT.mono (Fz.sub (Same.refl _) fun b hb => List.mem_append_right _ hb) r1)
theorem w_retO {ρ : Type} [PyT ρ] {A' : List ρ → Prop} {m1 : R (List ρ)} {g : List ρ → O} (fr : Fr X H0 B) (hR : RtO X H0 qs rt A') (d : EvO X H0 qs true Γ e m1) (hg : ∀ x, A (g x) → A' x) (he : m = m1.bind fun x => .ok (g x)) : W X H0 qs rt nx A B Γ (.Return (some e) pos :: rest) m := fun q σ H at_ => by
  subst he
  obtain ⟨E, pe, hx⟩ := fr.use
  refine cons_of (wS_of (ps_ret pe_w) ?_)
  refine d σ H at_ E (pe σ) _ ((PX.bind q).mono (fun y q2 p vs H1 s1 hn hl r1 => ?_) fun c z => hx c H at_.ex z)
  exact hR y (hg y q2) p vs H1 (at_.ex.trans s1) (at_.ex.free hn) hl (r1.mono (Fz.sub (Same.refl _) fun b hb => (List.mem_cons.mp hb).elim (fun z => by rw [z]; exact List.mem_cons_self) fun z => List.mem_cons_of_mem _ (List.mem_append_right _ z)))
/-- return of a list of the def's own -/
theorem w_retV {ρ : Type} [PyT ρ] {A' : List ρ → Prop} {ys : List ρ} {g : List ρ → O} (fr : Fr X H0 B) (hR : RtO X H0 qs rt A') (n : Nm X i x) (h : Γ[i]? = some (.ow ys)) (hg : ∀ x, A (g x) → A' x) (he : m = .ok (g ys)) : W X H0 qs rt nx A B Γ (.Return (some (.Name x p)) pos :: rest) m := fun q σ H at_ => by
  subst he
  obtain ⟨q', vs, h1, h2, h3, h4, h5⟩ := at_.ow h
  refine cons_of (wS_of (ps_ret (pe_var n.hi n.vis n.hd n.hc)) ⟨_, h1, ?_⟩)
  exact hR ys (hg ys q) q' vs H at_.ex h4 h3 (h5.mono (Fz.sub (Same.refl _) fun b hb => (List.mem_cons.mp hb).elim (fun z => by rw [z]; exact List.mem_append_left _ h2) fun z => List.mem_append_right _ z))
/-- an expression whose value is dropped -/
theorem w_expr [PyT α] {m1 : R α} {mr : R O} (fr : Fr X H0 B) (d : Ev X H0 qs true Γ e m1) (k : W X H0 qs rt nx A B Γ rest mr) (he : m = m1.bind fun _ => mr := by rfl) (hs : ∀ env, swapsWith e none pos.line env = pure false := by intro _; rfl) : W X H0 qs rt nx A B Γ (.Expr e pos :: rest) m := fun q σ H at_ => by
  subst he
  obtain ⟨E, pe, hx⟩ := fr.use
  refine cons_of (wS_of (ps_expr pe_w (hs X.env)) ?_)
  refine d σ H at_ E (pe σ) _ ((PX.bind q).mono (fun y q2 v H1 s1 r1 => ?_) fun c z => hx c H at_.ex z)
  exact k q2 _ H1 (at_.grow s1)
/-! ### lists changed -/
def appR (xs : List α) (y : α) : R (List α) := R.chk (decide (xs.length < 16777216)) (xs ++ [y])
/-- xs.append(e) -/
theorem w_append [PyT α] {ys : List α} {m1 : R α} {f : List α → R O} {Γ' : List α → List Sl} (fr : Fr X H0 B) (n : Nm X i x) (h : Γ[i]? = some (.ow ys)) (d : Ev X H0 qs true Γ e m1) (k : ∀ zs, W X H0 qs rt nx A B (Γ' zs) rest (f zs)) (hΓ : ∀ zs, Γ' zs = Γ.set i (.ow zs) := by intro _; rfl) (ht : tmF Γ = true := by rfl)
    (he : m = m1.bind fun y => (appR ys y).bind f := by rfl)
    (hfew : ∀ env, ((backTo p3 (starEach [e] env)).all (fun x => !x.1) && (backToKw p3 (keywordEach [] env)).all (fun x => x.1.isSome) && decide ([e].length + ([] : List Keyword).length + (if ([] : List Keyword).isEmpty then 0 else 1) < 30)) = true := by intro _; rfl)
    (hline : (p2.endLine == p3.line) = true := by rfl) (hs : St1 e := by intro _; rfl) (hbase : ∀ env, attributeBase (.Name x p1) "append" env (eval (.Name x p1) env) = eval (.Name x p1) env := by intro _; rfl)
    (hsw : ∀ env, swapsWith (.Call (.Attribute (.Name x p1) "append" p2) [e] [] p3) none pos.line env = pure false := by intro _; rfl) : W X H0 qs rt nx A B Γ (.Expr (.Call (.Attribute (.Name x p1) "append" p2) [e] [] p3) pos :: rest) m := fun q σ H at_ => by
  subst he
  obtain ⟨E, pe, hx⟩ := fr.use
  refine cons_of (wS_of (ps_expr (pe_bm PySem.F.plainAttrs_list PySem.F.slot_list_append PySem.F.type_list_append mt_append (pe_var n.hi n.vis n.hd n.hc) (pa_cons pe_w pa_nil (hs X.env)) (hbase X.env) (hfew X.env) hline (hs X.env) rfl) (hsw X.env)) ?_)
  obtain ⟨l, vs, hl, hm, hv, h0, hr⟩ := at_.ow h
  refine ⟨_, hl, .inl ⟨rfl, _, SqL.of hv⟩, ?_⟩
  refine d σ H at_ E (pe σ) _ ((PX.bind q).mono (fun y q2 v H1 s1 r1 => ?_) fun c z => hx c H at_.ex z)
  obtain ⟨c, q3⟩ := PX.chk (PX.bind q2)
  have at1 := at_.grow s1
  refine ⟨l, vs, v, rfl, rfl, s1 _ _ hv, by rw [hr.len, sizeLine_eq]; exact of_decide_eq_true c, ?_⟩
  exact k _ q3 _ _ (by rw [hΓ]; exact at1.mut h hl ((hr.mono (Fz.mono s1)).app (RepL.one r1)) ht)
/-- xs.insert(i, e) -/
def insR (xs : List α) (j : Int) (y : α) : R (List α) := R.chk (decide (xs.length < 16777216 ∧ 0 ≤ j ∧ j < 9223372036854775808)) (xs.take j.toNat ++ [y] ++ xs.drop j.toNat)
theorem w_insert [PyT α] {ys : List α} {mj : R Int} {m1 : R α} {f : List α → R O} {Γ' : List α → List Sl} (fr : Fr X H0 B) (n : Nm X i x) (h : Γ[i]? = some (.ow ys)) (dj : Ev X H0 qs true Γ a mj) (d : Ev X H0 qs true Γ e m1) (k : ∀ zs, W X H0 qs rt nx A B (Γ' zs) rest (f zs)) (hΓ : ∀ zs, Γ' zs = Γ.set i (.ow zs) := by intro _; rfl) (ht : tmF Γ = true := by rfl)
    (he : m = mj.bind fun j => m1.bind fun y => (insR ys j y).bind f := by rfl)
    (hfew : ∀ env, ((backTo p3 (starEach [a, e] env)).all (fun x => !x.1) && (backToKw p3 (keywordEach [] env)).all (fun x => x.1.isSome) && decide ([a, e].length + ([] : List Keyword).length + (if ([] : List Keyword).isEmpty then 0 else 1) < 30)) = true := by intro _; rfl)
    (hline : (p2.endLine == p3.line) = true := by rfl) (hs : St2 a e := by intro _; rfl) (hs2 : St1 e := by intro _; rfl) (hp : ∀ env, (backTo p3 (starEach [e] env)).any (·.1) = false := by intro _; rfl) (hbase : ∀ env, attributeBase (.Name x p1) "insert" env (eval (.Name x p1) env) = eval (.Name x p1) env := by intro _; rfl)
    (hsw : ∀ env, swapsWith (.Call (.Attribute (.Name x p1) "insert" p2) [a, e] [] p3) none pos.line env = pure false := by intro _; rfl) : W X H0 qs rt nx A B Γ (.Expr (.Call (.Attribute (.Name x p1) "insert" p2) [a, e] [] p3) pos :: rest) m := fun q σ H at_ => by
  subst he
  obtain ⟨E, pe, hx⟩ := fr.use
  refine cons_of (wS_of (ps_expr (pe_bm PySem.F.plainAttrs_list PySem.F.slot_list_insert PySem.F.type_list_insert mt_insert (pe_var n.hi n.vis n.hd n.hc) (pa_cons pe_w (pa_cons pe_w pa_nil (hs2 X.env)) (hs X.env)) (hbase X.env) (hfew X.env) hline (hs X.env) (hp X.env)) (hsw X.env)) ?_)
  obtain ⟨l, vs, hl, hm, hv, h0, hr⟩ := at_.ow h
  refine ⟨_, hl, .inl ⟨rfl, _, SqL.of hv⟩, ?_⟩
  refine dj σ H at_ E (pe σ) _ ((PX.bind q).mono (fun j q2 vj H1 s1 rj => ?_) fun c z => hx c H at_.ex z)
  refine d σ H1 (at_.grow s1) E (pe σ) _ ((PX.bind q2).mono (fun y q3 v H2 s2 r1 => ?_) fun c z => hx c H1 (at_.ex.trans s1) z)
  obtain ⟨c, q4⟩ := PX.chk (PX.bind q3)
  have c' : ys.length < 16777216 ∧ 0 ≤ j ∧ j < 9223372036854775808 := of_decide_eq_true c
  have s := s1.trans s2
  have at2 := at_.grow s
  have ej : vj = .int j := rj
  subst ej
  have hr2 := hr.mono (Fz.mono (ps := owA Γ σ ++ qs) s)
  refine ⟨l, vs, j, v, rfl, rfl, s _ _ hv, by rw [hr.len, sizeLine_eq]; exact c'.1, c'.2.1, by omega, ?_⟩
  exact k _ q4 _ _ (by rw [hΓ]; exact at2.mut h hl (((hr2.take _).app (RepL.one r1)).app (hr2.drop _)) ht)
/-- xs[i] = e -/
def setR (xs : List α) (j : Int) (y : α) : R (List α) := (R.ofO (ixN xs.length j)).bind fun k => .ok (xs.set k y)
theorem w_setix [PyT α] {ys : List α} {mj : R Int} {m1 : R α} {f : List α → R O} {Γ' : List α → List Sl} (fr : Fr X H0 B) (n : Nm X i x) (h : Γ[i]? = some (.ow ys)) (d : Ev X H0 qs true Γ e m1) (dj : Ev X H0 qs true Γ a mj) (k : ∀ zs, W X H0 qs rt nx A B (Γ' zs) rest (f zs)) (hΓ : ∀ zs, Γ' zs = Γ.set i (.ow zs) := by intro _; rfl) (ht : tmF Γ = true := by rfl)
    (he : m = m1.bind fun y => mj.bind fun j => (setR ys j y).bind f := by rfl)
    (ha : ∀ env v, assign (.Subscript (.Name x p1) a p2) env v = (do
      let ov ← holding [v] (eval (.Name x p1) env)
      let iv ← holding [v, ov] (eval a env)
      standAt p2
      holding [v, ov, iv] (setItem ov iv v)
      release [v, ov, iv] []) := by intro _ _; rfl) (hs : ∀ env, swapsWithSole [.Subscript (.Name x p1) a p2] e pos.line env = pure false := by intro _; rfl) (hw : ∀ env, swappedStores [.Subscript (.Name x p1) a p2] e env = pure none := by intro _; rfl)
    (h1 : ∀ env, (assignEach [.Subscript (.Name x p1) a p2] env).map (·.2) = [assign (.Subscript (.Name x p1) a p2) env] := by intro _; rfl) : W X H0 qs rt nx A B Γ (.Assign [.Subscript (.Name x p1) a p2] e pos :: rest) m := fun q σ H at_ => by
  subst he
  obtain ⟨E, pe, hx⟩ := fr.use
  refine cons_of (wS_of (ps_asg pe_w (pg_sub (pe_var n.hi n.vis n.hd n.hc) pe_w set_list (ha X.env)) (hs X.env) (hw X.env) (h1 X.env)) ?_)
  refine d σ H at_ E (pe σ) _ ((PX.bind q).mono (fun y q2 v H1 s1 r1 => ?_) fun c z => hx c H at_.ex z)
  obtain ⟨l, vs, hl, hm, hv, h0, hr⟩ := (at_.grow s1).ow h
  refine ⟨_, hl, ?_⟩
  refine dj σ H1 (at_.grow s1) E (pe σ) _ ((PX.bind q2).mono (fun j q3 vj H2 s2 rj => ?_) fun c z => hx c H1 (at_.ex.trans s1) z)
  have q4 := PX.bind (PX.bind q3)
  obtain ⟨kk, hk, q5⟩ := PX.ofO q4
  have at2 := at_.grow (s1.trans s2)
  have ej : vj = .int j := rj
  subst ej
  have hr2 := hr.mono (Fz.mono (ps := owA Γ σ ++ qs) s2)
  refine ⟨l, vs, j, kk, rfl, rfl, s2 _ _ hv, by rw [hr.len]; exact hk, ?_⟩
  exact k _ q5 _ _ (by rw [hΓ]; exact at2.mut h hl (hr2.set (PyT.mono (Fz.mono s2) r1)) ht)
/-! ### if -/
variable {sa sb : List Stmt}
/-- a branch that tells -/
theorem w_ifR {c : Expr} {mc : R Bool} {ma mr : R O} (fr : Fr X H0 B) (dc : EvT X H0 qs Γ c mc) (ha : ∀ nx', W X H0 qs rt nx' A B Γ sa ma) (hr : W X H0 qs rt nx A B Γ rest mr) (he : m = mc.bind fun t => if t = true then ma else mr := by rfl) : W X H0 qs rt nx A B Γ (.If c sa [] pos :: rest) m := fun q σ H at_ => by
  subst he
  obtain ⟨E, pe, hx⟩ := fr.use
  refine cons_of (wS_of (ps_if pt_w pss_w pss_nil) ?_)
  refine dc σ H at_ E (pe σ) _ ((PX.bind q).mono (fun t q2 H1 s1 => ?_) fun c z => hx c H at_.ex z)
  cases t with
  | true => exact ha _ q2 σ H1 (at_.grow s1)
  | false => exact hr q2 σ H1 (at_.grow s1)
/-- both branches go on -/
theorem w_ifJ {c : Expr} {mc : R Bool} {ma mb : R S} {f : S → R O} {Γs : S → List Sl} (fr : Fr X H0 B) (dc : EvT X H0 qs Γ c mc) (ha : ∀ N : S → Prop, W X H0 qs rt (Nx X H0 qs Γs N) N B Γ sa ma) (hb : ∀ N : S → Prop, W X H0 qs rt (Nx X H0 qs Γs N) N B Γ sb mb)
    (hr : ∀ s, W X H0 qs rt nx A B (Γs s) rest (f s)) (he : m = mc.bind fun t => (if t = true then ma else mb).bind f := by rfl) : W X H0 qs rt nx A B Γ (.If c sa sb pos :: rest) m := fun q σ H at_ => by
  subst he
  obtain ⟨E, pe, hx⟩ := fr.use
  refine cons_of (wS_of (ps_if pt_w pss_w pss_w) ?_)
  refine dc σ H at_ E (pe σ) _ ((PX.bind q).mono (fun t q2 H1 s1 => ?_) fun c z => hx c H at_.ex z)
  have go : ∀ {ss : List Stmt} {mm : R S}, W X H0 qs rt (Nx X H0 qs Γs (fun s => PX A B (f s))) (fun s => PX A B (f s)) B Γ ss mm → PX A B (mm.bind f) → wSs X ss { nx := wSs X rest { nx := nx, rt := rt }, rt := rt } σ H1 := fun {ss mm} w q3 =>
    wSs_mono (D := { nx := Nx X H0 qs Γs (fun s => PX A B (f s)), rt := rt }) (fun σ' H' ⟨s, hs, as⟩ => hr s hs σ' H' as) (fun _ _ z => z) (fun _ _ z => z) (fun _ _ z => z) (w (PX.bind q3) σ H1 (at_.grow s1))
  cases t with
  | true => exact go (ha _) q2
  | false => exact go (hb _) q2
/-- branches that go on or tell -/
theorem w_ifM {c : Expr} {mc : R Bool} {ma mb : R (Ct S O)} {f : S → R O} {Γs : S → List Sl} (fr : Fr X H0 B) (dc : EvT X H0 qs Γ c mc) (ha : ∀ N : S → Prop, W X H0 qs rt (Nx X H0 qs Γs N) (ctA N A) B Γ sa ma) (hb : ∀ N : S → Prop, W X H0 qs rt (Nx X H0 qs Γs N) (ctA N A) B Γ sb mb)
    (hr : ∀ s, W X H0 qs rt nx A B (Γs s) rest (f s)) (he : m = mc.bind fun t => (if t = true then ma else mb).ct f := by rfl) : W X H0 qs rt nx A B Γ (.If c sa sb pos :: rest) m := fun q σ H at_ => by
  subst he
  obtain ⟨E, pe, hx⟩ := fr.use
  refine cons_of (wS_of (ps_if pt_w pss_w pss_w) ?_)
  refine dc σ H at_ E (pe σ) _ ((PX.bind q).mono (fun t q2 H1 s1 => ?_) fun c z => hx c H at_.ex z)
  have go : ∀ {ss : List Stmt} {mm : R (Ct S O)}, W X H0 qs rt (Nx X H0 qs Γs (fun s => PX A B (f s))) (ctA (fun s => PX A B (f s)) A) B Γ ss mm → PX A B (mm.ct f) → wSs X ss { nx := wSs X rest { nx := nx, rt := rt }, rt := rt } σ H1 := fun {ss mm} w q3 =>
    wSs_mono (D := { nx := Nx X H0 qs Γs (fun s => PX A B (f s)), rt := rt }) (fun σ' H' ⟨s, hs, as⟩ => hr s hs σ' H' as) (fun _ _ z => z) (fun _ _ z => z) (fun _ _ z => z) (w ((PX.bind q3).mono (fun c k => by cases c <;> exact k) fun _ z => z) σ H1 (at_.grow s1))
  cases t with
  | true => exact go (ha _) q2
  | false => exact go (hb _) q2
/-! ### loops -/
theorem At.own0 {K : PySem.W.Frag} {H : Hp} {σ : L2.St} (a : At K H0 qs Γ σ H) {q : Addr} (hq : q ∈ owA Γ σ) : H0 q = none := by
  have go : ∀ {Γ : List Sl} {σ : L2.St} {F : Hp}, AllOk K F H H0 Γ σ → q ∈ owA Γ σ → H0 q = none := by
    intro Γ
    induction Γ with
    | nil => intro σ F _ h; cases h
    | cons t Γ ih =>
      intro σ F ok h
      cases σ with
      | nil =>
        rw [owA_nil] at h
        cases h
      | cons u σ =>
        rw [owA_cons] at h
        rcases List.mem_append.mp h with h | h
        · cases t with
          | ow xs =>
            obtain ⟨q', vs, e1, e2, e3, _⟩ := ok.1
            subst e1
            have e : q = q' := by simpa [own1] using h
            rw [e]; exact e3
          | dc xs =>
            obtain ⟨q', vs, e1, e2, e3, _⟩ := ok.1
            subst e1
            have e : q = q' := by simpa [own1] using h
            rw [e]; exact e3
          | di xs =>
            obtain ⟨q', vs, e1, e2, e3, _⟩ := ok.1
            subst e1
            have e : q = q' := by simpa [own1] using h
            rw [e]; exact e3
          | un => cases h
          | fr x => cases h
          | tm x => cases h
          | pm G x => cases h
          | jr pi c => cases h
          | nw ps x =>
            obtain ⟨v, e1, e2, e3⟩ := ok.1
            subst e1
            exact (e3 q h).2
          | jk n pi po c =>
            obtain ⟨v, e1, e2, e3, e4⟩ := ok.1
            subst e1
            exact (List.mem_append.mp (show q ∈ pi ++ po from h)).elim (fun z => (e3 q z).2) fun z => (e4 q z).2
          | ot rs xss =>
            obtain ⟨q', rs', e1, ep, e2, e3, e4⟩ := ok.1
            subst e1
            rcases List.mem_cons.mp (show q ∈ q' :: rs from h) with e | h
            · rw [e]; exact e3
            · exact (e4.mem (ep.mem_iff.mpr h)).2
        · exact ih ok.2 h
  exact go a.ok hq
/-- the heaps in which things were handed in -/
def pmG : List Sl → List Hp
  | [] => []
  | @Sl.pm _ _ G _ :: Γ => G :: pmG Γ
  | _ :: Γ => pmG Γ
theorem pmG_tail {s : Sl} {G : Hp} (h : G ∈ pmG Γ) : G ∈ pmG (s :: Γ) := by
  cases s <;> first | exact h | exact List.mem_cons_of_mem _ h
theorem AllOk.pms {K : PySem.W.Frag} {F H : Hp} : ∀ {Γ : List Sl} {σ : L2.St}, AllOk K F H H0 Γ σ → ∀ G ∈ pmG Γ, Same G H0
  | [], _, _, G, hG => by cases hG
  | s :: Γ, [], h, _, _ => h.elim
  | s :: Γ, o :: σ, h, G, hG => by
    have ih := AllOk.pms h.2 G
    cases s with
    | pm G' x =>
      rcases List.mem_cons.mp (show G ∈ G' :: pmG Γ from hG) with e | z
      · rw [e]
        obtain ⟨v, _, _, k⟩ := h.1
        exact k
      · exact ih z
    | _ => exact ih hG
theorem AllOk.base {K : PySem.W.Frag} {F H H1 : Hp} : ∀ {Γ : List Sl} {σ : L2.St}, AllOk K F H H0 Γ σ → (∀ q ∈ owA Γ σ, H1 q = none) → (∀ G ∈ pmG Γ, Same G H1) → AllOk K F H H1 Γ σ
  | [], [], _, _, _ => trivial
  | s :: Γ, o :: σ, h, hq, hG => by
    refine ⟨?_, AllOk.base h.2 (fun q z => hq q (by rw [owA_cons]; exact List.mem_append_right _ z)) fun G z => hG G (pmG_tail z)⟩
    have h1 := h.1
    cases s with
    | pm G x =>
      obtain ⟨v, e1, e2, e3⟩ := h1
      exact ⟨v, e1, e2, hG G List.mem_cons_self⟩
    | jr pi c => exact h1
    | nw ps x =>
      obtain ⟨v, e1, e2, e3⟩ := h1
      exact ⟨v, e1, e2, fun p hp => ⟨(e3 p hp).1, hq p (by rw [owA_cons]; exact List.mem_append_left _ hp)⟩⟩
    | jk n pi po c =>
      obtain ⟨v, e1, e2, e3, e4⟩ := h1
      exact ⟨v, e1, e2, fun p hp => ⟨(e3 p hp).1, hq p (by rw [owA_cons]; exact List.mem_append_left _ (List.mem_append_left _ hp))⟩, fun p hp => ⟨(e4 p hp).1, hq p (by rw [owA_cons]; exact List.mem_append_left _ (List.mem_append_right _ hp))⟩⟩
    | un => trivial
    | fr x => exact h1
    | ow xs =>
      obtain ⟨q, vs, e1, e2, e3, e4⟩ := h1
      subst e1
      exact ⟨q, vs, rfl, e2, hq q (by rw [owA_cons]; exact List.mem_append_left _ (by simp [own1])), e4⟩
    | dc xs =>
      obtain ⟨q, vs, e1, e2, e3, e4⟩ := h1
      subst e1
      exact ⟨q, vs, rfl, e2, hq q (by rw [owA_cons]; exact List.mem_append_left _ (by simp [own1])), e4⟩
    | di xs =>
      obtain ⟨q, vs, e1, e2, e3, e4⟩ := h1
      subst e1
      exact ⟨q, vs, rfl, e2, hq q (by rw [owA_cons]; exact List.mem_append_left _ (by simp [own1])), e4⟩
    | tm x => exact h1
    | ot rs xss =>
      obtain ⟨q, rs', e1, ep, e2, e3, e4⟩ := h1
      subst e1
      exact ⟨q, rs', rfl, ep, e2, hq q (by rw [owA_cons]; exact List.mem_append_left _ List.mem_cons_self), e4.base fun r hr => hq r (by rw [owA_cons]; exact List.mem_append_left _ (List.mem_cons_of_mem _ (ep.mem_iff.mp hr)))⟩
  | [], _ :: _, h, _, _ => h.elim
  | _ :: _, [], h, _, _ => h.elim
theorem At.rebase {K : PySem.W.Frag} {H : Hp} {σ : L2.St} (a : At K H0 qs Γ σ H) : At K (Fz H (owA Γ σ)) qs Γ σ H ∧ Same H0 (Fz H (owA Γ σ)) := by
  have sb : Same H0 (Fz H (owA Γ σ)) := fun b o e => Fz.some_iff.mpr ⟨fun z => (by rw [a.own0 z] at e; cases e), a.ex b o e⟩
  exact ⟨⟨Fz.out, a.ok.base (fun q hq => by unfold Fz; rw [if_pos hq]) fun G hG => (a.ok.pms G hG).trans sb, a.nd, a.sep, a.qd⟩, sb⟩
theorem At.unbase {K : PySem.W.Frag} {H H1 : Hp} {σ : L2.St} (a : At K H1 qs Γ σ H) (s : Same H0 H1) (hG : ∀ G ∈ pmG Γ, Same G H0) : At K H0 qs Γ σ H := ⟨s.trans a.ex, a.ok.base (fun q hq => s.free (a.own0 hq)) hG, a.nd, a.sep, a.qd⟩
abbrev FoldO (it : Expr) : Prop := ∀ env x, foldedSetIterable it env x = pure x
/-- for target in it: body, that only goes on -/
theorem w_for [PyT α] {tg it : Expr} {body : List Stmt} {mx : R (List α)} {bd : α → S → R S} {s0 : S} {f : S → R O} {Γs : S → List Sl} {Γb : α → S → List Sl} {is : List Nat} (hc : X.calm = true) (fr : Fr X H0 B) (hi : EvI X H0 qs true Γ tg it mx) (hg : ∀ y s, EvG X (Γs s) tg y (Γb y s) is)
    (hb : ∀ H1, Same H0 H1 → ∀ (N : S → Prop) y s, W X H1 qs rt (Nx X H1 qs Γs N) N B (Γb y s) body (bd y s)) (hr : ∀ s, W X H0 qs rt nx A B (Γs s) rest (f s)) (hΓ : Γ = Γs s0 := by rfl) (he : m = mx.bind fun xs => (forR bd xs s0).bind f := by rfl) (hs : FoldO it := by intro _ _; rfl) (hpm : ∀ s, pmG (Γs s) = pmG (Γs s0) := by intro s; first | rfl | (cases s <;> rfl)) :
    W X H0 qs rt nx A B Γ (.For tg it body [] pos :: rest) m := fun q σ H at_ => by
  subst he
  obtain ⟨E, pe, hx⟩ := fr.use
  refine cons_of (wS_of (ps_for (fr.po hc) hc pi_w pg_w pss_w (hs X.env)) ?_)
  refine hi σ H at_ E (pe σ) _ ((PX.bind q).mono (fun xs q2 J H1 s1 wk => ?_) fun c z => hx c H at_.ex z)
  have at1 := at_.grow s1
  obtain ⟨atb, sb⟩ := at1.rebase
  have frb := fr.up sb
  have hFb : Same (Fz H1 (av true Γ σ qs)) (Fz H1 (owA Γ σ)) := Fz.sub (Same.refl _) fun b hb => List.mem_append_left _ hb
  refine ⟨fun i mm σ' H' => mm = xs.length - i ∧ i ≤ xs.length ∧ ∃ s, At X.K (Fz H1 (owA Γ σ)) qs (Γs s) σ' H' ∧ PX (fun s' => PX A B (f s')) B (forR bd (xs.drop i) s), ⟨xs.length, by simp, Nat.zero_le _, s0, by rw [← hΓ]; exact atb, by rw [List.drop_zero]; exact PX.bind q2⟩, ?_⟩
  rintro i mm σ' H' ⟨rfl, hi', s, ats, hps⟩
  have sF : Same (Fz H1 (av true Γ σ qs)) H' := hFb.trans ats.ex
  by_cases hlt : i < xs.length
  · refine .inr ⟨wk.goes i H' hlt sF, Nx X (Fz H1 (owA Γ σ)) qs Γs (fun s' => PX (fun s2 => PX A B (f s2)) B (forR bd (xs.drop (i + 1)) s')), fun σ2 H2 ⟨s', hs', as'⟩ => ⟨xs.length - (i + 1), by omega, rfl, hlt, s', as', hs'⟩, fun v H2 hy => ?_⟩
    obtain ⟨s2, y, hy1, hy2⟩ := wk.yields i H' v H2 hlt sF hy
    have hdrop : xs.drop i = y :: xs.drop (i + 1) := by
      obtain ⟨h1, h2⟩ := List.getElem?_eq_some_iff.mp hy1
      rw [List.drop_eq_getElem_cons h1, h2]
    rw [hdrop] at hps
    have at2 := ats.grow s2
    refine hg y s _ qs σ' H2 v at2 (hy2 _ ?_ fun q hq => ats.av_hv hq) _ fun σ3 at3 _ _ _ => ?_
    · refine Fz.go fun b o hb hb2 => ?_
      have hbo : (Fz H1 (owA Γ σ)) b = some o := Fz.some_iff.mpr ⟨fun z => hb (List.mem_append_left _ z), hb2⟩
      refine ⟨fun z => ?_, ats.ex b o hbo⟩
      rcases List.mem_append.mp z with z | z
      · rw [ats.own0 z] at hbo; cases hbo
      · exact hb (List.mem_append_right _ z)
    · refine wSs_mono (D := { nx := _, rt := rt }) (fun _ _ z => z) (fun _ _ z => z) (fun _ _ z => False.elim z) (fun _ _ z => False.elim z) (hb _ sb _ y s ?_ σ3 H2 at3)
      exact PX.bind (show PX _ B ((bd y s).bind fun s' => forR bd (xs.drop (i + 1)) s') from hps)
  · have e : i = xs.length := by omega
    subst e
    refine .inl ⟨wk.stops H' sF, ?_⟩
    rw [List.drop_length] at hps
    exact hr s hps σ' H' (ats.unbase sb fun G hG => by rw [hpm, ← hΓ] at hG; exact at_.ok.pms G hG)
/-- .. that may tell -/
theorem w_forM [PyT α] {tg it : Expr} {body : List Stmt} {mx : R (List α)} {bd : α → S → R (Ct S O)} {s0 : S} {f : S → R O} {Γs : S → List Sl} {Γb : α → S → List Sl} {is : List Nat} (hc : X.calm = true) (fr : Fr X H0 B) (hi : EvI X H0 qs true Γ tg it mx) (hg : ∀ y s, EvG X (Γs s) tg y (Γb y s) is)
    (hb : ∀ H1, Same H0 H1 → ∀ (N : S → Prop) y s, W X H1 qs rt (Nx X H1 qs Γs N) (ctA N A) B (Γb y s) body (bd y s)) (hr : ∀ s, W X H0 qs rt nx A B (Γs s) rest (f s)) (hΓ : Γ = Γs s0 := by rfl) (he : m = mx.bind fun xs => (forM bd xs s0).ct f := by rfl) (hs : FoldO it := by intro _ _; rfl) (hpm : ∀ s, pmG (Γs s) = pmG (Γs s0) := by intro s; first | rfl | (cases s <;> rfl)) :
    W X H0 qs rt nx A B Γ (.For tg it body [] pos :: rest) m := fun q σ H at_ => by
  subst he
  obtain ⟨E, pe, hx⟩ := fr.use
  refine cons_of (wS_of (ps_for (fr.po hc) hc pi_w pg_w pss_w (hs X.env)) ?_)
  refine hi σ H at_ E (pe σ) _ ((PX.bind q).mono (fun xs q2 J H1 s1 wk => ?_) fun c z => hx c H at_.ex z)
  have at1 := at_.grow s1
  obtain ⟨atb, sb⟩ := at1.rebase
  have frb := fr.up sb
  have hFb : Same (Fz H1 (av true Γ σ qs)) (Fz H1 (owA Γ σ)) := Fz.sub (Same.refl _) fun b hb => List.mem_append_left _ hb
  let F : Ct S O → Prop := fun c => PX A B (Ct.by f .ok c)
  refine ⟨fun i mm σ' H' => mm = xs.length - i ∧ i ≤ xs.length ∧ ∃ s, At X.K (Fz H1 (owA Γ σ)) qs (Γs s) σ' H' ∧ PX F B (forM bd (xs.drop i) s), ⟨xs.length, by simp, Nat.zero_le _, s0, by rw [← hΓ]; exact atb, by rw [List.drop_zero]; exact PX.bind q2⟩, ?_⟩
  rintro i mm σ' H' ⟨rfl, hi', s, ats, hps⟩
  have sF : Same (Fz H1 (av true Γ σ qs)) H' := hFb.trans ats.ex
  by_cases hlt : i < xs.length
  · refine .inr ⟨wk.goes i H' hlt sF, Nx X (Fz H1 (owA Γ σ)) qs Γs (fun s' => PX F B (forM bd (xs.drop (i + 1)) s')), fun σ2 H2 ⟨s', hs', as'⟩ => ⟨xs.length - (i + 1), by omega, rfl, hlt, s', as', hs'⟩, fun v H2 hy => ?_⟩
    obtain ⟨s2, y, hy1, hy2⟩ := wk.yields i H' v H2 hlt sF hy
    have hdrop : xs.drop i = y :: xs.drop (i + 1) := by
      obtain ⟨h1, h2⟩ := List.getElem?_eq_some_iff.mp hy1
      rw [List.drop_eq_getElem_cons h1, h2]
    rw [hdrop] at hps
    have at2 := ats.grow s2
    refine hg y s _ qs σ' H2 v at2 (hy2 _ ?_ fun q hq => ats.av_hv hq) _ fun σ3 at3 _ _ _ => ?_
    · refine Fz.go fun b o hb hb2 => ?_
      have hbo : (Fz H1 (owA Γ σ)) b = some o := Fz.some_iff.mpr ⟨fun z => hb (List.mem_append_left _ z), hb2⟩
      refine ⟨fun z => ?_, ats.ex b o hbo⟩
      rcases List.mem_append.mp z with z | z
      · rw [ats.own0 z] at hbo; cases hbo
      · exact hb (List.mem_append_right _ z)
    · refine wSs_mono (D := { nx := _, rt := rt }) (fun _ _ z => z) (fun _ _ z => z) (fun _ _ z => False.elim z) (fun _ _ z => False.elim z) (hb _ sb _ y s ?_ σ3 H2 at3)
      refine (PX.bind (show PX F B ((bd y s).bind (Ct.by (fun s' => forM bd (xs.drop (i + 1)) s') fun o => .ok (.rt o))) from hps)).mono (fun c k => ?_) fun _ z => z
      cases c <;> exact k
  · have e : i = xs.length := by omega
    subst e
    refine .inl ⟨wk.stops H' sF, ?_⟩
    rw [List.drop_length] at hps
    exact hr s hps σ' H' (ats.unbase sb fun G hG => by rw [hpm, ← hΓ] at hG; exact at_.ok.pms G hG)
/-- while c: body -/
theorem w_while {c : Expr} {body : List Stmt} {tc : S → R Bool} {bd : S → R S} {n : Nat} {s0 : S} {f : S → R O} {Γs : S → List Sl} (hc : X.calm = true) (fr : Fr X H0 B) (hcc : ∀ s, EvT X H0 qs (Γs s) c (tc s)) (hb : ∀ (N : S → Prop) s, W X H0 qs rt (Nx X H0 qs Γs N) N B (Γs s) body (bd s))
    (hr : ∀ s, W X H0 qs rt nx A B (Γs s) rest (f s)) (hΓ : Γ = Γs s0 := by rfl) (he : m = (whileR tc bd n s0).bind f := by rfl) : W X H0 qs rt nx A B Γ (.While c body [] pos :: rest) m := fun q σ H at_ => by
  subst he
  obtain ⟨E, pe, hx⟩ := fr.use
  refine cons_of (wS_of (ps_while (fr.po hc) pt_w pss_w) ?_)
  refine ⟨fun mm σ' H' => ∃ s, At X.K H0 qs (Γs s) σ' H' ∧ PX (fun s' => PX A B (f s')) B (whileR tc bd mm s), ⟨n, s0, by rw [← hΓ]; exact at_, PX.bind q⟩, ?_⟩
  rintro mm σ' H' ⟨s, ats, hps⟩
  cases mm with
  | zero => exact (show False from hps).elim
  | succ mm =>
    have k := PX.bind (show PX _ B ((tc s).bind fun t => if t = true then (bd s).bind fun s' => whileR tc bd mm s' else .ok s) from hps)
    refine hcc s σ' H' ats E (pe σ') _ (k.mono (fun t kt H2 s2 => ?_) fun c z => hx c H' ats.ex z)
    cases t with
    | true =>
      rw [if_pos rfl]
      refine ⟨Nx X H0 qs Γs (fun s' => PX (fun s2 => PX A B (f s2)) B (whileR tc bd mm s')), fun σ2 H3 ⟨s', hs', as'⟩ => ⟨mm, Nat.lt_succ_self _, s', as', hs'⟩, ?_⟩
      refine wSs_mono (D := { nx := _, rt := rt }) (fun _ _ z => z) (fun _ _ z => z) (fun _ _ z => False.elim z) (fun _ _ z => False.elim z) (hb _ s ?_ σ' H2 (ats.grow s2))
      exact PX.bind (show PX _ B ((bd s).bind fun s' => whileR tc bd mm s') from kt)
    | false =>
      rw [if_neg Bool.false_ne_true]
      exact hr s (show PX A B (f s) from kt) σ' H2 (ats.grow s2)
/-! ### raise -/
/-- an error class of the text -/
structure Xn (X : Cx) (c : Exc) : Prop where
  gC : X.mg c.nm = some (.ref (He.ga X.K c.nm))
  xc : PySem.W.excIn X.K (He.ga X.K c.nm) He.veBase "ValueError.__new__" = true
  kp : PySem.W.keepIn X.K (.ref (He.ga X.K c.nm)) = true
  sb : PySem.W.subIn X.K (.ref (He.ga X.K c.nm)) (.type "BaseException") = some true
  ty : PySem.W.typeIn X.K (.ref (He.ga X.K c.nm)) = some (.type "type")
theorem w_raise {y : Str} {j : Nat} (c : Exc) (hc : X.calm = true) (fr : Fr X H0 B) (xn : Xn X c) (g : Gn X c.nm) (he : m = .exc c := by rfl) : W X H0 qs rt nx A B Γ (.Raise (some (.Call (.Name c.nm p1) [.Constant (.str y) j p2] [] p3)) none pos :: rest) m := fun q σ H at_ => by
  subst he
  obtain ⟨E, tk, hx⟩ := fr.ex
  refine cons_of (wS_of (ps_raise hc tk (pmk_own PySem.F.excBase_ValueError xn.xc xn.gC xn.kp (raises_own xn.sb xn.ty) g.gl g.hd)) ?_)
  exact hx c q H at_.ex
end
end Wk
set_option Elab.async false
set_option linter.all false
set_option maxRecDepth 100000
/-! Wk9: defs by their bodies, the law's end. -/
namespace Wk
open PySem PySem.Spec PyProof.Rows L2
/-- what a body is walked in -/
structure Cb (fe : List Fe) (fa : List He.Fa) (fn : List He.DefD) (X : Cx) (N : List Str) (sc : Scope) (k : Nat) : Prop where
  hX : XOk X N sc
  rm : Room k X.A
  fc : Fac fe fa fn X.K X.mg
  kd : X.env.scope.kind = .function
  fnt : ∀ x, X.fn x = true
  sk : X.stack = X.env :: X.outer
  ff : X.env.frame = some X.env.locals
section
variable {fe : List Fe} {fa : List He.Fa} {fn : List He.DefD} {X : Cx} {N : List Str} {sc : Scope} {k : Nat}
theorem Cb.hu (c : Cb fe fa fn X N sc k) : X.A.units + 64 < cLine := c.rm.units
theorem Cb.xn (c : Cb fe fa fn X N sc k) (e : Exc) (i j : Nat) (h : fa[i]? = some (.glo e.nm) := by rfl) (h2 : fa[j]? = some (.exc e.nm) := by rfl) : Xn X e := by
  obtain ⟨h1, h2, h3, h4⟩ := He.exc_ok (c.fc.s.d.fact j h2)
  exact ⟨c.fc.glo i h, h1, h2, h3, h4⟩
end
/-- a def that keeps its promise -/
structure Gd (P : Program) (w : World) (K : PySem.W.Frag) (mg : Str → Option Value) (base : Heap) (x : Str) (sp : Sp) (n k : Nat) : Prop where
  ex : ∃ (f : Addr) (fd : FuncData) (ps : List Str), FnOk P w K mg base (L2.CX P w) k f fd ps sp ∧ mg x = some (.ref f) ∧ PySem.W.keepIn K (.ref f) = true ∧ Binds K fd ps [] ∧ ps.length = n
theorem Gd.dn {X : Cx} {x : Str} {sp : Sp} {n j k : Nat} (g : Gd X.prog X.w X.K X.mg X.base x sp n j) (r : Room k X.A) (h : j ≤ k := by decide) : Dn X x sp n := by
  obtain ⟨f, fd, ps, F, h1, h2, h3, h4⟩ := g.ex
  exact ⟨j, f, fd, ps, F, r.mono h, h1, h2, h3, h4⟩
/-! ### slots at the entry -/
def NoO (Γ : List Sl) : Prop := ∀ s ∈ Γ, ∀ o, own1 s o = []
theorem NoO.nil {Γ : List Sl} (h : NoO Γ) : ∀ σ : L2.St, owA Γ σ = [] := by
  induction Γ with
  | nil => intro σ; rfl
  | cons s Γ ih =>
    intro σ
    cases σ with
    | nil => rfl
    | cons o σ =>
      rw [owA_cons, h s List.mem_cons_self, ih (fun t ht => h t (List.mem_cons_of_mem _ ht))] <;> rfl
class PyS (τ : Type) extends PyA τ where
  sl : τ → List Sl
  sok : ∀ {K : PySem.W.Frag} {F H H0 : Hp} {vs : List V} {x : τ}, reps K F vs x → AllOk K F H H0 (sl x) (vs.map some)
  sno : ∀ x : τ, NoO (sl x)
instance : PyS Unit where
  sl := fun _ => []
  sok := fun {K F H H0 vs x} h => by
    have e : vs = [] := h
    subst e
    trivial
  sno := fun _ s hs => by cases hs
instance {α τ : Type} [PyT α] [PyS τ] : PyS (α × τ) where
  sl := fun x => .fr x.1 :: PyS.sl x.2
  sok := fun {K F H H0 vs x} h => by
    obtain ⟨v, ws, e, h1, h2⟩ := h
    subst e
    exact ⟨⟨v, rfl, h1⟩, PyS.sok h2⟩
  sno := fun x s hs o => by
    rcases List.mem_cons.mp hs with e | hs
    · subst e; rfl
    · exact PyS.sno x.2 s hs o
theorem AllOk.app {K : PySem.W.Frag} {F H H0 : Hp} : ∀ {Γ Γ' : List Sl} {σ σ' : L2.St}, AllOk K F H H0 Γ σ → AllOk K F H H0 Γ' σ' → AllOk K F H H0 (Γ ++ Γ') (σ ++ σ')
  | [], _, [], _, _, h => h
  | s :: Γ, _, o :: σ, _, h, h2 => ⟨h.1, AllOk.app h.2 h2⟩
  | [], _, _ :: _, _, h, _ => h.elim
  | _ :: _, _, [], _, h, _ => h.elim
theorem AllOk.uns {K : PySem.W.Frag} {F H H0 : Hp} : ∀ n : Nat, AllOk K F H H0 (List.replicate n .un) (List.replicate n none)
  | 0 => trivial
  | n + 1 => ⟨trivial, AllOk.uns n⟩
theorem at_start {K : PySem.W.Frag} {H : Hp} {qs : List Addr} {τ : Type} [PyS τ] {x : τ} {vs : List V} {N : List Str} {n : Nat} (hn : vs.length = n) (r : PyA.reps K (Fz H qs) vs x) (hq : ∀ q ∈ qs, Hv H q) : At K H qs (PyS.sl x ++ List.replicate (N.length - n) .un) (L2.start N vs) H := by
  have no : NoO (PyS.sl x ++ List.replicate (N.length - n) .un) := fun s hs o => by
    rcases List.mem_append.mp hs with h | h
    · exact PyS.sno x s h o
    · rw [(List.mem_replicate.mp h).2] <;> rfl
  have e : owA (PyS.sl x ++ List.replicate (N.length - n) .un) (L2.start N vs) = [] := no.nil _
  refine ⟨Same.refl H, ?_, by rw [e]; exact List.nodup_nil, (by rw [e]; intro p hp; cases hp), hq⟩
  rw [e]
  unfold L2.start
  rw [hn]
  exact (PyS.sok (show PyA.reps K (Fz H ([] ++ qs)) vs x from r)).app (AllOk.uns _)
/-! ### a def by its body -/
section
variable {fe : List Fe} {fa : List He.Fa} {fn : List He.DefD} {P : Program} {w : World} {K : PySem.W.Frag} {mg : Str → Option Value} {base : Heap} {x qual : Str} {params : Arguments} {body : List Stmt} {scope : Scope} {f : Addr} {fd : FuncData} {N ps : List Str} {n k : Nat} {τ ρ : Type}
theorem cb_of {cdv : Value} {A : Around} {outer : List Env} {s : Shared} {H : Hp} {E : XK} (S : FnScope N ps scope) (fc : Fac fe fa fn K mg) (hr : Room k (A.deeper (envOfC qual scope s.heap.objs.size f cdv))) :
    Cb fe fa fn (cxOf (L2.CX P w) P w K mg base N qual scope f cdv A outer s H E) N scope k :=
  ⟨⟨⟨rfl, rfl, S.nd⟩, rfl⟩, hr, fc, S.kind, fun _ => rfl, rfl, rfl⟩
theorem fr_of {cdv : Value} {A : Around} {outer : List Env} {s : Shared} {H : Hp} {E : XK} (S : FnScope N ps scope) : Fr (cxOf (L2.CX P w) P w K mg base N qual scope f cdv A outer s H E) H (fun c => ∀ H', Same H H' → E (.ref (He.ga K c.nm)) none H') :=
  ⟨⟨E, takes_of rfl rfl rfl rfl, fun c h H' s' => h H' s'⟩, fun _ => passes_of rfl⟩
/-- one that tells what isn't changed -/
theorem fn_F [PyS τ] [PyT ρ] {m : τ → R ρ} (F : FunD K x qual params body scope [] [] f fd) (S : FnScope N ps scope) (fc : Fac fe fa fn K mg) (hl : ps.length = n)
    (hb : ∀ (X : Cx), X.prog = P → X.w = w → X.K = K → X.mg = mg → X.base = base → Cb fe fa fn X N scope k → ∀ (H0 : Hp) (qs : List Addr) (rt : VK) (A : ρ → Prop) (B : Exc → Prop), Fr X H0 B → RtF X H0 qs rt A → ∀ t : τ, W X H0 qs rt (fun _ H => rt .non H) A B (PyS.sl t ++ List.replicate (N.length - n) .un) body (m t)) :
    FnOk P w K mg base (L2.CX P w) (k + 1) f fd ps (spF K n m) := by
  refine F.ok S (fun vs H Q E ⟨_, _, h, _⟩ => h.trans hl.symm) fun cdv A outer s H vs Q E hr ⟨qs, t, h1, h2, h3, h4⟩ => ⟨_, pss_w, ?_⟩
  exact hb _ rfl rfl rfl rfl rfl (cb_of S fc hr) H qs Q (fun r => ∀ v H', Same H H' → rep K (Fz H' qs) v r → Q v H') _ (fr_of S) (fun r a => a) t h4 _ H (at_start h1 h3 h2)
/-- .. a new list -/
theorem fn_O [PyS τ] [PyT ρ] {m : τ → R (List ρ)} (F : FunD K x qual params body scope [] [] f fd) (S : FnScope N ps scope) (fc : Fac fe fa fn K mg) (hl : ps.length = n)
    (hb : ∀ (X : Cx), X.prog = P → X.w = w → X.K = K → X.mg = mg → X.base = base → Cb fe fa fn X N scope k → ∀ (H0 : Hp) (qs : List Addr) (rt : VK) (A : List ρ → Prop) (B : Exc → Prop), Fr X H0 B → RtO X H0 qs rt A → ∀ t : τ, W X H0 qs rt (fun _ H => rt .non H) A B (PyS.sl t ++ List.replicate (N.length - n) .un) body (m t)) :
    FnOk P w K mg base (L2.CX P w) (k + 1) f fd ps (spO K n m) := by
  refine F.ok S (fun vs H Q E ⟨_, _, h, _⟩ => h.trans hl.symm) fun cdv A outer s H vs Q E hr ⟨qs, t, h1, h2, h3, h4⟩ => ⟨_, pss_w, ?_⟩
  exact hb _ rfl rfl rfl rfl rfl (cb_of S fc hr) H qs Q (fun r => ∀ p vs H', Same H H' → H p = none → H' p = some (.lst vs) → RepL K (Fz H' (p :: qs)) vs r → Q (.ref p) H') _ (fr_of S) (fun r a => a) t h4 _ H (at_start h1 h3 h2)
abbrev BindE (d : He.DefD) (ps : List Str) : Prop := ∀ (kV doc pm : Value) (an : Option Addr) (cdv ct : Value) (us : List Value), us.length = ps.length → bindArgs (PySem.W.fnOf d.name d.qual d.params d.body d.scope .none kV doc pm an cdv ct) ⟨us, []⟩ = pure (ps.zip us)
theorem gd_F [PyS τ] [PyT ρ] {m : τ → R ρ} {d : He.DefD} (i j : Nat) (fc : Fac fe fa fn K mg) (hi : fn[i]? = some d) (hj : fa[j]? = some (.glo x)) (S : FnScope N ps d.scope) (hl : ps.length = n) (bn : BindE d ps)
    (hb : ∀ (X : Cx), X.prog = P → X.w = w → X.K = K → X.mg = mg → X.base = base → Cb fe fa fn X N d.scope k → ∀ (H0 : Hp) (qs : List Addr) (rt : VK) (A : ρ → Prop) (B : Exc → Prop), Fr X H0 B → RtF X H0 qs rt A → ∀ t : τ, W X H0 qs rt (fun _ H => rt .non H) A B (PyS.sl t ++ List.replicate (N.length - n) .un) d.body (m t))
    (e1 : d.at_ = (x, none) := by rfl) (e2 : d.dfl = [] := by rfl) (e3 : d.kwd = [] := by rfl) : Gd P w K mg base x (spF K n m) n (k + 1) := by
  obtain ⟨fd, F⟩ := fc.s.d.def_ i hi
  have F' : FunD K d.name d.qual d.params d.body d.scope [] [] (He.fAd K d.at_) fd := by
    have q1 : d.dvs K = [] := by unfold He.DefD.dvs; rw [e2] <;> rfl
    have q2 : d.kws K = [] := by unfold He.DefD.kws; rw [e3] <;> rfl
    rw [q1, q2] at F
    exact F
  refine ⟨_, fd, ps, fn_F F' S fc hl hb, ?_, F'.kp, F'.bindsN bn, hl⟩
  rw [e1]
  exact fc.glo j hj
theorem gd_O [PyS τ] [PyT ρ] {m : τ → R (List ρ)} {d : He.DefD} (i j : Nat) (fc : Fac fe fa fn K mg) (hi : fn[i]? = some d) (hj : fa[j]? = some (.glo x)) (S : FnScope N ps d.scope) (hl : ps.length = n) (bn : BindE d ps)
    (hb : ∀ (X : Cx), X.prog = P → X.w = w → X.K = K → X.mg = mg → X.base = base → Cb fe fa fn X N d.scope k → ∀ (H0 : Hp) (qs : List Addr) (rt : VK) (A : List ρ → Prop) (B : Exc → Prop), Fr X H0 B → RtO X H0 qs rt A → ∀ t : τ, W X H0 qs rt (fun _ H => rt .non H) A B (PyS.sl t ++ List.replicate (N.length - n) .un) d.body (m t))
    (e1 : d.at_ = (x, none) := by rfl) (e2 : d.dfl = [] := by rfl) (e3 : d.kwd = [] := by rfl) : Gd P w K mg base x (spO K n m) n (k + 1) := by
  obtain ⟨fd, F⟩ := fc.s.d.def_ i hi
  have F' : FunD K d.name d.qual d.params d.body d.scope [] [] (He.fAd K d.at_) fd := by
    have q1 : d.dvs K = [] := by unfold He.DefD.dvs; rw [e2] <;> rfl
    have q2 : d.kws K = [] := by unfold He.DefD.kws; rw [e3] <;> rfl
    rw [q1, q2] at F
    exact F
  refine ⟨_, fd, ps, fn_O F' S fc hl hb, ?_, F'.kp, F'.bindsN bn, hl⟩
  rw [e1]
  exact fc.glo j hj
/-- the law's end -/
theorem end_of {l : PySem.W.OpenLaw} {q : Program} {loose : List Str} {XP : (Str → Option Value) → Heap → Prop} {d : DefRec} {x : Str} {dd : He.DefD} {hd : Nat} {m : Scr × Unit → R Bool}
    (hn : l.most = some 63) (hdf : d.params.defaults = []) (hdn : d.name = "law") (hr : Room (k + 1) callerA) (i j : Nat) (hi : fn[i]? = some dd) (hj : fa[j]? = some (.glo "law")) (S : FnScope N [x] dd.scope) (bn : BindE dd [x])
    (hb : ∀ (w : World) (X : Cx), X.prog = l.prog → X.w = w → Cb fe fa fn X N dd.scope k → ∀ (H0 : Hp) (qs : List Addr) (rt : VK) (A : Bool → Prop) (B : Exc → Prop), Fr X H0 B → RtF X H0 qs rt A → ∀ t : Scr × Unit, W X H0 qs rt (fun _ H => rt .non H) A B (PyS.sl t ++ List.replicate (N.length - 1) .un) dd.body (m t))
    (hm : ∀ ns : List Int, ns.length ≤ 63 → (∀ z ∈ ns, Builtin.Int.intBits z ≤ 1048576) → m (⟨ns⟩, ()) = .ok true)
    (e1 : dd.at_ = (("law" : Str), none) := by rfl) (e2 : dd.dfl = [] := by rfl) (e3 : dd.kwd = [] := by rfl) :
    PySem.W.WalkO q loose XP (fun _ h => ∃ K : PySem.W.Frag, K.In h ∧ Says fe fa fn K) l.row.toRowW d [] (fun f vs => PySem.call f vs) := by
  refine Att.attach_callB hn hdf fun w s₀ s₁ mg mb f0 o pm cd doc a vs ns G Y ho hd hcd hmg hobj hints hlen hbits hg => ?_
  obtain ⟨K, KX, c⟩ := Y
  have fc : Fac fe fa fn K mg := ⟨⟨_, KX, G.T.g⟩, c⟩
  obtain ⟨fd, F⟩ := c.d.def_ i hi
  have F' : FunD K dd.name dd.qual dd.params dd.body dd.scope [] [] (He.fAd K dd.at_) fd := by
    have q1 : dd.dvs K = [] := by unfold He.DefD.dvs; rw [e2] <;> rfl
    have q2 : dd.kws K = [] := by unfold He.DefD.kws; rw [e3] <;> rfl
    rw [q1, q2] at F
    exact F
  have ef : f0 = He.fAd K dd.at_ := by
    rw [hdn] at hmg
    have h2 := fc.glo j hj
    rw [hmg] at h2
    cases h2
    rw [e1] <;> rfl
  subst ef
  refine law_call (sp := spF K 1 m) KX G.T.g G.T.b G.T.builtins G.T.nolimit hg hobj hints (Nat.le_trans hlen (by decide)) hr
    (fun base _ _ => fn_F F' S fc rfl fun X h1 h2 _ _ _ C => hb w X h1 h2 C) (fun s u => FunD.bindsA (ps := [x]) F' bn s [u] rfl) (fun H hO hS => ?_) fun H e s' h => ?_
  · refine ⟨[], (⟨ns⟩, ()), rfl, (fun q hq => by cases hq), ⟨_, _, rfl, ⟨a, rfl, ?_⟩, rfl⟩, ?_⟩
    · rw [Fz.nil]; exact hS
    · rw [hm ns hlen hbits]
      intro v H' _ hv
      exact hv
  · obtain ⟨a', B, H', cls, d', _, _, _, _, _, _, _, z⟩ := h
    exact z
end
end Wk
set_option Elab.async false
set_option linter.all false
set_option maxRecDepth 100000
/-! Wk10: try .. except. -/
namespace Wk
open PySem PySem.Spec PyProof.Rows L2
/-! ### the error that a suite holds -/
structure ExV where
  a : Addr
instance : PyT ExV where
  rep := fun _ _ v x => v = .ref x.a
  mono := fun _ h => h
/-- isinstance(e, (c1, ..)), e the exception that the suite holds -/
def rIsET (K : PySem.W.Frag) (D a : Addr) : List V → Hp → VK → Prop := fun xs H Q => ∃ (tp : Addr) (cs : List V) (us : List Value) (b : Bool), xs = [.ref a, .ref tp] ∧ H tp = some (.tup cs) ∧ Paired ClsV cs us ∧ PySem.W.kitAny K (.ref D) us = some b ∧ Q (.bl b) H
theorem call_isET {X : Cx} {a D : Addr} {oe : Obj} {pn : List (Addr × Obj)} (C : ExcC X.K D) (hz : Zc (.ref D) none oe) (hf : ∃ vs, oe.data = .fields vs) : CallR (X.suite a ((a, oe) :: pn)) (.builtin "isinstance") (rIsET X.K D a) := by
  intro pins s σ H xs us Q I r h
  obtain ⟨tp, cs, ws, b, rfl, hT, k, e, q⟩ := h
  cases r with
  | cons rx rr =>
    cases rr with
    | cons rt rr =>
      cases rr
      cases rx
      cases rt
      obtain ⟨hget, _⟩ := I.pin (a, oe) (List.mem_append.mpr (.inl List.mem_cons_self))
      obtain ⟨vs, hv⟩ := hf
      have J : PySem.W.InstAt s.heap a oe D none := by
        obtain ⟨oc, od, oda, osl⟩ := oe
        obtain ⟨h1, h2⟩ := hz
        dsimp only at h1 h2 hv
        subst h1 h2 hv
        exact ⟨hget, rfl, rfl, trivial⟩
      obtain ⟨_, its, rv, o, h1, h2, n, h3⟩ := (show ObjOk X.prog X.w H s.heap tp (.tup cs) from I.hok tp _ hT)
      have e3 := ClsV.all k rv
      subst e3
      obtain ⟨oc, od, dt, sl⟩ := o
      simp only at h2 h3
      subst h2 h3
      exact PySem.W.kia_tup (PySem.W.handS_kitx_exc C.hg C.hk C.hs C.hd C.ha C.hn C.ht C.hm) I.kIn J h1 e (fun z => nomatch z) fun tk => ⟨.bl b, H, I.kept (t' := tk) fun _ _ z => z, rfl, q⟩
/-- an except suite within X, for an error of the class c at a -/
structure Su (X X' : Cx) (a : Addr) (c : Exc) : Prop where
  K : X'.K = X.K
  mg : X'.mg = X.mg
  N : X'.N = X.N
  env : X'.env = X.env
  fn : X'.fn = X.fn
  A : X'.A.units = X.A.units
  fr : ∀ H0, Fr X' H0 (fun _ => False)
  is1 : ExcC X.K (He.ga X.K c.nm) → CallR X' (.builtin "isinstance") (rIsE X.K (He.ga X.K c.nm) a)
  isT : ExcC X.K (He.ga X.K c.nm) → CallR X' (.builtin "isinstance") (rIsET X.K (He.ga X.K c.nm) a)
theorem Su.hX {X X' : Cx} {a : Addr} {c : Exc} {N : List Str} {sc : Scope} (u : Su X X' a c) (h : XN X N sc) : XN X' N sc := ⟨u.N.trans h.hN, by rw [u.env]; exact h.hs, by rw [u.N]; exact h.nd⟩
/-- a try's body within X -/
structure Tri (X X' : Cx) : Prop where
  prog : X'.prog = X.prog
  w : X'.w = X.w
  K : X'.K = X.K
  mg : X'.mg = X.mg
  base : X'.base = X.base
  A : X'.A = X.A
  N : X'.N = X.N
  env : X'.env = X.env
  calm : X'.calm = X.calm
  fn : X'.fn = X.fn
  st : X'.stack = X.stack
  ou : X'.outer = X.outer
theorem Tri.sk {X X' : Cx} (u : Tri X X') (h : X.stack = X.env :: X.outer) : X'.stack = X'.env :: X'.outer := by rw [u.st, u.env, u.ou]; exact h
theorem Tri.ff {X X' : Cx} (u : Tri X X') (h : X.env.frame = some X.env.locals) : X'.env.frame = some X'.env.locals := by rw [u.env]; exact h
theorem Tri.hX {X X' : Cx} {N : List Str} {sc : Scope} (u : Tri X X') (h : XOk X N sc) : XOk X' N sc := ⟨⟨u.N.trans h.hN, by rw [u.env]; exact h.hs, by rw [u.N]; exact h.nd⟩, u.calm.trans h.calm⟩
theorem Tri.dn {X X' : Cx} {x : Str} {sp : Sp} {n : Nat} (b : Tri X X') (D : Dn X x sp n) : Dn X' x sp n := by
  obtain ⟨k, f, fd, ps, F, h1, h2, h3, h4, h5⟩ := D.ex
  refine ⟨k, f, fd, ps, ?_, by rw [b.A]; exact h1, by rw [b.mg]; exact h2, by rw [b.K]; exact h3, by rw [b.K]; exact h4, h5⟩
  rw [b.prog, b.w, b.K, b.mg, b.base]
  exact F
theorem Tri.none {X X' : Cx} {x : Str} (b : Tri X X') (h : X.mg x = Option.none) : X'.mg x = Option.none := by rw [b.mg]; exact h
theorem Tri.hu {X X' : Cx} (b : Tri X X') (h : X.A.units + 64 < cLine) : X'.A.units + 64 < cLine := by rw [b.A]; exact h
/-! ### a try's body: one statement, in branches -/
def TB (X : Cx) (H0 : Hp) (qs : List Addr) (Γ : List Sl) (body : List Stmt) {S : Type} (Γs : S → List Sl) (m : R S) : Prop :=
  ∀ σ H, At X.K H0 qs Γ σ H → ∀ E : XK, Pas X σ E → ∀ D : Ends, PX (fun s => ∀ σ' H', At X.K H0 qs (Γs s) σ' H' → D.nx σ' H') (XW X E H) m → wSs X body D σ H
section
variable {X : Cx} {H0 : Hp} {qs : List Addr} {rt : VK} {nx : L2.St → Hp → Prop} {O : Type} {A : O → Prop} {B : Exc → Prop} {Γ : List Sl} {rest : List Stmt} {e a b : Expr} {pos p p1 p2 p3 : Pos} {x n : Str} {i : Nat} {α S : Type}
theorem tb_expr [PyT α] {Γs : S → List Sl} {m1 : R α} {m : R S} {g : S} (d : Ev X H0 qs true Γ e m1) (hΓ : Γs g = Γ := by rfl) (he : m = m1.bind fun _ => .ok g := by rfl)
    (hs : ∀ env, swapsWith e none pos.line env = pure false := by intro _; rfl) : TB X H0 qs Γ [.Expr e pos] Γs m := fun σ H at_ E pe D q => by
  subst he
  refine wSs_cons (wS_of (ps_expr pe_w (hs X.env)) ?_)
  refine d σ H at_ E pe _ ((PX.bind q).mono (fun y q2 v H1 s1 r1 => ?_) fun c z => z)
  exact wSs_of pss_nil (q2 _ H1 (by rw [hΓ]; exact at_.grow s1))
/-! ### try -/
def R.tryR {S : Type} (m : R S) (h : Exc → R S) : R S := match m with
  | .ok s => .ok s
  | .exc c => h c
  | .stuck => .stuck
theorem PX.tryR {S : Type} {A : S → Prop} {B : Exc → Prop} {m : R S} {h : Exc → R S} (q : PX A B (m.tryR h)) : PX A (fun c => PX A B (h c)) m := by
  cases m with
  | ok a => exact q
  | exc c => exact q
  | stuck => exact q
/-- what is done at an error -/
def Hdl (X : Cx) (H0 : Hp) (qs : List Addr) (rt : VK) (Γ : List Sl) (suite : List Stmt) (cv : Value) (i : Nat) {S : Type} (Γs : S → List Sl) (c : Exc) (m : R S) : Prop :=
  PySem.W.exmOne X.K (.ref (He.ga X.K c.nm)) cv = some true ∧ ∀ (X' : Cx) (a : Addr), Su X X' a c → ∀ (H1 : Hp), Same H0 H1 → ∀ N : S → Prop, W X' H1 qs rt (Nx X' H1 qs Γs N) N (fun _ => False) (Γ.set i (.fr (ExV.mk a))) suite m
theorem w_try {x : Str} {np pos' : Pos} {body suite : List Stmt} {b0 : Stmt} {cv : Value} {Γs : S → List Sl} {mb : R S} {h : Exc → R S} {f : S → R O} {m : R O} (hcm : X.calm = true) (fr : Fr X H0 B) (sk : X.stack = X.env :: X.outer) (ff : X.env.frame = some X.env.locals) (l : Lc X i n) (hln : X.env.scope.names.lookup n = some .local)
    (hc : Names X x cv) (hb : ∀ X', Tri X X' → TB X' H0 qs Γ body Γs mb) (hh : ∀ c, h c = .stuck ∨ ∃ mm, h c = R.sure mm ∧ Hdl X H0 qs rt Γ (b0 :: suite) cv i Γs c mm) (hr : ∀ s, W X H0 qs rt nx A B (Γs s) rest (f s))
    (hu : ∀ s, (Γs s).set i .un = Γs s := by intro s; rfl) (he : m = (mb.tryR h).bind f := by rfl) (hpm : ∀ s, pmG (Γs s) = pmG Γ := by intro s; first | rfl | (cases s <;> rfl)) : W X H0 qs rt nx A B Γ (.Try body [.ExceptHandler (some (.Name x np)) (some n) (b0 :: suite) pos'] [] [] pos :: rest) m := fun q σ H at_ => by
  subst he
  obtain ⟨E, tk, hx⟩ := fr.ex
  refine cons_of (wS_of (ps_try_as (tb := fun W D σ H => ∀ (pn : List (Addr × Obj)) (xe : Value → Shared → Prop), Takes (X.tr pn xe) W → wSs (X.tr pn xe) body D σ H)
    (ts := fun a cls d D σ H => ∀ (oe : Obj) (pn : List (Addr × Obj)), Zc cls d oe → (∃ vs, oe.data = .fields vs) → wSs (X.suite a ((a, oe) :: pn)) (b0 :: suite) D σ H)
    sk ff l.nd l.hi hln hc tk (fun W pn xe htk hpo => ⟨fun pins s σ H D I h => h pn xe htk pins s I⟩) (fun a oe cls d pn hz hf => ⟨fun pins s σ H D I h => h oe pn hz hf pins s I⟩)) ?_)
  intro pn xe htk
  have q1 := PX.tryR (PX.bind q)
  refine hb (X.tr pn xe) ⟨rfl, rfl, rfl, rfl, rfl, rfl, rfl, rfl, rfl, rfl, rfl, rfl⟩ σ H at_ _ ⟨passAt htk σ, fun _ => ⟨_, htk, rfl⟩⟩ _ (q1.mono (fun s q2 σ' H' at' => hr s q2 σ' H' at') fun c q2 => ?_)
  intro H' sH
  rcases hh c with hst | ⟨mm, em, hex, hsu⟩
  · rw [hst] at q2
    exact (show False from q2).elim
  · refine ⟨true, hex, fun _ a na oe pn' hz hf => ?_, fun z => by cases z⟩
    have at' := at_.grow sH
    obtain ⟨atb, sb⟩ := at'.rebase
    have su : Su X (X.suite a ((a, oe) :: pn')) a c := ⟨rfl, rfl, rfl, rfl, rfl, rfl, fun H0 => ⟨⟨fun _ _ _ => False, takes0, fun c z => z.elim⟩, fun z => by cases z⟩, fun C => call_isE C hz hf, fun C => call_isET C hz hf⟩
    have at2 : At X.K (Fz H' (owA Γ σ)) qs (Γ.set i (.fr (ExV.mk a))) (σ.set i (some (.ref a))) H' := atb.setFr (x := ExV.mk a) (v := .ref a) rfl
    refine wSs_mono (D := { nx := Nx (X.suite a ((a, oe) :: pn')) (Fz H' (owA Γ σ)) qs Γs (fun s => PX A B (f s)), rt := rt }) (fun σ' H2 ⟨s, hs, as⟩ => ?_) (fun _ _ z => z) (fun _ _ z => z.elim) (fun _ _ z => z.elim)
      (hsu _ a su (Fz H' (owA Γ σ)) sb (fun s => PX A B (f s)) (PX.sure (by rw [em] at q2; exact q2)) _ H' at2)
    have as' : At X.K (Fz H' (owA Γ σ)) qs (Γs s) σ' H2 := as
    have a3 := (as'.setUn (i := i) (o := none)).unbase sb fun G hG => by rw [hu, hpm] at hG; exact at_.ok.pms G hG
    rw [hu] at a3
    exact hr s hs _ _ a3
/-! ### isinstance of the error -/
variable {X X' : Cx} {a' : Addr} {c : Exc} {md : Bool} {T : Str} {es : List Expr} {m : R Bool}
theorem ev_isE {cv : V} {u : Value} {b : Bool} {pT : Pos} (su : Su X X' a' c) (C : ExcC X.K (He.ga X.K c.nm)) (g : Gn X' "isinstance") (hm : X.mg "isinstance" = none) (ne : Nm X' i n) (h : Γ[i]? = some (.fr (ExV.mk a'))) (hT : PE X' (.Name T pT) (tC cv)) (hcv : ∀ w, RelV cv w → w = u) (hk : PySem.W.kitOne X.K (.ref (He.ga X.K c.nm)) u = some b)
    (he : m = .ok b := by rfl) : Ev X' H0 qs md Γ (.Call (.Name "isinstance" p1) [.Name n p2, .Name T pT] [] pos) m := fun σ H at_ E pe Q q => by
  subst he
  have hm' : X'.mg "isinstance" = none := by rw [su.mg]; exact hm
  refine wE_of (pe_callB (su.is1 C) g.gl hm' (by decide +kernel) (pa_cons (pe_var ne.hi ne.vis ne.hd ne.hc) (pa_cons hT pa_nil (by rfl)) (by rfl)) (by decide) g.hd (by rfl) (by rfl)) ?_
  obtain ⟨v, h1, h2⟩ := at_.fr h
  have e : v = .ref a' := h2
  subst e
  exact ⟨_, h1, cv, u, b, rfl, hcv, hk, q _ H (Same.refl H) rfl⟩
theorem pe_own' {pT : Pos} {A' : Addr} (g : Gn X' T) (hm : X'.mg T = some (.ref A')) : PE X' (.Name T pT) (tC (.ref A')) := pe_glob g.gl hm rfl g.hd
theorem own_rel {A' : Addr} : ∀ w, RelV (.ref A') w → w = .ref A' := fun w h => h
theorem ty_rel {n : String} : ∀ w, RelV (.ty n) w → w = .type n := fun w h => h
end
end Wk
set_option Elab.async false
set_option linter.all false
set_option maxRecDepth 100000
/-! Wk11: further rules. -/
namespace Wk
open PySem PySem.Spec PyProof.Rows L2
section
variable {Γ : List Sl} {x y z : Str} {i j k : Nat}
theorem no1 (h : NoOw Γ i) : ∀ p ∈ [(x, i)], NoOw Γ p.2 := fun p hp => by
  rcases List.mem_cons.mp hp with e | hp
  · subst e; exact h
  · cases hp
theorem no2 (h : NoOw Γ i) (h2 : NoOw Γ j) : ∀ p ∈ [(x, i), (y, j)], NoOw Γ p.2 := fun p hp => by
  rcases List.mem_cons.mp hp with e | hp
  · subst e; exact h
  · exact no1 h2 p hp
end
section
variable {X : Cx} {H0 : Hp} {qs : List Addr} {rt : VK} {nx : L2.St → Hp → Prop} {O : Type} {A : O → Prop} {B : Exc → Prop} {Γ : List Sl} {rest : List Stmt} {m : R O} {e a b elt : Expr} {gs : List Comprehension} {scope : Scope} {pos p p1 p2 p3 : Pos} {x : Str} {i : Nat} {α β S : Type}
theorem sw_cell {l : Nat} {env : Env} (h : env.scope.names.lookup x = some .cell) : swapsWith (.ListComp elt gs scope pos) (some (.Name x p)) l env = pure false := by
  have e : (env.kindOf x == some .local) = false := by
    show (env.scope.names.lookup x == some .local) = false
    rw [h] <;> rfl
  show (pure (env.blockKind == .function && env.kindOf x == some .local && _ && _) : Sem Bool) = pure false
  rw [e, Bool.and_false] <;> rfl
/-- y = [..], y a cell -/
theorem w_asgK [PyT α] {m1 : R (List α)} {f : List α → R O} {Γ' : List α → List Sl} (fr : Fr X H0 B) (l : Lc X i x) (hc : X.env.scope.names.lookup x = some .cell) (d : EvO X H0 qs true Γ (.ListComp elt gs scope p1) m1) (k : ∀ y, W X H0 qs rt nx A B (Γ' y) rest (f y)) (hΓ : ∀ y, Γ' y = Γ.set i (.ow y) := by intro _; rfl) (he : m = m1.bind f := by rfl) :
    W X H0 qs rt nx A B Γ (.Assign [.Name x p] (.ListComp elt gs scope p1) pos :: rest) m := fun q σ H at_ => by
  subst he
  obtain ⟨E, pe, hx⟩ := fr.use
  refine cons_of (wS_of (ps_set l.nd l.hi l.loc pe_w (sw_cell hc) l.fn) ?_)
  refine d σ H at_ E (pe σ) _ ((PX.bind q).mono (fun y q2 p vs H1 s1 hn hl r1 => ?_) fun c z => hx c H at_.ex z)
  exact k y q2 _ H1 (by rw [hΓ]; exact at_.setOw s1 hn hl r1)
end
/-! ### min, max of a pair; sorted of pairs -/
section
open PySem.W (Holds HoldAll holds_int int_of_holds minOf maxOf)
variable {X : Cx}
def rMinP (K : PySem.W.Frag) : List V → Hp → VK → Prop := fun vs H Q => ∃ (p : Addr) (x y : Int), vs = [.ref p] ∧ SqT K H p [.int x, .int y] ∧ Q (.int (min x y)) H
def rMaxP (K : PySem.W.Frag) : List V → Hp → VK → Prop := fun vs H Q => ∃ (p : Addr) (x y : Int), vs = [.ref p] ∧ SqT K H p [.int x, .int y] ∧ Q (.int (max x y)) H
theorem minOf_two (x y : Int) : minOf x [y] = min x y := by
  show (if decide (y < x) = true then y else x) = min x y
  by_cases h : y < x
  · rw [decide_eq_true h, if_pos rfl]; omega
  · rw [decide_eq_false h, if_neg (by decide)]; omega
theorem maxOf_two (x y : Int) : maxOf x [y] = max x y := by
  show (if decide (x < y) = true then y else x) = max x y
  by_cases h : x < y
  · rw [decide_eq_true h, if_pos rfl]; omega
  · rw [decide_eq_false h, if_neg (by decide)]; omega
theorem cr_minP (hc : X.calm = true) (hu : X.A.units + 64 < cLine) : CallR X (.builtin "min") (rMinP X.K) := by
  intro pins s σ H vs us Q I r h
  obtain ⟨p, x, y, rfl, hs, q⟩ := h
  obtain ⟨its, rv, hl, _⟩ := I.tuple hs
  rw [Vals.ref1 r]
  obtain ⟨t, u, rfl⟩ := Vals.int2 rv
  have dp : PySem.W.Datum.depth Int ≤ 60 := by decide
  refine PySem.W.min_tuple_datum (α := Int) (x := x) (xs := [y]) (I.ok.hd hc) hl (.cons (holds_int x t) (.cons (holds_int y u) .nil)) (by omega) fun i v h' tk hi hv hk => ?_
  rw [minOf_two] at hv
  obtain ⟨t', rfl⟩ := int_of_holds hv
  exact ⟨.int _, H, I.kept hk, ⟨_, rfl⟩, q⟩
theorem cr_maxP (hc : X.calm = true) (hu : X.A.units + 64 < cLine) : CallR X (.builtin "max") (rMaxP X.K) := by
  intro pins s σ H vs us Q I r h
  obtain ⟨p, x, y, rfl, hs, q⟩ := h
  obtain ⟨its, rv, hl, _⟩ := I.tuple hs
  rw [Vals.ref1 r]
  obtain ⟨t, u, rfl⟩ := Vals.int2 rv
  have dp : PySem.W.Datum.depth Int ≤ 60 := by decide
  refine PySem.W.max_tuple_datum (α := Int) (x := x) (xs := [y]) (I.ok.hd hc) hl (.cons (holds_int x t) (.cons (holds_int y u) .nil)) (by omega) fun i v h' tk hi hv hk => ?_
  rw [maxOf_two] at hv
  obtain ⟨t', rfl⟩ := int_of_holds hv
  exact ⟨.int _, H, I.kept hk, ⟨_, rfl⟩, q⟩
variable {H0 : Hp} {qs : List Addr} {md ma : Bool} {Γ : List Sl} {a : Expr} {p pos : Pos}
theorem ev_minP {m1 : R (Int × Int)} {m : R Int} (hc : X.calm = true) (hu : X.A.units + 64 < cLine) (g : Gn X "min") (hm : X.mg "min" = none) (d : Ev X H0 qs ma Γ a m1) (he : m = m1.bind fun t => .ok (min t.1 t.2) := by rfl) (hs : St1 a := by intro _; rfl) : Ev X H0 qs md Γ (.Call (.Name "min" p) [a] [] pos) m :=
  ev_b1 (f := fun t : Int × Int => .ok (min t.1 t.2)) (cr_minP hc hu) (fun H y v Q B h k => by
    obtain ⟨q, w, u, rfl, h2, h3, h4⟩ := h
    have e1 : w = .int y.1 := h3
    have e2 : u = .int y.2 := h4
    subst e1 e2
    exact ⟨q, _, _, rfl, h2, k _ (fun _ => rfl) H (Same.refl H)⟩) g hm (by decide +kernel) (by decide) d he hs
theorem ev_maxP {m1 : R (Int × Int)} {m : R Int} (hc : X.calm = true) (hu : X.A.units + 64 < cLine) (g : Gn X "max") (hm : X.mg "max" = none) (d : Ev X H0 qs ma Γ a m1) (he : m = m1.bind fun t => .ok (max t.1 t.2) := by rfl) (hs : St1 a := by intro _; rfl) : Ev X H0 qs md Γ (.Call (.Name "max" p) [a] [] pos) m :=
  ev_b1 (f := fun t : Int × Int => .ok (max t.1 t.2)) (cr_maxP hc hu) (fun H y v Q B h k => by
    obtain ⟨q, w, u, rfl, h2, h3, h4⟩ := h
    have e1 : w = .int y.1 := h3
    have e2 : u = .int y.2 := h4
    subst e1 e2
    exact ⟨q, _, _, rfl, h2, k _ (fun _ => rfl) H (Same.refl H)⟩) g hm (by decide +kernel) (by decide) d he hs
/-! sorted of pairs -/
def lexLe (p q : Int × Int) : Bool := decide (p.1 < q.1 ∨ (p.1 = q.1 ∧ p.2 ≤ q.2))
def sortP (xs : List (Int × Int)) : List (Int × Int) := xs.mergeSort lexLe
theorem lexLe_tr (a b c : Int × Int) (h1 : lexLe a b = true) (h2 : lexLe b c = true) : lexLe a c = true := by
  have q1 := of_decide_eq_true h1
  have q2 := of_decide_eq_true h2
  exact decide_eq_true (by omega)
theorem lexLe_tot (a b : Int × Int) : (lexLe a b || lexLe b a) = true := by
  unfold lexLe
  rw [Bool.or_eq_true, decide_eq_true_eq, decide_eq_true_eq]
  omega
theorem lexLe_anti {a b : Int × Int} (h1 : lexLe a b = true) (h2 : lexLe b a = true) : a = b := by
  have q1 := of_decide_eq_true h1
  have q2 := of_decide_eq_true h2
  exact Prod.ext (by omega) (by omega)
theorem sortP_perm (xs : List (Int × Int)) : (sortP xs).Perm xs := List.mergeSort_perm xs _
theorem sortP_sorted (xs : List (Int × Int)) : (sortP xs).Pairwise (fun a b => lexLe a b = true) := List.pairwise_mergeSort lexLe_tr lexLe_tot xs
theorem sortP_is {xs ys : List (Int × Int)} (hp : ys.Perm xs) (hs : ys.Pairwise (fun a b => lexLe a b = true)) : ys = sortP xs :=
  (hp.trans (sortP_perm xs).symm).eq_of_pairwise (fun a b _ _ h1 h2 => lexLe_anti h1 h2) hs (sortP_sorted xs)
def rSortPP (K : PySem.W.Frag) : List V → Hp → VK → Prop := fun vs H Q => ∃ (a : Addr) (xs : List V) (k : V → Int × Int), vs = [V.ref a] ∧ SqL K H a xs ∧ (∀ x ∈ xs, ∃ t, x = V.ref t ∧ SqT K H t [.int (k x).1, .int (k x).2]) ∧
  ∀ ys p, SrtO.Srtd (ltP k) ys → SrtO.Stb (ltP k) ys xs → H p = none → Q (.ref p) (upd H p (.lst ys))
theorem cr_sortPP : CallR X (.builtin "sorted") (rSortPP X.K) := by
  intro pins s σ H vs us Q I r h
  obtain ⟨a, xs, k, rfl, hs, hx, q⟩ := h
  obtain ⟨its, rv, hl, hz⟩ := I.list hs
  obtain ⟨u, rfl, ru⟩ := vals1 r
  obtain rfl : u = Value.ref a := ru
  obtain ⟨e1, e2⟩ := refs_back rv fun x m => by
    obtain ⟨t, e, _⟩ := hx x m
    exact ⟨t, e⟩
  refine SrtO.sorted_pairsO (k := fun u => k (backV u)) hl.isList (by rw [← rv.length]; exact hz) (fun v hv => ?_) fun h' d out h1 h2 kp hd hn => ?_
  · obtain ⟨t, rfl⟩ := e2 v hv
    have hm : V.ref t ∈ xs := by rw [e1]; exact List.mem_map.mpr ⟨_, hv, rfl⟩
    obtain ⟨t', e, ht⟩ := hx _ hm
    cases e
    obtain ⟨its2, r2, ⟨o, ho, hc, n, hd⟩, _⟩ := I.tuple ht
    obtain ⟨u1, u2, rfl, ri, rj⟩ := vals2 r2
    obtain ⟨t1, rfl⟩ := ri
    obtain ⟨t2, rfl⟩ := rj
    exact ⟨t, o, t1, t2, n, rfl, ho, hc, hd⟩
  · have h3 : ∀ u ∈ out, ∃ a, u = Value.ref a := fun u hu => e2 u (h2.perm.mem_iff.mp hu)
    obtain ⟨n, hn⟩ := hn
    have hb : SrtO.Stb (ltP k) (out.map backV) xs := by
      rw [e1]
      exact SrtO.Stb.map (ltP_swo k) backV h2
    refine ⟨.ref d, upd H d (.lst (out.map backV)), I.laid (t' := s.toks) kp hd ⟨?_, out, n, vals_back h3, hn⟩, rfl, q _ d (SrtO.srtd_map h1) hb (I.hok.fresh hd)⟩
    rw [hb.len]
    exact hz
theorem repL_map {K : PySem.W.Frag} {F : Hp} {β : Type} [PyT β] {k : V → β} : ∀ {ys : List V}, (∀ y ∈ ys, rep K F y (k y)) → RepL K F ys (ys.map k)
  | [], _ => trivial
  | y :: ys, h => ⟨h y List.mem_cons_self, repL_map fun z hz => h z (List.mem_cons_of_mem _ hz)⟩
theorem repL_mem {K : PySem.W.Frag} {F : Hp} {β : Type} [PyT β] : ∀ {xs : List V} {ts : List β}, RepL K F xs ts → ∀ x ∈ xs, ∃ t : β, rep K F x t
  | [], [], _, x, hx => by cases hx
  | y :: xs, t :: ts, h, x, hx => by
    rcases List.mem_cons.mp hx with e | hx
    · subst e; exact ⟨t, h.1⟩
    · exact repL_mem h.2 x hx
  | [], _ :: _, h, _, _ => h.elim
  | _ :: _, [], h, _, _ => h.elim
theorem repL_eq {K : PySem.W.Frag} {F : Hp} {β : Type} [PyT β] {k : V → β} (u : ∀ x t, rep K F x t → k x = t) : ∀ {xs : List V} {ts : List β}, RepL K F xs ts → xs.map k = ts
  | [], [], _ => rfl
  | y :: xs, t :: ts, h => by rw [List.map_cons, u y t h.1, repL_eq u h.2]
  | [], _ :: _, h => h.elim
  | _ :: _, [], h => h.elim
open Classical in
noncomputable def keyOf (K : PySem.W.Frag) (H : Hp) (v : V) : Int × Int := if h : ∃ q : Int × Int, rep K H v q then Classical.choose h else (0, 0)
theorem pair_uniq {pins : List (Addr × Obj)} {σ : L2.St} {H : Hp} {s : Shared} (I : Inv X pins σ H s) {v : V} {t t' : Int × Int} (h : rep X.K H v t) (h' : rep X.K H v t') : t = t' := by
  obtain ⟨p, w, u, e1, h2, h3, h4⟩ := h
  obtain ⟨p', w', u', e1', h2', h3', h4'⟩ := h'
  have a1 : w = .int t.1 := h3
  have a2 : u = .int t.2 := h4
  have a3 : w' = .int t'.1 := h3'
  have a4 : u' = .int t'.2 := h4'
  subst a1 a2 a3 a4 e1
  cases e1'
  have e := I.tuple_inj h2 h2'
  injection e with e1 e2
  injection e2 with e2 _
  exact Prod.ext (V.int.inj e1) (V.int.inj e2)
def rSortTP (K : PySem.W.Frag) : List V → Hp → VK → Prop := fun vs H Q => ∃ (a : Addr) (xs : List V) (ts : List (Int × Int)), vs = [V.ref a] ∧ SqL K H a xs ∧ RepL K H xs ts ∧
  ∀ ys p, (∀ F, RepL K F xs ts → RepL K F ys (sortP ts)) → H p = none → Q (.ref p) (upd H p (.lst ys))
theorem cr_sortTP : CallR X (.builtin "sorted") (rSortTP X.K) := by
  intro pins s σ H vs us Q I r h
  obtain ⟨a, xs, ts, hv, hs, hr, q⟩ := h
  have ku : ∀ {F : Hp}, (∀ x t, rep X.K F x t → rep X.K H x t → keyOf X.K H x = t) := fun {F} x t _ ht => by
    unfold keyOf
    rw [dif_pos ⟨t, ht⟩]
    exact pair_uniq I (Classical.choose_spec (⟨t, ht⟩ : ∃ q : Int × Int, rep X.K H x q)) ht
  refine cr_sortPP pins s σ H vs us Q I r ⟨a, xs, keyOf X.K H, hv, hs, fun x hx => ?_, fun ys p h1 h2 hp => q ys p (fun F hF => ?_) hp⟩
  · obtain ⟨t, ht⟩ := repL_mem hr x hx
    rw [ku (F := H) x t ht ht]
    obtain ⟨p, w, u, e1, g2, g3, g4⟩ := ht
    have a1 : w = .int t.1 := g3
    have a2 : u = .int t.2 := g4
    subst a1 a2
    exact ⟨p, e1, g2⟩
  · have e0 : xs.map (keyOf X.K H) = ts := repL_eq (fun x t ht => ku (F := H) x t ht ht) hr
    have e : ys.map (keyOf X.K H) = sortP ts := sortP_is (by rw [← e0]; exact h2.perm.map _) (by
      refine List.pairwise_map.mpr (h1.imp fun {x y} hxy => ?_)
      have z := SrtO.lexB_no.mp hxy
      exact decide_eq_true (by omega))
    rw [← e]
    refine repL_map fun y hy => ?_
    have hy' : y ∈ xs := h2.perm.mem_iff.mp hy
    have go : ∀ {zs : List V} {us : List (Int × Int)}, RepL X.K F zs us → RepL X.K H zs us → y ∈ zs → rep X.K F y (keyOf X.K H y) := by
      intro zs
      induction zs with
      | nil => intro us _ _ h; cases h
      | cons z zs ih =>
        intro us g1 g2 h
        cases us with
        | nil => exact g1.elim
        | cons t us =>
          rcases List.mem_cons.mp h with e | h
          · subst e
            rw [ku (F := H) y t g2.1 g2.1]
            exact g1.1
          · exact ih g1.2 g2.2 h
    exact go hF hr hy'
theorem ev_sortP {m1 m : R (List (Int × Int))} (g : Gn X "sorted") (hm : X.mg "sorted" = none) (d : Ev X H0 qs md Γ a m1) (he : m = m1.bind fun xs => .ok (sortP xs) := by rfl) (hs : St1 a := by intro _; rfl) : EvO X H0 qs md Γ (.Call (.Name "sorted" p) [a] [] pos) m :=
  ev_bN (f := fun xs => .ok (sortP xs)) cr_sortTP (fun H ps y v Q B h k => by
    obtain ⟨q, ws, rfl, h2, h3⟩ := h
    refine ⟨q, ws, y, rfl, SqL.of (Fz.out _ _ h2), h3.mono Fz.out, fun ys p hp hn => ?_⟩
    exact k p _ _ (same_new hn) hn upd_same ((hp _ h3).mono (fz_new hn))) g hm (by decide +kernel) (by decide) d he hs
end
end Wk
set_option Elab.async false
set_option linter.all false
set_option maxRecDepth 100000
/-! Wk12: a, b = e. -/
namespace Wk
open PySem PySem.Spec PyProof.Rows L2
section
variable {X : Cx} {H0 : Hp} {qs : List Addr} {rt : VK} {nx : L2.St → Hp → Prop} {O : Type} {A : O → Prop} {B : Exc → Prop} {Γ : List Sl} {rest : List Stmt} {m : R O} {e a b elt : Expr} {pos p p1 p2 p3 : Pos} {x : Str} {i : Nat} {α β S : Type} {es : List Expr} {kk : Nat}
theorem w_asgT [PyT α] {m1 : R α} {f : α → R O} {Γ' : α → List Sl} {is : List Nat} (fr : Fr X H0 B) (d : Ev X H0 qs true Γ e m1) (g : ∀ y, EvG X Γ (.Tuple es kk p) y (Γ' y) is) (k : ∀ y, W X H0 qs rt nx A B (Γ' y) rest (f y)) (he : m = m1.bind f := by rfl)
    (hs : ∀ env, swapsWithSole [.Tuple es kk p] e pos.line env = pure false := by intro _; rfl) (hw : ∀ env, swappedStores [.Tuple es kk p] e env = pure none := by intro _; rfl)
    (h1 : ∀ env, (assignEach [.Tuple es kk p] env).map (·.2) = [assign (.Tuple es kk p) env] := by intro _; rfl) : W X H0 qs rt nx A B Γ (.Assign [.Tuple es kk p] e pos :: rest) m := fun q σ H at_ => by
  subst he
  obtain ⟨E, pe, hx⟩ := fr.use
  refine cons_of (wS_of (ps_asg pe_w pg_w (hs X.env) (hw X.env) (h1 X.env)) ?_)
  refine d σ H at_ E (pe σ) _ ((PX.bind q).mono (fun y q2 v H1 s1 r1 => ?_) fun c z => hx c H at_.ex z)
  have at1 := at_.grow s1
  exact g y H0 qs σ H1 v at1 (PyT.mono (Fz.sub (Same.refl _) fun _ z => z) r1) _ fun σ' at2 _ _ _ => k y q2 σ' H1 at2
/-! pairs, one before the other -/
variable {md ma mb : Bool} {mB : R Bool} {m1 m2 : R (Int × Int)}
def fuel : Nat := 10000000000000000000000000000000000000000
end
end Wk
set_option Elab.async false
set_option linter.all false
set_option maxRecDepth 100000
/-! Wk13: slices with a step, of the script; helpers for errors. -/
namespace Wk
open PySem PySem.Spec PyProof.Rows L2
theorem Su.some {X X' : Cx} {a : Addr} {c : Exc} {x : Str} {v : Value} (u : Su X X' a c) (h : X.mg x = Option.some v) : X'.mg x = Option.some v := by rw [u.mg]; exact h
theorem Su.none {X X' : Cx} {a : Addr} {c : Exc} {x : Str} (u : Su X X' a c) (h : X.mg x = Option.none) : X'.mg x = Option.none := by rw [u.mg]; exact h
theorem Tri.some {X X' : Cx} {x : Str} {v : Value} (u : Tri X X') (h : X.mg x = Option.some v) : X'.mg x = Option.some v := by rw [u.mg]; exact h
theorem Blk.dnF {X X' : Cx} {sc : Scope} {x : Str} {τ ρ : Type} [PyA τ] [PyT ρ] {n k : Nat} {f : τ → R ρ} (b : Blk X X' sc) (D : Dn X x (spF X.K n f) k) : Dn X' x (spF X'.K n f) k := by
  rw [b.K]
  exact b.dn D
theorem Tri.dnF {X X' : Cx} {x : Str} {τ ρ : Type} [PyA τ] [PyT ρ] {n k : Nat} {f : τ → R ρ} (b : Tri X X') (D : Dn X x (spF X.K n f) k) : Dn X' x (spF X'.K n f) k := by
  rw [b.K]
  exact b.dn D
end Wk
set_option Elab.async false
set_option linter.all false
set_option maxRecDepth 100000
/-! chains of two comparisons -/
set_option Elab.async false
set_option linter.all false
set_option maxRecDepth 100000
/-! Wk15: the outcomes' algebra, without a program in sight. -/
namespace Wk
open PySem PySem.Spec PyProof.Rows L2
section
variable {α β S O : Type}
theorem bind_ok (a : α) (f : α → R β) : (R.ok a).bind f = f a := rfl
theorem ite_t (a b : α) : (if true = true then a else b) = a := rfl
theorem ite_f (a b : α) : (if false = true then a else b) = b := rfl
theorem chk_ok {c : Bool} {a : α} (h : c = true) : R.chk c a = .ok a := by rw [h] <;> rfl
theorem divR_ok {x y : Int} (h : y ≠ 0) (h2 : y.natAbs.log2 < 9000) : divR x y = .ok (x.fdiv y) := chk_ok (decide_eq_true ⟨h, h2⟩)
theorem modR_ok {x y : Int} (h : y ≠ 0) : modR x y = .ok (x.fmod y) := chk_ok (decide_eq_true h)
theorem appR_ok {xs : List α} {y : α} (h : xs.length < 16777216) : appR xs y = .ok (xs ++ [y]) := chk_ok (decide_eq_true h)
theorem insR_ok {xs : List α} {y : α} {j : Int} (h : xs.length < 16777216) (h0 : 0 ≤ j) (h1 : j < 9223372036854775808) : insR xs j y = .ok (xs.take j.toNat ++ [y] ++ xs.drop j.toNat) := chk_ok (decide_eq_true ⟨h, h0, h1⟩)
theorem catR_ok {xs ys : List α} (h : xs.length + ys.length ≤ 16777216) : catR xs ys = .ok (xs ++ ys) := chk_ok (decide_eq_true h)
theorem rngR_ok {lo hi : Int} (h1 : -1000000000000000000 ≤ lo) (h2 : lo ≤ 1000000000000000000) (h3 : -1000000000000000000 ≤ hi) (h4 : hi ≤ 1000000000000000000) : rngR lo hi = .ok (rangeL lo hi) := chk_ok (decide_eq_true ⟨h1, h2, h3, h4⟩)
theorem atI_nat {xs : List α} {i : Nat} {x : α} (h : xs[i]? = some x) : atI xs (i : Int) = some x := by
  have hl : i < xs.length := (List.getElem?_eq_some_iff.mp h).1
  unfold atI ixN
  rw [if_pos (by omega), if_pos (by omega), Int.toNat_natCast]
  exact h
theorem ixR_nat {xs : List α} {i : Nat} {x : α} (h : xs[i]? = some x) : ixR xs (i : Int) = .ok x := by
  unfold ixR
  rw [atI_nat h] <;> rfl
theorem ixR_int {xs : List α} {i : Int} {x : α} (h0 : 0 ≤ i) (h : xs[i.toNat]? = some x) : ixR xs i = .ok x := by
  obtain ⟨k, rfl⟩ := Int.eq_ofNat_of_zero_le h0
  exact ixR_nat h
theorem mapGo_ok {g : α → R β} {f : α → β} : ∀ {xs : List α}, (∀ x ∈ xs, g x = .ok (f x)) → mapGo g xs = .ok (xs.map f)
  | [], _ => rfl
  | x :: xs, h => by
    have ih := mapGo_ok (xs := xs) fun y hy => h y (List.mem_cons_of_mem _ hy)
    show ((g x).sure.bind fun y => (mapGo g xs).bind fun ys => .ok (y :: ys)) = _
    rw [h x List.mem_cons_self, ih] <;> rfl
theorem mapR_ok {g : α → R β} {f : α → β} {xs : List α} (h : ∀ x ∈ xs, g x = .ok (f x)) (hl : xs.length ≤ 16777216) : mapR g xs = .ok (xs.map f) := by
  unfold mapR
  rw [if_pos hl]
  exact mapGo_ok h
theorem forR_ok {b : α → S → R S} {f : S → α → S} : ∀ {xs : List α} {s : S}, (∀ x ∈ xs, ∀ s, b x s = .ok (f s x)) → forR b xs s = .ok (xs.foldl f s)
  | [], _, _ => rfl
  | x :: xs, s, h => by
    show ((b x s).bind fun s' => forR b xs s') = _
    rw [h x List.mem_cons_self, bind_ok, List.foldl_cons]
    exact forR_ok fun y hy => h y (List.mem_cons_of_mem _ hy)
/-- a loop that keeps an invariant -/
theorem forR_inv {b : α → S → R S} (P : List α → S → Prop) : ∀ {xs ys : List α} {s : S}, P ys s → (∀ x zs s, (∃ r, xs = zs ++ x :: r) → P (ys ++ zs) s → ∃ s', b x s = .ok s' ∧ P (ys ++ zs ++ [x]) s') → ∃ s', forR b xs s = .ok s' ∧ P (ys ++ xs) s'
  | [], ys, s, h, _ => ⟨s, rfl, by rw [List.append_nil]; exact h⟩
  | x :: xs, ys, s, h, k => by
    obtain ⟨s1, e1, h1⟩ := k x [] s ⟨xs, rfl⟩ (by rw [List.append_nil]; exact h)
    rw [List.append_nil] at h1
    obtain ⟨s2, e2, h2⟩ := forR_inv P (xs := xs) (ys := ys ++ [x]) h1 fun z zs s ⟨r, hr⟩ hp => by
      have := k z (x :: zs) s ⟨r, by rw [hr]; rfl⟩ (by rw [List.append_assoc] at hp; exact hp)
      simpa [List.append_assoc] using this
    refine ⟨s2, ?_, by rw [List.append_assoc] at h2; exact h2⟩
    show ((b x s).bind fun s' => forR b xs s') = _
    rw [e1, bind_ok]
    exact e2
theorem pyEq_refl [PyQ α] (x : α) : pyEq x x = true := (pyEq_q x x).mpr rfl
theorem pyEq_dec [PyQ α] [DecidableEq α] (x y : α) : pyEq x y = decide (x = y) := by
  rw [Bool.eq_iff_iff, pyEq_q, decide_eq_true_eq]
theorem cutL_len (xs : List α) (lo hi : Option Int) : (cutL xs lo hi).length ≤ xs.length := by
  unfold cutL
  rw [List.length_take, List.length_drop]
  omega
theorem rangeL_nat (n : Nat) : rangeL 0 (n : Int) = (List.range n).map fun i : Nat => (i : Int) := by
  unfold rangeL
  rw [Int.sub_zero, Int.toNat_natCast]
  exact List.map_congr_left fun i _ => by omega
theorem mem_rangeL {lo hi i : Int} (h : i ∈ rangeL lo hi) : lo ≤ i ∧ i < hi := by
  unfold rangeL at h
  obtain ⟨k, hk, e⟩ := List.mem_map.mp h
  have := List.mem_range.mp hk
  omega
theorem fmod_bounds (x : Int) {y : Int} (h : 0 < y) : 0 ≤ x.fmod y ∧ x.fmod y < y := ⟨Int.fmod_nonneg_of_pos x h, Int.fmod_lt_of_pos x h⟩
theorem bits_of {x : Int} {m : Nat} (h : x.natAbs < 2 ^ m) : bits x ≤ m := PySem.intBits_le_iff.mpr h
end
end Wk
set_option Elab.async false
set_option linter.all false
set_option maxRecDepth 100000
/-! Wk16: tables of the def's own. -/
namespace Wk
open PySem PySem.Spec PyProof.Rows L2
theorem Rows.flat {K : PySem.W.Frag} {F F' H H0 : Hp} {γ : Type} [PyF γ] : ∀ {rs : List Addr} {xss : List (List γ)}, Rows K F H H0 rs xss → Rows K F' H H0 rs xss
  | [], [], _ => trivial
  | r :: rs, xs :: xss, ⟨⟨vs, h1, h2⟩, h3, h4⟩ => ⟨⟨vs, h1, h2.flat⟩, h3, Rows.flat h4⟩
  | [], _ :: _, h => h.elim
  | _ :: _, [], h => h.elim
/-- what is told of a new table -/
def TbK (K : PySem.W.Frag) (H : Hp) (Q : VK) {γ : Type} [PyF γ] (xss : List (List γ)) : Prop := ∀ p rs H', Same H H' → H p = none → (p :: rs).Nodup → H' p = some (.lst (rs.map V.ref)) → Rows K H' H' H rs xss → Q (.ref p) H'
section
variable {X : Cx} {H0 : Hp} {qs : List Addr} {md mi : Bool} {Γ : List Sl} {elt tg it : Expr} {pos : Pos} {α γ : Type} {scope : Scope} {own : List (Str × Nat)} {mx : R (List α)} {Γx : α → List Sl} {is : List Nat} {N : List Str} {sc : Scope}
theorem tab_core [PyT α] [PyF γ] {g : α → R (List γ)} {m : R (List (List γ))} (hX : XOk X N sc) (hi : EvI X H0 qs mi Γ tg it mx) (fl : mi = true ∨ ∀ {K : PySem.W.Frag} {F F' : Hp} {v : V} {x : α}, rep K F v x → rep K F' v x) (hno : ∀ p ∈ own, NoOw Γ p.2) (his : ∀ i ∈ is, i ∈ own.map (·.2))
    (hg : ∀ X', Blk X X' (relS scope sc) → ∀ x, EvG X' (wipeG Γ (own.map (·.2))) tg x (Γx x) is) (hel : ∀ X', Blk X X' (relS scope sc) → ∀ (D : Addr) (x : α), EvO X' H0 (D :: qs) true (Γx x) elt (g x))
    (he : m = mx.bind (mapR g)) :
    ∀ σ H, At X.K H0 qs Γ σ H → ∀ E : XK, Pas X σ E → ∀ Q : VK, PX (TbK X.K H Q) (XW X E H) m →
      tLc (wI X tg it) (bG X (relS scope X.env.scope) tg) tYes (bE X (relS scope X.env.scope) elt) (own.map (·.2)) σ H Q := by
  have hsc : X.env.scope = sc := hX.hs
  rw [← hsc] at hg hel
  intro σ H at_ E pe Q q
  subst he
  refine hi σ H at_ E pe _ ((PX.bind q).mono (fun xs q2 J H1 s1 wk D hD => ?_) fun _ z => z)
  unfold mapR at q2
  by_cases hlen : xs.length ≤ 16777216
  case neg => rw [if_neg hlen] at q2; exact (show False from q2).elim
  rw [if_pos hlen] at q2
  have at1 := at_.grow s1
  have hD0 : H D = none := s1.free hD
  let Pv : Nat → Hp → Prop := fun i H' => Same H1 H' ∧ ∃ rs yss, H' D = some (.lst (rs.map V.ref)) ∧ Rows X.K H' H' H rs yss ∧ (D :: rs).Nodup ∧ rs.length ≤ i ∧
    PX (fun zs => TbK X.K H Q (yss ++ zs)) (XW X E H) (mapGo g (xs.drop i))
  refine ⟨fun i m H' => m = xs.length - i ∧ i ≤ xs.length ∧ Pv i H', ⟨xs.length, by simp, Nat.zero_le _, same_new hD, [], [], upd_same, trivial, by simp, Nat.le_refl _, ?_⟩, ?_⟩
  · rw [List.drop_zero]
    exact q2.mono (fun zs k => k) fun _ z => z
  rintro i m H2 ⟨rfl, hi', s2, rs, yss, hacc, hrep, hnd, hal, hrest⟩
  have sF : Same (Fz H1 (av mi Γ σ qs)) H2 := fun b o z => s2 b o (Fz.out b o z)
  by_cases hlt : i < xs.length
  · refine .inr ⟨wk.goes i H2 hlt sF, Pv (i + 1), fun H' p' => ⟨xs.length - (i + 1), by omega, rfl, hlt, p'⟩, fun v H3 hy => ?_⟩
    obtain ⟨s3, x, hx, hxr⟩ := wk.yields i H2 v H3 hlt sF hy
    have hdrop : xs.drop i = x :: xs.drop (i + 1) := by
      obtain ⟨h1, h2⟩ := List.getElem?_eq_some_iff.mp hx
      rw [List.drop_eq_getElem_cons h1, h2]
    rw [hdrop] at hrest
    have hD3 : H3 D = some (.lst (rs.map V.ref)) := s3 _ _ hacc
    have at3 : At X.K H0 (D :: qs) Γ σ H3 := at1.addq (s2.trans s3) hD (Hv.lst hD3)
    have at3w := at3.wipe (own.map (·.2))
    have hown : owA (wipeG Γ (own.map (·.2))) (wipe σ (own.map (·.2))) = owA Γ σ := wipe_own fun v hv => by
      obtain ⟨p, hp, rfl⟩ := List.mem_map.mp hv
      exact hno p hp
    have hr3 : rep X.K (Fz H3 (owA (wipeG Γ (own.map (·.2))) (wipe σ (own.map (·.2))) ++ D :: qs)) v x := by
      rcases fl with fl | fl
      · subst fl
        refine hxr _ ?_ ?_
        · rw [hown]
          exact Fz.new s2 fun b hb => (List.mem_append.mp hb).elim (fun z => .inl (List.mem_append_left _ z)) fun z => (List.mem_cons.mp z).elim (fun q => .inr (by rw [q]; exact hD)) fun q => .inl (List.mem_append_right _ q)
        · rw [hown]
          intro q hq
          rcases List.mem_append.mp hq with z | z
          · exact (at1.grow s2).own_hv z
          · rcases List.mem_cons.mp z with z | z
            · rw [z]; exact Hv.lst hacc
            · exact (at1.grow s2).qd q z
      · exact fl (hxr [] (fun b o z => by rw [Fz.nil]; exact sF b o z) fun q hq => by cases hq)
    intro X' hB
    have hK : X'.K = X.K := hB.K
    refine hg X' hB x H0 (D :: qs) (wipe σ (own.map (·.2))) H3 v (by rw [hK]; exact at3w) (by rw [hK]; exact hr3) _ ?_
    intro σ4 at4 ho4 hl4 hk4
    refine ⟨?_, ?_⟩
    · refine wipe_ext (by rw [hl4, wipe_length]) fun j hj => ?_
      rw [hk4 j fun z => hj (his j z), wipe_out hj]
    have hq3 : PX _ _ ((g x).sure.bind fun y => (mapGo g (xs.drop (i + 1))).bind fun ys => .ok (y :: ys)) := hrest
    have hq4 := PX.sure (PX.bind hq3)
    show bE X _ elt σ4 H3 _
    intro X2 hB2
    have hK2 : X2.K = X.K := hB2.K
    refine hel X2 hB2 D x σ4 H3 (by rw [hK2, ← hK]; exact at4) E0 (hB2.pas σ4) _ (hq4.mono (fun ys k p vs H5 s5 hn hl hr => ?_) fun _ z => z.elim)
    rw [hK2] at hr
    have k2 := PX.bind k
    have sD5 : H5 D = some (.lst (rs.map V.ref)) := s5 _ _ hD3
    have pD : p ≠ D := fun z => by rw [z, hD3] at hn; cases hn
    have prs : p ∉ rs := fun z => by
      have := (hrep.grow (s3) s3).mem (p := p) z
      exact this.1 hn
    refine ⟨rs.map V.ref, sD5, by rw [sizeLine_eq, List.length_map]; omega, ?_⟩
    have e1 : rs.map V.ref ++ [V.ref p] = (rs ++ [p]).map V.ref := by rw [List.map_append] <;> rfl
    rw [e1]
    have hnd2 : (D :: (rs ++ [p])).Nodup := by
      obtain ⟨n1, n2⟩ := List.nodup_cons.mp hnd
      refine List.nodup_cons.mpr ⟨fun z => ?_, List.nodup_append.mpr ⟨n2, List.pairwise_singleton _ p, fun a ha b hb e => ?_⟩⟩
      · rcases List.mem_append.mp z with z | z
        · exact n1 z
        · exact pD (List.mem_singleton.mp z).symm
      · rw [List.mem_singleton.mp hb] at e
        exact prs (e ▸ ha)
    refine ⟨same_mut ((s2.trans s3).trans s5) hD, rs ++ [p], yss ++ [ys], upd_same, ?_, hnd2, by rw [List.length_append, List.length_singleton]; omega, k2.mono (fun zs k3 => by rw [List.append_assoc]; exact k3) fun _ z => z⟩
    have hp0 : H p = none := ((s1.trans s2).trans s3).free hn
    have hrows : Rows X.K H5 H5 H (rs ++ [p]) (yss ++ [ys]) := (hrep.grow (s3.trans s5) (s3.trans s5)).app hl hp0 hr.flat
    exact (hrows.flat (F' := upd H5 D (.lst ((rs ++ [p]).map V.ref)))).upd (Same.refl _) (List.nodup_cons.mp hnd2).1
  · have e : i = xs.length := by omega
    subst e
    refine .inl ⟨wk.stops H2 sF, ?_⟩
    rw [List.drop_length] at hrest
    have hrest2 : TbK X.K H Q (yss ++ []) := hrest
    rw [List.append_nil] at hrest2
    exact hrest2 D rs H2 (s1.trans s2) hD0 hnd hacc hrep
/-- y = [..], a table -/
def EvCt (X : Cx) (H0 : Hp) (qs : List Addr) (Γ : List Sl) [PyF γ] (e : Expr) (m : R (List (List γ))) : Prop :=
  ∀ (i : Nat) (y : Str) (py spos : Pos) (D : Ends) (σ : L2.St) (H : Hp), Lc X i y → X.env.scope.names.lookup y = some .local → (∀ l env, env.scope.kind = .function → env.scope.names.lookup y = some .local → swapsWith e (some (.Name y py)) l env = pure true) → X.env.scope.kind = .function →
    At X.K H0 qs Γ σ H → ∀ E : XK, Pas X σ E → PX (TbK X.K H fun v H' => D.nx (σ.set i (some v)) H') (XW X E H) m → wS X (.Assign [.Name y py] e spos) D σ H
theorem ect_map [PyT α] [PyF γ] {g : α → R (List γ)} {m : R (List (List γ))} (hX : XOk X N sc) (hi : EvI X H0 qs mi Γ tg it mx) (fl : mi = true ∨ ∀ {K : PySem.W.Frag} {F F' : Hp} {v : V} {x : α}, rep K F v x → rep K F' v x) (hb : blkC N sc scope own = true) (hno : ∀ p ∈ own, NoOw Γ p.2) (his : ∀ i ∈ is, i ∈ own.map (·.2))
    (hg : ∀ X', Blk X X' (relS scope sc) → ∀ x, EvG X' (wipeG Γ (own.map (·.2))) tg x (Γx x) is) (hel : ∀ X', Blk X X' (relS scope sc) → ∀ (D : Addr) (x : α), EvO X' H0 (D :: qs) true (Γx x) elt (g x))
    (he : m = mx.bind (mapR g) := by rfl) (hs : Fold it := by intro _ _; rfl) : EvCt X H0 qs Γ (.ListComp elt [⟨tg, it, [], 0⟩] scope pos) m := fun i y py spos D σ H l hl hsw hk at_ E pe q =>
  wS_of (ps_setLc hX.calm hX.nd l.hi hl (hsw _ _ hk hl) pi_w (blkOk_by (by rw [hX.hN, hX.hs]; exact hb)) (fun _ _ _ _ _ => pg_b) (fun _ _ _ _ _ => pts_nil) (fun _ _ _ _ _ => pe_b) (hs X.env))
    (tab_core hX hi fl hno his hg hel he σ H at_ E pe (fun v H1 => gName i v σ H1 D.nx) q)
end
/-! ### slots -/
section
variable {K : PySem.W.Frag} {H H' H0 : Hp} {qs : List Addr} {Γ : List Sl} {σ : L2.St}
theorem At.setOt {i : Nat} {γ : Type} [PyF γ] {rs : List Addr} {xss : List (List γ)} {p : Addr} (a : At K H0 qs Γ σ H) (e : Same H H') (hp : H p = none) (nd : (p :: rs).Nodup) (hp' : H' p = some (.lst (rs.map V.ref))) (h : Rows K H' H' H rs xss) :
    At K H0 qs (Γ.set i (.ot rs xss)) (σ.set i (some (.ref p))) H' := by
  have a' := a.grow e
  have fresh : ∀ q ∈ p :: rs, H q = none := fun q hq => by
    rcases List.mem_cons.mp hq with z | z
    · rw [z]; exact hp
    · exact (h.mem z).2
  have nO : ∀ q ∈ p :: rs, q ∉ owA Γ σ := fun q hq z => a.own_there z (fresh q hq)
  have nQ : ∀ q ∈ p :: rs, q ∉ qs := fun q hq z => (a.qd q z).ne (fresh q hq)
  have sub : ∀ b ∈ owA (Γ.set i (.ot rs xss)) (σ.set i (some (.ref p))), b ∈ p :: rs ∨ b ∈ owA Γ σ := fun b hb => owA_set_sub hb
  have e2 : Same (Fz H (owA Γ σ ++ qs)) (Fz H' (owA (Γ.set i (.ot rs xss)) (σ.set i (some (.ref p))) ++ qs)) := Fz.new e fun b hb => (List.mem_append.mp hb).elim
    (fun z => (sub b z).elim (fun q => .inr (fresh b q)) fun q => .inl (List.mem_append_left _ q)) fun z => .inl (List.mem_append_right _ z)
  refine ⟨a'.ex, (AllOk.grow e2 e a.ok).set (s := .ot rs xss) (o := some (.ref p)) ⟨p, rs, rfl, List.Perm.refl _, hp', a.ex.free hp, (h.flat (F' := _)).base fun r hr => a.ex.free (h.mem hr).2⟩, owA_set_nd (s := .ot rs xss) (o := some (.ref p)) nd (fun b hb => nO b hb) a.nd, fun b hb => (sub b hb).elim (nQ b) (a.sep b), a'.qd⟩
end
section
variable {X : Cx} {H0 : Hp} {qs : List Addr} {rt : VK} {nx : L2.St → Hp → Prop} {O : Type} {A : O → Prop} {B : Exc → Prop} {Γ : List Sl} {rest : List Stmt} {m : R O} {e a b : Expr} {pos p p1 p2 p3 : Pos} {x : Str} {i : Nat} {α β S : Type}
theorem w_asgCt [PyF α] {m1 : R (List (List α))} {f : List (List α) → R O} {Γ' : List Addr → List (List α) → List Sl} (fr : Fr X H0 B) (l : Lc X i x) (hl : X.env.scope.names.lookup x = some .local) (hk : X.env.scope.kind = .function) (d : EvCt X H0 qs Γ e m1) (k : ∀ rs y, W X H0 qs rt nx A B (Γ' rs y) rest (f y))
    (hΓ : ∀ rs y, Γ' rs y = Γ.set i (.ot rs y) := by intro _ _; rfl) (he : m = m1.bind f := by rfl)
    (hsw : ∀ l env, env.scope.kind = .function → env.scope.names.lookup x = some .local → swapsWith e (some (.Name x p)) l env = pure true := by intro _ _ h1 h2; exact sw_true h1 h2 rfl (by decide +kernel)) : W X H0 qs rt nx A B Γ (.Assign [.Name x p] e pos :: rest) m := fun q σ H at_ => by
  subst he
  obtain ⟨E, pe, hx⟩ := fr.use
  refine cons_of (d i x p pos _ σ H l hl hsw hk at_ E (pe σ) ((PX.bind q).mono (fun y q2 p rs H1 s1 hn nd hl r1 => ?_) fun c z => hx c H at_.ex z))
  exact k rs y q2 _ H1 (by rw [hΓ]; exact at_.setOt s1 hn nd hl r1)
/-- a table read -/
theorem ev_tab [PyF α] {rs : List Addr} {yss : List (List α)} {m : R (List (List α))} (n : Nm X i x) (h : Γ[i]? = some (.ot rs yss) := by rfl) (he : m = .ok yss := by rfl) : Ev X H0 qs false Γ (.Name x pos) m := by
  intro σ H at_ E pe Q q
  subst he
  obtain ⟨p, rs', k1, kp, k2, k3, k4, k5⟩ := at_.ot h
  refine wE_of (pe_var n.hi n.vis n.hd n.hc) ⟨_, k1, q _ H (Same.refl H) ⟨p, rs'.map V.ref, rfl, ?_, ?_⟩⟩
  · show Fz H [] p = _
    rw [Fz.nil]; exact k3
  · refine (k5.flat (F' := H)).rep _ (by show Same H (Fz H []); rw [Fz.nil]; exact Same.refl H) fun r hr o ho => ?_
    show Fz H [] r = _
    rw [Fz.nil]; exact ho
/-- t[a][b] = e -/
def rowR (xss : List (List α)) (j : Int) : R (Nat × List α) := R.ofO ((ixN xss.length j).bind fun k => (xss[k]?).map fun row => (k, row))
theorem w_setix2 [PyF α] {rs : List Addr} {yss : List (List α)} {ma mj : R Int} {m1 : R α} {f : List (List α) → R O} {Γ' : List (List α) → List Sl} (fr : Fr X H0 B) (n : Nm X i x) (h : Γ[i]? = some (.ot rs yss)) (d : Ev X H0 qs true Γ e m1) (da : Ev X H0 qs true Γ a ma) (dj : Ev X H0 qs true Γ b mj) (k : ∀ zs, W X H0 qs rt nx A B (Γ' zs) rest (f zs)) (hΓ : ∀ zs, Γ' zs = Γ.set i (.ot rs zs) := by intro _; rfl) (ht : tmF Γ = true := by rfl)
    (he : m = m1.bind fun y => ma.bind fun j1 => (rowR yss j1).bind fun kr => mj.bind fun j => (setR kr.2 j y).bind fun row => f (yss.set kr.1 row) := by rfl)
    (hpa : PlainIx a := by exact fun _ _ => rfl)
    (ha : ∀ env v, assign (.Subscript (.Subscript (.Name x p1) a p2) b p3) env v = (do
      let ov ← holding [v] (eval (.Subscript (.Name x p1) a p2) env)
      let iv ← holding [v, ov] (eval b env)
      standAt p3
      holding [v, ov, iv] (setItem ov iv v)
      release [v, ov, iv] []) := by intro _ _; rfl) (hs : ∀ env, swapsWithSole [.Subscript (.Subscript (.Name x p1) a p2) b p3] e pos.line env = pure false := by intro _; rfl) (hw : ∀ env, swappedStores [.Subscript (.Subscript (.Name x p1) a p2) b p3] e env = pure none := by intro _; rfl)
    (h1 : ∀ env, (assignEach [.Subscript (.Subscript (.Name x p1) a p2) b p3] env).map (·.2) = [assign (.Subscript (.Subscript (.Name x p1) a p2) b p3) env] := by intro _; rfl) : W X H0 qs rt nx A B Γ (.Assign [.Subscript (.Subscript (.Name x p1) a p2) b p3] e pos :: rest) m := fun q σ H at_ => by
  subst he
  obtain ⟨E, pe, hx⟩ := fr.use
  refine cons_of (wS_of (ps_asg pe_w (pg_sub (pe_ix ix_list (pe_var n.hi n.vis n.hd n.hc) pe_w hpa) pe_w set_list (ha X.env)) (hs X.env) (hw X.env) (h1 X.env)) ?_)
  refine d σ H at_ E (pe σ) _ ((PX.bind q).mono (fun y q2 v H1 s1 r1 => ?_) fun c z => hx c H at_.ex z)
  have at1 := at_.grow s1
  obtain ⟨l, rs', k1, kp, k2, k3, k4, k5⟩ := at1.ot h
  refine ⟨_, k1, ?_⟩
  refine da σ H1 at1 E (pe σ) _ ((PX.bind q2).mono (fun j1 q3 vj H2 s2 rj => ?_) fun c z => hx c H1 (at_.ex.trans s1) z)
  have e1 : vj = .int j1 := rj
  subst e1
  obtain ⟨kr, hkr, q4⟩ := PX.ofO (PX.bind q3)
  obtain ⟨kk, hk1, hk2⟩ := Option.bind_eq_some_iff.mp hkr
  obtain ⟨row, hrow, rfl⟩ := Option.map_eq_some_iff.mp hk2
  obtain ⟨r, vs, g1, g2, g3, g4⟩ := k5.get hrow
  have hat : atI (rs'.map V.ref) j1 = some (.ref r) := by
    unfold atI
    rw [List.length_map, k5.len, hk1, Option.bind_some, List.getElem?_map, g1] <;> rfl
  refine ⟨l, _, j1, .ref r, rfl, rfl, SqL.of (s2 _ _ k3), hat, ?_⟩
  refine dj σ H2 (at_.grow (s1.trans s2)) E (pe σ) _ ((PX.bind q4).mono (fun j q5 vi H3 s3 ri => ?_) fun c z => hx c H2 ((at_.ex.trans s1).trans s2) z)
  have e2 : vi = .int j := ri
  subst e2
  have q6 := PX.bind (PX.bind q5)
  obtain ⟨jj, hj, q7⟩ := PX.ofO q6
  have at3 := at_.grow ((s1.trans s2).trans s3)
  have g4' : RepL X.K (Fz H3 (owA Γ σ ++ qs)) vs row := g4.flat
  refine ⟨r, vs, j, jj, rfl, rfl, s3 _ _ (s2 _ _ g2), by rw [g4.len]; exact hj, ?_⟩
  exact k _ q7 _ _ (by rw [hΓ]; exact at3.mutT h k1 kp (s3 _ _ (s2 _ _ k3)) k4 ((k5.flat (F' := Fz H3 (owA Γ σ ++ qs))).grow (Same.refl _) (s2.trans s3)) g1 (g4'.set (PyF.flat r1)) ht)
end
end Wk
set_option Elab.async false
set_option linter.all false
set_option maxRecDepth 100000
/-! Wk17: bits. -/
namespace Wk
open PySem PySem.Spec PyProof.Rows L2
section
variable {X : Cx} {H0 : Hp} {qs : List Addr} {rt : VK} {nx : L2.St → Hp → Prop} {O : Type} {A : O → Prop} {B : Exc → Prop} {Γ : List Sl} {rest : List Stmt} {m : R O} {pos p : Pos} {x : Str} {i : Nat} {α : Type}
/-- return of a table of the def's own: a new list -/
theorem w_retTb [PyF α] {A' : List (List α) → Prop} {rs : List Addr} {yss : List (List α)} {g : List (List α) → O} (fr : Fr X H0 B) (hR : RtO X H0 qs rt A') (n : Nm X i x) (h : Γ[i]? = some (.ot rs yss)) (hg : ∀ x, A (g x) → A' x) (he : m = .ok (g yss)) : W X H0 qs rt nx A B Γ (.Return (some (.Name x p)) pos :: rest) m := fun q σ H at_ => by
  subst he
  obtain ⟨q', rs', k1, kp, k2, k3, k4, k5⟩ := at_.ot h
  have nd := at_.otNd h k1 kp
  refine cons_of (wS_of (ps_ret (pe_var n.hi n.vis n.hd n.hc)) ⟨_, k1, ?_⟩)
  refine hR yss (hg yss q) q' _ H at_.ex k4 k3 ((k5.flat (F' := Fz H (q' :: qs))).rep _ (Same.refl _) fun r hr o ho => Fz.some_iff.mpr ⟨fun z => ?_, ho⟩)
  rcases List.mem_cons.mp z with z | z
  · exact (List.nodup_cons.mp nd).1 (by rw [← z]; exact hr)
  · exact at_.sep r (k2 r (List.mem_cons_of_mem _ hr)) z
end
/-! ### list(range(..)) -/
end Wk
set_option Elab.async false
set_option linter.all false
set_option maxRecDepth 100000
/-! Wk19: rows of a table that change places; a row put behind and changed at once. -/
namespace Wk
open PySem PySem.Spec PyProof.Rows L2
def swapO {α : Type} (xss : List α) (j1 j2 : Int) : Option (List α) := (ixN xss.length j1).bind fun k1 => (ixN xss.length j2).bind fun k2 => (xss[k1]?).bind fun a => (xss[k2]?).map fun b => (xss.set k1 b).set k2 a
def swapR {α : Type} (xss : List α) (j1 j2 : Int) : R (List α) := R.ofO (swapO xss j1 j2)
theorem swap_perm {α : Type} : ∀ {xs : List α} {i j : Nat} {a b : α}, xs[i]? = some a → xs[j]? = some b → ((xs.set i b).set j a).Perm xs := by
  intro xs i j a b h1 h2
  obtain ⟨l1, e1⟩ := List.getElem?_eq_some_iff.mp h1
  obtain ⟨l2, e2⟩ := List.getElem?_eq_some_iff.mp h2
  subst e1 e2
  by_cases h : i = j
  · subst h
    rw [List.set_set]
    simp
  · exact List.set_set_perm l1 l2
theorem Rows.get' {K : PySem.W.Frag} {F H H0 : Hp} {α : Type} [PyT α] : ∀ {rs : List Addr} {xss : List (List α)} {i : Nat} {r : Addr}, Rows K F H H0 rs xss → rs[i]? = some r → ∃ xs vs, xss[i]? = some xs ∧ H r = some (.lst vs) ∧ RepL K F vs xs ∧ H0 r = none
  | [], _, i, r, _, e => by simp at e
  | r :: rs, [], i, _, h, _ => h.elim
  | r :: rs, xs :: xss, 0, r', ⟨⟨vs, h1, h2⟩, h3, h4⟩, e => by
    cases e
    exact ⟨xs, vs, rfl, h1, h2, h3⟩
  | r :: rs, xs :: xss, i + 1, r', ⟨_, _, h4⟩, e => Rows.get' (i := i) h4 e
theorem Rows.putx {K : PySem.W.Frag} {F H H0 : Hp} {α : Type} [PyT α] {r : Addr} {xs : List α} (q : (∃ vs, H r = some (.lst vs) ∧ RepL K F vs xs) ∧ H0 r = none) : ∀ {rs : List Addr} {xss : List (List α)} {i : Nat}, Rows K F H H0 rs xss → Rows K F H H0 (rs.set i r) (xss.set i xs)
  | [], [], _, _ => trivial
  | [], _ :: _, _, h => h.elim
  | _ :: _, [], _, h => h.elim
  | r' :: rs, ys :: xss, 0, ⟨h1, h3, h4⟩ => ⟨q.1, q.2, h4⟩
  | r' :: rs, ys :: xss, i + 1, ⟨h1, h3, h4⟩ => ⟨h1, h3, Rows.putx (i := i) q h4⟩
section
variable {X : Cx} {H0 : Hp} {qs : List Addr} {rt : VK} {nx : L2.St → Hp → Prop} {O : Type} {A : O → Prop} {B : Exc → Prop} {Γ : List Sl} {rest : List Stmt} {m : R O} {e e2 a b a2 b2 : Expr} {pos p p1 p2 p3 p4 p5 p6 p7 p8 p9 pos2 pos3 : Pos} {x y : Str} {i ik : Nat} {α β S : Type}
abbrev SubAsg (x : Str) (p1 : Pos) (a : Expr) (p2 : Pos) : Prop := ∀ env v, assign (.Subscript (.Name x p1) a p2) env v = (do
      let ov ← holding [v] (eval (.Name x p1) env)
      let iv ← holding [v, ov] (eval a env)
      standAt p2
      holding [v, ov, iv] (setItem ov iv v)
      release [v, ov, iv] [])
/-- kept = t[a]; t[a] = t[b]; t[b] = kept; a and b names -/
theorem w_swap3 [PyF α] {rs : List Addr} {yss : List (List α)} {ia ib : Nat} {an bn : Str} {pa pb pa2 pb2 : Pos} {j1 j2 : Int} {f : List (List α) → R O} {Γ' : List (List α) → List Sl} (fr : Fr X H0 B) (n : Nm X i x) (h : Γ[i]? = some (.ot rs yss)) (lk : Lc X ik y) (nk : Nm X ik y) (hk : Γ[ik]? = some .un)
    (na : Nm X ia an) (hia : Γ[ia]? = some (.fr j1)) (nb : Nm X ib bn) (hib : Γ[ib]? = some (.fr j2)) (k : ∀ zs, W X H0 qs rt nx A B (Γ' zs) rest (f zs)) (hΓ : ∀ zs, Γ' zs = Γ.set i (.ot rs zs) := by intro _; rfl) (ht : tmF Γ = true := by rfl)
    (he : m = (swapR yss j1 j2).bind f := by rfl)
    (hpa : PlainIx (.Name an pa) := by exact fun _ _ => rfl) (hpb : PlainIx (.Name bn pb) := by exact fun _ _ => rfl)
    (hs1 : ∀ env, swapsWith (.Subscript (.Name x p1) (.Name an pa) p2) (some (.Name y p3)) pos.line env = pure false := by intro _; rfl)
    (ha2 : SubAsg x p4 (.Name an pa2) p5 := by intro _ _; rfl) (ha3 : SubAsg x p8 (.Name bn pb2) p9 := by intro _ _; rfl)
    (hs2 : ∀ env, swapsWithSole [.Subscript (.Name x p4) (.Name an pa2) p5] (.Subscript (.Name x p6) (.Name bn pb) p7) pos2.line env = pure false := by intro _; rfl) (hw2 : ∀ env, swappedStores [.Subscript (.Name x p4) (.Name an pa2) p5] (.Subscript (.Name x p6) (.Name bn pb) p7) env = pure none := by intro _; rfl)
    (h2 : ∀ env, (assignEach [.Subscript (.Name x p4) (.Name an pa2) p5] env).map (·.2) = [assign (.Subscript (.Name x p4) (.Name an pa2) p5) env] := by intro _; rfl)
    (hs3 : ∀ env, swapsWithSole [.Subscript (.Name x p8) (.Name bn pb2) p9] (.Name y p) pos3.line env = pure false := by intro _; rfl) (hw3 : ∀ env, swappedStores [.Subscript (.Name x p8) (.Name bn pb2) p9] (.Name y p) env = pure none := by intro _; rfl)
    (h3 : ∀ env, (assignEach [.Subscript (.Name x p8) (.Name bn pb2) p9] env).map (·.2) = [assign (.Subscript (.Name x p8) (.Name bn pb2) p9) env] := by intro _; rfl) :
    W X H0 qs rt nx A B Γ (.Assign [.Name y p3] (.Subscript (.Name x p1) (.Name an pa) p2) pos :: .Assign [.Subscript (.Name x p4) (.Name an pa2) p5] (.Subscript (.Name x p6) (.Name bn pb) p7) pos2 :: .Assign [.Subscript (.Name x p8) (.Name bn pb2) p9] (.Name y p) pos3 :: rest) m := fun q σ H at_ => by
  subst he
  obtain ⟨E, pe, hx⟩ := fr.use
  obtain ⟨zs, hzs, q2⟩ := PX.ofO (PX.bind q)
  obtain ⟨k1, hk1, hz2⟩ := Option.bind_eq_some_iff.mp hzs
  obtain ⟨k2, hk2, hz3⟩ := Option.bind_eq_some_iff.mp hz2
  obtain ⟨u1, hu1, hz4⟩ := Option.bind_eq_some_iff.mp hz3
  obtain ⟨u2, hu2, rfl⟩ := Option.map_eq_some_iff.mp hz4
  have hik : ik ≠ i := fun z => by rw [z, h] at hk; cases hk
  have hka : ik ≠ ia := fun z => by rw [z, hia] at hk; cases hk
  have hkb : ik ≠ ib := fun z => by rw [z, hib] at hk; cases hk
  have eΓ : Γ.set ik .un = Γ := by
    obtain ⟨hl, e⟩ := List.getElem?_eq_some_iff.mp hk
    rw [← e]
    exact List.set_getElem_self hl
  obtain ⟨v1, w1, e1⟩ := at_.fr hia
  obtain ⟨v2, w2, e2⟩ := at_.fr hib
  have e1' : v1 = .int j1 := e1
  have e2' : v2 = .int j2 := e2
  subst e1' e2'
  obtain ⟨l, rs', g1, gp, g2, g3, g4, g5⟩ := at_.ot h
  obtain ⟨r, vs, d1, d2, d3, d4⟩ := g5.get hu1
  obtain ⟨r', vs', d1', d2', d3', d4'⟩ := g5.get hu2
  have at_r : ∀ {ws : List V} {j : Int} {kk : Nat} {w : V}, ws.length = yss.length → ixN yss.length j = some kk → ws[kk]? = some w → atI ws j = some w := fun hl hj hw => by
    unfold atI
    rw [hl, hj, Option.bind_some, hw]
  have len0 : (rs'.map V.ref).length = yss.length := by rw [List.length_map, g5.len]
  have hlen : ik < σ.length := by
    obtain ⟨hl, _⟩ := List.getElem?_eq_some_iff.mp hk
    rw [← at_.len]; exact hl
  have hσ : ∀ o, (σ.set ik o)[i]? = some (some (.ref l)) := fun o => by rw [List.getElem?_set_ne hik]; exact g1
  have hσa : ∀ o, (σ.set ik o)[ia]? = some (some (.int j1)) := fun o => by rw [List.getElem?_set_ne hka]; exact w1
  have hσb : ∀ o, (σ.set ik o)[ib]? = some (some (.int j2)) := fun o => by rw [List.getElem?_set_ne hkb]; exact w2
  have hσk : (σ.set ik (some (.ref r)))[ik]? = some (some (.ref r)) := by rw [List.getElem?_set_self hlen]
  have at1 : At X.K H0 qs Γ (σ.set ik (some (.ref r))) H := by
    have := at_.setUn (i := ik) (o := some (.ref r))
    rw [eΓ] at this
    exact this
  have ndl := at1.otNd h (hσ _) gp
  -- kept = t[a]
  refine cons_of (wS_of (ps_set lk.nd lk.hi lk.loc (pe_ix ix_list (pe_var n.hi n.vis n.hd n.hc) (pe_var na.hi na.vis na.hd na.hc) hpa) (hs1 X.env) lk.fn) ?_)
  refine ⟨_, g1, _, w1, l, _, j1, .ref r, rfl, rfl, SqL.of g3, at_r len0 hk1 (by rw [List.getElem?_map, d1] <;> rfl), ?_⟩
  -- t[a] = t[b]
  refine cons_of (wS_of (ps_asg (pe_ix ix_list (pe_var n.hi n.vis n.hd n.hc) (pe_var nb.hi nb.vis nb.hd nb.hc) hpb) (pg_sub (pe_var n.hi n.vis n.hd n.hc) (pe_var na.hi na.vis na.hd na.hc) set_list (ha2 X.env)) (hs2 X.env) (hw2 X.env) (h2 X.env)) ?_)
  refine ⟨_, hσ _, _, hσb _, l, _, j2, .ref r', rfl, rfl, SqL.of g3, at_r len0 hk2 (by rw [List.getElem?_map, d1'] <;> rfl), ?_⟩
  refine ⟨_, hσ _, _, hσa _, l, rs'.map V.ref, j1, k1, rfl, rfl, g3, by rw [len0]; exact hk1, ?_⟩
  -- t[b] = kept
  refine cons_of (wS_of (ps_asg (pe_var nk.hi nk.vis nk.hd nk.hc) (pg_sub (pe_var n.hi n.vis n.hd n.hc) (pe_var nb.hi nb.vis nb.hd nb.hc) set_list (ha3 X.env)) (hs3 X.env) (hw3 X.env) (h3 X.env)) ?_)
  refine ⟨_, hσk, _, hσ _, _, hσb _, l, (rs'.map V.ref).set k1 (.ref r'), j2, k2, rfl, rfl, upd_same, by rw [List.length_set, len0]; exact hk2, ?_⟩
  have es : ((rs'.map V.ref).set k1 (.ref r')).set k2 (.ref r) = ((rs'.set k1 r').set k2 r).map V.ref := by rw [List.map_set, List.map_set]
  have eh : upd (upd H l (HO.lst ((rs'.map V.ref).set k1 (.ref r')))) l (HO.lst (((rs'.map V.ref).set k1 (.ref r')).set k2 (.ref r))) = upd H l (.lst (((rs'.set k1 r').set k2 r).map V.ref)) := by
    rw [es]
    funext z
    by_cases hz : z = l
    · subst hz; rw [upd_same, upd_same]
    · rw [upd_ne hz, upd_ne hz, upd_ne hz]
  rw [eh]
  have g5' : Rows X.K (Fz H (owA Γ (σ.set ik (some (.ref r))) ++ qs)) H H0 rs' yss := g5.flat
  have g6 : Rows X.K (Fz H (owA Γ (σ.set ik (some (.ref r))) ++ qs)) H H0 ((rs'.set k1 r').set k2 r) ((yss.set k1 u2).set k2 u1) :=
    Rows.putx ⟨⟨vs, d2, d4.flat⟩, d3⟩ (Rows.putx ⟨⟨vs', d2', d4'.flat⟩, d3'⟩ g5')
  exact k _ q2 _ _ (by rw [hΓ]; exact at1.permT h (hσ _) gp g3 g4 (swap_perm d1 d1') g6 ht)
end
end Wk
set_option Elab.async false
set_option linter.all false
set_option maxRecDepth 100000
/-! Wk20: how often, and where, a pair stands in a tuple; where a thing stands in a list. -/
set_option Elab.async false
set_option linter.all false
set_option maxRecDepth 100000
/-! Wk21: one or the other tuple; is not None. -/
namespace Wk
open PySem PySem.Spec PyProof.Rows L2
def sumO {α β γ : Type} (f : α → Option γ) (g : β → Option γ) : α ⊕ β → Option γ
  | .inl x => f x
  | .inr x => g x
theorem ixS {α β γ : Type} [PyT α] [PyT β] [PyT γ] {i : Int} {f : α → Option γ} {g : β → Option γ} (h1 : IxP i f) (h2 : IxP i g) : IxP i (sumO f g) := fun K F v x z h e => by
  cases x with
  | inl x => exact h1 K F v x z h e
  | inr x => exact h2 K F v x z h e
/-- tuples of a known length -/
class PyLn (α : Type) [PyT α] where
  ln : α → Nat
  sq : ∀ {K : PySem.W.Frag} {F : Hp} {v : V} {x : α}, rep K F v x → ∃ p vs, v = .ref p ∧ SqT K F p vs ∧ vs.length = ln x
section
variable {α β γ δ : Type} [PyT α] [PyT β] [PyT γ] [PyT δ]
instance : PyLn (T1 α) := ⟨fun _ => 1, fun ⟨p, w, h1, h2, _⟩ => ⟨p, _, h1, h2, rfl⟩⟩
instance : PyLn (α × β) := ⟨fun _ => 2, fun ⟨p, w, u, h1, h2, _⟩ => ⟨p, _, h1, h2, rfl⟩⟩
instance : PyLn (T3 α β γ) := ⟨fun _ => 3, fun ⟨p, w, u, t, h1, h2, _⟩ => ⟨p, _, h1, h2, rfl⟩⟩
instance : PyLn (T4 α β γ δ) := ⟨fun _ => 4, fun ⟨p, w, u, t, s, h1, h2, _⟩ => ⟨p, _, h1, h2, rfl⟩⟩
instance [a : PyLn α] [b : PyLn β] : PyLn (α ⊕ β) where
  ln := fun x => match x with | .inl y => a.ln y | .inr y => b.ln y
  sq := fun {K F v x} h => by
    cases x with
    | inl y => exact a.sq h
    | inr y => exact b.sq h
instance [PyLn α] [PyLn β] : PyK (α ⊕ β) where
  ty := "tuple"
  is := fun {K H v x} h => by
    obtain ⟨p, vs, e, s, _⟩ := PyLn.sq (α := α ⊕ β) h
    rw [e]
    exact ty_tup s
  nn := fun {K H v x} h => by
    obtain ⟨p, vs, e, s, _⟩ := PyLn.sq (α := α ⊕ β) h
    rw [e]
    exact fun z => by cases z
instance : PyK (T4 α β γ δ) where
  ty := "tuple"
  is := fun {K H v x} h => by
    obtain ⟨p, vs, e, s, _⟩ := PyLn.sq (α := T4 α β γ δ) h
    rw [e]
    exact ty_tup s
  nn := fun {K H v x} h => by
    obtain ⟨p, vs, e, s, _⟩ := PyLn.sq (α := T4 α β γ δ) h
    rw [e]
    exact fun z => by cases z
end
instance {α β : Type} [a : PyD α] [b : PyD β] : PyD (α ⊕ β) where
  toD := fun x => match x with | .inl y => a.toD y | .inr y => b.toD y
  dp := fun {K H v x} h => by
    cases x with
    | inl y => exact a.dp h
    | inr y => exact b.dp h
  dep := max a.dep b.dep
  depth := fun x => by
    cases x with
    | inl y => exact Nat.le_trans (a.depth y) (Nat.le_max_left _ _)
    | inr y => exact Nat.le_trans (b.depth y) (Nat.le_max_right _ _)
section
variable {X : Cx} {H0 : Hp} {qs : List Addr} {md ma mb : Bool} {Γ : List Sl} {a b e : Expr} {p pos : Pos} {α : Type} {mB : R Bool}
theorem ev_lenU [PyT α] [l : PyLn α] {m1 : R α} {m : R Int} (g : Gn X "len") (hm : X.mg "len" = none) (d : Ev X H0 qs ma Γ a m1) (he : m = m1.bind fun x => .ok (l.ln x : Int) := by rfl) (hs : ∀ env, starEach [a] env = (false, eval a env) :: starEach [] env := by intro _; rfl) :
    Ev X H0 qs md Γ (.Call (.Name "len" p) [a] [] pos) m :=
  ev_callB (f := fun t => .ok (l.ln t.1 : Int)) (m1 := m1.bind fun x => .ok (x, ())) call_len_seq (fun H t vs Q B h k => by
    obtain ⟨v, rfl, h'⟩ := one_of h
    obtain ⟨q, ws, rfl, h2, h3⟩ := l.sq h'
    exact ⟨q, ws, rfl, .inr h2, by rw [h3]; exact k _ (fun _ => rfl) H (Same.refl H)⟩) g hm PySem.boot_len (by decide) (ea_cons d ea_nil (by cases m1 <;> rfl) hs) (by rw [he]; cases m1 <;> rfl) hs (fun _ => rfl)
end
end Wk
set_option Elab.async false
set_option linter.all false
set_option maxRecDepth 100000
/-! Wk22: dicts with tuples of ints as keys; is True, is not False; isinstance of what may be None. -/
namespace Wk
open PySem PySem.Spec PyProof.Rows L2
def dGet {β : Type} (kvs : List (List Int × β)) (k : List Int) : Option β := (kvs.find? fun kv => decide (kv.1 = k)).map (·.2)
def dPut {β : Type} (kvs : List (List Int × β)) (k : List Int) (v : β) : List (List Int × β) :=
  if (kvs.any fun kv => decide (kv.1 = k)) = true then kvs.map (fun kv => if kv.1 = k then (kv.1, v) else kv) else kvs ++ [(k, v)]
theorem inl_inj : ∀ {a b : List Int}, a.map (Sum.inl : Int → Key) = b.map Sum.inl → a = b
  | [], [], _ => rfl
  | x :: a, y :: b, h => by
    rw [List.map_cons, List.map_cons] at h
    injection h with h1 h2
    rw [Sum.inl.inj h1, inl_inj h2]
  | [], _ :: _, h => by cases h
  | _ :: _, [], h => by cases h
theorem key_dec (a b : List Int) : decide (a.map (Sum.inl : Int → Key) = b.map Sum.inl) = decide (a = b) := decide_eq_decide.mpr ⟨inl_inj, fun h => by rw [h]⟩
theorem RepD.len {β : Type} [PyT β] {K : PySem.W.Frag} {F : Hp} : ∀ {ws : List (List Key × V)} {kvs : List (List Int × β)}, RepD K F ws kvs → ws.length = kvs.length
  | [], [], _ => rfl
  | p :: ws, q :: kvs, h => congrArg Nat.succ (RepD.len h.2.2)
  | [], _ :: _, h => h.elim
  | _ :: _, [], h => h.elim
theorem RepD.get {β : Type} [PyT β] {K : PySem.W.Frag} {F : Hp} (k : List Int) : ∀ {ws : List (List Key × V)} {kvs : List (List Int × β)}, RepD K F ws kvs →
    (valV ws (k.map Sum.inl) = none ∧ dGet kvs k = none) ∨ ∃ v y, valV ws (k.map Sum.inl) = some v ∧ dGet kvs k = some y ∧ rep K F v y
  | [], [], _ => .inl ⟨rfl, rfl⟩
  | p :: ws, q :: kvs, h => by
    by_cases e : q.1 = k
    · refine .inr ⟨p.2, q.2, valV_pos (by rw [h.1, e]), ?_, h.2.1⟩
      unfold dGet
      rw [List.find?_cons_of_pos (by rw [decide_eq_true_iff]; exact e)]
      rfl
    · have e2 : ¬ p.1 = k.map Sum.inl := fun z => e (inl_inj (by rw [← h.1]; exact z))
      have g : dGet (q :: kvs) k = dGet kvs k := by
        unfold dGet
        rw [List.find?_cons_of_neg (by rw [decide_eq_true_iff]; exact e)]
      rw [valV_neg e2, g]
      exact RepD.get k h.2.2
  | [], _ :: _, h => h.elim
  | _ :: _, [], h => h.elim
theorem RepD.any {β : Type} [PyT β] {K : PySem.W.Frag} {F : Hp} (k : List Int) : ∀ {ws : List (List Key × V)} {kvs : List (List Int × β)}, RepD K F ws kvs → (ws.any fun kv => decide (kv.1 = k.map Sum.inl)) = kvs.any fun kv => decide (kv.1 = k)
  | [], [], _ => rfl
  | p :: ws, q :: kvs, h => by
    rw [List.any_cons, List.any_cons, RepD.any k h.2.2, h.1, key_dec]
  | [], _ :: _, h => h.elim
  | _ :: _, [], h => h.elim
theorem RepD.repl {β : Type} [PyT β] {K : PySem.W.Frag} {F : Hp} {k : List Int} {v : V} {y : β} (r : rep K F v y) : ∀ {ws : List (List Key × V)} {kvs : List (List Int × β)}, RepD K F ws kvs →
    RepD K F (ws.map fun kv => if kv.1 = k.map Sum.inl then (kv.1, v) else kv) (kvs.map fun kv => if kv.1 = k then (kv.1, y) else kv)
  | [], [], _ => trivial
  | p :: ws, q :: kvs, h => by
    refine ⟨?_, ?_, RepD.repl r h.2.2⟩ <;> dsimp only
    · by_cases e : q.1 = k
      · rw [if_pos e, if_pos (by rw [h.1, e])]; exact h.1
      · rw [if_neg e, if_neg (fun z => e (inl_inj (by rw [← h.1]; exact z)))]; exact h.1
    · by_cases e : q.1 = k
      · rw [if_pos e, if_pos (by rw [h.1, e])]; exact r
      · rw [if_neg e, if_neg (fun z => e (inl_inj (by rw [← h.1]; exact z)))]; exact h.2.1
  | [], _ :: _, h => h.elim
  | _ :: _, [], h => h.elim
theorem RepD.snoc {β : Type} [PyT β] {K : PySem.W.Frag} {F : Hp} {k : List Int} {v : V} {y : β} (r : rep K F v y) : ∀ {ws : List (List Key × V)} {kvs : List (List Int × β)}, RepD K F ws kvs → RepD K F (ws ++ [(k.map Sum.inl, v)]) (kvs ++ [(k, y)])
  | [], [], _ => ⟨rfl, r, trivial⟩
  | p :: ws, q :: kvs, h => ⟨h.1, h.2.1, RepD.snoc r h.2.2⟩
  | [], _ :: _, h => h.elim
  | _ :: _, [], h => h.elim
theorem RepD.put {β : Type} [PyT β] {K : PySem.W.Frag} {F : Hp} {k : List Int} {v : V} {y : β} {ws : List (List Key × V)} {kvs : List (List Int × β)} (h : RepD K F ws kvs) (r : rep K F v y) : RepD K F (putK ws (k.map Sum.inl) v) (dPut kvs k y) := by
  unfold putK dPut
  rw [h.any k]
  by_cases e : (kvs.any fun kv => decide (kv.1 = k)) = true
  · rw [if_pos e, if_pos e]; exact h.repl r
  · rw [if_neg e, if_neg e]; exact h.snoc r
end Wk
set_option Elab.async false
set_option linter.all false
set_option maxRecDepth 100000
/-! Wk23: tuples of items of one kind, walked, their tails; is not of truth values. -/
namespace Wk
open PySem PySem.Spec PyProof.Rows L2
class PyUn (α : Type) (β : outParam Type) [PyT α] [PyT β] where
  un : α → List β
  sq : ∀ {K : PySem.W.Frag} {F : Hp} {v : V} {x : α}, rep K F v x → ∃ p vs, v = .ref p ∧ SqT K F p vs ∧ RepL K F vs (un x)
section
variable {α β γ δ : Type} [PyT α] [PyT β] [PyT γ] [PyT δ]
instance : PyUn (T1 β) β := ⟨fun x => [x.a], fun ⟨p, w, h1, h2, h3⟩ => ⟨p, _, h1, h2, h3, trivial⟩⟩
instance : PyUn (β × β) β := ⟨fun x => [x.1, x.2], fun ⟨p, w, u, h1, h2, h3, h4⟩ => ⟨p, _, h1, h2, h3, h4, trivial⟩⟩
instance : PyUn (T3 β β β) β := ⟨fun x => [x.a, x.b, x.c], fun ⟨p, w, u, t, h1, h2, h3, h4, h5⟩ => ⟨p, _, h1, h2, h3, h4, h5, trivial⟩⟩
instance : PyUn (T4 β β β β) β := ⟨fun x => [x.a, x.b, x.c, x.d], fun ⟨p, w, u, t, s, h1, h2, h3, h4, h5, h6⟩ => ⟨p, _, h1, h2, h3, h4, h5, h6, trivial⟩⟩
/-- all but the first item -/
class PyTl (α : Type) (β : outParam Type) [PyT α] [PyT β] where
  tl : α → List β
  sq : ∀ {K : PySem.W.Frag} {F : Hp} {v : V} {x : α}, rep K F v x → ∃ p w vs, v = .ref p ∧ SqT K F p (w :: vs) ∧ RepL K F vs (tl x)
instance : PyTl (α × β) β := ⟨fun x => [x.2], fun ⟨p, w, u, h1, h2, h3, h4⟩ => ⟨p, _, _, h1, h2, h4, trivial⟩⟩
instance : PyTl (T3 α β β) β := ⟨fun x => [x.b, x.c], fun ⟨p, w, u, t, h1, h2, h3, h4, h5⟩ => ⟨p, _, _, h1, h2, h4, h5, trivial⟩⟩
instance [a : PyTl α γ] [b : PyTl β γ] : PyTl (α ⊕ β) γ where
  tl := fun x => match x with | .inl y => a.tl y | .inr y => b.tl y
  sq := fun {K F v x} h => by
    cases x with
    | inl y => exact a.sq h
    | inr y => exact b.sq h
end
end Wk
set_option Elab.async false
set_option linter.all false
set_option maxRecDepth 100000
/-! Wk24: dicts walked: locked while a comprehension reads their keys. -/
namespace Wk
open PySem PySem.Spec PyProof.Rows L2
/-- a dict that is locked: its keys -/
structure Lk where
  l : List (List Int)
instance : PyT Lk where
  rep := fun K F v x => ∃ d od ws, v = .ref d ∧ F d = some (.frz od (.dT ws)) ∧ ws.map (·.1) = x.l.map (·.map Sum.inl)
  mono := fun e ⟨d, od, ws, h1, h2, h3⟩ => ⟨d, od, ws, h1, e _ _ h2, h3⟩
/-- what doesn't lean on a locked dict -/
class PyNf (α : Type) [PyT α] : Prop where
  nf : ∀ {K : PySem.W.Frag} {F : Hp} {v : V} {x : α} {p : Addr} {od : Obj} {ws : List (List Key × V)}, F p = some (.frz od (.dT ws)) → rep K F v x → rep K (Fz F [p]) v x
section
variable {K : PySem.W.Frag} {F : Hp} {p : Addr} {od : Obj} {ws : List (List Key × V)}
theorem fz1 {b : Addr} {o : HO} (hp : F p = some (.frz od (.dT ws))) (h : F b = some o) (n : o ≠ .frz od (.dT ws)) : Fz F [p] b = some o :=
  Fz.some_iff.mpr ⟨fun z => by
    rw [List.mem_singleton.mp z, hp] at h
    exact n (Option.some.inj h).symm, h⟩
theorem RepL.nf {α : Type} [PyT α] [PyNf α] (hp : F p = some (.frz od (.dT ws))) : ∀ {vs : List V} {xs : List α}, RepL K F vs xs → RepL K (Fz F [p]) vs xs
  | [], [], _ => trivial
  | v :: vs, x :: xs, h => ⟨PyNf.nf hp h.1, RepL.nf hp h.2⟩
  | [], _ :: _, h => h.elim
  | _ :: _, [], h => h.elim
theorem SqT.nf {a : Addr} {vs : List V} (hp : F p = some (.frz od (.dT ws))) (h : SqT K F a vs) : SqT K (Fz F [p]) a vs := by
  rcases h with (h | ⟨o, h⟩) | h
  · exact .inl (.inl (fz1 hp h fun z => by cases z))
  · exact .inl (.inr ⟨o, fz1 hp h fun z => by cases z⟩)
  · exact .inr h
variable {α β γ δ : Type} [PyT α] [PyT β] [PyT γ] [PyT δ] [PyNf α] [PyNf β] [PyNf γ] [PyNf δ]
instance (priority := low) {α : Type} [PyF α] : PyNf α := ⟨fun _ h => PyF.flat h⟩
instance : PyNf (List α) := ⟨fun hp ⟨a, vs, h1, h2, h3⟩ => ⟨a, vs, h1, fz1 hp h2 (fun z => by cases z), h3.nf hp⟩⟩
instance : PyNf (Tv α) := ⟨fun hp ⟨a, vs, h1, h2, h3⟩ => ⟨a, vs, h1, fz1 hp h2 (fun z => by cases z), h3.nf hp⟩⟩
instance : PyNf (α × β) := ⟨fun hp ⟨a, w, u, h1, h2, h3, h4⟩ => ⟨a, w, u, h1, SqT.nf hp h2, PyNf.nf hp h3, PyNf.nf hp h4⟩⟩
instance : PyNf (T1 α) := ⟨fun hp ⟨a, w, h1, h2, h3⟩ => ⟨a, w, h1, SqT.nf hp h2, PyNf.nf hp h3⟩⟩
instance : PyNf (T3 α β γ) := ⟨fun hp ⟨a, w, u, t, h1, h2, h3, h4, h5⟩ => ⟨a, w, u, t, h1, SqT.nf hp h2, PyNf.nf hp h3, PyNf.nf hp h4, PyNf.nf hp h5⟩⟩
end
end Wk
set_option Elab.async false
set_option linter.all false
set_option maxRecDepth 100000
/-! Wk25: a thing of any depth in a list; tuples of four as targets. -/
set_option Elab.async false
set_option linter.all false
set_option maxRecDepth 100000
/-! Wk26: list(reversed(a list)); a thing's place in a list; an item taken out of a list. -/
namespace Wk
open PySem PySem.Spec PyProof.Rows L2
section
variable {X : Cx} {H0 : Hp} {qs : List Addr} {md ma mb : Bool} {Γ : List Sl} {a b e tg : Expr} {p p1 p2 p3 pos pos1 : Pos} {α β γ δ : Type} {mB : R Bool}
theorem RepL.snoc {K : PySem.W.Frag} {F : Hp} [PyT α] {v : V} {x : α} (r : rep K F v x) : ∀ {vs : List V} {xs : List α}, RepL K F vs xs → RepL K F (vs ++ [v]) (xs ++ [x])
  | [], [], _ => ⟨r, trivial⟩
  | w :: vs, y :: xs, h => ⟨h.1, RepL.snoc r h.2⟩
  | [], _ :: _, h => h.elim
  | _ :: _, [], h => h.elim
end
end Wk
set_option Elab.async false
set_option linter.all false
set_option maxRecDepth 100000
/-! Wk27: an item taken out of a list. -/
set_option Elab.async false
set_option linter.all false
set_option maxRecDepth 100000
/-! Wk28: things handed in that may lean on what is to be left alone; what is told anew. -/
namespace Wk
open PySem PySem.Spec PyProof.Rows L2
/-! ### arguments, some of them of any kind (mask) -/
class PyM (τ : Type) extends PyA τ where
  sl : List Bool → Hp → τ → List Sl
  rp : List Bool → PySem.W.Frag → Hp → Hp → List V → τ → Prop
  sok : ∀ {mk : List Bool} {K : PySem.W.Frag} {F H G H0 : Hp} {vs : List V} {x : τ}, rp mk K F G vs x → Same G H0 → AllOk K F H H0 (sl mk G x) (vs.map some)
  sno : ∀ (mk : List Bool) (G : Hp) (x : τ), NoO (sl mk G x)
  rpn : ∀ {K : PySem.W.Frag} {F G : Hp} {vs : List V} {x : τ}, rp [] K F G vs x → reps K F vs x
instance : PyM Unit where
  sl := fun _ _ _ => []
  rp := fun _ _ _ _ vs _ => vs = []
  sok := fun {mk K F H G H0 vs x} h _ => by
    have e : vs = [] := h
    subst e
    trivial
  sno := fun _ _ _ s hs => by cases hs
  rpn := fun h => h
instance {α τ : Type} [PyT α] [PyM τ] : PyM (α × τ) where
  sl := fun mk G x => match mk with
    | true :: mk => .pm G x.1 :: PyM.sl mk G x.2
    | false :: mk => .fr x.1 :: PyM.sl mk G x.2
    | [] => .fr x.1 :: PyM.sl [] G x.2
  rp := fun mk K F G vs x => match mk with
    | true :: mk => ∃ v ws, vs = v :: ws ∧ rep K G v x.1 ∧ PyM.rp mk K F G ws x.2
    | false :: mk => ∃ v ws, vs = v :: ws ∧ rep K F v x.1 ∧ PyM.rp mk K F G ws x.2
    | [] => ∃ v ws, vs = v :: ws ∧ rep K F v x.1 ∧ PyM.rp [] K F G ws x.2
  sok := fun {mk K F H G H0 vs x} h hG => by
    cases mk with
    | nil =>
      obtain ⟨v, ws, e, h1, h2⟩ := h
      subst e
      exact ⟨⟨v, rfl, h1⟩, PyM.sok h2 hG⟩
    | cons b mk =>
      cases b with
      | true =>
        obtain ⟨v, ws, e, h1, h2⟩ := h
        subst e
        exact ⟨⟨v, rfl, h1, hG⟩, PyM.sok h2 hG⟩
      | false =>
        obtain ⟨v, ws, e, h1, h2⟩ := h
        subst e
        exact ⟨⟨v, rfl, h1⟩, PyM.sok h2 hG⟩
  sno := fun mk G x s hs o => by
    cases mk with
    | nil =>
      rcases List.mem_cons.mp hs with e | hs
      · subst e; rfl
      · exact PyM.sno [] G x.2 s hs o
    | cons b mk =>
      cases b with
      | true =>
        rcases List.mem_cons.mp hs with e | hs
        · subst e; rfl
        · exact PyM.sno mk G x.2 s hs o
      | false =>
        rcases List.mem_cons.mp hs with e | hs
        · subst e; rfl
        · exact PyM.sno mk G x.2 s hs o
  rpn := fun h => let ⟨v, ws, e, h1, h2⟩ := h; ⟨v, ws, e, h1, PyM.rpn h2⟩
theorem at_startM {K : PySem.W.Frag} {H : Hp} {qs : List Addr} {τ : Type} [PyM τ] {mk : List Bool} {x : τ} {vs : List V} {N : List Str} {n : Nat} (hn : vs.length = n) (r : PyM.rp mk K (Fz H qs) H vs x) (hq : ∀ q ∈ qs, Hv H q) : At K H qs (PyM.sl mk H x ++ List.replicate (N.length - n) .un) (L2.start N vs) H := by
  have no : NoO (PyM.sl mk H x ++ List.replicate (N.length - n) .un) := fun s hs o => by
    rcases List.mem_append.mp hs with h | h
    · exact PyM.sno mk H x s h o
    · rw [(List.mem_replicate.mp h).2] <;> rfl
  have e : owA (PyM.sl mk H x ++ List.replicate (N.length - n) .un) (L2.start N vs) = [] := no.nil _
  refine ⟨Same.refl H, ?_, by rw [e]; exact List.nodup_nil, (by rw [e]; intro p hp; cases hp), hq⟩
  rw [e]
  unfold L2.start
  rw [hn]
  exact (PyM.sok (show PyM.rp mk K (Fz H ([] ++ qs)) H vs x from r) (Same.refl H)).app (AllOk.uns _)
/-! ### promises -/
def spFM (K : PySem.W.Frag) {τ ρ : Type} [PyM τ] [PyT ρ] (mk : List Bool) (n : Nat) (f : τ → R ρ) : Sp := fun vs H Q E => ∃ (ps : List Addr) (x : τ), vs.length = n ∧ (∀ q ∈ ps, Hv H q) ∧ PyM.rp mk K (Fz H ps) H vs x ∧
  PX (fun r => ∀ v H', Same H H' → rep K (Fz H' ps) v r → Q v H') (fun c => ∀ H', Same H H' → E (.ref (He.ga K c.nm)) none H') (f x)
def spOM (K : PySem.W.Frag) {τ ρ : Type} [PyM τ] [PyT ρ] (mk : List Bool) (n : Nat) (f : τ → R (List ρ)) : Sp := fun vs H Q E => ∃ (ps : List Addr) (x : τ), vs.length = n ∧ (∀ q ∈ ps, Hv H q) ∧ PyM.rp mk K (Fz H ps) H vs x ∧
  PX (fun r => ∀ p vs H', Same H H' → H p = none → H' p = some (.lst vs) → RepL K (Fz H' (p :: ps)) vs r → Q (.ref p) H') (fun c => ∀ H', Same H H' → E (.ref (He.ga K c.nm)) none H') (f x)
section
variable {fe : List Fe} {fa : List He.Fa} {fn : List He.DefD} {P : Program} {w : World} {K : PySem.W.Frag} {mg : Str → Option Value} {base : Heap} {x qual : Str} {params : Arguments} {body : List Stmt} {scope : Scope} {f : Addr} {fd : FuncData} {N ps : List Str} {n k : Nat} {τ ρ : Type}
theorem fn_FM [PyM τ] [PyT ρ] {mk : List Bool} {m : τ → R ρ} (F : FunD K x qual params body scope [] [] f fd) (S : FnScope N ps scope) (fc : Fac fe fa fn K mg) (hl : ps.length = n)
    (hb : ∀ (X : Cx), X.prog = P → X.w = w → X.K = K → X.mg = mg → X.base = base → Cb fe fa fn X N scope k → ∀ (H0 : Hp) (qs : List Addr) (rt : VK) (A : ρ → Prop) (B : Exc → Prop), Fr X H0 B → RtF X H0 qs rt A → ∀ t : τ, W X H0 qs rt (fun _ H => rt .non H) A B (PyM.sl mk H0 t ++ List.replicate (N.length - n) .un) body (m t)) :
    FnOk P w K mg base (L2.CX P w) (k + 1) f fd ps (spFM K mk n m) := by
  refine F.ok S (fun vs H Q E ⟨_, _, h, _⟩ => h.trans hl.symm) fun cdv A outer s H vs Q E hr ⟨qs, t, h1, h2, h3, h4⟩ => ⟨_, pss_w, ?_⟩
  exact hb _ rfl rfl rfl rfl rfl (cb_of S fc hr) H qs Q (fun r => ∀ v H', Same H H' → rep K (Fz H' qs) v r → Q v H') _ (fr_of S) (fun r a => a) t h4 _ H (at_startM h1 h3 h2)
theorem fn_OM [PyM τ] [PyT ρ] {mk : List Bool} {m : τ → R (List ρ)} (F : FunD K x qual params body scope [] [] f fd) (S : FnScope N ps scope) (fc : Fac fe fa fn K mg) (hl : ps.length = n)
    (hb : ∀ (X : Cx), X.prog = P → X.w = w → X.K = K → X.mg = mg → X.base = base → Cb fe fa fn X N scope k → ∀ (H0 : Hp) (qs : List Addr) (rt : VK) (A : List ρ → Prop) (B : Exc → Prop), Fr X H0 B → RtO X H0 qs rt A → ∀ t : τ, W X H0 qs rt (fun _ H => rt .non H) A B (PyM.sl mk H0 t ++ List.replicate (N.length - n) .un) body (m t)) :
    FnOk P w K mg base (L2.CX P w) (k + 1) f fd ps (spOM K mk n m) := by
  refine F.ok S (fun vs H Q E ⟨_, _, h, _⟩ => h.trans hl.symm) fun cdv A outer s H vs Q E hr ⟨qs, t, h1, h2, h3, h4⟩ => ⟨_, pss_w, ?_⟩
  exact hb _ rfl rfl rfl rfl rfl (cb_of S fc hr) H qs Q (fun r => ∀ p vs H', Same H H' → H p = none → H' p = some (.lst vs) → RepL K (Fz H' (p :: qs)) vs r → Q (.ref p) H') _ (fr_of S) (fun r a => a) t h4 _ H (at_startM h1 h3 h2)
theorem gd_FM [PyM τ] [PyT ρ] {mk : List Bool} {m : τ → R ρ} {d : He.DefD} (i j : Nat) (fc : Fac fe fa fn K mg) (hi : fn[i]? = some d) (hj : fa[j]? = some (.glo x)) (S : FnScope N ps d.scope) (hl : ps.length = n) (bn : BindE d ps)
    (hb : ∀ (X : Cx), X.prog = P → X.w = w → X.K = K → X.mg = mg → X.base = base → Cb fe fa fn X N d.scope k → ∀ (H0 : Hp) (qs : List Addr) (rt : VK) (A : ρ → Prop) (B : Exc → Prop), Fr X H0 B → RtF X H0 qs rt A → ∀ t : τ, W X H0 qs rt (fun _ H => rt .non H) A B (PyM.sl mk H0 t ++ List.replicate (N.length - n) .un) d.body (m t))
    (e1 : d.at_ = (x, none) := by rfl) (e2 : d.dfl = [] := by rfl) (e3 : d.kwd = [] := by rfl) : Gd P w K mg base x (spFM K mk n m) n (k + 1) := by
  obtain ⟨fd, F⟩ := fc.s.d.def_ i hi
  have F' : FunD K d.name d.qual d.params d.body d.scope [] [] (He.fAd K d.at_) fd := by
    have q1 : d.dvs K = [] := by unfold He.DefD.dvs; rw [e2] <;> rfl
    have q2 : d.kws K = [] := by unfold He.DefD.kws; rw [e3] <;> rfl
    rw [q1, q2] at F
    exact F
  refine ⟨_, fd, ps, fn_FM F' S fc hl hb, ?_, F'.kp, F'.bindsN bn, hl⟩
  rw [e1]
  exact fc.glo j hj
theorem gd_OM [PyM τ] [PyT ρ] {mk : List Bool} {m : τ → R (List ρ)} {d : He.DefD} (i j : Nat) (fc : Fac fe fa fn K mg) (hi : fn[i]? = some d) (hj : fa[j]? = some (.glo x)) (S : FnScope N ps d.scope) (hl : ps.length = n) (bn : BindE d ps)
    (hb : ∀ (X : Cx), X.prog = P → X.w = w → X.K = K → X.mg = mg → X.base = base → Cb fe fa fn X N d.scope k → ∀ (H0 : Hp) (qs : List Addr) (rt : VK) (A : List ρ → Prop) (B : Exc → Prop), Fr X H0 B → RtO X H0 qs rt A → ∀ t : τ, W X H0 qs rt (fun _ H => rt .non H) A B (PyM.sl mk H0 t ++ List.replicate (N.length - n) .un) d.body (m t))
    (e1 : d.at_ = (x, none) := by rfl) (e2 : d.dfl = [] := by rfl) (e3 : d.kwd = [] := by rfl) : Gd P w K mg base x (spOM K mk n m) n (k + 1) := by
  obtain ⟨fd, F⟩ := fc.s.d.def_ i hi
  have F' : FunD K d.name d.qual d.params d.body d.scope [] [] (He.fAd K d.at_) fd := by
    have q1 : d.dvs K = [] := by unfold He.DefD.dvs; rw [e2] <;> rfl
    have q2 : d.kws K = [] := by unfold He.DefD.kws; rw [e3] <;> rfl
    rw [q1, q2] at F
    exact F
  refine ⟨_, fd, ps, fn_OM F' S fc hl hb, ?_, F'.kp, F'.bindsN bn, hl⟩
  rw [e1]
  exact fc.glo j hj
end
/-! ### data without lists -/
class PyNL (α : Type) [PyT α] : Prop where
  nl : ∀ {K : PySem.W.Frag} {F : Hp} {v : V} {x : α}, rep K F v x → rep K (Onl F []) v x
theorem tup_onl {F : Hp} {ps : List Addr} {a : Addr} {xs : List V} (h : F a = some (.tup xs)) : Onl F ps a = some (.tup xs) := Onl.cases.mpr ⟨h, .inl fun n => n.1 xs h⟩
theorem frz_onl {F : Hp} {ps : List Addr} {a : Addr} {o : Obj} {u : HO} (h : F a = some (.frz o u)) : Onl F ps a = some (.frz o u) := Onl.cases.mpr ⟨h, .inl fun n => n.2 _ _ h⟩
theorem sqT_onl {K : PySem.W.Frag} {F : Hp} {ps : List Addr} {a : Addr} {xs : List V} (h : SqT K F a xs) : SqT K (Onl F ps) a xs := by
  rcases h with (h | ⟨o, h⟩) | h
  · exact .inl (.inl (tup_onl h))
  · exact .inl (.inr ⟨o, frz_onl h⟩)
  · exact .inr h
theorem noD_onl {K : PySem.W.Frag} {F : Hp} {ps : List Addr} {a : Addr} (d : NoD K F a) : NoD K (Onl F ps) a := d.elim (fun ⟨o, u, d1, d2⟩ => .inl ⟨o, u, frz_onl d1, d2⟩) .inr
instance {α : Type} [PyF α] : PyNL α := ⟨fun h => PyF.flat h⟩
theorem RepL.nl {α : Type} [PyT α] [PyNL α] {K : PySem.W.Frag} {F : Hp} : ∀ {vs : List V} {xs : List α}, RepL K F vs xs → RepL K (Onl F []) vs xs
  | [], [], _ => trivial
  | v :: vs, x :: xs, h => ⟨PyNL.nl h.1, RepL.nl h.2⟩
  | [], _ :: _, h => h.elim
  | _ :: _, [], h => h.elim
section
variable {α β γ δ : Type} [PyT α] [PyT β] [PyT γ] [PyT δ] [PyNL α] [PyNL β] [PyNL γ] [PyNL δ]
instance : PyNL (T1 α) := ⟨fun ⟨a, w, h1, h2, h3⟩ => ⟨a, w, h1, sqT_onl h2, PyNL.nl h3⟩⟩
instance : PyNL (α × β) := ⟨fun ⟨a, w, u, h1, h2, h3, h4⟩ => ⟨a, w, u, h1, sqT_onl h2, PyNL.nl h3, PyNL.nl h4⟩⟩
instance : PyNL (T3 α β γ) := ⟨fun ⟨a, w, u, t, h1, h2, h3, h4, h5⟩ => ⟨a, w, u, t, h1, sqT_onl h2, PyNL.nl h3, PyNL.nl h4, PyNL.nl h5⟩⟩
instance : PyNL (T4 α β γ δ) := ⟨fun ⟨a, w, u, t, s, h1, h2, h3, h4, h5, h6⟩ => ⟨a, w, u, t, s, h1, sqT_onl h2, PyNL.nl h3, PyNL.nl h4, PyNL.nl h5, PyNL.nl h6⟩⟩
instance : PyNL (Tu α) := ⟨fun ⟨a, vs, h1, ⟨h2, h3⟩, h4⟩ => ⟨a, vs, h1, ⟨sqT_onl h2, noD_onl h3⟩, h4.nl⟩⟩
instance : PyNL (Tv α) := ⟨fun ⟨a, vs, h1, h2, h4⟩ => ⟨a, vs, h1, tup_onl h2, h4.nl⟩⟩
instance : PyNL (Option α) := ⟨fun {K F v x} h => by
  cases x with
  | none => exact h
  | some a => exact PyNL.nl (α := α) h⟩
instance : PyNL (α ⊕ β) := ⟨fun {K F v x} h => by
  cases x with
  | inl a => exact PyNL.nl (α := α) h
  | inr b => exact PyNL.nl (α := β) h⟩
end
/-! ### lists that a thing leads to -/
class FP (α : Type) [PyT α] : Prop where
  fp : ∀ {K : PySem.W.Frag} {F : Hp} {v : V} {x : α}, rep K F v x → ∃ ps, (∀ p ∈ ps, ∃ vs, F p = some (.lst vs)) ∧ rep K (Onl F ps) v x
instance {α : Type} [PyF α] : FP α := ⟨fun h => ⟨[], (fun _ z => by cases z), PyF.flat h⟩⟩
theorem onl_l {α : Type} [PyT α] {K : PySem.W.Frag} {F : Hp} {ps qs : List Addr} {v : V} {x : α} (h : rep K (Onl F ps) v x) : rep K (Onl F (ps ++ qs)) v x := PyT.mono (Onl.more fun _ z => List.mem_append_left _ z) h
theorem onl_r {α : Type} [PyT α] {K : PySem.W.Frag} {F : Hp} {ps qs : List Addr} {v : V} {x : α} (h : rep K (Onl F ps) v x) : rep K (Onl F (qs ++ ps)) v x := PyT.mono (Onl.more fun _ z => List.mem_append_right _ z) h
theorem mem_two {F : Hp} {ps qs : List Addr} (h1 : ∀ p ∈ ps, ∃ vs, F p = some (.lst vs)) (h2 : ∀ p ∈ qs, ∃ vs, F p = some (.lst vs)) : ∀ p ∈ ps ++ qs, ∃ vs, F p = some (.lst vs) := fun p hp => (List.mem_append.mp hp).elim (h1 p) (h2 p)
theorem RepL.fp {α : Type} [PyT α] [FP α] {K : PySem.W.Frag} {F : Hp} : ∀ {vs : List V} {xs : List α}, RepL K F vs xs → ∃ ps, (∀ p ∈ ps, ∃ vs, F p = some (.lst vs)) ∧ RepL K (Onl F ps) vs xs
  | [], [], _ => ⟨[], (fun _ z => by cases z), trivial⟩
  | v :: vs, x :: xs, h => by
    obtain ⟨ps, h1, h2⟩ := FP.fp h.1
    obtain ⟨qs, h3, h4⟩ := RepL.fp h.2
    exact ⟨ps ++ qs, mem_two h1 h3, onl_l h2, h4.mono (Onl.more fun _ z => List.mem_append_right _ z)⟩
  | [], _ :: _, h => h.elim
  | _ :: _, [], h => h.elim
section
variable {α β γ δ : Type} [PyT α] [PyT β] [PyT γ] [PyT δ] [FP α] [FP β] [FP γ] [FP δ]
instance : FP (List α) := ⟨fun ⟨a, vs, h1, h2, h3⟩ => by
  obtain ⟨ps, h4, h5⟩ := h3.fp
  refine ⟨a :: ps, fun p hp => ?_, a, vs, h1, Onl.cases.mpr ⟨h2, .inr List.mem_cons_self⟩, h5.mono (Onl.more fun _ z => List.mem_cons_of_mem _ z)⟩
  rcases List.mem_cons.mp hp with e | hp
  · rw [e]; exact ⟨vs, h2⟩
  · exact h4 p hp⟩
instance : FP (T1 α) := ⟨fun ⟨a, w, h1, h2, h3⟩ => by
  obtain ⟨ps, k1, k2⟩ := FP.fp h3
  exact ⟨ps, k1, a, w, h1, sqT_onl h2, k2⟩⟩
instance : FP (α × β) := ⟨fun ⟨a, w, u, h1, h2, h3, h4⟩ => by
  obtain ⟨ps, k1, k2⟩ := FP.fp h3
  obtain ⟨qs, l1, l2⟩ := FP.fp h4
  exact ⟨ps ++ qs, mem_two k1 l1, a, w, u, h1, sqT_onl h2, onl_l k2, onl_r l2⟩⟩
instance : FP (T3 α β γ) := ⟨fun ⟨a, w, u, t, h1, h2, h3, h4, h5⟩ => by
  obtain ⟨ps, k1, k2⟩ := FP.fp h3
  obtain ⟨qs, l1, l2⟩ := FP.fp h4
  obtain ⟨rs, m1, m2⟩ := FP.fp h5
  exact ⟨ps ++ (qs ++ rs), mem_two k1 (mem_two l1 m1), a, w, u, t, h1, sqT_onl h2, onl_l k2, onl_r (onl_l l2), onl_r (onl_r m2)⟩⟩
instance : FP (T4 α β γ δ) := ⟨fun ⟨a, w, u, t, s, h1, h2, h3, h4, h5, h6⟩ => by
  obtain ⟨ps, k1, k2⟩ := FP.fp h3
  obtain ⟨qs, l1, l2⟩ := FP.fp h4
  obtain ⟨rs, m1, m2⟩ := FP.fp h5
  obtain ⟨ts, n1, n2⟩ := FP.fp h6
  exact ⟨ps ++ (qs ++ (rs ++ ts)), mem_two k1 (mem_two l1 (mem_two m1 n1)), a, w, u, t, s, h1, sqT_onl h2, onl_l k2, onl_r (onl_l l2), onl_r (onl_r (onl_l m2)), onl_r (onl_r (onl_r n2))⟩⟩
instance : FP (Tu α) := ⟨fun ⟨a, vs, h1, ⟨h2, h3⟩, h4⟩ => by
  obtain ⟨ps, k1, k2⟩ := h4.fp
  exact ⟨ps, k1, a, vs, h1, ⟨sqT_onl h2, noD_onl h3⟩, k2⟩⟩
instance : FP (Tv α) := ⟨fun ⟨a, vs, h1, h2, h4⟩ => by
  obtain ⟨ps, k1, k2⟩ := h4.fp
  exact ⟨ps, k1, a, vs, h1, tup_onl h2, k2⟩⟩
instance : FP (Option α) := ⟨fun {K F v x} h => by
  cases x with
  | none => exact ⟨[], fun _ z => (by cases z), h⟩
  | some a => exact FP.fp (α := α) h⟩
instance : FP (α ⊕ β) := ⟨fun {K F v x} h => by
  cases x with
  | inl a => exact FP.fp (α := α) h
  | inr b => exact FP.fp (α := β) h⟩
end
/-! ### arguments and calls -/
section
variable {X : Cx} {H0 : Hp} {qs : List Addr} {md : Bool} {Γ : List Sl} {a e : Expr} {es : List Expr} {pos : Pos} {α : Type}
/-- some arguments of any kind -/
def EvAM (X : Cx) (H0 : Hp) (qs : List Addr) (md : Bool) (mk : List Bool) (Γ : List Sl) {τ : Type} [PyM τ] (es : List Expr) (m : R τ) : Prop :=
  ∀ σ H, At X.K H0 qs Γ σ H → ∀ E : XK, Pas X σ E → ∀ Q : List V → Hp → Prop, PX (fun x => ∀ vs H', Same H H' → vs.length = es.length → PyM.rp mk X.K (Fz H' (av md Γ σ qs)) H' vs x → Q vs H') (XW X E H) m → wA X es σ H Q
theorem eam_nil {mk : List Bool} {m : R Unit} (he : m = .ok () := by rfl) : EvAM X H0 qs md mk Γ [] m := fun σ H at_ E pe Q q => by
  subst he
  exact wA_of pa_nil (q [] H (Same.refl H) rfl rfl)
theorem eam_F {τ : Type} [PyT α] [PyM τ] {mk : List Bool} {m1 : R α} {m2 : R τ} {m : R (α × τ)} (d : Ev X H0 qs md Γ e m1) (ds : EvAM X H0 qs md mk Γ es m2) (he : m = m1.bind fun x => m2.bind fun xs => .ok (x, xs) := by rfl)
    (hs : ∀ env, starEach (e :: es) env = (false, eval e env) :: starEach es env := by intro _; rfl) : EvAM X H0 qs md (false :: mk) Γ (e :: es) m := fun σ H at_ E pe Q q => by
  subst he
  refine wA_of (pa_cons pe_w pa_w (hs X.env)) ?_
  refine d σ H at_ E pe _ ((PX.bind q).mono (fun x q2 v H1 s1 r1 => ?_) fun _ z => z)
  refine ds σ H1 (at_.grow s1) E pe _ ((PX.bind q2).mono (fun xs q3 vs H2 s2 l2 r2 => ?_) fun _ z => z.grow s1)
  exact q3 (v :: vs) H2 (s1.trans s2) (congrArg Nat.succ l2) ⟨v, vs, rfl, PyT.mono (av_same s2) r1, r2⟩
theorem eam_P {τ : Type} [PyT α] [PyM τ] {mk : List Bool} {m1 : R α} {m2 : R τ} {m : R (α × τ)} (d : Ev X H0 qs false Γ e m1) (ds : EvAM X H0 qs md mk Γ es m2) (he : m = m1.bind fun x => m2.bind fun xs => .ok (x, xs) := by rfl)
    (hs : ∀ env, starEach (e :: es) env = (false, eval e env) :: starEach es env := by intro _; rfl) : EvAM X H0 qs md (true :: mk) Γ (e :: es) m := fun σ H at_ E pe Q q => by
  subst he
  refine wA_of (pa_cons pe_w pa_w (hs X.env)) ?_
  refine d σ H at_ E pe _ ((PX.bind q).mono (fun x q2 v H1 s1 r1 => ?_) fun _ z => z)
  refine ds σ H1 (at_.grow s1) E pe _ ((PX.bind q2).mono (fun xs q3 vs H2 s2 l2 r2 => ?_) fun _ z => z.grow s1)
  exact q3 (v :: vs) H2 (s1.trans s2) (congrArg Nat.succ l2) ⟨v, vs, rfl, PyT.mono s2 (av_out r1), r2⟩
theorem ev_callOM {τ ρ : Type} [PyM τ] [PyT ρ] {mk : List Bool} {f : τ → R (List ρ)} {x : Str} {n : Nat} {m1 : R τ} {m : R (List ρ)} {pX : Pos} (D : Dn X x (spOM X.K mk n f) n) (g : Gn X x) (d : EvAM X H0 qs md mk Γ (a :: es) m1) (hn : (a :: es).length = n) (he : m = m1.bind f := by rfl)
    (hs : ∀ env, starEach (a :: es) env = (false, eval a env) :: starEach es env := by intro _; rfl) (hp : ∀ env, (backTo pos (starEach es env)).any (·.1) = false := by intro _; rfl) : EvO X H0 qs md Γ (.Call (.Name x pX) (a :: es) [] pos) m := fun σ H at_ E pe Q q => by
  subst he
  refine call_any (t := fun _ _ _ => True) D g pe hs hp (d σ H at_ E pe _ ((PX.bind q).mono (fun y q2 vs H1 s1 el r1 => ?_) fun _ z => z))
  exact ⟨av md Γ σ qs, y, by rw [el, hn], av_there (X := X) (at_.grow s1), r1, q2.mono (fun z k p ws H' s n0 l r => k p ws H' (s1.trans s) (s1.free n0) l r) fun c z => z.grow s1⟩
/-- what is handed in, of any kind -/
theorem ev_pm {i : Nat} {x : Str} {G : Hp} [PyT α] {y : α} {m : R α} (n : Nm X i x) (h : Γ[i]? = some (.pm G y) := by rfl) (he : m = .ok y := by rfl) : Ev X H0 qs false Γ (.Name x pos) m := by
  intro σ H at_ E pe Q q
  subst he
  obtain ⟨o, h1, v, h2, h3, h4⟩ := at_.ok.get h
  subst h2
  refine wE_of (pe_var n.hi n.vis n.hd n.hc) ⟨v, h1, q v H (Same.refl H) ?_⟩
  show rep X.K (Fz H []) v y
  rw [Fz.nil]
  exact PyT.mono (h4.trans at_.ex) h3
/-! what is told anew: it leans on no list that was there -/
def Anew (X : Cx) (qs : List Addr) (Γ : List Sl) (σ : L2.St) (H H' : Hp) {α : Type} [PyT α] (v : V) (x : α) : Prop :=
  ∃ ps : List Addr, (∀ b o, H b = some o → NT H b → b ∈ ps) ∧ (∀ b ∈ owA Γ σ ++ qs, b ∈ ps) ∧ rep X.K (Fz H' ps) v x
def EvN (X : Cx) (H0 : Hp) (qs : List Addr) (Γ : List Sl) {α : Type} [PyT α] (e : Expr) (m : R α) : Prop :=
  ∀ σ H, At X.K H0 qs Γ σ H → ∀ E : XK, Pas X σ E → ∀ Q : VK, PX (fun x => ∀ v H', Same H H' → Anew X qs Γ σ H H' v x → Q v H') (XW X E H) m → wE X e σ H Q
/-- arguments: such without lists, and some of any kind -/
def EvAN (X : Cx) (H0 : Hp) (qs : List Addr) (mk : List Bool) (Γ : List Sl) {τ : Type} [PyM τ] (es : List Expr) (m : R τ) : Prop :=
  ∀ σ H, At X.K H0 qs Γ σ H → ∀ E : XK, Pas X σ E → ∀ Q : List V → Hp → Prop, PX (fun x => ∀ vs H', Same H H' → vs.length = es.length → (∀ F, Same (Onl (Fz H' (av true Γ σ qs)) []) F → PyM.rp mk X.K F H' vs x) → Q vs H') (XW X E H) m → wA X es σ H Q
theorem ean_nil {mk : List Bool} {m : R Unit} (he : m = .ok () := by rfl) : EvAN X H0 qs mk Γ [] m := fun σ H at_ E pe Q q => by
  subst he
  exact wA_of pa_nil (q [] H (Same.refl H) rfl fun _ _ => rfl)
theorem ean_F {τ : Type} [PyT α] [PyNL α] [PyM τ] {mk : List Bool} {m1 : R α} {m2 : R τ} {m : R (α × τ)} (d : Ev X H0 qs true Γ e m1) (ds : EvAN X H0 qs mk Γ es m2) (he : m = m1.bind fun x => m2.bind fun xs => .ok (x, xs) := by rfl)
    (hs : ∀ env, starEach (e :: es) env = (false, eval e env) :: starEach es env := by intro _; rfl) : EvAN X H0 qs (false :: mk) Γ (e :: es) m := fun σ H at_ E pe Q q => by
  subst he
  refine wA_of (pa_cons pe_w pa_w (hs X.env)) ?_
  refine d σ H at_ E pe _ ((PX.bind q).mono (fun x q2 v H1 s1 r1 => ?_) fun _ z => z)
  refine ds σ H1 (at_.grow s1) E pe _ ((PX.bind q2).mono (fun xs q3 vs H2 s2 l2 r2 => ?_) fun _ z => z.grow s1)
  exact q3 (v :: vs) H2 (s1.trans s2) (congrArg Nat.succ l2) fun F sF => ⟨v, vs, rfl, PyT.mono sF (PyNL.nl (PyT.mono (av_same s2) r1)), r2 F sF⟩
theorem ean_P {τ : Type} [PyT α] [PyM τ] {mk : List Bool} {m1 : R α} {m2 : R τ} {m : R (α × τ)} (d : Ev X H0 qs false Γ e m1) (ds : EvAN X H0 qs mk Γ es m2) (he : m = m1.bind fun x => m2.bind fun xs => .ok (x, xs) := by rfl)
    (hs : ∀ env, starEach (e :: es) env = (false, eval e env) :: starEach es env := by intro _; rfl) : EvAN X H0 qs (true :: mk) Γ (e :: es) m := fun σ H at_ E pe Q q => by
  subst he
  refine wA_of (pa_cons pe_w pa_w (hs X.env)) ?_
  refine d σ H at_ E pe _ ((PX.bind q).mono (fun x q2 v H1 s1 r1 => ?_) fun _ z => z)
  refine ds σ H1 (at_.grow s1) E pe _ ((PX.bind q2).mono (fun xs q3 vs H2 s2 l2 r2 => ?_) fun _ z => z.grow s1)
  exact q3 (v :: vs) H2 (s1.trans s2) (congrArg Nat.succ l2) fun F sF => ⟨v, vs, rfl, PyT.mono s2 (av_out r1), r2 F sF⟩
/-- a def without masks -/
theorem Dn.imp {x : Str} {sp sp' : Sp} {n : Nat} (D : Dn X x sp n) (h : ∀ vs H Q E, sp' vs H Q E → sp vs H Q E) : Dn X x sp' n := by
  obtain ⟨k, f, fd, ps, F, h1⟩ := D.ex
  exact ⟨k, f, fd, ps, F.imp h, h1⟩
/-- all lists that stand in a heap -/
theorem all_lists {H : Hp} {N : Nat} (h : ∀ a o, H a = some o → a < N) : ∃ L : List Addr, (∀ b o, H b = some o → NT H b → b ∈ L) ∧ ∀ b ∈ L, Hv H b ∧ NT H b := by
  classical
  refine ⟨(List.range N).filter fun b => decide (∃ o, H b = some o ∧ NT H b), fun b o hb nt => List.mem_filter.mpr ⟨List.mem_range.mpr (h b o hb), decide_eq_true ⟨o, hb, nt⟩⟩, fun b hb => ?_⟩
  obtain ⟨o, ho, nt⟩ := of_decide_eq_true (List.mem_filter.mp hb).2
  exact ⟨⟨o, ho, (fun xs e => nt.1 xs (by rw [ho, e])), fun a u e => nt.2 a u (by rw [ho, e])⟩, nt⟩
theorem call_anyL {x : Str} {sp : Sp} {n : Nat} {E : XK} {σ : L2.St} {H : Hp} {Q : VK} {pX : Pos} (D : Dn X x sp n) (g : Gn X x) (pe : Pas X σ E) (hs : ∀ env, starEach (a :: es) env = (false, eval a env) :: starEach es env) (hp : ∀ env, (backTo pos (starEach es env)).any (·.1) = false)
    (h : wA X (a :: es) σ H fun vs H1 => ∀ L : List Addr, (∀ b o, H1 b = some o → NT H1 b → b ∈ L) → (∀ b ∈ L, Hv H1 b ∧ NT H1 b) → sp vs H1 Q E) : wE X (.Call (.Name x pX) (a :: es) [] pos) σ H Q := by
  obtain ⟨k, f, fd, ps, F, hr, hm, hk, hb, _⟩ := D.ex
  intro pins s I
  refine wpAny_Call_Name_kw (ld_glob I g.gl hm ?_ g.hd)
  refine PySem.W.callWith_K (h₀ := X.base) I.ok.mod.kin hk (thn (h pos pins s I) fun us s1 ⟨vs, H1, I1, r, q⟩ => ⟨I1.kIn, ?_⟩) (hs X.env) (hp X.env)
  obtain ⟨L, l1, l2⟩ := all_lists (H := H1) (N := s1.heap.objs.size) fun a o ho => (I1.hok a o ho).lt
  exact run_fnS (E := fun _ => E) F hr hb pe.out I1 r (q L l1 l2)
theorem onl_fz {H : Hp} {L qs' : List Addr} (l2 : ∀ b ∈ L, Hv H b ∧ NT H b) : Same (Onl (Fz H qs') []) (Fz H (L ++ qs')) := fun b o h => by
  obtain ⟨h1, h2⟩ := Onl.cases.mp h
  obtain ⟨h3, h4⟩ := Fz.some_iff.mp h1
  refine Fz.some_iff.mpr ⟨fun z => ?_, h4⟩
  rcases List.mem_append.mp z with z | z
  · rcases h2 with h2 | h2
    · exact h2 ((l2 b z).2.back h1 Fz.out)
    · cases h2
  · exact h3 z
theorem ev_callN {τ ρ : Type} [PyM τ] [PyT ρ] {mk : List Bool} {f : τ → R ρ} {x : Str} {n : Nat} {m1 : R τ} {m : R ρ} {pX : Pos} (D : Dn X x (spFM X.K mk n f) n) (g : Gn X x) (d : EvAN X H0 qs mk Γ (a :: es) m1) (hn : (a :: es).length = n) (he : m = m1.bind f := by rfl)
    (hs : ∀ env, starEach (a :: es) env = (false, eval a env) :: starEach es env := by intro _; rfl) (hp : ∀ env, (backTo pos (starEach es env)).any (·.1) = false := by intro _; rfl) : EvN X H0 qs Γ (.Call (.Name x pX) (a :: es) [] pos) m := fun σ H at_ E pe Q q => by
  subst he
  refine call_anyL D g pe hs hp (d σ H at_ E pe _ ((PX.bind q).mono (fun y q2 vs H1 s1 el r1 L l1 l2 => ?_) fun _ z => z))
  refine ⟨L ++ av true Γ σ qs, y, by rw [el, hn], fun b hb => (List.mem_append.mp hb).elim (fun z => (l2 b z).1) (av_there (X := X) (at_.grow s1) b), r1 _ (onl_fz l2), q2.mono (fun z k v H' s r => k v H' (s1.trans s) ⟨_, fun b o ho nt => List.mem_append_left _ (l1 b o (s1 _ _ ho) (nt.go ho s1)), fun b hb => List.mem_append_right _ hb, r⟩) fun c z => z.grow s1⟩
end
end Wk
set_option Elab.async false
set_option linter.all false
set_option maxRecDepth 100000
/-! Wk29: comprehensions and loops over what may lean on what is to be left alone. -/
namespace Wk
open PySem PySem.Spec PyProof.Rows L2
/-! ### things handed in, as such that aren't changed -/
def pS : Sl → Sl
  | @Sl.pm α i _ x => @Sl.fr α i x
  | s => s
def pΓ : List Sl → List Sl
  | [] => []
  | s :: Γ => pS s :: pΓ Γ
theorem own1_pS {s : Sl} {o : Option V} : own1 (pS s) o = own1 s o := by cases s <;> rfl
theorem owA_pΓ : ∀ {Γ : List Sl} {σ : L2.St}, owA (pΓ Γ) σ = owA Γ σ
  | [], _ => rfl
  | s :: Γ, [] => rfl
  | s :: Γ, o :: σ => by
    show own1 (pS s) o ++ owA (pΓ Γ) σ = _
    rw [own1_pS, owA_pΓ, owA_cons]
theorem AllOk.toP {K : PySem.W.Frag} {F F' H H0 : Hp} (e : Same F F') (e0 : Same H0 F') : ∀ {Γ : List Sl} {σ : L2.St}, AllOk K F H H0 Γ σ → AllOk K F' H H0 (pΓ Γ) σ
  | [], [], _ => trivial
  | s :: Γ, o :: σ, h => by
    refine ⟨?_, AllOk.toP e e0 h.2⟩
    have h1 := h.1
    cases s with
    | pm G x =>
      obtain ⟨v, k1, k2, k3⟩ := h1
      exact ⟨v, k1, PyT.mono (k3.trans e0) k2⟩
    | _ => exact SlOk.grow h1 e (Same.refl _)
  | [], _ :: _, h => h.elim
  | _ :: _, [], h => h.elim
theorem At.toP {K : PySem.W.Frag} {H0 H : Hp} {qs : List Addr} {Γ : List Sl} {σ : L2.St} (a : At K H0 qs Γ σ H) : At K H0 [] (pΓ Γ) σ H := by
  refine ⟨a.ex, ?_, by rw [owA_pΓ]; exact a.nd, (fun _ _ z => by cases z), fun _ z => by cases z⟩
  rw [owA_pΓ]
  refine AllOk.toP (Fz.sub (Same.refl _) fun b hb => ?_) (fun b o h => Fz.some_iff.mpr ⟨fun z => ?_, a.ex b o h⟩) a.ok
  · exact List.mem_append_left _ ((List.mem_append.mp hb).elim id fun z => by cases z)
  · rw [a.own0 ((List.mem_append.mp z).elim id fun z => by cases z)] at h
    cases h
/-- a thing comes to a target for a while -/
def EvGT (X : Cx) (Γ : List Sl) {α : Type} [PyT α] (tg : Expr) (x : α) (Γ' : List Sl) (is : List Nat) : Prop :=
  ∀ (H0 : Hp) (qs : List Addr) σ H v, At X.K H0 qs Γ σ H → rep X.K H v x → ∀ Q : L2.St → Hp → Prop,
    (∀ σ', At X.K H0 qs Γ' σ' H → owA Γ' σ' = owA Γ σ → σ'.length = σ.length → (∀ i, i ∉ is → σ'[i]? = σ[i]?) → Q σ' H) → wG X tg v σ H Q
section
variable {X : Cx} {Γ : List Sl} {tg : Expr} {p : Pos} {α β : Type}
theorem At.own_nt {K : PySem.W.Frag} {H0 H : Hp} {qs : List Addr} {σ : L2.St} (a : At K H0 qs Γ σ H) {p : Addr} (hp : p ∈ owA Γ σ) : NT H p := (a.own_hv hp).nt
theorem onl_av {K : PySem.W.Frag} {H0 H : Hp} {qs : List Addr} {σ : L2.St} (a : At K H0 qs Γ σ H) : Same (Onl H []) (Fz H (owA Γ σ ++ qs)) := fun b o h => by
  obtain ⟨h1, h2⟩ := Onl.cases.mp h
  refine Fz.some_iff.mpr ⟨fun z => ?_, h1⟩
  rcases h2 with h2 | h2
  · exact h2 (a.av_hv z).nt
  · cases h2
theorem eg_nl [PyT α] [PyNL α] {x : α} {Γ' : List Sl} {is : List Nat} (g : EvG X Γ tg x Γ' is) : EvGT X Γ tg x Γ' is := fun H0 qs σ H v at_ r Q k => g H0 qs σ H v at_ (PyT.mono (onl_av at_) (PyNL.nl r)) Q k
theorem Ev.nl [PyT α] [PyNL α] {H0 : Hp} {qs : List Addr} {e : Expr} {m : R α} (d : Ev X H0 qs false Γ e m) : Ev X H0 qs true Γ e m := fun σ H at_ E pe Q q =>
  d σ H at_ E pe Q (q.mono (fun x k v H' s r => k v H' s (PyT.mono (onl_av (at_.grow s)) (PyNL.nl (av_out r)))) fun _ z => z)
end
section
variable {X : Cx} {H0 : Hp} {qs : List Addr} {md mi : Bool} {Γ : List Sl} {it elt tg : Expr} {pos : Pos} {α β : Type}
/-- the core: one test or none -/
theorem lc_anyT [PyT α] [PyT β] {scope : Scope} {own : List (Str × Nat)} {ifs : List Expr} {mx : R (List α)} {g : α → R (Option β)} {m : R (List β)} {Γx : α → List Sl} {is : List Nat} {tt : TT}
    (hX : ∃ N sc, XOk X N sc) (hi : EvI X H0 qs mi Γ tg it mx) (fe : md = true ∨ ∀ {K : PySem.W.Frag} {F F' : Hp} {v : V} {x : β}, rep K F v x → rep K F' v x) (hno : ∀ p ∈ own, NoOw Γ p.2) (his : ∀ i ∈ is, i ∈ own.map (·.2))
    (hg : ∀ X', Blk X X' (relS scope X.env.scope) → ∀ x, EvGT X' (wipeG Γ (own.map (·.2))) tg x (Γx x) is)
    (htt : ∀ (s : Shared) (H : Hp) (C : Addr) (cl : List (Str × Addr)) (fp : List Addr), PTs (X.blk s H scope (compEnvC scope cl C X.env) fp) ifs tt)
    (hturn : ∀ X', Blk X X' (relS scope X.env.scope) → ∀ (D : Addr) (x : α) σ H, At X.K H0 (D :: qs) (Γx x) σ H → ∀ (A : Option β → Prop), PX A (fun _ => False) (g x) → ∀ Qt : Bool → Hp → Prop,
      (∀ b H', Same H H' → (b = true → ∀ Qe : VK, (∀ y v H'', Same H' H'' → A (some y) → rep X.K (Fz H'' (av md (Γx x) σ (D :: qs))) v y → Qe v H'') → bE X (relS scope X.env.scope) elt σ H' Qe) → (b = false → A none) → Qt b H') → tt σ H Qt)
    (he : m = mx.bind (compR g)) (hs : ∀ env x, foldedSetIterable it env x = pure x) :
    ∀ σ H, At X.K H0 qs Γ σ H → ∀ E : XK, Pas X σ E → ∀ Q : VK, PX (fun xs => ∀ p vs H', Same H H' → H p = none → H' p = some (.lst vs) → RepL X.K (Fz H' (p :: av md Γ σ qs)) vs xs → Q (.ref p) H') (XW X E H) m →
      tLc (wI X tg it) (bG X (relS scope X.env.scope) tg) tt (bE X (relS scope X.env.scope) elt) (own.map (·.2)) σ H Q := by
  intro σ H at_ E pe Q q
  subst he
  obtain ⟨N, sc, hX⟩ := hX
  refine hi σ H at_ E pe _ ((PX.bind q).mono (fun xs q2 J H1 s1 wk D hD => ?_) fun _ z => z)
  unfold compR at q2
  by_cases hlen : xs.length ≤ 16777216
  case neg => rw [if_neg hlen] at q2; exact (show False from q2).elim
  rw [if_pos hlen] at q2
  have at1 := at_.grow s1
  have hD0 : H D = none := s1.free hD
  let Pv : Nat → Hp → Prop := fun i H' => Same H1 H' ∧ ∃ acc ys, H' D = some (.lst acc) ∧ RepL X.K (Fz H' (D :: av md Γ σ qs)) acc ys ∧ acc.length ≤ i ∧
    PX (fun zs => ∀ p vs H', Same H H' → H p = none → H' p = some (.lst vs) → RepL X.K (Fz H' (p :: av md Γ σ qs)) vs (ys ++ zs) → Q (.ref p) H') (XW X E H) (compGo g (xs.drop i))
  refine ⟨fun i m H' => m = xs.length - i ∧ i ≤ xs.length ∧ Pv i H', ⟨xs.length, by simp, Nat.zero_le _, same_new hD, [], [], upd_same, trivial, Nat.le_refl _, ?_⟩, ?_⟩
  · rw [List.drop_zero]
    exact q2.mono (fun zs k p vs H' a b c d => k p vs H' a b c d) fun _ z => z
  rintro i m H2 ⟨rfl, hi', s2, acc, ys, hacc, hrep, hal, hrest⟩
  have sF : Same (Fz H1 (av mi Γ σ qs)) H2 := fun b o z => s2 b o (Fz.out b o z)
  by_cases hlt : i < xs.length
  · refine .inr ⟨wk.goes i H2 hlt sF, Pv (i + 1), fun H' p' => ⟨xs.length - (i + 1), by omega, rfl, hlt, p'⟩, fun v H3 hy => ?_⟩
    obtain ⟨s3, x, hx, hxr⟩ := wk.yields i H2 v H3 hlt sF hy
    have hdrop : xs.drop i = x :: xs.drop (i + 1) := by
      obtain ⟨h1, h2⟩ := List.getElem?_eq_some_iff.mp hx
      rw [List.drop_eq_getElem_cons h1, h2]
    rw [hdrop] at hrest
    have hD3 : H3 D = some (.lst acc) := s3 _ _ hacc
    have at3 : At X.K H0 (D :: qs) Γ σ H3 := at1.addq (s2.trans s3) hD (Hv.lst hD3)
    have at3w := at3.wipe (own.map (·.2))
    have hown : owA (wipeG Γ (own.map (·.2))) (wipe σ (own.map (·.2))) = owA Γ σ := wipe_own fun v hv => by
      obtain ⟨p, hp, rfl⟩ := List.mem_map.mp hv
      exact hno p hp
    have hr3 : rep X.K H3 v x := by
      have h := hxr [] (fun b o z => by rw [Fz.nil]; exact sF b o z) fun q hq => by cases hq
      rw [Fz.nil] at h
      exact h
    intro X' hB
    have hK : X'.K = X.K := hB.K
    refine hg X' hB x H0 (D :: qs) (wipe σ (own.map (·.2))) H3 v (by rw [hK]; exact at3w) (by rw [hK]; exact hr3) _ ?_
    intro σ4 at4 ho4 hl4 hk4
    refine ⟨?_, ?_⟩
    · refine wipe_ext (by rw [hl4, wipe_length]) fun j hj => ?_
      rw [hk4 j fun z => hj (his j z), wipe_out hj]
    rw [hK] at at4
    have how : owA (Γx x) σ4 = owA Γ σ := ho4.trans hown
    have hq3 : PX _ _ ((g x).sure.bind fun o => (compGo g (xs.drop (i + 1))).bind fun ys => .ok (match o with | some y => y :: ys | none => ys)) := hrest
    have hq4 := PX.sure (PX.bind hq3)
    refine hturn X' hB D x σ4 H3 at4 _ hq4 _ fun b H4 s4 hb1 hb0 => ?_
    have sD4 : H4 D = some (.lst acc) := s4 _ _ hD3
    cases b with
    | false =>
      show Pv (i + 1) H4
      have k := PX.bind (hb0 rfl)
      refine ⟨(s2.trans s3).trans s4, acc, ys, sD4, hrep.mono (Fz.mono (s3.trans s4)), Nat.le_succ_of_le hal, k.mono (fun zs k2 => k2) fun _ z => z⟩
    | true =>
      show bE X _ elt σ4 H4 _
      refine hb1 rfl _ fun y u H5 s5 hy5 hr5 => ⟨acc, s5 _ _ sD4, by rw [sizeLine_eq]; omega, ?_⟩
      have k := PX.bind hy5
      have hfz : rep X.K (Fz (upd H5 D (.lst (acc ++ [u]))) (D :: av md Γ σ qs)) u y := by
        rcases fe with fe | fe
        · subst fe
          refine PyT.mono ?_ hr5
          refine Fz.go fun b o hb hb2 => ?_
          have e1 : av true (Γx x) σ4 (D :: qs) = owA Γ σ ++ D :: qs := by rw [← how]; rfl
          rw [e1] at hb
          have nb : b ≠ D := fun z => hb (List.mem_append_right _ (by rw [z]; exact List.mem_cons_self))
          refine ⟨fun z => ?_, (upd_ne nb).trans hb2⟩
          rcases List.mem_cons.mp z with z | z
          · exact nb z
          · rcases List.mem_append.mp z with z | z
            · exact hb (List.mem_append_left _ z)
            · exact hb (List.mem_append_right _ (List.mem_cons_of_mem _ z))
        · exact fe hr5
      refine ⟨same_mut (((s2.trans s3).trans s4).trans s5) hD, acc ++ [u], ys ++ [y], upd_same, ?_, by rw [List.length_append, List.length_singleton]; omega, k.mono (fun zs k2 => by rw [List.append_assoc]; exact k2) fun _ z => z⟩
      refine (hrep.mono ?_).app (RepL.one hfz)
      exact Same.trans (Fz.mono ((s3.trans s4).trans s5)) (Fz.mut List.mem_cons_self)
  · have e : i = xs.length := by omega
    subst e
    refine .inl ⟨wk.stops H2 sF, ?_⟩
    rw [List.drop_length] at hrest
    have k : ∀ p vs H', Same H H' → H p = none → H' p = some (.lst vs) → RepL X.K (Fz H' (p :: av md Γ σ qs)) vs (ys ++ []) → Q (.ref p) H' := hrest
    exact k D acc H2 (s1.trans s2) hD0 hacc (by rw [List.append_nil]; exact hrep)
variable {scope : Scope} {own : List (Str × Nat)} {mx : R (List α)} {Γx : α → List Sl} {is : List Nat} {N : List Str} {sc : Scope}
theorem map_coreT [PyT α] [PyT β] {g : α → R β} {m : R (List β)} (hX : XOk X N sc) (hi : EvI X H0 qs mi Γ tg it mx) (hno : ∀ p ∈ own, NoOw Γ p.2) (his : ∀ i ∈ is, i ∈ own.map (·.2))
    (hg : ∀ X', Blk X X' (relS scope sc) → ∀ x, EvGT X' (wipeG Γ (own.map (·.2))) tg x (Γx x) is) (hel : ∀ X', Blk X X' (relS scope sc) → ∀ (D : Addr) (x : α), Ev X' H0 (D :: qs) true (Γx x) elt (g x))
    (he : m = mx.bind (mapR g)) (hs : Fold it) :
    ∀ σ H, At X.K H0 qs Γ σ H → ∀ E : XK, Pas X σ E → ∀ Q : VK, PX (fun xs => ∀ p vs H', Same H H' → H p = none → H' p = some (.lst vs) → RepL X.K (Fz H' (p :: av true Γ σ qs)) vs xs → Q (.ref p) H') (XW X E H) m →
      tLc (wI X tg it) (bG X (relS scope X.env.scope) tg) tYes (bE X (relS scope X.env.scope) elt) (own.map (·.2)) σ H Q := by
  have hsc : X.env.scope = sc := hX.hs
  rw [← hsc] at hg hel
  refine lc_anyT (md := true) ⟨_, _, hX⟩ hi (.inl rfl) hno his hg (fun _ _ _ _ _ => pts_nil) (g := fun x => (g x).bind fun y => .ok (some y)) (turn_map hel) ?_ hs
  rw [he]
  refine congrArg mx.bind (funext fun xs => ?_)
  unfold mapR compR
  split
  · exact mapGo_comp g xs
  · rfl
theorem ev_mapT [PyT α] [PyT β] {g : α → R β} {m : R (List β)} (hX : XOk X N sc) (hi : EvI X H0 qs mi Γ tg it mx) (hb : blkC N sc scope own = true) (hno : ∀ p ∈ own, NoOw Γ p.2) (his : ∀ i ∈ is, i ∈ own.map (·.2))
    (hg : ∀ X', Blk X X' (relS scope sc) → ∀ x, EvGT X' (wipeG Γ (own.map (·.2))) tg x (Γx x) is) (hel : ∀ X', Blk X X' (relS scope sc) → ∀ (D : Addr) (x : α), Ev X' H0 (D :: qs) true (Γx x) elt (g x))
    (he : m = mx.bind (mapR g) := by rfl) (hs : Fold it := by intro _ _; rfl) : EvO X H0 qs true Γ (.ListComp elt [⟨tg, it, [], 0⟩] scope pos) m := fun σ H at_ E pe Q q =>
  wE_of (pe_lc hX.calm hX.nd pi_w (blkOk_by (by rw [hX.hN, hX.hs]; exact hb)) (fun _ _ _ _ _ => pg_b) (fun _ _ _ _ _ => pts_nil) (fun _ _ _ _ _ => pe_b) (hs X.env)) (map_coreT hX hi hno his hg hel he hs σ H at_ E pe Q q)
end
section
variable {X : Cx} {H0 : Hp} {qs : List Addr} {rt : VK} {nx : L2.St → Hp → Prop} {O : Type} {A : O → Prop} {B : Exc → Prop} {Γ : List Sl} {rest : List Stmt} {m : R O} {e a b : Expr} {pos p p1 p2 p3 : Pos} {x : Str} {i : Nat} {α β S : Type}
/-- .. that may tell -/
theorem w_forQM [PyT α] [PyNL α] {tg it : Expr} {body : List Stmt} {mx : R (List α)} {bd : α → S → R (Ct S O)} {s0 : S} {f : S → R O} {Γs : S → List Sl} {Γb : α → S → List Sl} {is : List Nat} (hc : X.calm = true) (fr : Fr X H0 B) (hi : EvI X H0 [] true (pΓ Γ) tg it mx) (hg : ∀ y s, EvG X (Γs s) tg y (Γb y s) is)
    (hb : ∀ H1, Same H0 H1 → ∀ (N : S → Prop) y s, W X H1 qs rt (Nx X H1 qs Γs N) (ctA N A) B (Γb y s) body (bd y s)) (hr : ∀ s, W X H0 qs rt nx A B (Γs s) rest (f s)) (hΓ : Γ = Γs s0 := by rfl) (he : m = mx.bind fun xs => (forM bd xs s0).ct f := by rfl) (hs : FoldO it := by intro _ _; rfl) (hpm : ∀ s, pmG (Γs s) = pmG (Γs s0) := by intro s; first | rfl | (cases s <;> rfl)) :
    W X H0 qs rt nx A B Γ (.For tg it body [] pos :: rest) m := fun q σ H at_ => by
  subst he
  obtain ⟨E, pe, hx⟩ := fr.use
  refine cons_of (wS_of (ps_for (fr.po hc) hc pi_w pg_w pss_w (hs X.env)) ?_)
  refine hi σ H at_.toP E (pe σ) _ ((PX.bind q).mono (fun xs q2 J H1 s1 wk => ?_) fun c z => hx c H at_.ex z)
  have at1 := at_.grow s1
  obtain ⟨atb, sb⟩ := at1.rebase
  have frb := fr.up sb
  have hFb : Same (Fz H1 (av true (pΓ Γ) σ [])) (Fz H1 (owA Γ σ)) := Fz.sub (Same.refl _) fun b hb => by show b ∈ owA (pΓ Γ) σ ++ []; rw [owA_pΓ]; exact List.mem_append_left _ hb
  let F : Ct S O → Prop := fun c => PX A B (Ct.by f .ok c)
  refine ⟨fun i mm σ' H' => mm = xs.length - i ∧ i ≤ xs.length ∧ ∃ s, At X.K (Fz H1 (owA Γ σ)) qs (Γs s) σ' H' ∧ PX F B (forM bd (xs.drop i) s), ⟨xs.length, by simp, Nat.zero_le _, s0, by rw [← hΓ]; exact atb, by rw [List.drop_zero]; exact PX.bind q2⟩, ?_⟩
  rintro i mm σ' H' ⟨rfl, hi', s, ats, hps⟩
  have sF : Same (Fz H1 (av true (pΓ Γ) σ [])) H' := hFb.trans ats.ex
  by_cases hlt : i < xs.length
  · refine .inr ⟨wk.goes i H' hlt sF, Nx X (Fz H1 (owA Γ σ)) qs Γs (fun s' => PX F B (forM bd (xs.drop (i + 1)) s')), fun σ2 H2 ⟨s', hs', as'⟩ => ⟨xs.length - (i + 1), by omega, rfl, hlt, s', as', hs'⟩, fun v H2 hy => ?_⟩
    obtain ⟨s2, y, hy1, hy2⟩ := wk.yields i H' v H2 hlt sF hy
    have hdrop : xs.drop i = y :: xs.drop (i + 1) := by
      obtain ⟨h1, h2⟩ := List.getElem?_eq_some_iff.mp hy1
      rw [List.drop_eq_getElem_cons h1, h2]
    rw [hdrop] at hps
    have at2 := ats.grow s2
    have hv : rep X.K (Fz H2 (owA (Γs s) σ')) v y := by
      refine hy2 _ ?_ fun q hq => ats.own_hv hq
      refine Fz.go fun b o hb hb2 => ?_
      have hbo : (Fz H1 (owA Γ σ)) b = some o := hFb b o (Fz.some_iff.mpr ⟨hb, hb2⟩)
      exact ⟨fun z => (by rw [ats.own0 z] at hbo; cases hbo), ats.ex b o hbo⟩
    refine hg y s _ qs σ' H2 v at2 (PyT.mono (onl_av at2) (PyNL.nl (PyT.mono Fz.out hv))) _ fun σ3 at3 _ _ _ => ?_
    · refine wSs_mono (D := { nx := _, rt := rt }) (fun _ _ z => z) (fun _ _ z => z) (fun _ _ z => False.elim z) (fun _ _ z => False.elim z) (hb _ sb _ y s ?_ σ3 H2 at3)
      refine (PX.bind (show PX F B ((bd y s).bind (Ct.by (fun s' => forM bd (xs.drop (i + 1)) s') fun o => .ok (.rt o))) from hps)).mono (fun c k => ?_) fun _ z => z
      cases c <;> exact k
  · have e : i = xs.length := by omega
    subst e
    refine .inl ⟨wk.stops H' sF, ?_⟩
    rw [List.drop_length] at hps
    exact hr s hps σ' H' (ats.unbase sb fun G hG => by rw [hpm, ← hΓ] at hG; exact at_.ok.pms G hG)
end
end Wk
set_option Elab.async false
set_option linter.all false
set_option maxRecDepth 100000
/-! Wk30: lists told anew are the def's own; lent, taken back, changed. -/
namespace Wk
open PySem PySem.Spec PyProof.Rows L2
section
variable {K : PySem.W.Frag} {F F' H H' H0 H1 : Hp} {qs ps : List Addr} {Γ Γ' : List Sl} {σ : L2.St} {i : Nat} {α : Type}
theorem set_self {v : Option V} (h : σ[i]? = some v) : σ.set i v = σ := by
  obtain ⟨hl, e⟩ := List.getElem?_eq_some_iff.mp h
  rw [← e]
  exact List.set_getElem_self hl
/-- a slot's own lists stand apart from the others' -/
theorem own_apart {s t : Sl} {o : Option V} (ht : ∀ o, own1 t o = []) : ∀ {Γ : List Sl} {σ : L2.St} {i : Nat}, Γ[i]? = some s → σ[i]? = some o → (owA Γ σ).Nodup → ∀ p ∈ own1 s o, p ∉ owA (Γ.set i t) σ
  | u :: Γ, w :: σ, 0, e1, e2, nd, p, hp => by
    cases e1
    cases e2
    rw [List.set_cons_zero, owA_cons, ht]
    rw [owA_cons] at nd
    exact fun z => (List.nodup_append.mp nd).2.2 p hp p z rfl
  | u :: Γ, w :: σ, i + 1, e1, e2, nd, p, hp => by
    rw [List.set_cons_succ, owA_cons]
    rw [owA_cons] at nd
    obtain ⟨d1, d2, d3⟩ := List.nodup_append.mp nd
    intro z
    rcases List.mem_append.mp z with z | z
    · exact d3 p z p (owA_mem1 (i := i) e1 e2 hp) rfl
    · exact own_apart ht (i := i) e1 e2 d2 p hp z
  | [], _, _, e, _, _, _, _ => by simp at e
  | _ :: _, [], _, _, e, _, _, _ => by simp at e
theorem ex_nodup (ps : List Addr) : ∃ qs : List Addr, qs.Nodup ∧ ∀ a, a ∈ qs ↔ a ∈ ps := by
  induction ps with
  | nil => exact ⟨[], List.nodup_nil, fun a => Iff.rfl⟩
  | cons p ps ih =>
    obtain ⟨qs, h1, h2⟩ := ih
    by_cases c : p ∈ qs
    · refine ⟨qs, h1, fun a => ⟨fun h => List.mem_cons_of_mem _ ((h2 a).mp h), fun h => ?_⟩⟩
      rcases List.mem_cons.mp h with e | h
      · rw [e]; exact c
      · exact (h2 a).mpr h
    · refine ⟨p :: qs, List.nodup_cons.mpr ⟨c, h1⟩, fun a => ?_⟩
      rw [List.mem_cons, List.mem_cons, h2]
theorem At.setNw [PyT α] [FP α] {v : V} {x : α} {ps : List Addr} (a : At K H0 qs Γ σ H) (e : Same H H') (h1 : ∀ b o, H b = some o → NT H b → b ∈ ps) (h2 : ∀ b ∈ owA Γ σ ++ qs, b ∈ ps) (h : rep K (Fz H' ps) v x) : ∃ rs, At K H0 qs (Γ.set i (.nw rs x)) (σ.set i (some v)) H' := by
  obtain ⟨rs0, k1, k2⟩ := FP.fp h
  obtain ⟨rs, r1, r2⟩ := ex_nodup rs0
  have a' := a.grow e
  have cell : ∀ p ∈ rs, (∃ vs, H' p = some (.lst vs)) ∧ H p = none ∧ p ∉ ps := fun p hp => by
    obtain ⟨vs, k⟩ := k1 p ((r2 p).mp hp)
    obtain ⟨n1, n2⟩ := Fz.some_iff.mp k
    refine ⟨⟨vs, n2⟩, ?_, n1⟩
    cases q : H p with
    | none => rfl
    | some o =>
      have e4 := e _ _ q
      rw [n2] at e4
      cases e4
      exact (n1 (h1 p _ q (NT.lst q))).elim
  have sub : ∀ b ∈ owA (Γ.set i (.nw rs x)) (σ.set i (some v)), b ∈ rs ∨ b ∈ owA Γ σ := fun b hb => owA_set_sub hb
  have e2 : Same (Fz H (owA Γ σ ++ qs)) (Fz H' (owA (Γ.set i (.nw rs x)) (σ.set i (some v)) ++ qs)) := Fz.new e fun b hb => (List.mem_append.mp hb).elim
    (fun z => (sub b z).elim (fun q => .inr (cell b q).2.1) fun q => .inl (List.mem_append_left _ q)) fun z => .inl (List.mem_append_right _ z)
  refine ⟨rs, a'.ex, (AllOk.grow e2 e a.ok).set (s := .nw rs x) (o := some v) ⟨v, rfl, ?_, fun p hp => ⟨(cell p hp).1, a.ex.free (cell p hp).2.1⟩⟩, owA_set_nd (s := .nw rs x) (o := some v) r1 (fun b hb z => a.own_there z (cell b hb).2.1) a.nd, fun b hb => (sub b hb).elim (fun q z => (a.qd b z).ne (cell b q).2.1) (a.sep b), a'.qd⟩
  exact PyT.mono ((Onl.grow Fz.out).trans (Onl.more fun b hb => (r2 b).mpr hb)) k2
theorem owA_set_eq {s t : Sl} (hs : ∀ o, own1 s o = own1 t o) : ∀ {Γ : List Sl} {σ : L2.St} {i : Nat}, owA (Γ.set i s) σ = owA (Γ.set i t) σ
  | [], _, _ => rfl
  | u :: Γ, [], i => by rw [owA_nil, owA_nil]
  | u :: Γ, w :: σ, 0 => by rw [List.set_cons_zero, List.set_cons_zero, owA_cons, owA_cons, hs]
  | u :: Γ, w :: σ, i + 1 => by rw [List.set_cons_succ, List.set_cons_succ, owA_cons, owA_cons, owA_set_eq hs]
/-- what is known of lists lent -/
structure Len (H0 H1 G : Hp) (ps qs : List Addr) : Prop where
  s : Same H0 H1
  g : ∀ b o, G b = some o → NT G b → b ∈ ps
  c : ∀ p ∈ ps, H0 p = none ∧ (∃ vs, G p = some (.lst vs)) ∧ p ∉ qs
  nd : ps.Nodup
  t : Same G H1
theorem At.lend [PyT α] {x : α} (a : At K H0 qs Γ σ H) (h : Γ[i]? = some (.nw ps x)) : ∃ H1 G, Len H0 H1 G ps qs ∧ At K H1 (ps ++ qs) (Γ.set i (.pm G x)) σ H := by
  obtain ⟨o, h1, v, h2, h3, h4⟩ := a.ok.get h
  subst h2
  have es := set_self h1
  have sub : ∀ b ∈ owA (Γ.set i (.pm (Onl H ps) x)) σ, b ∈ owA Γ σ := fun b hb => by
    have hb' : b ∈ owA (Γ.set i (.pm (Onl H ps) x)) (σ.set i (some v)) := by rw [es]; exact hb
    exact (owA_set_sub hb').elim (fun z => by cases z) id
  have ap : ∀ p ∈ ps, p ∉ owA (Γ.set i (.pm (Onl H ps) x)) σ := own_apart (s := .nw ps x) (t := .pm (Onl H ps) x) (fun _ => rfl) h h1 a.nd
  have pin : ∀ p ∈ ps, p ∈ owA Γ σ := fun p hp => owA_mem1 (s := .nw ps x) (ov := some v) h h1 hp
  have s01 : Same H0 (Fz H (owA (Γ.set i (.pm (Onl H ps) x)) σ)) := fun b o e => Fz.some_iff.mpr ⟨fun z => (by rw [a.own0 (sub b z)] at e; cases e), a.ex b o e⟩
  have nd := owA_set_nd (s := .pm (Onl H ps) x) (o := some v) (i := i) List.nodup_nil (fun b hb => by cases hb) a.nd
  rw [es] at nd
  have hG : Same (Onl H ps) (Fz H (owA (Γ.set i (.pm (Onl H ps) x)) σ)) := fun b o hb => by
    obtain ⟨k1, k2⟩ := Onl.cases.mp hb
    refine Fz.some_iff.mpr ⟨fun z => ?_, k1⟩
    rcases k2 with k2 | k2
    · exact k2 (a.own_nt (sub b z))
    · exact ap b k2 z
  have e1 : Same (Fz H (owA Γ σ ++ qs)) (Fz H (owA (Γ.set i (.pm (Onl H ps) x)) σ ++ (ps ++ qs))) := Fz.sub (fun _ _ z => z) fun b hb => by
    rcases List.mem_append.mp hb with z | z
    · exact List.mem_append_left _ (sub b z)
    · rcases List.mem_append.mp z with z | z
      · exact List.mem_append_left _ (pin b z)
      · exact List.mem_append_right _ z
  refine ⟨_, Onl H ps, ⟨s01, fun b o k n => ?_, fun p hp => ⟨(h4 p hp).2, ?_, a.sep p (pin p hp)⟩, own_nd (s := .nw ps x) (ov := some v) h h1 a.nd, hG⟩, Fz.out, ?_, nd, fun p hp z => ?_, fun q hq => ?_⟩
  · obtain ⟨k1, k2⟩ := Onl.cases.mp k
    exact k2.elim (fun z => (z (n.go k Onl.out)).elim) id
  · obtain ⟨vs, k⟩ := (h4 p hp).1
    exact ⟨vs, Onl.cases.mpr ⟨k, .inr hp⟩⟩
  · have ok1 := (AllOk.grow e1 (fun _ _ z => z) a.ok).set (s := .un) (o := some v) (i := i) trivial
    rw [es] at ok1
    have ok2 := ok1.base (H1 := Fz H (owA (Γ.set i (.pm (Onl H ps) x)) σ)) (fun q hq => by
      rw [owA_set_eq (s := .un) (t := .pm (Onl H ps) x) fun _ => rfl] at hq
      unfold Fz; rw [if_pos hq]) fun G hG => (ok1.pms G hG).trans s01
    have ok3 := ok2.set (s := .pm (Onl H ps) x) (o := some v) (i := i) ⟨v, rfl, h3, hG⟩
    rw [es, List.set_set] at ok3
    exact ok3
  · rcases List.mem_append.mp z with z | z
    · exact ap p z hp
    · exact a.sep p (sub p hp) z
  · rcases List.mem_append.mp hq with z | z
    · exact a.own_hv (pin q z)
    · exact a.qd q z
theorem At.back [PyT α] {x : α} {G : Hp} (a : At K H1 (ps ++ qs) Γ σ H) (h : Γ[i]? = some (.pm G x)) (L : Len H0 H1 G ps qs) (hG : ∀ G' ∈ pmG (Γ.set i .un), Same G' H0) : At K H0 qs (Γ.set i (.nw ps x)) σ H := by
  obtain ⟨o, h1, v, h2, h3, h4⟩ := a.ok.get h
  subst h2
  have es := set_self h1
  have eo : owA (Γ.set i .un) σ = owA Γ σ := by
    have k := owA_set_same (s := .pm G x) (s' := .un) (ov := some v) rfl h h1
    exact k
  have sub : ∀ b ∈ owA (Γ.set i (.nw ps x)) σ, b ∈ ps ∨ b ∈ owA Γ σ := fun b hb => by
    have hb' : b ∈ owA (Γ.set i (.nw ps x)) (σ.set i (some v)) := by rw [es]; exact hb
    exact owA_set_sub hb'
  have nd := owA_set_nd (s := .nw ps x) (o := some v) (i := i) L.nd (fun p hp z => a.sep p z (List.mem_append_left _ hp)) a.nd
  rw [es] at nd
  have e1 : Same (Fz H (owA Γ σ ++ (ps ++ qs))) (Fz H (owA (Γ.set i (.nw ps x)) σ ++ qs)) := Fz.sub (fun _ _ z => z) fun b hb => by
    rcases List.mem_append.mp hb with z | z
    · rcases sub b z with z | z
      · exact List.mem_append_right _ (List.mem_append_left _ z)
      · exact List.mem_append_left _ z
    · exact List.mem_append_right _ (List.mem_append_right _ z)
  have gh := h4.trans a.ex
  refine ⟨L.s.trans a.ex, ?_, nd, fun p hp z => ?_, fun q hq => a.qd q (List.mem_append_right _ hq)⟩
  · have ok1 := (AllOk.grow e1 (fun _ _ z => z) a.ok).set (s := .un) (o := some v) (i := i) trivial
    rw [es] at ok1
    have ok2 := ok1.base (H1 := H0) (fun q hq => by
      rw [eo] at hq
      exact L.s.free (a.own0 hq)) hG
    have ok3 := ok2.set (s := .nw ps x) (o := some v) (i := i) ⟨v, rfl, PyT.mono (fun b o k => ?_) h3, fun p hp => ?_⟩
    · rw [es, List.set_set] at ok3
      exact ok3
    · refine Onl.cases.mpr ⟨gh _ _ k, ?_⟩
      by_cases c : NT G b
      · exact .inr (L.g b o k c)
      · exact .inl fun n => c (n.back k gh)
    · obtain ⟨c1, ⟨vs, c2⟩, c3⟩ := L.c p hp
      exact ⟨⟨vs, gh _ _ c2⟩, c1⟩
  · rcases sub p hp with q | q
    · exact (L.c p q).2.2 z
    · exact a.sep p q (List.mem_append_right _ z)
end
section
variable {X : Cx} {H0 H1 : Hp} {qs ps : List Addr} {rt : VK} {nx : L2.St → Hp → Prop} {O : Type} {A : O → Prop} {B : Exc → Prop} {Γ : List Sl} {rest ss : List Stmt} {m : R O} {e a b : Expr} {pos p p1 p2 p3 : Pos} {x : Str} {i : Nat} {α β S : Type}
/-- a name comes to stand for what is told anew -/
theorem w_asgN [PyT α] [FP α] {m1 : R α} {f : α → R O} {Γ' : List Addr → α → List Sl} (fr : Fr X H0 B) (l : Lc X i x) (d : EvN X H0 qs Γ e m1) (k : ∀ ps y, W X H0 qs rt nx A B (Γ' ps y) rest (f y)) (hΓ : ∀ ps y, Γ' ps y = Γ.set i (.nw ps y) := by intro _ _; rfl) (he : m = m1.bind f := by rfl)
    (hs : ∀ env, swapsWith e (some (.Name x p)) pos.line env = pure false := by intro _; rfl) : W X H0 qs rt nx A B Γ (.Assign [.Name x p] e pos :: rest) m := fun q σ H at_ => by
  subst he
  obtain ⟨E, pe, hx⟩ := fr.use
  refine cons_of (wS_of (ps_set l.nd l.hi l.loc pe_w (hs X.env) l.fn) ?_)
  refine d σ H at_ E (pe σ) _ ((PX.bind q).mono (fun y q2 v H1 s1 r1 => ?_) fun c z => hx c H at_.ex z)
  obtain ⟨ps, k1, k2, k3⟩ := r1
  obtain ⟨rs, at1⟩ := at_.setNw (i := i) s1 k1 k2 k3
  exact k rs y q2 _ H1 (by rw [hΓ]; exact at1)
theorem ev_nw {md : Bool} [PyT α] {y : α} {m : R α} (n : Nm X i x) (h : Γ[i]? = some (.nw ps y) := by rfl) (he : m = .ok y := by rfl) : Ev X H0 qs false Γ (.Name x pos) m := by
  intro σ H at_ E pe Q q
  subst he
  obtain ⟨o, h1, v, h2, h3, h4⟩ := at_.ok.get h
  subst h2
  refine wE_of (pe_var n.hi n.vis n.hd n.hc) ⟨v, h1, q v H (Same.refl H) ?_⟩
  show rep X.K (Fz H []) v y
  rw [Fz.nil]
  exact PyT.mono Onl.out h3
theorem w_lend [PyT α] {y : α} {Γ' : Hp → List Sl} (h : Γ[i]? = some (.nw ps y)) (k : ∀ H1 G, Len H0 H1 G ps qs → W X H1 (ps ++ qs) rt nx A B (Γ' G) ss m) (hΓ : ∀ G, Γ' G = Γ.set i (.pm G y) := by intro _; rfl) : W X H0 qs rt nx A B Γ ss m := fun q σ H at_ => by
  obtain ⟨H1, G, L, at1⟩ := at_.lend h
  exact k H1 G L q σ H (by rw [hΓ]; exact at1)
theorem w_back [PyT α] {y : α} {G : Hp} {Γ' : List Sl} (h : Γ[i]? = some (.pm G y)) (L : Len H0 H1 G ps qs) (hG : ∀ G' ∈ pmG (Γ.set i .un), Same G' H0) (k : W X H0 qs rt nx A B Γ' ss m) (hΓ : Γ' = Γ.set i (.nw ps y) := by rfl) : W X H1 (ps ++ qs) rt nx A B Γ ss m := fun q σ H at_ =>
  k q σ H (by rw [hΓ]; exact at_.back h L hG)
theorem RtF.lend {ρ : Type} [PyT ρ] {A : ρ → Prop} {G : Hp} (h : RtF X H0 qs rt A) (L : Len H0 H1 G ps qs) : RtF X H1 (ps ++ qs) rt A := fun x a v H' s r => h x a v H' (L.s.trans s) (PyT.mono (Fz.sub (Same.refl _) fun b hb => List.mem_append_right _ hb) r)
theorem RtO.lend {ρ : Type} [PyT ρ] {A : List ρ → Prop} {G : Hp} (h : RtO X H0 qs rt A) (L : Len H0 H1 G ps qs) : RtO X H1 (ps ++ qs) rt A := fun x a v vs H' s n l r => h x a v vs H' (L.s.trans s) (L.s.free n) l (r.mono (Fz.sub (Same.refl _) fun b hb => (List.mem_cons.mp hb).elim (fun z => by rw [z]; exact List.mem_cons_self) fun z => List.mem_cons_of_mem _ (List.mem_append_right _ z)))
end
end Wk
set_option Elab.async false
set_option linter.all false
set_option maxRecDepth 100000
/-! Wk31: lists of ints changed, their items no more known. -/
namespace Wk
open PySem PySem.Spec PyProof.Rows L2
theorem JV.anyPo {K : PySem.W.Frag} {H : Hp} {pi po po' : List Addr} : ∀ {c : Jc} {v : V}, c.fl = true → JV K H pi po c v → JV K H pi po' c v
  | .li, v, _, h => h
  | .an, _, _, _ => trivial
  | .t2 a b, v, f, ⟨p, w1, w2, e, q, j1, j2⟩ => by
    have f := Bool.and_eq_true_iff.mp (show (a.fl && b.fl) = true from f)
    exact ⟨p, w1, w2, e, q, j1.anyPo f.1, j2.anyPo f.2⟩
  | .t3 a b c, v, f, ⟨p, w1, w2, w3, e, q, j1, j2, j3⟩ => by
    have f := Bool.and_eq_true_iff.mp (show (a.fl && (b.fl && c.fl)) = true from f)
    have g := Bool.and_eq_true_iff.mp f.2
    exact ⟨p, w1, w2, w3, e, q, j1.anyPo f.1, j2.anyPo g.1, j3.anyPo g.2⟩
  | .t4 a b c d, v, f, ⟨p, w1, w2, w3, w4, e, q, j1, j2, j3, j4⟩ => by
    have f := Bool.and_eq_true_iff.mp (show (a.fl && (b.fl && (c.fl && d.fl))) = true from f)
    have g := Bool.and_eq_true_iff.mp f.2
    have k := Bool.and_eq_true_iff.mp g.2
    exact ⟨p, w1, w2, w3, w4, e, q, j1.anyPo f.1, j2.anyPo g.1, j3.anyPo k.1, j4.anyPo k.2⟩
  | .ls n c, v, f, _ => by cases f
/-! ### what a thing told anew is as such lists -/
def lenOk {β : Type} (xs : List β) : Bool := !xs.isEmpty && decide (xs.length ≤ 1000)
class JU (α : Type) [PyT α] where
  code : Jc
  ok : α → Bool
  fl : code.fl = true
  jv : ∀ {K : PySem.W.Frag} {H : Hp} {ps : List Addr} {v : V} {x : α}, rep K (Onl H ps) v x → ok x = true → ∃ pi, (∀ a ∈ pi, a ∈ ps ∧ JI 1000 H a) ∧ JV K H pi [] code v
class JRef (α : Type) [PyT α] : Prop where
  rf : ∀ {K : PySem.W.Frag} {F : Hp} {v : V} {x : α}, rep K F v x → ∃ a, v = .ref a
class JC (α : Type) [PyT α] where
  code : α → Jc
  ok : α → Bool
  jv : ∀ {K : PySem.W.Frag} {H : Hp} {ps : List Addr} {v : V} {x : α}, rep K (Onl H ps) v x → ok x = true → ∃ pi po, (∀ a ∈ pi, a ∈ ps ∧ JI 1000 H a) ∧ (∀ p ∈ po, p ∈ ps ∧ ∃ vs, H p = some (.lst vs)) ∧ po.Nodup ∧ (∀ a ∈ pi, a ∉ po) ∧ JV K H pi po (code x) v
theorem jv_more {K : PySem.W.Frag} {H : Hp} {pi pi' po : List Addr} {c : Jc} {v : V} (h : JV K H pi po c v) (s : ∀ a ∈ pi, a ∈ pi') : JV K H pi' po c v := h.mono s (fun _ _ z => z) fun _ _ _ z => z
instance (priority := low) juF {α : Type} [PyF α] : JU α := ⟨.an, fun _ => true, rfl, fun _ _ => ⟨[], (fun _ z => by cases z), trivial⟩⟩
instance juB : JU (List Bool) := ⟨.an, fun _ => true, rfl, fun _ _ => ⟨[], (fun _ z => by cases z), trivial⟩⟩
theorem onl_lst {H : Hp} {ps : List Addr} {a : Addr} {vs : List V} (h : Onl H ps a = some (.lst vs)) : H a = some (.lst vs) ∧ a ∈ ps := by
  obtain ⟨k1, k2⟩ := Onl.cases.mp h
  exact ⟨k1, k2.elim (fun z => (z (NT.lst k1)).elim) id⟩
instance juI : JU (List Int) := ⟨.li, lenOk, rfl, fun {K H ps v x} ⟨a, vs, e1, e2, e3⟩ hx => by
  obtain ⟨k1, k2⟩ := onl_lst e2
  have ev := repI e3
  obtain ⟨o1, o2⟩ := Bool.and_eq_true_iff.mp hx
  have o2 := of_decide_eq_true o2
  refine ⟨[a], fun b hb => ?_, a, e1, List.mem_singleton.mpr rfl⟩
  rw [List.mem_singleton.mp hb]
  refine ⟨k2, vs, k1, fun z => ?_, by rw [ev, List.length_map]; exact o2, fun w hw => ?_⟩
  · rw [ev] at z
    have : x = [] := List.map_eq_nil_iff.mp z
    subst this
    cases o1
  · rw [ev] at hw
    obtain ⟨i, _, hi⟩ := List.mem_map.mp hw
    exact ⟨i, hi.symm⟩⟩
section
variable {α β γ δ : Type} [PyT α] [PyT β] [PyT γ] [PyT δ]
instance juT2 [JU α] [JU β] : JU (α × β) := ⟨.t2 (JU.code α) (JU.code β), fun x => JU.ok x.1 && JU.ok x.2, by show (_ && _) = true; rw [JU.fl, JU.fl]; rfl, fun {K H ps v x} ⟨a, w, u, h1, h2, h3, h4⟩ hx => by
  obtain ⟨o1, o2⟩ := Bool.and_eq_true_iff.mp hx
  obtain ⟨p1, k1, j1⟩ := JU.jv h3 o1
  obtain ⟨p2, k2, j2⟩ := JU.jv h4 o2
  exact ⟨p1 ++ p2, fun b hb => (List.mem_append.mp hb).elim (k1 b) (k2 b), a, w, u, h1, sqT_mono Onl.out h2, jv_more j1 fun _ z => List.mem_append_left _ z, jv_more j2 fun _ z => List.mem_append_right _ z⟩⟩
instance juT3 [JU α] [JU β] [JU γ] : JU (T3 α β γ) := ⟨.t3 (JU.code α) (JU.code β) (JU.code γ), fun x => JU.ok x.a && (JU.ok x.b && JU.ok x.c), by show (_ && (_ && _)) = true; rw [JU.fl, JU.fl, JU.fl]; rfl, fun {K H ps v x} ⟨a, w, u, t, h1, h2, h3, h4, h5⟩ hx => by
  obtain ⟨o1, o2⟩ := Bool.and_eq_true_iff.mp hx
  obtain ⟨o2, o3⟩ := Bool.and_eq_true_iff.mp o2
  obtain ⟨p1, k1, j1⟩ := JU.jv h3 o1
  obtain ⟨p2, k2, j2⟩ := JU.jv h4 o2
  obtain ⟨p3, k3, j3⟩ := JU.jv h5 o3
  exact ⟨p1 ++ (p2 ++ p3), fun b hb => (List.mem_append.mp hb).elim (k1 b) fun z => (List.mem_append.mp z).elim (k2 b) (k3 b), a, w, u, t, h1, sqT_mono Onl.out h2, jv_more j1 fun _ z => List.mem_append_left _ z, jv_more j2 fun _ z => List.mem_append_right _ (List.mem_append_left _ z), jv_more j3 fun _ z => List.mem_append_right _ (List.mem_append_right _ z)⟩⟩
instance : JRef (List α) := ⟨fun ⟨a, _, h, _⟩ => ⟨a, h⟩⟩
instance : JRef (α × β) := ⟨fun ⟨a, _, _, h, _⟩ => ⟨a, h⟩⟩
instance : JRef (T3 α β γ) := ⟨fun ⟨a, _, _, _, h, _⟩ => ⟨a, h⟩⟩
theorem RepL.ju [JU α] [JRef α] {K : PySem.W.Frag} {H : Hp} {ps : List Addr} : ∀ {vs : List V} {xs : List α}, RepL K (Onl H ps) vs xs → xs.all JU.ok = true → ∃ pi, (∀ a ∈ pi, a ∈ ps ∧ JI 1000 H a) ∧ ∀ w ∈ vs, JV K H pi [] (JU.code α) w ∧ ∃ a, w = .ref a
  | [], [], _, _ => ⟨[], (fun _ z => by cases z), fun _ z => by cases z⟩
  | v :: vs, x :: xs, h, hx => by
    rw [List.all_cons] at hx
    obtain ⟨o1, o2⟩ := Bool.and_eq_true_iff.mp hx
    obtain ⟨p1, k1, j1⟩ := JU.jv h.1 o1
    obtain ⟨p2, k2, j2⟩ := RepL.ju h.2 o2
    refine ⟨p1 ++ p2, fun b hb => (List.mem_append.mp hb).elim (k1 b) (k2 b), fun w hw => ?_⟩
    rcases List.mem_cons.mp hw with e | hw
    · rw [e]
      exact ⟨jv_more j1 fun _ z => List.mem_append_left _ z, JRef.rf h.1⟩
    · exact ⟨jv_more (j2 w hw).1 fun _ z => List.mem_append_right _ z, (j2 w hw).2⟩
  | [], _ :: _, h, _ => h.elim
  | _ :: _, [], h, _ => h.elim
instance (priority := low) jcU [JU α] : JC α := ⟨fun _ => JU.code α, JU.ok, fun h hx => by
  obtain ⟨pi, k, j⟩ := JU.jv h hx
  exact ⟨pi, [], k, (fun _ z => by cases z), List.nodup_nil, (fun _ _ z => by cases z), j⟩⟩
instance jcL [JU α] [JRef α] : JC (List α) := ⟨fun xs => .ls xs.length (JU.code α), fun xs => xs.all JU.ok && decide (xs.length ≤ 10000), fun {K H ps v x} ⟨a, vs, e1, e2, e3⟩ hx => by
  obtain ⟨k1, k2⟩ := onl_lst e2
  obtain ⟨o1, o2⟩ := Bool.and_eq_true_iff.mp hx
  obtain ⟨pi, p1, p2⟩ := e3.ju o1
  refine ⟨pi, [a], p1, fun p hp => by rw [List.mem_singleton.mp hp]; exact ⟨k2, vs, k1⟩, by simp, fun b hb z => ?_, a, vs, e1, List.mem_singleton.mpr rfl, k1, e3.len, fun w hw => (p2 w hw).1.anyPo JU.fl⟩
  rw [List.mem_singleton.mp z] at hb
  obtain ⟨_, ws, q1, q2, _, q3⟩ := p1 a hb
  rw [k1] at q1
  cases q1
  cases vs with
  | nil => exact q2 rfl
  | cons w vs =>
    obtain ⟨i, hi⟩ := q3 w List.mem_cons_self
    obtain ⟨r, hr⟩ := (p2 w List.mem_cons_self).2
    rw [hi] at hr
    cases hr⟩
instance jcS [JC α] [JC β] : JC (α ⊕ β) := ⟨fun x => match x with
  | .inl a => JC.code a
  | .inr b => JC.code b, fun x => match x with
  | .inl a => JC.ok a
  | .inr b => JC.ok b, fun {K H ps v x} h hx => by
  cases x with
  | inl a => exact JC.jv (α := α) h hx
  | inr b => exact JC.jv (α := β) h hx⟩
instance jcO [JC α] : JC (Option α) := ⟨fun x => match x with
  | some a => JC.code a
  | none => .an, fun x => match x with
  | some a => JC.ok a
  | none => true, fun {K H ps v x} h hx => by
  cases x with
  | none => exact ⟨[], [], (fun _ z => by cases z), (fun _ z => by cases z), List.nodup_nil, (fun _ _ z => by cases z), trivial⟩
  | some a => exact JC.jv (α := α) h hx⟩
end
section
variable {K : PySem.W.Frag} {H H0 : Hp} {qs ps : List Addr} {Γ : List Sl} {σ : L2.St} {i : Nat} {α : Type}
theorem At.jk {n : Nat} {pi po : List Addr} {c : Jc} (a : At K H0 qs Γ σ H) (h : Γ[i]? = some (.jk n pi po c)) : ∃ v, σ[i]? = some (some v) ∧ JV K H pi po c v ∧ (∀ b ∈ pi, JI n H b ∧ H0 b = none) ∧ ∀ p ∈ po, (∃ vs, H p = some (.lst vs)) ∧ H0 p = none := by
  obtain ⟨o, h1, v, h2, h3, h4, h5⟩ := a.ok.get h
  subst h2
  exact ⟨v, h1, h3, h4, h5⟩
end
/-! ### ways to such a list -/
section
variable {X : Cx} {H0 : Hp} {qs pi po : List Addr} {rt : VK} {nx : L2.St → Hp → Prop} {O : Type} {A : O → Prop} {B : Exc → Prop} {Γ : List Sl} {rest : List Stmt} {m : R O} {e a b : Expr} {pos p p1 p2 p3 p4 p5 : Pos} {x : Str} {i j k n : Nat} {c c1 c2 c3 : Jc}
/-! ### statements that change them -/
variable {Γf : Nat → List Sl}
/-! for one in such lists: .. -/
/-- things as they are -/
instance pyTV : PyT V := ⟨fun _ _ v x => v = x, fun _ h => h⟩
theorem repV {K : PySem.W.Frag} {F : Hp} : ∀ vs : List V, RepL K F vs vs
  | [] => trivial
  | v :: vs => ⟨rfl, repV vs⟩
end
end Wk
set_option Elab.async false
set_option linter.all false
set_option maxRecDepth 100000
/-! Wk32: more on what is told anew. -/
namespace Wk
open PySem PySem.Spec PyProof.Rows L2
/-- a thing of which nothing is known -/
inductive AnyP where
  | mk
instance : PyT AnyP := ⟨fun _ _ _ _ => True, fun _ _ => trivial⟩
theorem RepL.any {K : PySem.W.Frag} {F : Hp} : ∀ (vs : List V), RepL K F vs (List.replicate vs.length AnyP.mk)
  | [] => trivial
  | _ :: vs => ⟨trivial, RepL.any vs⟩
section
variable {K : PySem.W.Frag} {H0 H : Hp} {qs : List Addr} {Γ : List Sl} {σ : L2.St} {i : Nat}
theorem own_same {s t : Sl} {o : Option V} (e : own1 t o = own1 s o) : ∀ {Γ : List Sl} {σ : L2.St} {i : Nat}, Γ[i]? = some s → σ[i]? = some o → owA (Γ.set i t) σ = owA Γ σ
  | u :: Γ, w :: σ, 0, e1, e2 => by
    cases e1
    cases e2
    rw [List.set_cons_zero, owA_cons, owA_cons, e]
  | u :: Γ, w :: σ, i + 1, e1, e2 => by
    rw [List.set_cons_succ, owA_cons, owA_cons, own_same e (i := i) e1 e2]
  | [], _, _, e, _ => by simp at e
  | _ :: _, [], _, _, e => by simp at e
theorem At.swap {s t : Sl} {v : Option V} (a : At K H0 qs Γ σ H) (h : Γ[i]? = some s) (ho : σ[i]? = some v) (e : own1 t v = own1 s v) (ok : SlOk K (Fz H (owA Γ σ ++ qs)) H H0 t v) : At K H0 qs (Γ.set i t) σ H := by
  have eo := own_same e h ho
  have o2 := a.ok.set (s := t) (o := v) (i := i) ok
  rw [show σ.set i v = σ from set_self ho] at o2
  exact ⟨a.ex, by rw [eo]; exact o2, by rw [eo]; exact a.nd, by rw [eo]; exact a.sep, a.qd⟩
end
end Wk
set_option Elab.async false
set_option linter.all false
set_option maxRecDepth 100000
/-! Wk33: a thing of several types as one of them; parts of tuples, tuples put behind one another; how many unlike numbers a list has. -/
namespace Wk
open PySem PySem.Spec PyProof.Rows L2
/-- a tuple of any length, wherever it stands -/
structure Ts (α : Type) where
  l : List α
  deriving DecidableEq
instance {α : Type} [PyT α] : PyT (Ts α) where
  rep := fun K F v xs => ∃ a vs, v = .ref a ∧ SqT K F a vs ∧ RepL K F vs xs.l
  mono := fun e ⟨a, vs, h1, h2, h3⟩ => ⟨a, vs, h1, sqT_mono e h2, h3.mono e⟩
instance {α : Type} [q : PyQ α] : PyQ (Ts α) where
  toD := fun xs => .tuple (xs.l.map q.toD)
  dp := fun {K H v x} h => by
    obtain ⟨a, vs, h1, h2, h3⟩ := h
    obtain ⟨d1, d2⟩ := dpAll h3
    exact ⟨by rw [h1]; exact .tup h2 d1, by simp only [PyData.canLay0]; exact d2⟩
  dep := q.dep + 1
  depth := fun xs => by
    have h := depAll xs.l
    simp only [PyData.depth]
    omega
  eq := fun x y => by
    rw [PyData.eqv, eqAll]
    exact ⟨fun h => by cases x; cases y; exact congrArg Ts.mk h, fun h => by rw [h]⟩
  nn := fun _ => ⟨by simp [PyData.eqv], by simp [PyData.eqv]⟩
instance {α : Type} [PyT α] : PyK (Ts α) where
  ty := "tuple"
  is := fun ⟨a, vs, h1, h2, _⟩ => by rw [h1]; exact ty_tup h2
  nn := fun ⟨a, vs, h1, h2, _⟩ => by rw [h1]; exact fun z => by cases z
instance {α : Type} [PyT α] [PyNL α] : PyNL (Ts α) := ⟨fun ⟨a, vs, h1, h2, h4⟩ => ⟨a, vs, h1, sqT_onl h2, h4.nl⟩⟩
instance {α : Type} [PyT α] [FP α] : FP (Ts α) := ⟨fun ⟨a, vs, h1, h2, h4⟩ => by
  obtain ⟨ps, k1, k2⟩ := h4.fp
  exact ⟨ps, k1, a, vs, h1, sqT_onl h2, k2⟩⟩
instance {α : Type} [PyT α] [PyNf α] : PyNf (Ts α) := ⟨fun hp ⟨a, vs, h1, h2, h3⟩ => ⟨a, vs, h1, SqT.nf hp h2, h3.nf hp⟩⟩
section
variable {X : Cx} {H0 : Hp} {qs : List Addr} {md ma mb : Bool} {Γ : List Sl} {a b e tg : Expr} {p p1 p2 p3 pos pos1 : Pos} {α β γ δ : Type} {mB : R Bool} {lo hi : Option Expr} {ml mh : R (Option Int)}
theorem Ev.tsV [PyT α] {m : R (Tv α)} {m' : R (Ts α)} (d : Ev X H0 qs md Γ e m) (he : m' = m.bind fun x => .ok (Ts.mk x.l) := by rfl) : Ev X H0 qs md Γ e m' := fun σ H at_ E pe Q q => by
  subst he
  exact d σ H at_ E pe Q ((PX.bind q).mono (fun x k v H' s r => (show ∀ v H', Same H H' → rep X.K (Fz H' (av md Γ σ qs)) v (Ts.mk x.l) → Q v H' from k) v H' s (by
    obtain ⟨a, vs, h1, h2, h3⟩ := r
    exact ⟨a, vs, h1, SqT.of h2, h3⟩)) fun _ z => z)
/-! ### len(set(xs)) -/
end
end Wk
set_option Elab.async false
set_option linter.all false
set_option maxRecDepth 100000
/-! Wk34: dicts handed to a def; a dict of one pair; a walk over what a def tells of a list's last; tuples cut and put together; tuples sorted. -/
namespace Wk
open PySem PySem.Spec PyProof.Rows L2
/-- a dict, as its pairs -/
structure Dk (β : Type) where
  l : List (List Int × β)
instance {β : Type} [PyT β] : PyT (Dk β) where
  rep := fun K F v x => ∃ d ws, v = .ref d ∧ F d = some (.dT ws) ∧ RepD K F ws x.l
  mono := fun e ⟨d, ws, h1, h2, h3⟩ => ⟨d, ws, h1, e _ _ h2, h3.mono e⟩
end Wk
set_option Elab.async false
set_option linter.all false
set_option maxRecDepth 100000
/-! Wk35: tuples of ints sorted. -/
set_option Elab.async false
set_option linter.all false
set_option maxRecDepth 100000
/-! Wk36: texts. -/
namespace Wk
open PySem PySem.Spec PyProof.Rows L2
theorem Blk.nd {X X' : Cx} {sc : Scope} (b : Blk X X' sc) (h : nodK X.K = true) : nodK X'.K = true := by rw [b.K]; exact h
theorem Tri.nd {X X' : Cx} (b : Tri X X') (h : nodK X.K = true) : nodK X'.K = true := by rw [b.K]; exact h
end Wk
set_option Elab.async false
set_option linter.all false
set_option maxRecDepth 100000
/-! Wk37: texts split, cut, looked into. -/
set_option Elab.async false
set_option linter.all false
set_option maxRecDepth 100000
/-! Wk38: things of several types: which one; what was told anew as one of them; a part of such a thing under another name. -/
namespace Wk
open PySem PySem.Spec PyProof.Rows L2
theorem rng_he (v : Int) : rngR 0 v = (R.ok v).bind fun n => rngR 0 n := by
  show _ = (fun n => rngR 0 n) v
  generalize rngR 0 = f
  rfl
abbrev kTys : List String := ["int", "bool", "str", "list", "tuple", "NoneType"]
class PyKs (α : Type) [PyT α] where
  ty : α → String
  is : ∀ {K : PySem.W.Frag} {H : Hp} {v : V} {x : α}, rep K H v x → TyX K H v (.type (ty x))
  ok : ∀ x, ty x ∈ kTys
instance : PyKs Int := ⟨fun _ => "int", PyK.is (α := Int), fun _ => by decide⟩
instance : PyKs Bool := ⟨fun _ => "bool", PyK.is (α := Bool), fun _ => by decide⟩
instance : PyKs Str := ⟨fun _ => "str", PyK.is (α := Str), fun _ => by decide⟩
instance : PyKs Unit := ⟨fun _ => "NoneType", fun h => by rw [show _ = V.non from h]; exact .base .non, fun _ => by decide⟩
section
variable {α β γ : Type} [PyT α] [PyT β] [PyT γ]
instance : PyKs (List α) := ⟨fun _ => "list", PyK.is (α := List α), fun _ => by decide⟩
instance : PyKs (Tu α) := ⟨fun _ => "tuple", PyK.is (α := Tu α), fun _ => by decide⟩
instance : PyKs (Tv α) := ⟨fun _ => "tuple", PyK.is (α := Tv α), fun _ => by decide⟩
instance : PyKs (T1 α) := ⟨fun _ => "tuple", PyK.is (α := T1 α), fun _ => by decide⟩
instance : PyKs (α × β) := ⟨fun _ => "tuple", PyK.is (α := α × β), fun _ => by decide⟩
instance : PyKs (T3 α β γ) := ⟨fun _ => "tuple", PyK.is (α := T3 α β γ), fun _ => by decide⟩
instance [PyKs α] [PyKs β] : PyKs (α ⊕ β) := ⟨fun x => match x with
  | .inl a => PyKs.ty a
  | .inr b => PyKs.ty b, fun {K H v x} h => by
  cases x with
  | inl a => exact PyKs.is (α := α) h
  | inr b => exact PyKs.is (α := β) h, fun x => by
  cases x with
  | inl a => exact PyKs.ok a
  | inr b => exact PyKs.ok b⟩
instance [PyKs α] : PyKs (Option α) := ⟨fun x => match x with
  | some a => PyKs.ty a
  | none => "NoneType", fun {K H v x} h => by
  cases x with
  | some a => exact PyKs.is (α := α) h
  | none => rw [show v = V.non from h]; exact .base .non, fun x => by
  cases x with
  | some a => exact PyKs.ok a
  | none => exact List.mem_cons_of_mem _ (List.mem_cons_of_mem _ (List.mem_cons_of_mem _ (List.mem_cons_of_mem _ (List.mem_cons_of_mem _ List.mem_cons_self))))⟩
end
/-- a thing at a value that is known -/
structure Pin (α : Type) where
  v : V
  x : α
instance {α : Type} [PyT α] : PyT (Pin α) where
  rep := fun K F v x => v = x.v ∧ rep K F v x.x
  mono := fun e ⟨h1, h2⟩ => ⟨h1, PyT.mono e h2⟩
/-- just the value -/
structure Vv where
  v : V
instance : PyF Vv where
  rep := fun _ _ v x => v = x.v
  mono := fun _ h => h
  flat := fun h => h
end Wk
set_option Elab.async false
set_option linter.all false
set_option maxRecDepth 100000
/-! Wk39: sums by cases; tuples without their first item; things of unlike types compared; a list of lists told anew, its rows left alone. -/
namespace Wk
open PySem PySem.Spec PyProof.Rows L2
theorem cut_tl (w : V) (vs : List V) : cutV (w :: vs) (some 1) none = vs := by
  have e0 : HT.sIx (w :: vs).length 0 (some (1 : Int)) = 1 := by
    show (if (1 : Int) < 0 then ((1 : Int) + ((w :: vs).length : Int)).toNat else min (1 : Int).toNat (w :: vs).length) = _
    rw [if_neg (by decide), List.length_cons]; show min 1 (vs.length + 1) = 1; omega
  have e9 : HT.sIx (w :: vs).length (w :: vs).length (none : Option Int) = (w :: vs).length := rfl
  unfold cutV
  rw [e0, e9, List.drop_one, List.tail_cons, List.length_cons, Nat.add_sub_cancel, List.take_length]
/-- a tuple: its first item, the others -/
structure Th (α β : Type) where
  hd : α
  tl : List β
instance {α β : Type} [PyT α] [PyT β] : PyT (Th α β) where
  rep := fun K F v x => ∃ p w vs, v = .ref p ∧ SqT K F p (w :: vs) ∧ rep K F w x.hd ∧ RepL K F vs x.tl
  mono := fun e ⟨p, w, vs, h1, h2, h3, h4⟩ => ⟨p, w, vs, h1, sqT_mono e h2, PyT.mono e h3, h4.mono e⟩
instance {α β : Type} [q : PyD α] [u : PyD β] : PyD (Th α β) where
  toD := fun x => .tuple (q.toD x.hd :: x.tl.map u.toD)
  dp := fun {K H v x} h => by
    obtain ⟨p, w, vs, h1, h2, h3, h4⟩ := h
    obtain ⟨d1, d2⟩ := PyD.dp h3
    obtain ⟨e1, e2⟩ := dpAll h4
    exact ⟨by rw [h1]; exact .tup h2 (.cons d1 e1), by simp only [PyData.canLay0, PyData.canLayAll0, d2, e2, Bool.and_true]⟩
  dep := max q.dep u.dep + 1
  depth := fun x => by
    have h := q.depth x.hd
    have h2 := depAll (d := u) x.tl
    simp only [PyData.depth, PyData.depthAll]
    omega
/-- things of unlike types compared -/
def eqD {α β : Type} [PyD α] [PyD β] (x : α) (y : β) : Bool := PyData.eqv (PyD.toD x) (PyD.toD y)
section
variable {X : Cx} {H0 : Hp} {qs : List Addr} {md ma mb : Bool} {Γ : List Sl} {a b e tg : Expr} {p p1 p2 p3 pos pos1 : Pos} {α β γ δ : Type} {mB : R Bool} {lo hi : Option Expr} {i : Nat} {x : Str}
theorem opf_eqX [d : PyD α] [d2 : PyD β] (hd : d.dep ≤ 64) (hd2 : d2.dep ≤ 64) : OpF X (rEqD X.K) (fun (x : α) (y : β) => R.ok (eqD x y)) := fun H x y v w Q B hx hy k => by
  obtain ⟨d1, c1⟩ := PyD.dp hx
  obtain ⟨e1, c2⟩ := PyD.dp hy
  have s1 : SeqAt.shaped (PyD.toD x) = true := by unfold SeqAt.shaped; rw [c1, decide_eq_true (Nat.le_trans (d.depth x) hd)] <;> rfl
  have s2 : SeqAt.shaped (PyD.toD y) = true := by unfold SeqAt.shaped; rw [c2, decide_eq_true (Nat.le_trans (d2.depth y) hd2)] <;> rfl
  exact ⟨_, _, d1, e1, s1, s2, k _ (fun _ => rfl) H (Same.refl H)⟩
theorem ev_eqX [d : PyD α] [d2 : PyD β] {m1 : R α} {m2 : R β} (hu : X.A.units + 64 < cLine) (da : Ev X H0 qs ma Γ a m1) (db : Ev X H0 qs mb Γ b m2) (he : mB = m1.bind fun x => m2.bind fun y => .ok (eqD x y) := by rfl) (hd : d.dep ≤ 64 := by decide) (hd2 : d2.dep ≤ 64 := by decide) : Ev X H0 qs md Γ (.Compare a [.Eq] [b] pos) mB := ev_cmp (op_eqD hu) (opf_eqX hd hd2) da db he (nomark _)
end
/-! ### a text in a tuple of texts -/
section
variable {X : Cx} {H0 H1 : Hp} {qs ps pi po : List Addr} {rt : VK} {nx : L2.St → Hp → Prop} {O : Type} {A : O → Prop} {B : Exc → Prop} {Γ : List Sl} {rest ss : List Stmt} {m : R O} {e a b : Expr} {pos p p1 p2 p3 : Pos} {x y : Str} {i j n k : Nat} {α β S : Type} {c c1 c2 : Jc} {lo : Option Expr}
theorem w_casesN [PyT α] [PyT β] {z : α ⊕ β} {ml : α → R O} {mr : β → R O} {Γl : α → List Sl} {Γr : β → List Sl} (h : Γ[i]? = some (.nw ps z)) (kl : ∀ a, W X H0 qs rt nx A B (Γl a) ss (ml a)) (kr : ∀ b, W X H0 qs rt nx A B (Γr b) ss (mr b)) (hl : ∀ a, Γl a = Γ.set i (.nw ps a) := by intro _; rfl) (hr : ∀ b, Γr b = Γ.set i (.nw ps b) := by intro _; rfl) (he : m = Sum.elim ml mr z := by rfl) : W X H0 qs rt nx A B Γ ss m := fun q σ H at_ => by
  subst he
  obtain ⟨o, h1, v, rfl, h3, h4⟩ := at_.ok.get h
  cases z with
  | inl a => exact kl a q σ H (by rw [hl]; exact at_.swap h h1 rfl ⟨v, rfl, h3, h4⟩)
  | inr b => exact kr b q σ H (by rw [hr]; exact at_.swap h h1 rfl ⟨v, rfl, h3, h4⟩)
end
end Wk
set_option Elab.async false
set_option linter.all false
set_option maxRecDepth 100000
/-! Wk40: texts walked, cut, looked into, read as numbers. -/
namespace PySem.W
open PySem PySem.Calls PySem.NumText PyProof.Rows
end PySem.W
namespace Wk
open PySem PySem.Spec PyProof.Rows L2
instance juTu {α : Type} [PyT α] : JU (Tu α) := ⟨.an, fun _ => true, rfl, fun _ _ => ⟨[], (fun _ z => by cases z), trivial⟩⟩
end Wk
set_option Elab.async false
set_option linter.all false
set_option maxRecDepth 100000
/-! Wk41: two names given two values at once. -/
set_option Elab.async false
set_option linter.all false
set_option maxRecDepth 100000
/-! Wk42: an exception leaves from within a list comprehension. -/
set_option Elab.async false
set_option linter.all false
set_option maxRecDepth 100000
/-! Wk43: a try whose suite returns. -/
set_option Elab.async false
set_option linter.all false
set_option maxRecDepth 100000
/-! Wk44: texts in great letters; lists none of whose items is none; an item taken out and left. -/
set_option Elab.async false
set_option linter.all false
set_option maxRecDepth 100000
/-! Wk45: the last part of a tuple; two equations for simp. -/
set_option Elab.async false
set_option linter.all false
set_option maxRecDepth 100000
/-! Wk46: dicts with ints as keys. -/
namespace Wk
open PySem PySem.Spec PyProof.Rows L2
def dGetI {β : Type} (kvs : List (Int × β)) (k : Int) : Option β := (kvs.find? fun kv => decide (kv.1 = k)).map (·.2)
def dPutI {β : Type} (kvs : List (Int × β)) (k : Int) (v : β) : List (Int × β) :=
  if (kvs.any fun kv => decide (kv.1 = k)) = true then kvs.map (fun kv => if kv.1 = k then (kv.1, v) else kv) else kvs ++ [(k, v)]
theorem keyI_dec (a b : Int) : decide ((Sum.inl a : Key) = Sum.inl b) = decide (a = b) := decide_eq_decide.mpr ⟨Sum.inl.inj, fun h => by rw [h]⟩
theorem RepDi.len {β : Type} [PyT β] {K : PySem.W.Frag} {F : Hp} : ∀ {ws : List (Key × V)} {kvs : List (Int × β)}, RepDi K F ws kvs → ws.length = kvs.length
  | [], [], _ => rfl
  | p :: ws, q :: kvs, h => congrArg Nat.succ (RepDi.len h.2.2)
  | [], _ :: _, h => h.elim
  | _ :: _, [], h => h.elim
theorem RepDi.get {β : Type} [PyT β] {K : PySem.W.Frag} {F : Hp} (k : Int) : ∀ {ws : List (Key × V)} {kvs : List (Int × β)}, RepDi K F ws kvs →
    (valV ws (Sum.inl k : Key) = none ∧ dGetI kvs k = none) ∨ ∃ v y, valV ws (Sum.inl k : Key) = some v ∧ dGetI kvs k = some y ∧ rep K F v y
  | [], [], _ => .inl ⟨rfl, rfl⟩
  | p :: ws, q :: kvs, h => by
    by_cases e : q.1 = k
    · refine .inr ⟨p.2, q.2, valV_pos (by rw [h.1, e]), ?_, h.2.1⟩
      unfold dGetI
      rw [List.find?_cons_of_pos (by rw [decide_eq_true_iff]; exact e)]
      rfl
    · have e2 : ¬ p.1 = (Sum.inl k : Key) := fun z => e (Sum.inl.inj (by rw [← h.1]; exact z))
      have g : dGetI (q :: kvs) k = dGetI kvs k := by
        unfold dGetI
        rw [List.find?_cons_of_neg (by rw [decide_eq_true_iff]; exact e)]
      rw [valV_neg e2, g]
      exact RepDi.get k h.2.2
  | [], _ :: _, h => h.elim
  | _ :: _, [], h => h.elim
theorem RepDi.any {β : Type} [PyT β] {K : PySem.W.Frag} {F : Hp} (k : Int) : ∀ {ws : List (Key × V)} {kvs : List (Int × β)}, RepDi K F ws kvs → (ws.any fun kv => decide (kv.1 = (Sum.inl k : Key))) = kvs.any fun kv => decide (kv.1 = k)
  | [], [], _ => rfl
  | p :: ws, q :: kvs, h => by
    rw [List.any_cons, List.any_cons, RepDi.any k h.2.2, h.1, keyI_dec]
  | [], _ :: _, h => h.elim
  | _ :: _, [], h => h.elim
theorem RepDi.repl {β : Type} [PyT β] {K : PySem.W.Frag} {F : Hp} {k : Int} {v : V} {y : β} (r : rep K F v y) : ∀ {ws : List (Key × V)} {kvs : List (Int × β)}, RepDi K F ws kvs →
    RepDi K F (ws.map fun kv => if kv.1 = (Sum.inl k : Key) then (kv.1, v) else kv) (kvs.map fun kv => if kv.1 = k then (kv.1, y) else kv)
  | [], [], _ => trivial
  | p :: ws, q :: kvs, h => by
    refine ⟨?_, ?_, RepDi.repl r h.2.2⟩ <;> dsimp only
    · by_cases e : q.1 = k
      · rw [if_pos e, if_pos (by rw [h.1, e])]; exact h.1
      · rw [if_neg e, if_neg (fun z => e (Sum.inl.inj (by rw [← h.1]; exact z)))]; exact h.1
    · by_cases e : q.1 = k
      · rw [if_pos e, if_pos (by rw [h.1, e])]; exact r
      · rw [if_neg e, if_neg (fun z => e (Sum.inl.inj (by rw [← h.1]; exact z)))]; exact h.2.1
  | [], _ :: _, h => h.elim
  | _ :: _, [], h => h.elim
theorem RepDi.snoc {β : Type} [PyT β] {K : PySem.W.Frag} {F : Hp} {k : Int} {v : V} {y : β} (r : rep K F v y) : ∀ {ws : List (Key × V)} {kvs : List (Int × β)}, RepDi K F ws kvs → RepDi K F (ws ++ [((Sum.inl k : Key), v)]) (kvs ++ [(k, y)])
  | [], [], _ => ⟨rfl, r, trivial⟩
  | p :: ws, q :: kvs, h => ⟨h.1, h.2.1, RepDi.snoc r h.2.2⟩
  | [], _ :: _, h => h.elim
  | _ :: _, [], h => h.elim
theorem RepDi.put {β : Type} [PyT β] {K : PySem.W.Frag} {F : Hp} {k : Int} {v : V} {y : β} {ws : List (Key × V)} {kvs : List (Int × β)} (h : RepDi K F ws kvs) (r : rep K F v y) : RepDi K F (putK ws (Sum.inl k : Key) v) (dPutI kvs k y) := by
  unfold putK dPutI
  rw [h.any k]
  by_cases e : (kvs.any fun kv => decide (kv.1 = k)) = true
  · rw [if_pos e, if_pos e]; exact h.repl r
  · rw [if_neg e, if_neg e]; exact h.snoc r
end Wk
set_option Elab.async false
set_option linter.all false
set_option maxRecDepth 100000
/-! Wk47: a def that is handed what was told anew, and changes it; walks over t[1:] of such a thing, step by step. -/
namespace Wk
open PySem PySem.Spec PyProof.Rows L2
section
variable {K : PySem.W.Frag} {H0 H : Hp} {qs : List Addr} {Γ : List Sl} {σ : L2.St}
theorem owA_out {s : Sl} {ov : Option V} {p : Addr} : ∀ {Γ : List Sl} {σ : L2.St} {i : Nat}, Γ[i]? = some s → σ[i]? = some ov → p ∈ own1 s ov → (owA Γ σ).Nodup → p ∉ owA (Γ.set i .un) σ
  | t :: Γ, o :: σ, 0, e1, e2, hp, nd => by
    cases e1
    cases e2
    rw [List.set_cons_zero, owA_cons]
    rw [owA_cons] at nd
    intro z
    have z : p ∈ owA Γ σ := by simpa [own1] using z
    exact (List.nodup_append.mp nd).2.2 p hp p z rfl
  | t :: Γ, o :: σ, i + 1, e1, e2, hp, nd => by
    rw [List.set_cons_succ, owA_cons]
    rw [owA_cons] at nd
    intro z
    rcases List.mem_append.mp z with z | z
    · exact (List.nodup_append.mp nd).2.2 p z p (owA_mem1 (i := i) e1 e2 hp) rfl
    · exact owA_out (i := i) e1 e2 hp (List.nodup_append.mp nd).2.1 z
  | [], _, _, e, _, _, _ => by simp at e
  | _ :: _, [], _, _, e, _, _ => by simp at e
theorem set_get_self {α : Type} {l : List α} {i : Nat} {o : α} (h : l[i]? = some o) : l.set i o = l := by
  obtain ⟨h1, h2⟩ := List.getElem?_eq_some_iff.mp h
  rw [← h2]
  exact List.set_getElem_self h1
/-- lists of one slot come, as they are, into another -/
theorem At.put {i j : Nat} {s s' : Sl} {o o' : Option V} (a : At K H0 qs Γ σ H) (h : Γ[i]? = some s) (hσ : σ[i]? = some o) (hsub : ∀ b ∈ own1 s' o', b ∈ own1 s o) (nd : (own1 s' o').Nodup) (hok : ∀ F', Same (Fz H (owA Γ σ ++ qs)) F' → SlOk K F' H H0 s' o') : At K H0 qs ((Γ.set i .un).set j s') (σ.set j o') H := by
  have a1 := a.unn i
  have sub1 : ∀ b ∈ owA (Γ.set i .un) σ, b ∈ owA Γ σ := fun b hb => by
    rw [← set_get_self hσ] at hb
    exact (owA_set_sub hb).elim (fun z => by cases z) id
  have sub : ∀ b ∈ owA ((Γ.set i .un).set j s') (σ.set j o'), b ∈ owA Γ σ := fun b hb => (owA_set_sub hb).elim (fun z => owA_mem1 h hσ (hsub b z)) (sub1 b)
  have e : Same (Fz H (owA Γ σ ++ qs)) (Fz H (owA ((Γ.set i .un).set j s') (σ.set j o') ++ qs)) := Fz.sub (fun _ _ z => z) fun b hb => (List.mem_append.mp hb).elim (fun z => List.mem_append_left _ (sub b z)) (List.mem_append_right _)
  have ok1 := (AllOk.grow e (fun _ _ z => z) a.ok).set (s := .un) (o := o) (i := i) trivial
  rw [set_get_self hσ] at ok1
  exact ⟨a.ex, ok1.set (hok _ e), owA_set_nd nd (fun b hb => owA_out h hσ (hsub b hb) a.nd) a1.nd, fun p hp => a.sep p (sub p hp), a.qd⟩
end
/-- of a thing told anew, one list: that alone is kept -/
theorem lst_onl {H : Hp} {ps : List Addr} {p : Addr} {vs : List V} (h : Onl H ps p = some (.lst vs)) : p ∈ ps ∧ H p = some (.lst vs) := by
  obtain ⟨h1, h2⟩ := Onl.cases.mp h
  exact ⟨h2.elim (fun n => absurd (NT.lst h1) n) id, h1⟩
section
variable {X : Cx} {H0 : Hp} {qs ps : List Addr} {rt : VK} {nx : L2.St → Hp → Prop} {O : Type} {A : O → Prop} {B : Exc → Prop} {Γ : List Sl} {rest : List Stmt} {m : R O} {e a b : Expr} {pos p p1 p2 p3 pt : Pos} {x part : Str} {i j : Nat} {α S S2 : Type}
/-- a walk over t[1:] -/
theorem it_nw [PyT α] {tg : Expr} {lo : Option Expr} {y : α} {Rr : Hp → V → List V → Prop} {σ : L2.St} {H : Hp} {E : XK} (at_ : At X.K H0 qs Γ σ H) (pe : Pas X σ E) (n : Nm X i x) (h : Γ[i]? = some (.nw ps y)) (hc : ∀ (F : Hp) (v : V), rep X.K F v y → ∃ q w vs, v = .ref q ∧ SqT X.K F q (w :: vs) ∧ Rr F v vs)
    (dl : EvP X H0 qs Γ lo (R.ok (some 1))) {Rk : It → Hp → Prop} (q : ∀ J H1 v vs, σ[i]? = some (some v) → Same H H1 → Rr (Onl H ps) v vs → (∀ F, (∀ b o, H1 b = some o → b ∉ owA Γ σ → F b = some o) → WalkT X.K J vs F) → Rk J H1) : wI X tg (.Subscript (.Name x p1) (.Slice lo none none p2) pos) σ H Rk := by
  obtain ⟨o, g1, v, g2, g3, g4⟩ := at_.ok.get h
  subst g2
  obtain ⟨p, w, vs, e1, e2, e3⟩ := hc _ _ g3
  refine wI_of (pi_tup pe_w) (wE_of (pe_slice sl_tupA pe_w po_w po_w) (wE_of (pe_var n.hi n.vis n.hd n.hc) ⟨v, g1, ?_⟩))
  refine dl.use at_ pe (show PX _ _ (R.ok (some (1 : Int))) from fun H2 s2 => ?_)
  refine (ep_no (X := X) (H0 := H0) (qs := qs) (Γ := Γ)).use (at_.grow s2) pe (show PX _ _ (R.ok (none : Option Int)) from fun H3 s3 => ?_)
  have s := s2.trans s3
  have e0 : HT.sIx (w :: vs).length 0 (some (1 : Int)) = 1 := by
    show (if (1 : Int) < 0 then ((1 : Int) + ((w :: vs).length : Int)).toNat else min (1 : Int).toNat (w :: vs).length) = _
    rw [if_neg (by decide), List.length_cons]; show min 1 (vs.length + 1) = 1; omega
  refine ⟨p, w :: vs, e1, sqT_mono (Onl.out.trans s) e2, fun c => ?_, fun c D hD => ?_⟩
  · have := c.1
    rw [e0] at this
    cases this
  · have nd : D ∉ owA Γ σ := fun z => by
      obtain ⟨o, u, _⟩ := at_.own_hv z
      rw [s _ _ u] at hD
      cases hD
    rw [cut_tl]
    exact ⟨D, rfl, ⟨vs, SqT.of upd_same⟩, q _ _ v vs g1 (s.trans (same_new hD)) e3 fun F hF => walkTu (SqT.of (hF D _ upd_same nd)) (repV vs)⟩
/-- what is told anew is a tuple of a text, an int and a list of ints -/
def R3 (K : PySem.W.Frag) (y : T3 Str Int (List Int)) (F : Hp) (v : V) (vs : List V) : Prop := ∃ a w p ws, v = .ref a ∧ SqT K F a [w, .int y.b, .ref p] ∧ rep K F w y.a ∧ vs = [.int y.b, .ref p] ∧ F p = some (.lst ws) ∧ RepL K F ws y.c
def R2 (K : PySem.W.Frag) (y : Str × List Int) (F : Hp) (v : V) (vs : List V) : Prop := ∃ a w p ws, v = .ref a ∧ SqT K F a [w, .ref p] ∧ rep K F w y.1 ∧ vs = [.ref p] ∧ F p = some (.lst ws) ∧ RepL K F ws y.2
theorem dec3 {K : PySem.W.Frag} {y : T3 Str Int (List Int)} (F : Hp) (v : V) (r : rep K F v y) : ∃ q w vs, v = .ref q ∧ SqT K F q (w :: vs) ∧ R3 K y F v vs := by
  obtain ⟨a, w, u, t, h1, h2, h3, h4, a2, ws, h5, h6, h7⟩ := r
  subst h5
  obtain rfl : u = V.int y.b := h4
  exact ⟨a, w, [V.int y.b, .ref a2], h1, h2, a, w, a2, ws, h1, h2, h3, rfl, h6, h7⟩
theorem dec2 {K : PySem.W.Frag} {y : Str × List Int} (F : Hp) (v : V) (r : rep K F v y) : ∃ q w vs, v = .ref q ∧ SqT K F q (w :: vs) ∧ R2 K y F v vs := by
  obtain ⟨a, w, u, h1, h2, h3, a2, ws, h5, h6, h7⟩ := r
  subst h5
  exact ⟨a, w, [.ref a2], h1, h2, a, w, a2, ws, h1, h2, h3, rfl, h6, h7⟩
/-- the same thing, by its one list -/
theorem one3 {K : PySem.W.Frag} {y : T3 Str Int (List Int)} {F H : Hp} {v : V} {a p : Addr} {w : V} {ws : List V} (e : v = .ref a) (s : SqT K H a [w, .int y.b, .ref p]) (r : rep K F w y.a) (l : H p = some (.lst ws)) (k : RepL K F ws y.c) : rep K (Onl H [p]) v y :=
  ⟨a, w, V.int y.b, .ref p, e, sqT_onl s, PyF.flat r, rfl, p, ws, rfl, Onl.cases.mpr ⟨l, .inr List.mem_cons_self⟩, k.flat⟩
theorem one2 {K : PySem.W.Frag} {y : Str × List Int} {F H : Hp} {v : V} {a p : Addr} {w : V} {ws : List V} (e : v = .ref a) (s : SqT K H a [w, .ref p]) (r : rep K F w y.1) (l : H p = some (.lst ws)) (k : RepL K F ws y.2) : rep K (Onl H [p]) v y :=
  ⟨a, w, .ref p, e, sqT_onl s, PyF.flat r, p, ws, rfl, Onl.cases.mpr ⟨l, .inr List.mem_cons_self⟩, k.flat⟩
/-- for part in t[1:], t a text, an int, a list -/
theorem w_for3 {y : T3 Str Int (List Int)} {lo : Option Expr} {body : List Stmt} {m1 : R S} {m2 : S → R S2} {f : S2 → R O} {Γ1 : Addr → S → List Sl} {Γ2 : Addr → S2 → List Sl} (hc : X.calm = true) (fr : Fr X H0 B) (n : Nm X i x) (l : Lc X j part) (h : Γ[i]? = some (.nw ps y)) (dl : EvP X H0 qs Γ lo (R.ok (some 1)))
    (hb1 : ∀ p H1, Same H0 H1 → ∀ N : S → Prop, W X H1 qs rt (Nx X H1 qs (Γ1 p) N) N B ((Γ.set i (.nw [p] y)).set j (.fr y.b)) body m1) (h1 : ∀ p s, (Γ1 p s)[i]? = some (.nw [p] y) := by intro _ _; rfl)
    (hb2 : ∀ p H1, Same H0 H1 → ∀ (N : S2 → Prop) s, W X H1 qs rt (Nx X H1 qs (Γ2 p) N) N B (((Γ1 p s).set i .un).set j (.ow y.c)) body (m2 s)) (hr : ∀ p s, W X H0 qs rt nx A B (Γ2 p s) rest (f s))
    (he : m = m1.bind fun s => (m2 s).bind f := by rfl) (hs : FoldO (.Subscript (.Name x p1) (.Slice lo none none p2) p3) := by intro _ _; rfl) (hpm : ∀ p s, pmG (Γ2 p s) = [] := by intro _ _; rfl) : W X H0 qs rt nx A B Γ (.For (.Name part pt) (.Subscript (.Name x p1) (.Slice lo none none p2) p3) body [] pos :: rest) m := fun q σ H at_ => by
  subst he
  obtain ⟨E, pe, hx⟩ := fr.use
  refine cons_of (wS_of (ps_for (fr.po hc) hc pi_w pg_w pss_w (hs X.env)) ?_)
  refine it_nw at_ (pe σ) n h dec3 dl fun J H1 v vs g1 s1 ⟨a, w, p, ws, k1, k2, k3, k4, k5, k6⟩ wk => ?_
  subst k4
  obtain ⟨pm, pl⟩ := lst_onl k5
  have at1 := at_.grow s1
  obtain ⟨atb, sb⟩ := at1.rebase
  have w1 := wk (Fz H1 (owA Γ σ)) fun b o hb z => Fz.some_iff.mpr ⟨z, hb⟩
  have pl1 := s1 _ _ pl
  have p0 : (Fz H1 (owA Γ σ)) p = none := by unfold Fz; rw [if_pos (owA_mem1 h g1 pm)]
  have a0 : At X.K (Fz H1 (owA Γ σ)) qs (Γ.set i (.nw [p] y)) σ H1 := by
    have := atb.put (j := i) (s' := .nw [p] y) (o' := some v) h g1 (fun b hb => by rw [List.mem_singleton.mp hb]; exact pm) (List.nodup_cons.mpr ⟨List.not_mem_nil, List.nodup_nil⟩) fun F' _ => ⟨v, rfl, one3 k1 (sqT_mono (Onl.out.trans s1) k2) k3 pl1 k6, fun b hb => by rw [List.mem_singleton.mp hb]; exact ⟨⟨ws, pl1⟩, p0⟩⟩
    rw [List.set_set, set_get_self g1] at this
    exact this
  refine ⟨fun k M σ' H' => M = 2 - k ∧ ((k = 0 ∧ At X.K (Fz H1 (owA Γ σ)) qs (Γ.set i (.nw [p] y)) σ' H') ∨ (k = 1 ∧ ∃ s, At X.K (Fz H1 (owA Γ σ)) qs (Γ1 p s) σ' H' ∧ PX (fun s2 => PX A B (f s2)) B (m2 s)) ∨ (k = 2 ∧ ∃ s, At X.K (Fz H1 (owA Γ σ)) qs (Γ2 p s) σ' H' ∧ PX A B (f s))), ⟨2, rfl, .inl ⟨rfl, a0⟩⟩, ?_⟩
  rintro k M σ' H' ⟨rfl, ⟨rfl, ats⟩ | ⟨rfl, s, ats, hq⟩ | ⟨rfl, s, ats, hq⟩⟩
  · refine .inr ⟨w1.goes 0 H' (by show 0 < 2; decide) ats.ex, Nx X (Fz H1 (owA Γ σ)) qs (Γ1 p) (fun s => PX (fun s2 => PX A B (f s2)) B (m2 s)), fun σ2 H2 ⟨s', hs', as'⟩ => ⟨1, by decide, rfl, .inr (.inl ⟨rfl, s', as', hs'⟩)⟩, fun v H2 hy => ?_⟩
    obtain ⟨s2, yv, hy1, hy2⟩ := w1.yields 0 H' v H2 (by show 0 < 2; decide) ats.ex hy
    have ev : v = yv := hy2 [] (by rw [Fz.nil]; exact ats.ex) fun _ z => by cases z
    subst ev
    obtain rfl : V.int y.b = v := Option.some.inj hy1
    refine wG_of (pg_name l.nd l.hi l.loc l.fn) ?_
    refine wSs_mono (D := { nx := _, rt := rt }) (fun _ _ z => z) (fun _ _ z => z) (fun _ _ z => False.elim z) (fun _ _ z => False.elim z) (hb1 p _ sb _ ?_ _ H2 ((ats.grow s2).setFr (x := y.b) (v := .int y.b) rfl))
    exact (PX.bind q).mono (fun s k => PX.bind k) fun _ z => z
  · refine .inr ⟨w1.goes 1 H' (by show 1 < 2; decide) ats.ex, Nx X (Fz H1 (owA Γ σ)) qs (Γ2 p) (fun s => PX A B (f s)), fun σ2 H2 ⟨s', hs', as'⟩ => ⟨0, by decide, rfl, .inr (.inr ⟨rfl, s', as', hs'⟩)⟩, fun v H2 hy => ?_⟩
    obtain ⟨s2, yv, hy1, hy2⟩ := w1.yields 1 H' v H2 (by show 1 < 2; decide) ats.ex hy
    have ev : v = yv := hy2 [] (by rw [Fz.nil]; exact ats.ex) fun _ z => by cases z
    subst ev
    obtain rfl : V.ref p = v := Option.some.inj hy1
    have at2 := ats.grow s2
    obtain ⟨o, c1, v', c2, c3, c4⟩ := at2.ok.get (h1 p s)
    subst c2
    obtain ⟨a', w', u', t', d1, d2, d3, d4, p', ws', d5, d6, d7⟩ := c3
    obtain ⟨pm', pl'⟩ := lst_onl d6
    obtain rfl : p' = p := List.mem_singleton.mp pm'
    refine wG_of (pg_name l.nd l.hi l.loc l.fn) ?_
    refine wSs_mono (D := { nx := _, rt := rt }) (fun _ _ z => z) (fun _ _ z => z) (fun _ _ z => False.elim z) (fun _ _ z => False.elim z) (hb2 p' _ sb _ s hq _ H2 (at2.put (s' := .ow y.c) (o' := some (.ref p')) (h1 p' s) c1 (fun b hb => by rw [show b = p' by simpa [own1] using hb]; exact List.mem_cons_self) (by simp [own1]) fun F' _ => ⟨p', ws', rfl, pl', (c4 p' List.mem_cons_self).2, d7.flat⟩))
  · refine .inl ⟨w1.stops H' ats.ex, ?_⟩
    exact hr p s hq σ' H' (ats.unbase sb fun G hG => by rw [hpm] at hG; cases hG)
/-- .. a text and a list -/
theorem w_for2 {y : Str × List Int} {lo : Option Expr} {body : List Stmt} {m1 : R S} {f : S → R O} {Γ1 : Addr → S → List Sl} (hc : X.calm = true) (fr : Fr X H0 B) (n : Nm X i x) (l : Lc X j part) (h : Γ[i]? = some (.nw ps y)) (dl : EvP X H0 qs Γ lo (R.ok (some 1)))
    (hb1 : ∀ p H1, Same H0 H1 → ∀ N : S → Prop, W X H1 qs rt (Nx X H1 qs (Γ1 p) N) N B ((Γ.set i .un).set j (.ow y.2)) body m1) (hr : ∀ p s, W X H0 qs rt nx A B (Γ1 p s) rest (f s))
    (he : m = m1.bind f := by rfl) (hs : FoldO (.Subscript (.Name x p1) (.Slice lo none none p2) p3) := by intro _ _; rfl) (hpm : ∀ p s, pmG (Γ1 p s) = [] := by intro _ _; rfl) : W X H0 qs rt nx A B Γ (.For (.Name part pt) (.Subscript (.Name x p1) (.Slice lo none none p2) p3) body [] pos :: rest) m := fun q σ H at_ => by
  subst he
  obtain ⟨E, pe, hx⟩ := fr.use
  refine cons_of (wS_of (ps_for (fr.po hc) hc pi_w pg_w pss_w (hs X.env)) ?_)
  refine it_nw at_ (pe σ) n h dec2 dl fun J H1 v vs g1 s1 ⟨a, w, p, ws, k1, k2, k3, k4, k5, k6⟩ wk => ?_
  subst k4
  obtain ⟨pm, pl⟩ := lst_onl k5
  have at1 := at_.grow s1
  obtain ⟨atb, sb⟩ := at1.rebase
  have w1 := wk (Fz H1 (owA Γ σ)) fun b o hb z => Fz.some_iff.mpr ⟨z, hb⟩
  have pl1 := s1 _ _ pl
  have p0 : (Fz H1 (owA Γ σ)) p = none := by unfold Fz; rw [if_pos (owA_mem1 h g1 pm)]
  have a0 : At X.K (Fz H1 (owA Γ σ)) qs (Γ.set i (.nw [p] y)) σ H1 := by
    have := atb.put (j := i) (s' := .nw [p] y) (o' := some v) h g1 (fun b hb => by rw [List.mem_singleton.mp hb]; exact pm) (List.nodup_cons.mpr ⟨List.not_mem_nil, List.nodup_nil⟩) fun F' _ => ⟨v, rfl, one2 k1 (sqT_mono (Onl.out.trans s1) k2) k3 pl1 k6, fun b hb => by rw [List.mem_singleton.mp hb]; exact ⟨⟨ws, pl1⟩, p0⟩⟩
    rw [List.set_set, set_get_self g1] at this
    exact this
  have gi : (Γ.set i (.nw [p] y))[i]? = some (.nw [p] y) := by
    obtain ⟨h1, _⟩ := List.getElem?_eq_some_iff.mp h
    exact List.getElem?_set_self h1
  refine ⟨fun k M σ' H' => M = 1 - k ∧ ((k = 0 ∧ At X.K (Fz H1 (owA Γ σ)) qs (Γ.set i (.nw [p] y)) σ' H') ∨ (k = 1 ∧ ∃ s, At X.K (Fz H1 (owA Γ σ)) qs (Γ1 p s) σ' H' ∧ PX A B (f s))), ⟨1, rfl, .inl ⟨rfl, a0⟩⟩, ?_⟩
  rintro k M σ' H' ⟨rfl, ⟨rfl, ats⟩ | ⟨rfl, s, ats, hq⟩⟩
  · refine .inr ⟨w1.goes 0 H' (by show 0 < 1; decide) ats.ex, Nx X (Fz H1 (owA Γ σ)) qs (Γ1 p) (fun s => PX A B (f s)), fun σ2 H2 ⟨s', hs', as'⟩ => ⟨0, by decide, rfl, .inr ⟨rfl, s', as', hs'⟩⟩, fun v H2 hy => ?_⟩
    obtain ⟨s2, yv, hy1, hy2⟩ := w1.yields 0 H' v H2 (by show 0 < 1; decide) ats.ex hy
    have ev : v = yv := hy2 [] (by rw [Fz.nil]; exact ats.ex) fun _ z => by cases z
    subst ev
    obtain rfl : V.ref p = v := Option.some.inj hy1
    have at2 := ats.grow s2
    obtain ⟨o, c1, v', c2, c3, c4⟩ := at2.ok.get gi
    subst c2
    obtain ⟨a', w', u', d1, d2, d3, p', ws', d5, d6, d7⟩ := c3
    obtain ⟨pm', pl'⟩ := lst_onl d6
    obtain rfl : p' = p := List.mem_singleton.mp pm'
    have a3 := at2.put (j := j) (s' := .ow y.2) (o' := some (.ref p')) gi c1 (fun b hb => by rw [show b = p' by simpa [own1] using hb]; exact List.mem_cons_self) (by simp [own1]) fun F' _ => ⟨p', ws', rfl, pl', (c4 p' List.mem_cons_self).2, d7.flat⟩
    rw [List.set_set] at a3
    refine wG_of (pg_name l.nd l.hi l.loc l.fn) ?_
    exact wSs_mono (D := { nx := _, rt := rt }) (fun _ _ z => z) (fun _ _ z => z) (fun _ _ z => False.elim z) (fun _ _ z => False.elim z) (hb1 p' _ sb _ (PX.bind q) _ H2 a3)
  · refine .inl ⟨w1.stops H' ats.ex, ?_⟩
    exact hr p s hq σ' H' (ats.unbase sb fun G hG => by rw [hpm] at hG; cases hG)
/-- .. a text alone -/
theorem w_for1 {y : T1 Str} {lo : Option Expr} {body : List Stmt} (hc : X.calm = true) (fr : Fr X H0 B) (n : Nm X i x) (h : Γ[i]? = some (.nw ps y)) (dl : EvP X H0 qs Γ lo (R.ok (some 1))) (hr : W X H0 qs rt nx A B Γ rest m)
    (hs : FoldO (.Subscript (.Name x p1) (.Slice lo none none p2) p3) := by intro _ _; rfl) : W X H0 qs rt nx A B Γ (.For (.Name part pt) (.Subscript (.Name x p1) (.Slice lo none none p2) p3) body [] pos :: rest) m := fun q σ H at_ => by
  obtain ⟨E, pe, hx⟩ := fr.use
  refine cons_of (wS_of (ps_for (fr.po hc) hc pi_w pg_w (pss_w (ss := body)) (hs X.env)) ?_)
  refine it_nw (Rr := fun _ _ vs => vs = []) at_ (pe σ) n h (fun F v ⟨a, w, h1, h2, _⟩ => ⟨a, w, [], h1, h2, rfl⟩) dl fun J H1 v vs g1 s1 e wk => ?_
  subst e
  have at1 := at_.grow s1
  have w1 := wk (Fz H1 (owA Γ σ)) fun b o hb z => Fz.some_iff.mpr ⟨z, hb⟩
  refine ⟨fun k M σ' H' => M = 0 ∧ k = 0 ∧ σ' = σ ∧ H' = H1, ⟨0, rfl, rfl, rfl, rfl⟩, ?_⟩
  rintro k M σ' H' ⟨rfl, rfl, rfl, rfl⟩
  exact .inl ⟨w1.stops H' Fz.out, hr q _ _ at1⟩
end
section
variable {X : Cx} {H0 : Hp} {qs : List Addr} {rt : VK} {nx : L2.St → Hp → Prop} {O : Type} {A : O → Prop} {B : Exc → Prop} {Γ : List Sl} {rest sa : List Stmt} {m : R O} {pos : Pos} {S : Type}
/-- a test that is known -/
theorem w_ifNo {c : Expr} (fr : Fr X H0 B) (dc : EvT X H0 qs Γ c (R.ok false)) (k : W X H0 qs rt nx A B Γ rest m) : W X H0 qs rt nx A B Γ (.If c sa [] pos :: rest) m :=
  w_ifJ (S := Unit) (Γs := fun _ => Γ) (ma := .stuck) (mb := .ok ()) (f := fun _ => m) fr dc (fun _ q => q.elim) (fun _ => w_end (s := ()) [] rfl rfl) (fun _ => k) rfl
theorem w_ifYes {c : Expr} {ma : R S} {f : S → R O} {Γs : S → List Sl} (fr : Fr X H0 B) (dc : EvT X H0 qs Γ c (R.ok true)) (ha : ∀ N : S → Prop, W X H0 qs rt (Nx X H0 qs Γs N) N B Γ sa ma) (hr : ∀ s, W X H0 qs rt nx A B (Γs s) rest (f s)) (he : m = ma.bind f := by rfl) : W X H0 qs rt nx A B Γ (.If c sa [] pos :: rest) m :=
  w_ifJ (ma := ma) (mb := .stuck) fr dc ha (fun _ q => q.elim) hr he
end
/-- tuples of items of several types -/
instance {α β : Type} [q : PyD α] [u : PyD β] : PyD (Ts (α ⊕ β)) where
  toD := fun x => .tuple (x.l.map PyD.toD)
  dp := fun {K H v x} h => by
    obtain ⟨p, vs, h1, h2, h3⟩ := h
    obtain ⟨e1, e2⟩ := dpAll h3
    exact ⟨by rw [h1]; exact .tup h2 e1, by simp only [PyData.canLay0, e2]⟩
  dep := (inferInstance : PyD (α ⊕ β)).dep + 1
  depth := fun x => by
    have h2 := depAll (d := (inferInstance : PyD (α ⊕ β))) x.l
    simp only [PyData.depth]
    omega
/-! ### the promise, and the call at a def's end -/
def spFW (K : PySem.W.Frag) {α β γ δ ρ : Type} [PyT α] [PyT β] [PyT γ] [PyT δ] [PyT ρ] (f : α × β × γ × δ × Unit → R ρ) : Sp := fun vs H Q E => ∃ (ps : List Addr) (x : α × β × γ × δ × Unit) (v1 v2 v3 v4 : V), vs = [v1, v2, v3, v4] ∧ rep K (Fz H ps) v1 x.1 ∧ rep K (Fz H ps) v2 x.2.1 ∧ rep K (Fz H ps) v3 x.2.2.1 ∧ rep K (Onl H ps) v4 x.2.2.2.1 ∧ ps.Nodup ∧ (∀ p ∈ ps, ∃ vs, H p = some (.lst vs)) ∧
  PX (fun r => ∀ v H', Same (Fz H ps) H' → rep K (Fz H' []) v r → Q v H') (fun c => ∀ H', Same (Fz H ps) H' → E (.ref (He.ga K c.nm)) none H') (f x)
section
variable {fe : List Fe} {fa : List He.Fa} {fn : List He.DefD} {P : Program} {w : World} {K : PySem.W.Frag} {mg : Str → Option Value} {base : Heap} {x qual : Str} {params : Arguments} {body : List Stmt} {scope : Scope} {f : Addr} {fd : FuncData} {N ps : List Str} {k : Nat} {α β γ δ ρ : Type}
theorem at_startW [PyT α] [PyT β] [PyT γ] [PyT δ] {K : PySem.W.Frag} {H : Hp} {N : List Str} {ps : List Addr} {x : α × β × γ × δ × Unit} {v1 v2 v3 v4 : V} (h1 : rep K (Fz H ps) v1 x.1) (h2 : rep K (Fz H ps) v2 x.2.1) (h3 : rep K (Fz H ps) v3 x.2.2.1) (h4 : rep K (Onl H ps) v4 x.2.2.2.1) (nd : ps.Nodup) (hl : ∀ p ∈ ps, ∃ vs, H p = some (.lst vs)) :
    At K (Fz H ps) [] ([.fr x.1, .fr x.2.1, .fr x.2.2.1, .nw ps x.2.2.2.1] ++ List.replicate (N.length - 4) .un) (L2.start N [v1, v2, v3, v4]) H := by
  have un0 : ∀ (k : Nat) (σ : L2.St), owA (List.replicate k Sl.un) σ = [] := fun k => by
    induction k with
    | zero => intro σ; cases σ <;> rfl
    | succ k ih => intro σ; cases σ with
      | nil => rfl
      | cons o σ => exact ih σ
  have e : owA ([.fr x.1, .fr x.2.1, .fr x.2.2.1, .nw ps x.2.2.2.1] ++ List.replicate (N.length - 4) .un) (L2.start N [v1, v2, v3, v4]) = ps := by
    show [] ++ ([] ++ ([] ++ (ps ++ owA (List.replicate (N.length - 4) Sl.un) _))) = ps
    rw [un0, List.append_nil]; rfl
  refine ⟨Fz.out, ?_, by rw [e]; exact nd, (fun _ _ z => by cases z), fun _ z => by cases z⟩
  rw [e, List.append_nil]
  have z : ∀ p ∈ ps, (∃ vs, H p = some (.lst vs)) ∧ (Fz H ps) p = none := fun p hp => ⟨hl p hp, by unfold Fz; rw [if_pos hp]⟩
  refine AllOk.app (Γ := [.fr x.1, .fr x.2.1, .fr x.2.2.1, .nw ps x.2.2.2.1]) (σ := [some v1, some v2, some v3, some v4]) ⟨⟨v1, rfl, h1⟩, ⟨v2, rfl, h2⟩, ⟨v3, rfl, h3⟩, ⟨v4, rfl, h4, z⟩, trivial⟩ (AllOk.uns _)
theorem fr_ofW {cdv : Value} {A : Around} {outer : List Env} {s : Shared} {H H1 : Hp} {E : XK} (S : FnScope N ps scope) : Fr (cxOf (L2.CX P w) P w K mg base N qual scope f cdv A outer s H E) H1 (fun c => ∀ H', Same H1 H' → E (.ref (He.ga K c.nm)) none H') :=
  ⟨⟨E, takes_of rfl rfl rfl rfl, fun c h H' s' => h H' s'⟩, fun _ => passes_of rfl⟩
theorem gd_FW [PyT α] [PyT β] [PyT γ] [PyT δ] [PyT ρ] {m : α × β × γ × δ × Unit → R ρ} {d : He.DefD} (i j : Nat) (fc : Fac fe fa fn K mg) (hi : fn[i]? = some d) (hj : fa[j]? = some (.glo x)) (S : FnScope N ps d.scope) (hl : ps.length = 4) (bn : BindE d ps)
    (hb : ∀ (X : Cx), X.prog = P → X.w = w → X.K = K → X.mg = mg → X.base = base → Cb fe fa fn X N d.scope k → ∀ (H0 : Hp) (rt : VK) (A : ρ → Prop) (B : Exc → Prop), Fr X H0 B → RtF X H0 [] rt A → ∀ (qs : List Addr) (t : α × β × γ × δ × Unit), W X H0 [] rt (fun _ H => rt .non H) A B ([.fr t.1, .fr t.2.1, .fr t.2.2.1, .nw qs t.2.2.2.1] ++ List.replicate (N.length - 4) .un) d.body (m t))
    (e1 : d.at_ = (x, none) := by rfl) (e2 : d.dfl = [] := by rfl) (e3 : d.kwd = [] := by rfl) : Gd P w K mg base x (spFW K m) 4 (k + 1) := by
  obtain ⟨fd, F⟩ := fc.s.d.def_ i hi
  have F' : FunD K d.name d.qual d.params d.body d.scope [] [] (He.fAd K d.at_) fd := by
    have q1 : d.dvs K = [] := by unfold He.DefD.dvs; rw [e2] <;> rfl
    have q2 : d.kws K = [] := by unfold He.DefD.kws; rw [e3] <;> rfl
    rw [q1, q2] at F
    exact F
  refine ⟨_, fd, ps, F'.ok S (fun vs H Q E ⟨_, _, _, _, _, _, h, _⟩ => by rw [h, hl]; rfl) fun cdv A outer s H vs Q E hr ⟨qs, t, v1, v2, v3, v4, h0, h1, h2, h3, h4, h5, h6, h7⟩ => ⟨_, pss_w, ?_⟩, ?_, F'.kp, F'.bindsN bn, hl⟩
  · subst h0
    exact hb _ rfl rfl rfl rfl rfl (cb_of S fc hr) (Fz H qs) Q (fun r => ∀ v H', Same (Fz H qs) H' → rep K (Fz H' []) v r → Q v H') _ (fr_ofW S) (fun r a => a) qs t h7 _ H (at_startW h1 h2 h3 h4 h5 h6)
  · rw [e1]
    exact fc.glo j hj
end
section
variable {X : Cx} {H0 : Hp} {qs ps : List Addr} {rt : VK} {nx : L2.St → Hp → Prop} {O : Type} {A : O → Prop} {B : Exc → Prop} {Γ : List Sl} {rest : List Stmt} {m : R O} {a1 a2 a3 : Expr} {pos pos2 pX p4 : Pos} {x fx : Str} {i : Nat} {α β γ δ ρ : Type}
/-- return f(a, b, c, what was told anew) -/
theorem w_retFW [PyT α] [PyT β] [PyT γ] [PyT δ] [PyF ρ] {f : α × β × γ × δ × Unit → R ρ} {y : δ} {A' : ρ → Prop} {gg : ρ → O} {m1 : R α} {m2 : R β} {m3 : R γ} (D : Dn X fx (spFW X.K f) 4) (g : Gn X fx) (d1 : Ev X H0 qs true Γ a1 m1) (d2 : Ev X H0 qs true Γ a2 m2) (d3 : Ev X H0 qs true Γ a3 m3) (n : Nm X i x) (h : Γ[i]? = some (.nw ps y)) (fr : Fr X H0 B) (hR : RtF X H0 qs rt A') (hg : ∀ r, A (gg r) → A' r)
    (he : m = m1.bind fun x1 => m2.bind fun x2 => m3.bind fun x3 => (f (x1, x2, x3, y, ())).bind fun r => .ok (gg r) := by rfl)
    (hs1 : ∀ env, starEach [a1, a2, a3, .Name x p4] env = (false, eval a1 env) :: starEach [a2, a3, .Name x p4] env := by intro _; rfl) (hs2 : ∀ env, starEach [a2, a3, .Name x p4] env = (false, eval a2 env) :: starEach [a3, .Name x p4] env := by intro _; rfl)
    (hs3 : ∀ env, starEach [a3, .Name x p4] env = (false, eval a3 env) :: starEach [.Name x p4] env := by intro _; rfl) (hs4 : ∀ env, starEach [.Name x p4] env = (false, eval (.Name x p4) env) :: starEach [] env := by intro _; rfl)
    (hp : ∀ env, (backTo pos2 (starEach [a2, a3, .Name x p4] env)).any (·.1) = false := by intro _; rfl) : W X H0 qs rt nx A B Γ (.Return (some (.Call (.Name fx pX) [a1, a2, a3, .Name x p4] [] pos2)) pos :: rest) m := fun q σ H at_ => by
  subst he
  obtain ⟨E, pe, hx⟩ := fr.use
  refine cons_of (wS_of (ps_ret pe_w) ?_)
  refine call_any (t := fun _ _ _ => True) D g (pe σ) hs1 hp (wA_of (pa_cons pe_w pa_w (hs1 X.env)) ?_)
  refine d1 σ H at_ E (pe σ) _ ((PX.bind q).mono (fun x1 q2 v1 H1 s1 r1 => ?_) fun c z => hx c H at_.ex z)
  refine wA_of (pa_cons pe_w pa_w (hs2 X.env)) ?_
  have at1 := at_.grow s1
  refine d2 σ H1 at1 E (pe σ) _ ((PX.bind q2).mono (fun x2 q3 v2 H2 s2 r2 => ?_) fun c z => hx c H1 at1.ex z)
  refine wA_of (pa_cons pe_w pa_w (hs3 X.env)) ?_
  have at2 := at1.grow s2
  refine d3 σ H2 at2 E (pe σ) _ ((PX.bind q3).mono (fun x3 q4 v3 H3 s3 r3 => ?_) fun c z => hx c H2 at2.ex z)
  have at3 := at2.grow s3
  obtain ⟨o, g1, v, g2, g3, g4⟩ := at3.ok.get h
  subst g2
  refine wA_of (pa_cons (pe_var n.hi n.vis n.hd n.hc) pa_nil (hs4 X.env)) ⟨v, g1, ?_⟩
  have own : ∀ b ∈ ps, b ∈ owA Γ σ ++ qs := fun b hb => List.mem_append_left _ (owA_mem1 h g1 hb)
  have s0 : Same H0 (Fz H3 ps) := fun b o e => Fz.some_iff.mpr ⟨fun z => (by rw [(g4 b z).2] at e; cases e), at3.ex b o e⟩
  exact ⟨ps, (x1, x2, x3, y, ()), v1, v2, v3, v, rfl, PyT.mono (Fz.sub (s2.trans s3) own) r1, PyT.mono (Fz.sub s3 own) r2, PyT.mono (Fz.sub (Same.refl _) own) r3, g3, own_nd h g1 at3.nd, fun p hp => (g4 p hp).1,
    (PX.bind q4).mono (fun r k v' H' s rr => hR r (hg r k) v' H' (s0.trans s) (PyF.flat rr)) fun c z => hx c _ s0 z⟩
end
end Wk
set_option Elab.async false
set_option linter.all false
set_option maxRecDepth 100000
set_option maxHeartbeats 0
namespace Wk
open PySem PySem.Spec PyProof.Rows L2
def top (i : Nat) : Stmt := PySem.Challenge.pw_owinghall_k12_told_papers.main.body.getD i (.Pass ⟨0, 0, 0, 0⟩)
abbrev s_coins : Stmt := top 7
def dd_coins : He.DefD := ⟨("coins", none), "coins", "coins", defArgs s_coins, defBody s_coins, defScope s_coins, [], []⟩
abbrev s_less : Stmt := top 8
def dd_less : He.DefD := ⟨("less", none), "less", "less", defArgs s_less, defBody s_less, defScope s_less, [], []⟩
abbrev s_small_table : Stmt := top 10
def dd_small_table : He.DefD := ⟨("small_table", none), "small_table", "small_table", defArgs s_small_table, defBody s_small_table, defScope s_small_table, [], []⟩
abbrev s_pivot_row : Stmt := top 11
def dd_pivot_row : He.DefD := ⟨("pivot_row", none), "pivot_row", "pivot_row", defArgs s_pivot_row, defBody s_pivot_row, defScope s_pivot_row, [], []⟩
abbrev s_det : Stmt := top 12
def dd_det : He.DefD := ⟨("det", none), "det", "det", defArgs s_det, defBody s_det, defScope s_det, [], []⟩
abbrev s_without : Stmt := top 13
def dd_without : He.DefD := ⟨("without", none), "without", "without", defArgs s_without, defBody s_without, defScope s_without, [], []⟩
abbrev s_adjoint : Stmt := top 14
def dd_adjoint : He.DefD := ⟨("adjoint", none), "adjoint", "adjoint", defArgs s_adjoint, defBody s_adjoint, defScope s_adjoint, [], []⟩
abbrev s_kinds : Stmt := top 16
def dd_kinds : He.DefD := ⟨("kinds", none), "kinds", "kinds", defArgs s_kinds, defBody s_kinds, defScope s_kinds, [], []⟩
abbrev s_look_at_lengths : Stmt := top 17
def dd_look_at_lengths : He.DefD := ⟨("look_at_lengths", none), "look_at_lengths", "look_at_lengths", defArgs s_look_at_lengths, defBody s_look_at_lengths, defScope s_look_at_lengths, [], []⟩
abbrev s_times : Stmt := top 18
def dd_times : He.DefD := ⟨("times", none), "times", "times", defArgs s_times, defBody s_times, defScope s_times, [], []⟩
abbrev s_alike : Stmt := top 19
def dd_alike : He.DefD := ⟨("alike", none), "alike", "alike", defArgs s_alike, defBody s_alike, defScope s_alike, [], []⟩
abbrev s_tie_fits : Stmt := top 23
def dd_tie_fits : He.DefD := ⟨("tie_fits", none), "tie_fits", "tie_fits", defArgs s_tie_fits, defBody s_tie_fits, defScope s_tie_fits, [], []⟩
abbrev s_reached : Stmt := top 24
def dd_reached : He.DefD := ⟨("reached", none), "reached", "reached", defArgs s_reached, defBody s_reached, defScope s_reached, [], []⟩
abbrev s_made : Stmt := top 25
def dd_made : He.DefD := ⟨("made", none), "made", "made", defArgs s_made, defBody s_made, defScope s_made, [], []⟩
abbrev s__law_cell_at : Stmt := top 27
def dd__law_cell_at : He.DefD := ⟨("_law_cell_at", none), "_law_cell_at", "_law_cell_at", defArgs s__law_cell_at, defBody s__law_cell_at, defScope s__law_cell_at, [], []⟩
abbrev s__law_mixed : Stmt := top 28
def dd__law_mixed : He.DefD := ⟨("_law_mixed", none), "_law_mixed", "_law_mixed", defArgs s__law_mixed, defBody s__law_mixed, defScope s__law_mixed, [], []⟩
abbrev s__law_ties : Stmt := top 29
def dd__law_ties : He.DefD := ⟨("_law_ties", none), "_law_ties", "_law_ties", defArgs s__law_ties, defBody s__law_ties, defScope s__law_ties, [], []⟩
abbrev s__law_sizes : Stmt := top 30
def dd__law_sizes : He.DefD := ⟨("_law_sizes", none), "_law_sizes", "_law_sizes", defArgs s__law_sizes, defBody s__law_sizes, defScope s__law_sizes, [], []⟩
abbrev s__law_whole : Stmt := top 31
def dd__law_whole : He.DefD := ⟨("_law_whole", none), "_law_whole", "_law_whole", defArgs s__law_whole, defBody s__law_whole, defScope s__law_whole, [], []⟩
abbrev s__law_numbers : Stmt := top 32
def dd__law_numbers : He.DefD := ⟨("_law_numbers", none), "_law_numbers", "_law_numbers", defArgs s__law_numbers, defBody s__law_numbers, defScope s__law_numbers, [], []⟩
abbrev s__law_lent : Stmt := top 33
def dd__law_lent : He.DefD := ⟨("_law_lent", none), "_law_lent", "_law_lent", defArgs s__law_lent, defBody s__law_lent, defScope s__law_lent, [], []⟩
abbrev s__law_big : Stmt := top 34
def dd__law_big : He.DefD := ⟨("_law_big", none), "_law_big", "_law_big", defArgs s__law_big, defBody s__law_big, defScope s__law_big, [], []⟩
abbrev s__law_standings : Stmt := top 35
def dd__law_standings : He.DefD := ⟨("_law_standings", none), "_law_standings", "_law_standings", defArgs s__law_standings, defBody s__law_standings, defScope s__law_standings, [], []⟩
abbrev s__law_weighed : Stmt := top 36
def dd__law_weighed : He.DefD := ⟨("_law_weighed", none), "_law_weighed", "_law_weighed", defArgs s__law_weighed, defBody s__law_weighed, defScope s__law_weighed, [], []⟩
abbrev s__law_refused : Stmt := top 37
def dd__law_refused : He.DefD := ⟨("_law_refused", none), "_law_refused", "_law_refused", defArgs s__law_refused, defBody s__law_refused, defScope s__law_refused, [], []⟩
abbrev s__law_same_again : Stmt := top 38
def dd__law_same_again : He.DefD := ⟨("_law_same_again", none), "_law_same_again", "_law_same_again", defArgs s__law_same_again, defBody s__law_same_again, defScope s__law_same_again, [], []⟩
abbrev s_law : Stmt := top 39
def dd_law : He.DefD := ⟨("law", none), "law", "law", defArgs s_law, defBody s_law, defScope s_law, [], []⟩
def fn : List He.DefD := [dd_coins, dd_less, dd_small_table, dd_pivot_row, dd_det, dd_without, dd_adjoint, dd_kinds, dd_look_at_lengths, dd_times, dd_alike, dd_tie_fits, dd_reached, dd_made, dd__law_cell_at, dd__law_mixed, dd__law_ties, dd__law_sizes, dd__law_whole, dd__law_numbers, dd__law_lent, dd__law_big, dd__law_standings, dd__law_weighed, dd__law_refused, dd__law_same_again, dd_law]
def fa : List He.Fa := [.glo "OwingError", .exc "OwingError", .glo "BadWeb", .exc "BadWeb", .glo "Parted", .exc "Parted", .glo "BadStanding", .exc "BadStanding", .glo "BadHouse", .exc "BadHouse", .glo "coins", .glo "less", .glo "small_table", .glo "pivot_row", .glo "det", .glo "without", .glo "adjoint", .glo "kinds", .glo "look_at_lengths", .glo "times", .glo "alike", .int "MOST_HOUSES" 8, .int "MOST_TIES" 16, .glo "tie_fits", .glo "reached", .glo "made", .glo "_law_cell_at", .glo "_law_mixed", .glo "_law_ties", .glo "_law_sizes", .glo "_law_whole", .glo "_law_numbers", .glo "_law_lent", .glo "_law_big", .glo "_law_standings", .glo "_law_weighed", .glo "_law_refused", .glo "_law_same_again", .glo "law", .free "len", .free "range", .free "list", .free "sum", .free "isinstance", .free "min", .free "max", .free "tuple", .free "sorted", .free "enumerate", .free "int", .free "str", .free "bool", .free "ValueError", .exm "BadWeb" "OwingError" true, .exm "BadWeb" "BadWeb" true, .exm "Parted" "OwingError" true, .exm "Parted" "Parted" true, .exm "BadStanding" "OwingError" true, .exm "BadStanding" "BadStanding" true, .exm "BadHouse" "OwingError" true, .exm "BadHouse" "BadHouse" true]
def fe : List Fe := [.exc "BadStanding", .kit "BadStanding" "BadStanding" true, .kitB "BadStanding" "ValueError" true, .kit "BadStanding" "BadHouse" false]
def m_law_cell_at (t : Scr × Int × Unit) : R Int :=
  (if (decide (t.2.1 < (t.1.l.length : Int))) = true then (((ixR t.1.l t.2.1) : R Int).bind fun z1 => .ok z1) else (.ok (0 : Int)))
def m_law_sizes (t : Int × Unit) : R (Int × Int) :=
  (((((modR t.1 (8 : Int)) : R _).bind fun x2 => (ixR ([(3 : Int), (2 : Int), (4 : Int), (3 : Int), (5 : Int), (1 : Int), (4 : Int), (3 : Int)] : (List Int)) x2)) : R Int).bind fun y3 => (if (pyEq y3 (1 : Int)) = true then (.ok ((1 : Int), (0 : Int))) else (((((((((((divR t.1 (8 : Int)) : R _).bind fun x5 => (((((divR (16 : Int) y3) : R _).bind fun x4 => (.ok (x4 + (1 : Int)))) : R _).bind fun x6 => (modR x5 x6))) : R _).bind fun x7 => (.ok (x7, (())))) : R _).bind fun x8 => (.ok (y3, x8))) : R _).bind fun x9 => (.ok (x9.1, x9.2.1))) : R (Int × Int)).bind fun z10 => .ok z10)))
def m_law_mixed (t : Int × Int × Unit) : R Int :=
  (((((((((((mulR (7919 : Int) t.2.1) : R _).bind fun x20 => (mulR x20 t.2.1)) : R _).bind fun x21 => (.ok (t.1 + x21))) : R _).bind fun x22 => (.ok (x22 + t.2.1))) : R _).bind fun x23 => (modR x23 (2147483647 : Int))) : R Int).bind fun y24 => (((((mulR y24 y24) : R _).bind fun x25 => (modR x25 (1000000007 : Int))) : R Int).bind fun y26 => (((((mulR y26 (48271 : Int)) : R _).bind fun x27 => (modR x27 (998244353 : Int))) : R Int).bind fun z28 => .ok z28)))
def m_law_ties (t : Int × Int × Int × Unit) : R (List (Int × Int)) :=
  (((.ok ([] : (List (Int × Int)))) : R (List (Int × Int))).bind fun y14 => (((.ok ([(0 : Int)] : (List Int))) : R (List Int)).bind fun y15 => (((rngR (1 : Int) t.1) : R _).bind fun x83 => (R.bind (forR (fun y17 s16 => (((m_law_mixed (t.2.2.1, y17, ())) : R Int).bind fun y29 => (((((((((((((modR y29 y17) : R _).bind fun x30 => (.ok (x30, (())))) : R _).bind fun x31 => (.ok (y17, x31))) : R _).bind fun x32 => (.ok (x32.1, x32.2.1))) : R _).bind fun x36 => (((((((((modR y29 y17) : R _).bind fun x33 => (.ok (x33, (y17, ())))) : R _).bind fun x34 => (.ok (x34.1, x34.2.1))) : R _).bind fun x35 => (.ok (x35 :: []))) : R _).bind fun x37 => (.ok (x36 :: x37)))) : R _).bind fun x39 => (((((divR y29 (7 : Int)) : R _).bind fun x38 => (modR x38 (2 : Int))) : R _).bind fun x40 => (ixR x39 x40))) : R _).bind fun x49 => ((appR s16.1 x49).bind fun y41 => (((((((((m_law_mixed (t.2.2.1, (90 : Int) + y17, ())) : R _).bind fun x42 => (modR x42 (y17 + (1 : Int)))) : R _).bind fun x44 => (((((divR t.2.2.1 (3 : Int)) : R _).bind fun x43 => (modR x43 (2 : Int))) : R _).bind fun x45 => (mulR x44 x45))) : R _).bind fun x46 => (.ok (y17 - x46))) : R _).bind fun x48 => ((insR s16.2 x48 y17).bind fun y47 => (.ok (y41, y47)))))))) x83 (y14, y15)) fun s16 : ((List (Int × Int)) × (List Int)) => (((rngR 0 t.2.1) : R _).bind fun x82 => (R.bind (forR (fun y51 s50 => (((((((((((((mulR (2 : Int) y51) : R _).bind fun x54 => (.ok ((20 : Int) + x54))) : R _).bind fun x55 => (.ok (x55, (())))) : R _).bind fun x56 => (.ok (t.2.2.1, x56))) : R _).bind fun x57 => (m_law_mixed x57)) : R _).bind fun x58 => (modR x58 t.1)) : R Int).bind fun y59 => (((((((((((((((((((((((mulR (2 : Int) y51) : R _).bind fun x60 => (.ok ((21 : Int) + x60))) : R _).bind fun x61 => (.ok (x61, (())))) : R _).bind fun x62 => (.ok (t.2.2.1, x62))) : R _).bind fun x63 => (m_law_mixed x63)) : R _).bind fun x64 => (modR x64 (t.1 - (1 : Int)))) : R _).bind fun x65 => (.ok ((y59 + (1 : Int)) + x65))) : R _).bind fun x66 => (modR x66 t.1)) : R _).bind fun x67 => (.ok (x67, (())))) : R _).bind fun x68 => (.ok (y59, x68))) : R _).bind fun x69 => (.ok (x69.1, x69.2.1))) : R _).bind fun x71 => ((appR s50 x71).bind fun y70 => (.ok y70))))) x82 s16.1) fun s50 : (List (Int × Int)) => (((mapR (fun y72 => (((((ixR s16.2 y72.1) : R _).bind fun x78 => (((((ixR s16.2 y72.2) : R _).bind fun x77 => (.ok (x77, (())))) : R _).bind fun x79 => (.ok (x78, x79)))) : R _).bind fun x80 => (.ok (x80.1, x80.2.1)))) s50) : R (List (Int × Int))).bind fun z81 => .ok z81)))))))
def m_tie_fits (t : Int × (Int × Int) × Unit) : R Bool :=
  (((if (!pyEq t.2.1.1 t.2.1.2) = true then (if (decide ((0 : Int) ≤ min t.2.1.1 t.2.1.2)) = true then (R.ok (decide (max t.2.1.1 t.2.1.2 < t.1))) else R.ok false) else R.ok false) : R Bool).bind fun z93 => .ok z93)
def m_reached (t : Int × (List (Int × Int)) × Unit) : R (List Int) :=
  (((((rngR 0 t.1) : R _).bind fun x101 => (mapR (fun y96 => (.ok (pyEq y96 (0 : Int)))) x101)) : R (List Bool)).bind fun y102 => (((.ok true) : R Bool).bind fun y103 => (R.bind (whileR (fun s104 => (.ok s104.2)) (fun s104 => (((.ok false) : R Bool).bind fun y105 => (R.bind (forR (fun y107 s106 => (((((ixR s106.1 y107.1) : R _).bind fun x110 => (((ixR s106.1 y107.2) : R _).bind fun x111 => (.ok (!pyEq x110 x111)))) : R Bool).bind fun c117 => R.bind (if c117 = true then ((setR s106.1 y107.1 true).bind fun y113 => ((setR y113 y107.2 true).bind fun y114 => (((.ok true) : R Bool).bind fun y115 => (.ok (y114, y115))))) else (.ok (s106.1, s106.2))) fun s112 : ((List Bool) × Bool) => (.ok (s112.1, s112.2)))) t.2.1 (s104.1, y105)) fun s106 : ((List Bool) × Bool) => (.ok (s106.1, s106.2))))) fuel (y102, y103)) fun s104 : ((List Bool) × Bool) => (((((rngR 0 t.1) : R _).bind fun x124 => (compR (fun y118 => (((ixR s104.1 y118) : R _).bind fun x123 => (if x123 = true then (R.ok (some y118)) else R.ok none))) x124)) : R (List Int)).bind fun z125 => .ok z125))))
def m_made (t : Int × (List (Int × Int)) × Unit) : R (Int × (Tu (Int × Int))) :=
  (((if (decide (t.1 < (1 : Int))) = true then R.ok true else (if (decide ((8 : Int) < t.1)) = true then R.ok true else (R.ok (decide ((16 : Int) < (t.2.1.length : Int)))))) : R Bool).bind fun c140 => if c140 = true then (.exc .badWeb) else (R.bind (forR (fun y90 s89 => (((((m_tie_fits (t.1, y90, ())) : R _).bind fun x94 => (.ok (!x94))) : R Bool).bind fun c95 => if c95 = true then (.exc .badWeb) else (.ok ()))) t.2.1 ()) fun s89 : Unit => (((((((m_reached (t.1, t.2.1, ())) : R _).bind fun x126 => (.ok (x126.length : Int))) : R _).bind fun x127 => (.ok (decide (x127 < t.1)))) : R Bool).bind fun c139 => if c139 = true then (.exc .parted) else (((((((((((((mapR (fun y128 => (.ok (min y128.1 y128.2, max y128.1 y128.2))) t.2.1) : R _).bind fun x133 => (.ok (sortP x133))) : R _).bind fun x134 => (.ok (Tu.mk x134))) : R _).bind fun x135 => (.ok (x135, (())))) : R _).bind fun x136 => (.ok (t.1, x136))) : R _).bind fun x137 => (.ok (x137.1, x137.2.1))) : R (Int × (Tu (Int × Int)))).bind fun z138 => .ok z138))))
def m_law_big (t : Int × Unit) : R Int :=
  (((((modR t.1 (2 : Int)) : R _).bind fun x157 => (.ok (pyEq x157 (0 : Int)))) : R Bool).bind fun c172 => if c172 = true then (((((((divR t.1 (2 : Int)) : R _).bind fun x158 => (modR x158 (13 : Int))) : R _).bind fun x159 => (.ok (x159 - (6 : Int)))) : R Int).bind fun z160 => .ok z160) else (((((divR t.1 (2 : Int)) : R _).bind fun x161 => (((powR (10 : Int) (60 : Int)) : R _).bind fun x162 => (modR x161 x162))) : R Int).bind fun y163 => (((((((((((powR y163 (4 : Int)) : R _).bind fun x164 => (mulR x164 (48270 : Int))) : R _).bind fun x165 => (.ok (x165 + y163))) : R _).bind fun x167 => (((((powR (10 : Int) (58 : Int)) : R _).bind fun x166 => (mulR (2 : Int) x166)) : R _).bind fun x168 => (modR x167 x168))) : R _).bind fun x169 => (((powR (10 : Int) (58 : Int)) : R _).bind fun x170 => (.ok (x169 - x170)))) : R Int).bind fun z171 => .ok z171)))
def m_law_standings (t : Scr × Int × Unit) : R ((List Int) × (List Int)) :=
  (((((((mulR (2 : Int) t.2.1) : R _).bind fun x142 => (rngR 0 x142)) : R _).bind fun x148 => (mapR (fun y143 => (.ok (0 : Int))) x148)) : R (List Int)).bind fun y149 => (((rngR (2 : Int) (min (t.1.l.length : Int) (64 : Int))) : R _).bind fun x224 => (R.bind (forR (fun y151 s150 => (((((mulR (2 : Int) t.2.1) : R _).bind fun x154 => (modR y151 x154)) : R Int).bind fun y155 => (((((((ixR s150 y155) : R _).bind fun x156 => (mulR x156 (1000003 : Int))) : R _).bind fun x175 => (((((((ixR t.1.l y151) : R _).bind fun x173 => (.ok (x173, (())))) : R _).bind fun x174 => (m_law_big x174)) : R _).bind fun x176 => (.ok (x175 + x176)))) : R _).bind fun x178 => ((setR s150 y155 x178).bind fun y177 => (.ok y177))))) x224 y149) fun s150 : (List Int) => (((((((((m_law_cell_at (t.1, (0 : Int), ())) : R _).bind fun x179 => (divR x179 (128 : Int))) : R _).bind fun x180 => (modR x180 (2 : Int))) : R _).bind fun x181 => (.ok (pyEq x181 (0 : Int)))) : R Bool).bind fun c223 => R.bind (if c223 = true then (((mapR (fun y183 => (((((powR y183 (4 : Int)) : R _).bind fun x188 => (mulR x188 (48270 : Int))) : R _).bind fun x189 => (.ok (x189 + y183)))) s150) : R (List Int)).bind fun y190 => (.ok y190)) else (.ok s150)) fun s182 : (List Int) => (((mapR (fun y191 => (((((((powR (10 : Int) (58 : Int)) : R _).bind fun x196 => (mulR (2 : Int) x196)) : R _).bind fun x197 => (modR y191 x197)) : R _).bind fun x198 => (((powR (10 : Int) (58 : Int)) : R _).bind fun x199 => (.ok (x198 - x199))))) s182) : R (List Int)).bind fun y200 => (((((((((m_law_cell_at (t.1, (0 : Int), ())) : R _).bind fun x201 => (divR x201 (128 : Int))) : R _).bind fun x202 => (modR x202 (2 : Int))) : R _).bind fun x203 => (.ok (pyEq x203 (1 : Int)))) : R Bool).bind fun c221 => R.bind (if c221 = true then (((mapR (fun y205 => (((modR y205 (13 : Int)) : R _).bind fun x210 => (.ok (x210 - (6 : Int))))) y200) : R (List Int)).bind fun y211 => (.ok y211)) else (.ok y200)) fun s204 : (List Int) => (((.ok (cutL s204 none (some t.2.1))) : R (List Int)).bind fun y212 => (((.ok (cutL s204 (some t.2.1) none)) : R (List Int)).bind fun y213 => (((((((m_law_cell_at (t.1, (1 : Int), ())) : R _).bind fun x214 => (modR x214 (4 : Int))) : R _).bind fun x215 => (.ok (decide ((0 : Int) < x215)))) : R Bool).bind fun c219 => R.bind (if c219 = true then ((setR y213 (t.2.1 - (1 : Int)) ((List.sum y212) - (List.sum (cutL y213 none (some (t.2.1 - (1 : Int))))))).bind fun y217 => (.ok y217)) else (.ok y213)) fun s216 : (List Int) => (.ok (y212, s216)))))))))))
def m_look_at_lengths (t : (Int × (Tu (Int × Int))) × (List Int) × (List Int) × Unit) : R Unit :=
  (((if (!pyEq (t.2.1.length : Int) t.1.1) = true then R.ok true else (R.ok (!pyEq (t.2.2.1.length : Int) t.1.1))) : R Bool).bind fun c231 => if c231 = true then (.exc .badStanding) else (.ok ()))
def m_coins (t : (List Int) × Unit) : R Int :=
  (.ok (List.sum t.1))
def m_small_table (t : (Int × (Tu (Int × Int))) × Unit) : R (List (List Int)) :=
  (((.ok t.1.1) : R Int).bind fun y234 => (((((rngR (1 : Int) y234) : R _).bind fun x246 => (mapR (fun y235 => (((rngR (1 : Int) y234) : R _).bind fun x245 => (mapR (fun y240 => (.ok (0 : Int))) x245))) x246)) : R (List (List Int))).bind fun y247 => (R.bind (forR (fun y250 s249 => (((((((ixR s249 (y250.2 - (1 : Int))) : R _).bind fun x253 => (ixR x253 (y250.2 - (1 : Int)))) : R _).bind fun x254 => (.ok (x254 + (1 : Int)))) : R _).bind fun x275 => (((rowR s249 (y250.2 - (1 : Int))) : R _).bind fun k276 => (((setR k276.2 (y250.2 - (1 : Int)) x275) : R _).bind fun w277 => ((fun y255 : (List (List Int)) => (R.bind (if (decide ((0 : Int) < y250.1)) = true then (((((((ixR y255 (y250.1 - (1 : Int))) : R _).bind fun x257 => (ixR x257 (y250.1 - (1 : Int)))) : R _).bind fun x258 => (.ok (x258 + (1 : Int)))) : R _).bind fun x272 => (((rowR y255 (y250.1 - (1 : Int))) : R _).bind fun k273 => (((setR k273.2 (y250.1 - (1 : Int)) x272) : R _).bind fun w274 => ((fun y259 : (List (List Int)) => (((((((ixR y259 (y250.1 - (1 : Int))) : R _).bind fun x260 => (ixR x260 (y250.2 - (1 : Int)))) : R _).bind fun x261 => (.ok (x261 - (1 : Int)))) : R _).bind fun x269 => (((rowR y259 (y250.1 - (1 : Int))) : R _).bind fun k270 => (((setR k270.2 (y250.2 - (1 : Int)) x269) : R _).bind fun w271 => ((fun y262 : (List (List Int)) => (((((((ixR y262 (y250.2 - (1 : Int))) : R _).bind fun x263 => (ixR x263 (y250.1 - (1 : Int)))) : R _).bind fun x264 => (.ok (x264 - (1 : Int)))) : R _).bind fun x266 => (((rowR y262 (y250.2 - (1 : Int))) : R _).bind fun k267 => (((setR k267.2 (y250.1 - (1 : Int)) x266) : R _).bind fun w268 => ((fun y265 : (List (List Int)) => (.ok y265)) (List.set y262 k267.1 w268)))))) (List.set y259 k270.1 w271)))))) (List.set y255 k273.1 w274))))) else (.ok y255)) fun s256 : (List (List Int)) => (.ok s256))) (List.set s249 k276.1 w277)))))) ((t.1.2).l) y247) fun s249 : (List (List Int)) => (.ok s249))))
def m_pivot_row (t : (List (List Int)) × Int × Unit) : R Int :=
  (((rngR t.2.1 (t.1.length : Int)) : R _).bind fun x299 => (R.ct (forM (fun y293 s292 => (((((((ixR t.1 y293) : R _).bind fun x296 => (ixR x296 t.2.1)) : R _).bind fun x297 => (.ok (!pyEq x297 (0 : Int)))) : R Bool).bind fun c298 => if c298 = true then (.ok (.rt y293)) else (.ok (.nx ())))) x299 ()) fun s292 : Unit => (.ok (-(1 : Int)))))
def m_det (t : (List (List Int)) × Unit) : R Int :=
  (((mapR (fun y279 => (.ok y279)) t.1) : R (List (List Int))).bind fun y284 => (((.ok (1 : Int)) : R Int).bind fun y286 => (((.ok (1 : Int)) : R Int).bind fun y287 => (((rngR 0 (y284.length : Int)) : R _).bind fun x331 => (R.ct (forM (fun y289 s288 => (((m_pivot_row (s288.1, y289, ())) : R Int).bind fun y300 => (if (decide (y300 < (0 : Int))) = true then (.ok (.rt (0 : Int))) else (R.bind (if (!pyEq y300 y289) = true then ((swapR s288.1 y289 y300).bind fun y302 => (((.ok (-s288.2.1)) : R Int).bind fun y303 => (.ok (y302, y303)))) else (.ok (s288.1, s288.2.1))) fun s301 : ((List (List Int)) × Int) => (((((ixR s301.1 y289) : R _).bind fun x304 => (ixR x304 y289)) : R Int).bind fun y305 => (((rngR (y289 + (1 : Int)) (s301.1.length : Int)) : R _).bind fun x329 => (R.bind (forR (fun y307 s306 => (((((ixR s306 y307) : R _).bind fun x310 => (ixR x310 y289)) : R Int).bind fun y311 => (((rngR y289 (s306.length : Int)) : R _).bind fun x327 => (R.bind (forR (fun y313 s312 => (((((((((((ixR s312 y307) : R _).bind fun x316 => (ixR x316 y313)) : R _).bind fun x317 => (mulR x317 y305)) : R _).bind fun x320 => (((((((ixR s312 y289) : R _).bind fun x318 => (ixR x318 y313)) : R _).bind fun x319 => (mulR y311 x319)) : R _).bind fun x321 => (.ok (x320 - x321)))) : R _).bind fun x322 => (divR x322 s288.2.2)) : R _).bind fun x324 => (((rowR s312 y307) : R _).bind fun k325 => (((setR k325.2 y313 x324) : R _).bind fun w326 => ((fun y323 : (List (List Int)) => (.ok y323)) (List.set s312 k325.1 w326)))))) x327 s306) fun s312 : (List (List Int)) => (.ok s312))))) x329 s301.1) fun s306 : (List (List Int)) => (((.ok y305) : R Int).bind fun y328 => (.ok (.nx (s306, s301.2, y328))))))))))) x331 (y284, y286, y287)) fun s288 : ((List (List Int)) × Int × Int) => (((mulR s288.2.1 s288.2.2) : R Int).bind fun z330 => .ok z330))))))
def m_without (t : (List (List Int)) × Int × Int × Unit) : R (List (List Int)) :=
  (((catR (cutL t.1 none (some t.2.1)) (cutL t.1 (some (t.2.1 + (1 : Int))) none)) : R (List (List Int))).bind fun y344 => (((mapR (fun y345 => (catR (cutL y345 none (some t.2.2.1)) (cutL y345 (some (t.2.2.1 + (1 : Int))) none))) y344) : R (List (List Int))).bind fun z350 => .ok z350))
def m_adjoint (t : (List (List Int)) × Unit) : R (List (List Int)) :=
  (((.ok (t.1.length : Int)) : R Int).bind fun y333 => (((.ok ([] : (List (List Int)))) : R (List (List Int))).bind fun y334 => (((rngR 0 y333) : R _).bind fun x363 => (R.bind (forR (fun y336 s335 => (((.ok ([] : (List Int))) : R (List Int)).bind fun y339 => (((rngR 0 y333) : R _).bind fun x362 => (R.bind (forR (fun y341 s340 => (((((((m_without (t.1, y341, y336, ())) : R _).bind fun x351 => (.ok (x351, (())))) : R _).bind fun x352 => (m_det x352)) : R Int).bind fun y353 => (((((modR (y336 + y341) (2 : Int)) : R _).bind fun x354 => (.ok (pyEq x354 (1 : Int)))) : R Bool).bind fun c359 => R.bind (if c359 = true then (((.ok (-y353)) : R Int).bind fun y356 => (.ok y356)) else (.ok y353)) fun s355 : Int => ((appR s340 s355).bind fun y357 => (.ok y357))))) x362 y339) fun s340 : (List Int) => ((appR s335 s340).bind fun y361 => (.ok y361)))))) x363 y334) fun s335 : (List (List Int)) => (.ok s335)))))
def m_less (t : (List Int) × (List Int) × Unit) : R (List Int) :=
  (if (!pyEq (t.1.length : Int) (t.2.1.length : Int)) = true then (.exc .badStanding) else (((((rngR 0 (t.1.length : Int)) : R _).bind fun x372 => (mapR (fun y365 => (((ixR t.1 y365) : R _).bind fun x370 => (((ixR t.2.1 y365) : R _).bind fun x371 => (.ok (x370 - x371))))) x372)) : R (List Int)).bind fun z373 => .ok z373))
def m_times (t : (List (List Int)) × (List Int) × Unit) : R (List Int) :=
  (((.ok ([] : (List Int))) : R (List Int)).bind fun y375 => (R.bind (forR (fun y377 s376 => (((((((rngR 0 (t.2.1.length : Int)) : R _).bind fun x387 => (mapR (fun y380 => (((ixR y377 y380) : R _).bind fun x385 => (((ixR t.2.1 y380) : R _).bind fun x386 => (mulR x385 x386)))) x387)) : R _).bind fun x388 => (.ok (List.sum x388))) : R _).bind fun x390 => ((appR s376 x390).bind fun y389 => (.ok y389)))) t.1 y375) fun s376 : (List Int) => (.ok s376)))
def m_alike (t : (Int × (Tu (Int × Int))) × (List Int) × (List Int) × Unit) : R ((T1 PySem.Str) ⊕ ((T3 PySem.Str Int (List Int)) ⊕ (PySem.Str × (List Int)))) :=
  (((m_look_at_lengths (t.1, t.2.1, t.2.2.1, ())) : R Unit).bind fun _ => (((((m_coins (t.2.1, ())) : R _).bind fun x232 => (((m_coins (t.2.2.1, ())) : R _).bind fun x233 => (.ok (!pyEq x232 x233)))) : R Bool).bind fun c421 => if c421 = true then (.ok (Sum.inl (T1.mk ("sums" : PySem.Str)) : ((T1 PySem.Str) ⊕ ((T3 PySem.Str Int (List Int)) ⊕ (PySem.Str × (List Int)))))) else (((m_small_table (t.1, ())) : R (List (List Int))).bind fun y278 => (((m_det (y278, ())) : R Int).bind fun y332 => (((m_adjoint (y278, ())) : R (List (List Int))).bind fun y364 => (((((((((((m_less (t.2.1, t.2.2.1, ())) : R _).bind fun x374 => (.ok (cutL x374 (some (1 : Int)) none))) : R _).bind fun x391 => (.ok (x391, (())))) : R _).bind fun x392 => (.ok (y364, x392))) : R _).bind fun x393 => (m_times x393)) : R (List Int)).bind fun y394 => (R.ct (forM (fun y396 s395 => (((((modR y396.2 y332) : R _).bind fun x399 => (.ok (!pyEq x399 (0 : Int)))) : R Bool).bind fun c408 => if c408 = true then (((((((((((((((((ixR y364 y396.1) : R _).bind fun x400 => (catR ([(0 : Int)] : (List Int)) x400)) : R _).bind fun x401 => (.ok (x401, (())))) : R _).bind fun x402 => (.ok (y332, x402))) : R _).bind fun x403 => (.ok (("weighed" : PySem.Str), x403))) : R _).bind fun x404 => (.ok (T3.mk x404.1 x404.2.1 x404.2.2.1))) : R _).bind fun x405 => (.ok (Sum.inl x405 : ((T3 PySem.Str Int (List Int)) ⊕ (PySem.Str × (List Int)))))) : R _).bind fun x406 => (.ok (Sum.inr x406 : ((T1 PySem.Str) ⊕ ((T3 PySem.Str Int (List Int)) ⊕ (PySem.Str × (List Int))))))) : R ((T1 PySem.Str) ⊕ ((T3 PySem.Str Int (List Int)) ⊕ (PySem.Str × (List Int))))).bind fun z407 => .ok (.rt z407)) else (.ok (.nx ())))) (enumL y394) ()) fun s395 : Unit => (((((((((((((((mapR (fun y409 => (divR y409 y332)) y394) : R _).bind fun x414 => (catR ([(0 : Int)] : (List Int)) x414)) : R _).bind fun x415 => (.ok (x415, (())))) : R _).bind fun x416 => (.ok (("lent" : PySem.Str), x416))) : R _).bind fun x417 => (.ok (x417.1, x417.2.1))) : R _).bind fun x418 => (.ok (Sum.inr x418 : ((T3 PySem.Str Int (List Int)) ⊕ (PySem.Str × (List Int)))))) : R _).bind fun x419 => (.ok (Sum.inr x419 : ((T1 PySem.Str) ⊕ ((T3 PySem.Str Int (List Int)) ⊕ (PySem.Str × (List Int))))))) : R ((T1 PySem.Str) ⊕ ((T3 PySem.Str Int (List Int)) ⊕ (PySem.Str × (List Int))))).bind fun z420 => .ok z420))))))))
def m_law_refused (t : (Int × (Tu (Int × Int))) × (List Int) × (List Int) × Unit) : R Bool :=
  (((.ok false) : R Bool).bind fun y226 => (R.bind (R.tryR (S := Bool) (((m_alike (t.1, t.2.1, t.2.2.1, ())) : R ((T1 PySem.Str) ⊕ ((T3 PySem.Str Int (List Int)) ⊕ (PySem.Str × (List Int))))).bind fun _ => .ok y226) (fun cc => match cc with | .badStanding => R.sure ((((if true = true then (if true = true then (R.ok (!false)) else R.ok false) else R.ok false) : R Bool).bind fun y427 => (.ok y427)) : R Bool) | _ => .stuck)) fun s227 : Bool => (.ok s227)))
def m_law_whole (t : Int × Unit) : R Bool :=
  (((if true = true then (R.ok (!false)) else R.ok false) : R Bool).bind fun z508 => .ok z508)
def m_law_lent (t : (List (Int × Int)) × (List Int) × (List Int) × Unit) : R (List Int) :=
  (((.ok t.2.1) : R (List Int)).bind fun y513 => (R.bind (forR (fun y515 s514 => (((((((ixR s514 y515.1) : R _).bind fun x518 => (((ixR t.2.2.1 y515.2) : R _).bind fun x519 => (.ok (x518 + x519)))) : R _).bind fun x520 => (((ixR t.2.2.1 y515.1) : R _).bind fun x521 => (.ok (x520 - x521)))) : R _).bind fun x529 => ((setR s514 y515.1 x529).bind fun y522 => (((((((ixR y522 y515.2) : R _).bind fun x523 => (((ixR t.2.2.1 y515.1) : R _).bind fun x524 => (.ok (x523 + x524)))) : R _).bind fun x525 => (((ixR t.2.2.1 y515.2) : R _).bind fun x526 => (.ok (x525 - x526)))) : R _).bind fun x528 => ((setR y522 y515.2 x528).bind fun y527 => (.ok y527)))))) t.1 y513) fun s514 : (List Int) => (.ok s514)))
def m_kinds (t : (Int × (Tu (Int × Int))) × Unit) : R Int :=
  (((((((m_small_table (t.1, ())) : R _).bind fun x588 => (.ok (x588, (())))) : R _).bind fun x589 => (m_det x589)) : R Int).bind fun z590 => .ok z590)
def m_law_numbers (t : (List Int) × (List Int) × Unit) : R Bool :=
  (((if (!true) = true then R.ok true else (R.ok (!pyEq (t.1.length : Int) (t.2.1.length : Int)))) : R Bool).bind fun c611 => if c611 = true then (.ok false) else (((rngR 0 (t.2.1.length : Int)) : R _).bind fun x610 => (R.ct (forM (fun y600 s599 => (((((((((((ixR t.1 y600) : R _).bind fun x603 => (.ok (x603, (())))) : R _).bind fun x604 => (m_law_whole x604)) : R _).bind fun x605 => (.ok (!x605))) : R _).bind fun x608 => (if x608 = true then R.ok true else (((ixR t.1 y600) : R _).bind fun x606 => (((ixR t.2.1 y600) : R _).bind fun x607 => (.ok (!pyEq x606 x607)))))) : R Bool).bind fun c609 => if c609 = true then (.ok (.rt false)) else (.ok (.nx ())))) x610 ()) fun s599 : Unit => (.ok true))))
def m_law_weighed (t : (Int × (Tu (Int × Int))) × (List (Int × Int)) × ((T1 PySem.Str) ⊕ ((T3 PySem.Str Int (List Int)) ⊕ (PySem.Str × (List Int)))) × (List Int) × Unit) : R Bool :=
  (((if (!pyEq (PyLn.ln t.2.2.1 : Int) (3 : Int)) = true then R.ok true else (((((R.ofO ((sumO (fun x => some x.a : (T1 PySem.Str) → Option PySem.Str) (sumO (fun x => some x.a : (T3 PySem.Str Int (List Int)) → Option PySem.Str) (fun x => some x.1 : (PySem.Str × (List Int)) → Option PySem.Str))) t.2.2.1)) : R _).bind fun x564 => (.ok (!pyEq x564 ("weighed" : PySem.Str)))) : R _).bind fun x567 => (if x567 = true then R.ok true else (((((R.ofO ((sumO (fun _ => none : (T1 PySem.Str) → Option (List Int)) (sumO (fun x => some x.c : (T3 PySem.Str Int (List Int)) → Option (List Int)) (fun _ => none : (PySem.Str × (List Int)) → Option (List Int)))) t.2.2.1)) : R _).bind fun x565 => (.ok true)) : R _).bind fun x566 => (.ok (!x566)))))) : R Bool).bind fun c649 => if c649 = true then (.ok false) else (((R.ofO ((sumO (fun _ => none : (T1 PySem.Str) → Option Int) (sumO (fun x => some x.b : (T3 PySem.Str Int (List Int)) → Option Int) (fun _ => none : (PySem.Str × (List Int)) → Option Int))) t.2.2.1)) : R Int).bind fun y568 => (((((((m_small_table (t.1, ())) : R _).bind fun x569 => (.ok (x569, (())))) : R _).bind fun x570 => (m_adjoint x570)) : R (List (List Int))).bind fun y571 => (((mapR (fun y572 => (((((rngR 0 (y572.length : Int)) : R _).bind fun x584 => (mapR (fun y577 => (((ixR y572 y577) : R _).bind fun x582 => (((ixR t.2.2.2.1 (y577 + (1 : Int))) : R _).bind fun x583 => (mulR x582 x583)))) x584)) : R _).bind fun x585 => (.ok (List.sum x585)))) y571) : R (List Int)).bind fun y586 => (((((((m_law_whole (y568, ())) : R _).bind fun x587 => (.ok (!x587))) : R _).bind fun x592 => (if x592 = true then R.ok true else (if (decide (y568 < (2 : Int))) = true then R.ok true else (((m_kinds (t.1, ())) : R _).bind fun x591 => (.ok (!pyEq y568 x591)))))) : R Bool).bind fun c648 => if c648 = true then (.ok false) else (((.ok (0 : Int)) : R Int).bind fun y593 => (R.bind (whileR (fun s594 => (if (decide (s594 < (y586.length : Int))) = true then (((((ixR y586 s594) : R _).bind fun x595 => (modR x595 y568)) : R _).bind fun x596 => (.ok (pyEq x596 (0 : Int)))) else R.ok false)) (fun s594 => (((.ok (s594 + (1 : Int))) : R Int).bind fun y597 => (.ok y597))) fuel y593) fun s594 : Int => (((if (pyEq s594 (y586.length : Int)) = true then R.ok true else (((((((R.ofO ((sumO (fun _ => none : (T1 PySem.Str) → Option (List Int)) (sumO (fun x => some x.c : (T3 PySem.Str Int (List Int)) → Option (List Int)) (fun _ => none : (PySem.Str × (List Int)) → Option (List Int)))) t.2.2.1)) : R _).bind fun x613 => (((((((ixR y571 s594) : R _).bind fun x598 => (catR ([(0 : Int)] : (List Int)) x598)) : R _).bind fun x612 => (.ok (x612, (())))) : R _).bind fun x614 => (.ok (x613, x614)))) : R _).bind fun x615 => (m_law_numbers x615)) : R _).bind fun x616 => (.ok (!x616)))) : R Bool).bind fun c647 => if c647 = true then (.ok false) else (((((((((mapR (fun y617 => (.ok (0 : Int))) t.2.2.2.1) : R _).bind fun x623 => (((((R.ofO ((sumO (fun _ => none : (T1 PySem.Str) → Option (List Int)) (sumO (fun x => some x.c : (T3 PySem.Str Int (List Int)) → Option (List Int)) (fun _ => none : (PySem.Str × (List Int)) → Option (List Int)))) t.2.2.1)) : R _).bind fun x622 => (.ok (x622, (())))) : R _).bind fun x624 => (.ok (x623, x624)))) : R _).bind fun x625 => (.ok (t.2.1, x625))) : R _).bind fun x626 => (m_law_lent x626)) : R _).bind fun x646 => (R.ct (forM (fun y628 s627 => (((((modR y628 y568) : R _).bind fun x631 => (.ok (!pyEq x631 (0 : Int)))) : R Bool).bind fun c632 => if c632 = true then (.ok (.rt false)) else (.ok (.nx ())))) x646 ()) fun s627 : Unit => (((((((((((rngR 0 (t.2.2.2.1.length : Int)) : R _).bind fun x641 => (mapR (fun y633 => (((((R.ofO ((sumO (fun _ => none : (T1 PySem.Str) → Option (List Int)) (sumO (fun x => some x.c : (T3 PySem.Str Int (List Int)) → Option (List Int)) (fun _ => none : (PySem.Str × (List Int)) → Option (List Int)))) t.2.2.1)) : R _).bind fun x638 => (ixR x638 y633)) : R _).bind fun x639 => (((ixR t.2.2.2.1 y633) : R _).bind fun x640 => (mulR x639 x640)))) x641)) : R _).bind fun x642 => (.ok (List.sum x642))) : R _).bind fun x643 => (modR x643 y568)) : R _).bind fun x644 => (.ok (!pyEq x644 (0 : Int)))) : R Bool).bind fun z645 => .ok z645)))))))))))
def m_law_same_again (t : (Int × (Tu (Int × Int))) × (List Int) × (List Int) × ((T1 PySem.Str) ⊕ ((T3 PySem.Str Int (List Int)) ⊕ (PySem.Str × (List Int)))) × Unit) : R Bool :=
  (Sum.elim (fun a657 : (T1 PySem.Str) => (((.ok ([(Sum.inl a657.a : (PySem.Str ⊕ (Int ⊕ (List Int))))] : (List (PySem.Str ⊕ (Int ⊕ (List Int)))))) : R (List (PySem.Str ⊕ (Int ⊕ (List Int))))).bind fun y659 => (((((m_alike (t.1, t.2.1, t.2.2.1, ())) : R _).bind fun x660 => (.ok (eqD x660 (Ts.mk (Tv.mk y659).l)))) : R Bool).bind fun z661 => .ok z661))) (fun b658 : ((T3 PySem.Str Int (List Int)) ⊕ (PySem.Str × (List Int))) => (Sum.elim (fun a662 : (T3 PySem.Str Int (List Int)) => (((.ok ([(Sum.inl a662.a : (PySem.Str ⊕ (Int ⊕ (List Int))))] : (List (PySem.Str ⊕ (Int ⊕ (List Int)))))) : R (List (PySem.Str ⊕ (Int ⊕ (List Int))))).bind fun y664 => (R.bind ((((((((if false = true then (.stuck : R Int) else (.ok a662.b)) : R _).bind fun x670 => (.ok (Sum.inl x670 : (Int ⊕ (List Int))))) : R _).bind fun x671 => (.ok (Sum.inr x671 : (PySem.Str ⊕ (Int ⊕ (List Int)))))) : R _).bind fun x673 => ((appR y664 x673).bind fun y672 => (.ok y672))) : R (List (PySem.Str ⊕ (Int ⊕ (List Int))))) fun s668 => R.bind ((((((((if true = true then ((.ok a662.c) : R (List Int)) else .stuck) : R _).bind fun x674 => (.ok (Sum.inr x674 : (Int ⊕ (List Int))))) : R _).bind fun x675 => (.ok (Sum.inr x675 : (PySem.Str ⊕ (Int ⊕ (List Int)))))) : R _).bind fun x681 => ((appR s668 x681).bind fun y676 => (R.bind ((((((ixR a662.c (0 : Int)) : R _).bind fun x677 => (.ok (x677 + (1 : Int)))) : R _).bind fun x680 => ((setR a662.c (0 : Int) x680).bind fun y678 => ((appR y678 (7 : Int)).bind fun y679 => (.ok ())))) : R Unit) fun _ => (.ok y676)))) : R (List (PySem.Str ⊕ (Int ⊕ (List Int))))) fun s669 => (((((m_alike (t.1, t.2.1, t.2.2.1, ())) : R _).bind fun x682 => (.ok (eqD x682 (Ts.mk (Tv.mk s669).l)))) : R Bool).bind fun z683 => .ok z683)))) (fun b663 : (PySem.Str × (List Int)) => (((.ok ([(Sum.inl b663.1 : (PySem.Str ⊕ (Int ⊕ (List Int))))] : (List (PySem.Str ⊕ (Int ⊕ (List Int)))))) : R (List (PySem.Str ⊕ (Int ⊕ (List Int))))).bind fun y684 => (R.bind ((((((((if true = true then ((.ok b663.2) : R (List Int)) else .stuck) : R _).bind fun x689 => (.ok (Sum.inr x689 : (Int ⊕ (List Int))))) : R _).bind fun x690 => (.ok (Sum.inr x690 : (PySem.Str ⊕ (Int ⊕ (List Int)))))) : R _).bind fun x696 => ((appR y684 x696).bind fun y691 => (R.bind ((((((ixR b663.2 (0 : Int)) : R _).bind fun x692 => (.ok (x692 + (1 : Int)))) : R _).bind fun x695 => ((setR b663.2 (0 : Int) x695).bind fun y693 => ((appR y693 (7 : Int)).bind fun y694 => (.ok ())))) : R Unit) fun _ => (.ok y691)))) : R (List (PySem.Str ⊕ (Int ⊕ (List Int))))) fun s688 => (((((m_alike (t.1, t.2.1, t.2.2.1, ())) : R _).bind fun x697 => (.ok (eqD x697 (Ts.mk (Tv.mk s688).l)))) : R Bool).bind fun z698 => .ok z698)))) b658)) t.2.2.2.1)
def m_law (t : Scr × Unit) : R Bool :=
  (((((((m_law_cell_at (t.1, (0 : Int), ())) : R _).bind fun x11 => (.ok (x11, (())))) : R _).bind fun x12 => (m_law_sizes x12)) : R (Int × Int)).bind fun y13 => (((((((((((m_law_cell_at (t.1, (1 : Int), ())) : R _).bind fun x84 => (.ok (x84, (())))) : R _).bind fun x85 => (.ok (y13.2, x85))) : R _).bind fun x86 => (.ok (y13.1, x86))) : R _).bind fun x87 => (m_law_ties x87)) : R (List (Int × Int))).bind fun y88 => (((m_made (y13.1, y88, ())) : R (Int × (Tu (Int × Int)))).bind fun y141 => (((m_law_standings (t.1, y13.1, ())) : R ((List Int) × (List Int))).bind fun y225 => (((((((((((((catR y225.1 ([(0 : Int)] : (List Int))) : R _).bind fun x428 => (.ok (x428, (y225.2, ())))) : R _).bind fun x429 => (.ok (y141, x429))) : R _).bind fun x430 => (m_law_refused x430)) : R _).bind fun x431 => (.ok (!x431))) : R _).bind fun x433 => (if x433 = true then R.ok true else (((m_law_refused (y141, y225.1, cutL y225.2 none (some (y13.1 - (1 : Int))), ())) : R _).bind fun x432 => (.ok (!x432))))) : R Bool).bind fun c707 => if c707 = true then (.ok false) else (((((((((((((catR y225.1 ([(0 : Int)] : (List Int))) : R _).bind fun x435 => (((((catR y225.2 ([(0 : Int)] : (List Int))) : R _).bind fun x434 => (.ok (x434, (())))) : R _).bind fun x436 => (.ok (x435, x436)))) : R _).bind fun x437 => (.ok (y141, x437))) : R _).bind fun x438 => (m_law_refused x438)) : R _).bind fun x439 => (.ok (!x439))) : R _).bind fun x441 => (if x441 = true then R.ok true else (((m_law_refused (y141, cutL y225.1 (some (1 : Int)) none, cutL y225.2 (some (1 : Int)) none, ())) : R _).bind fun x440 => (.ok (!x440))))) : R Bool).bind fun c706 => if c706 = true then (.ok false) else (((m_alike (y141, y225.1, y225.2, ())) : R ((T1 PySem.Str) ⊕ ((T3 PySem.Str Int (List Int)) ⊕ (PySem.Str × (List Int))))).bind fun y442 => (((if (!true) = true then R.ok true else (if (decide ((PyLn.ln y442 : Int) < (1 : Int))) = true then R.ok true else (((((R.ofO ((sumO (fun x => some x.a : (T1 PySem.Str) → Option PySem.Str) (sumO (fun x => some x.a : (T3 PySem.Str Int (List Int)) → Option PySem.Str) (fun x => some x.1 : (PySem.Str × (List Int)) → Option PySem.Str))) y442)) : R _).bind fun x495 => (.ok true)) : R _).bind fun x496 => (.ok (!x496))))) : R Bool).bind fun c705 => if c705 = true then (.ok false) else (if (!pyEq (List.sum y225.1) (List.sum y225.2)) = true then (.ok (pyEq y442 (Sum.inl (T1.mk ("sums" : PySem.Str)) : ((T1 PySem.Str) ⊕ ((T3 PySem.Str Int (List Int)) ⊕ (PySem.Str × (List Int))))))) else (((((R.ofO ((sumO (fun x => some x.a : (T1 PySem.Str) → Option PySem.Str) (sumO (fun x => some x.a : (T3 PySem.Str Int (List Int)) → Option PySem.Str) (fun x => some x.1 : (PySem.Str × (List Int)) → Option PySem.Str))) y442)) : R _).bind fun x497 => (.ok (pyEq x497 ("lent" : PySem.Str)))) : R Bool).bind fun c704 => R.ct (if c704 = true then (((if (!pyEq (PyLn.ln y442 : Int) (2 : Int)) = true then R.ok true else (((((((R.ofO ((sumO (fun _ => none : (T1 PySem.Str) → Option (List Int)) (sumO (fun _ => none : (T3 PySem.Str Int (List Int)) → Option (List Int)) (fun x => some x.2 : (PySem.Str × (List Int)) → Option (List Int)))) y442)) : R _).bind fun x499 => (.ok true)) : R _).bind fun x500 => (.ok (!x500))) : R _).bind fun x503 => (if x503 = true then R.ok true else (((((R.ofO ((sumO (fun _ => none : (T1 PySem.Str) → Option (List Int)) (sumO (fun _ => none : (T3 PySem.Str Int (List Int)) → Option (List Int)) (fun x => some x.2 : (PySem.Str × (List Int)) → Option (List Int)))) y442)) : R _).bind fun x501 => (.ok (x501.length : Int))) : R _).bind fun x502 => (.ok (!pyEq x502 y13.1)))))) : R Bool).bind fun c555 => if c555 = true then (.ok (.rt false)) else (((R.ofO ((sumO (fun _ => none : (T1 PySem.Str) → Option (List Int)) (sumO (fun _ => none : (T3 PySem.Str Int (List Int)) → Option (List Int)) (fun x => some x.2 : (PySem.Str × (List Int)) → Option (List Int)))) y442)) : R _).bind fun x554 => (R.ct (forM (fun y505 s504 => (((((m_law_whole (y505, ())) : R _).bind fun x509 => (.ok (!x509))) : R Bool).bind fun c510 => if c510 = true then (.ok (.rt (.rt false))) else (.ok (.nx ())))) x554 ()) fun s504 : Unit => (((((((((R.ofO ((sumO (fun _ => none : (T1 PySem.Str) → Option (List Int)) (sumO (fun _ => none : (T3 PySem.Str Int (List Int)) → Option (List Int)) (fun x => some x.2 : (PySem.Str × (List Int)) → Option (List Int)))) y442)) : R _).bind fun x511 => (ixR x511 (0 : Int))) : R _).bind fun x512 => (.ok (!pyEq x512 (0 : Int)))) : R _).bind fun x552 => (if x552 = true then R.ok true else (((((((((((R.ofO ((sumO (fun _ => none : (T1 PySem.Str) → Option (List Int)) (sumO (fun _ => none : (T3 PySem.Str Int (List Int)) → Option (List Int)) (fun x => some x.2 : (PySem.Str × (List Int)) → Option (List Int)))) y442)) : R _).bind fun x530 => (.ok (x530, (())))) : R _).bind fun x531 => (.ok (y225.1, x531))) : R _).bind fun x532 => (.ok (y88, x532))) : R _).bind fun x533 => (m_law_lent x533)) : R _).bind fun x551 => (.ok (!pyEq x551 y225.2))))) : R Bool).bind fun c553 => if c553 = true then (.ok (.rt false)) else (.ok (.nx ())))))) else (((((((((((((((((rngR 0 y13.1) : R _).bind fun x563 => (mapR (fun y556 => (((ixR y225.1 y556) : R _).bind fun x561 => (((ixR y225.2 y556) : R _).bind fun x562 => (.ok (x561 - x562))))) x563)) : R _).bind fun x650 => (.ok (x650, (())))) : R _).bind fun x651 => (.ok (y442, x651))) : R _).bind fun x652 => (.ok (y88, x652))) : R _).bind fun x653 => (.ok (y141, x653))) : R _).bind fun x654 => (m_law_weighed x654)) : R _).bind fun x655 => (.ok (!x655))) : R Bool).bind fun c656 => if c656 = true then (.ok (.rt false)) else (.ok (.nx ())))) fun s498 : Unit => (R.bind ((.ok y141) : R (Int × (Tu (Int × Int)))) fun x699 => R.bind ((.ok y225.1) : R (List Int)) fun x700 => R.bind ((.ok y225.2) : R (List Int)) fun x701 => R.bind (m_law_same_again (x699, x700, x701, y442, ())) fun z702 => .ok z702)))))))))))
theorem sc_law_sizes : FnScope ["cell", "houses"] ["cell"] dd__law_sizes.scope := ⟨rfl, rfl, rfl, by decide +kernel, rfl, by decide +kernel, by decide +kernel⟩
theorem bn_law_sizes : BindE dd__law_sizes ["cell"] := fun _ _ _ _ _ _ us hl => match us, hl with | [_], _ => rfl
theorem b_law_sizes {k : Nat} (hk : 0 ≤ k) (X : Cx) (C : Cb fe fa fn X (["cell", "houses"] : List PySem.Str) dd__law_sizes.scope k) (H0 : Hp) (qs : List Addr) (rt : VK) (A : (Int × Int) → Prop) (B : Exc → Prop) (fr : Fr X H0 B) (hR : RtF (ρ := (Int × Int)) X H0 qs rt A) (t : Int × Unit) :
    W X H0 qs rt (fun _ H => rt .non H) A B [.fr (α := Int) t.1, .un] dd__law_sizes.body (m_law_sizes t) := by
  have n0 : Nm X 0 "cell" := nm_mk C.hX.toXN (by decide +kernel)
  have n1 : Nm X 1 "houses" := nm_mk C.hX.toXN (by decide +kernel)
  have l1 : Lc X 1 "houses" := lc_mk C.hX.toXN (by decide +kernel)
  refine w_asg (α := Int) (Γ' := fun y3 : Int => [.fr (α := Int) t.1, .fr (α := Int) y3]) fr l1 (he := by rfl) ?_ fun y3 => ?_
  · exact (ev_ixL (md := true) (mb := true) (EvO.fz (ev_lst (md := true) (el_cons (md := true) (ev_int (md := true) rfl) (el_cons (md := true) (ev_int (md := true) rfl) (el_cons (md := true) (ev_int (md := true) rfl) (el_cons (md := true) (ev_int (md := true) rfl) (el_cons (md := true) (ev_int (md := true) rfl) (el_cons (md := true) (ev_int (md := true) rfl) (el_cons (md := true) (ev_int (md := true) rfl) (el_cons (md := true) (ev_int (md := true) rfl) (el_nil (α := Int) rfl) rfl) rfl) rfl) rfl) rfl) rfl) rfl) rfl))) (ev_mod (ma := true) (mb := true) (md := true) (ev_var (md := true) n0 rfl rfl) (ev_int (md := true) rfl) rfl) rfl)
  refine w_ifR (ma := (.ok ((1 : Int), (0 : Int)))) (mc := (.ok (pyEq y3 (1 : Int)))) fr (et_eq (α := Int) (ma := true) (mb := true) C.hu (ev_var (md := true) n1 rfl rfl) (ev_int (md := true) rfl) rfl) (fun nx' => ?_) ?_ (he := by rfl)
  · skip
    exact w_ret (m1 := (.ok ((1 : Int), (0 : Int)))) (g := fun z => z) fr hR (ev_tup (md := true) tup2 (ea_cons (md := true) (ev_int (md := true) rfl) (ea_cons (md := true) (ev_int (md := true) rfl) (ea_nil (md := true) rfl) rfl) rfl) rfl) (fun _ h => h) rfl
  exact w_ret (m1 := (((((((((divR t.1 (8 : Int)) : R _).bind fun x5 => (((((divR (16 : Int) y3) : R _).bind fun x4 => (.ok (x4 + (1 : Int)))) : R _).bind fun x6 => (modR x5 x6))) : R _).bind fun x7 => (.ok (x7, (())))) : R _).bind fun x8 => (.ok (y3, x8))) : R _).bind fun x9 => (.ok (x9.1, x9.2.1)))) (g := fun z => z) fr hR (ev_tup (md := true) tup2 (ea_cons (md := true) (ev_var (md := true) n1 rfl rfl) (ea_cons (md := true) (ev_mod (ma := true) (mb := true) (md := true) (ev_div (ma := true) (mb := true) (md := true) (ev_var (md := true) n0 rfl rfl) (ev_int (md := true) rfl) rfl) (ev_add (ma := true) (mb := true) (md := true) (ev_div (ma := true) (mb := true) (md := true) (ev_int (md := true) rfl) (ev_var (md := true) n1 rfl rfl) rfl) (ev_int (md := true) rfl) rfl) rfl) (ea_nil (md := true) rfl) rfl) rfl) rfl) (fun _ h => h) rfl
theorem gd_law_sizes {P : Program} {w : World} {K : PySem.W.Frag} {mg : PySem.Str → Option Value} {base : Heap} (fc : Fac fe fa fn K mg) : Gd P w K mg base "_law_sizes" (spF K (τ := Int × Unit) (ρ := (Int × Int)) 1 m_law_sizes) 1 1 :=
  gd_F 17 29 fc rfl rfl sc_law_sizes rfl bn_law_sizes fun X _ _ _ _ _ C H0 qs rt A B fr hR t => b_law_sizes (by omega) X C H0 qs rt A B fr hR t
theorem sc_law_cell_at : FnScope ["script", "k"] ["script", "k"] dd__law_cell_at.scope := ⟨rfl, rfl, rfl, by decide +kernel, rfl, by decide +kernel, by decide +kernel⟩
theorem bn_law_cell_at : BindE dd__law_cell_at ["script", "k"] := fun _ _ _ _ _ _ us hl => match us, hl with | [_, _], _ => rfl
theorem b_law_cell_at {k : Nat} (hk : 0 ≤ k) (X : Cx) (C : Cb fe fa fn X (["script", "k"] : List PySem.Str) dd__law_cell_at.scope k) (H0 : Hp) (qs : List Addr) (rt : VK) (A : Int → Prop) (B : Exc → Prop) (fr : Fr X H0 B) (hR : RtF (ρ := Int) X H0 qs rt A) (t : Scr × Int × Unit) :
    W X H0 qs rt (fun _ H => rt .non H) A B [.fr (α := Scr) t.1, .fr (α := Int) t.2.1] dd__law_cell_at.body (m_law_cell_at t) := by
  have n0 : Nm X 0 "script" := nm_mk C.hX.toXN (by decide +kernel)
  have n1 : Nm X 1 "k" := nm_mk C.hX.toXN (by decide +kernel)
  have g_len : Gn X "len" := gn_mk C.hX.toXN (by decide +kernel)
  have f_len : X.mg "len" = none := C.fc.free 39
  refine w_ifR (ma := (((ixR t.1.l t.2.1) : R Int).bind fun z1 => .ok z1)) (mc := (.ok (decide (t.2.1 < (t.1.l.length : Int))))) fr (et_lt (ma := true) (mb := true) (ev_var (md := true) n1 rfl rfl) (ev_lenS (ma := true) (md := true) g_len f_len (ev_var (md := true) n0 rfl rfl) rfl) rfl) (fun nx' => ?_) ?_ (he := by rfl)
  · skip
    exact w_ret (m1 := (ixR t.1.l t.2.1)) (g := fun z => z) fr hR (ev_ixS (ma := true) (mb := true) (md := true) (ev_var (md := true) n0 rfl rfl) (ev_var (md := true) n1 rfl rfl) rfl) (fun _ h => h) rfl
  exact w_ret (m1 := (.ok (0 : Int))) (g := fun z => z) fr hR (ev_int (md := true) rfl) (fun _ h => h) rfl
theorem gd_law_cell_at {P : Program} {w : World} {K : PySem.W.Frag} {mg : PySem.Str → Option Value} {base : Heap} (fc : Fac fe fa fn K mg) : Gd P w K mg base "_law_cell_at" (spF K (τ := Scr × Int × Unit) (ρ := Int) 2 m_law_cell_at) 2 1 :=
  gd_F 14 26 fc rfl rfl sc_law_cell_at rfl bn_law_cell_at fun X _ _ _ _ _ C H0 qs rt A B fr hR t => b_law_cell_at (by omega) X C H0 qs rt A B fr hR t
theorem sc_law_mixed : FnScope ["cell", "k", "number"] ["cell", "k"] dd__law_mixed.scope := ⟨rfl, rfl, rfl, by decide +kernel, rfl, by decide +kernel, by decide +kernel⟩
theorem bn_law_mixed : BindE dd__law_mixed ["cell", "k"] := fun _ _ _ _ _ _ us hl => match us, hl with | [_, _], _ => rfl
theorem b_law_mixed {k : Nat} (hk : 0 ≤ k) (X : Cx) (C : Cb fe fa fn X (["cell", "k", "number"] : List PySem.Str) dd__law_mixed.scope k) (H0 : Hp) (qs : List Addr) (rt : VK) (A : Int → Prop) (B : Exc → Prop) (fr : Fr X H0 B) (hR : RtF (ρ := Int) X H0 qs rt A) (t : Int × Int × Unit) :
    W X H0 qs rt (fun _ H => rt .non H) A B [.fr (α := Int) t.1, .fr (α := Int) t.2.1, .un] dd__law_mixed.body (m_law_mixed t) := by
  have n0 : Nm X 0 "cell" := nm_mk C.hX.toXN (by decide +kernel)
  have n1 : Nm X 1 "k" := nm_mk C.hX.toXN (by decide +kernel)
  have n2 : Nm X 2 "number" := nm_mk C.hX.toXN (by decide +kernel)
  have l2 : Lc X 2 "number" := lc_mk C.hX.toXN (by decide +kernel)
  refine w_asg (α := Int) (Γ' := fun y24 : Int => [.fr (α := Int) t.1, .fr (α := Int) t.2.1, .fr (α := Int) y24]) fr l2 (he := by rfl) ?_ fun y24 => ?_
  · exact (ev_mod (ma := true) (mb := true) (md := true) (ev_add (ma := true) (mb := true) (md := true) (ev_add (ma := true) (mb := true) (md := true) (ev_var (md := true) n0 rfl rfl) (ev_mul (ma := true) (mb := true) (md := true) (ev_mul (ma := true) (mb := true) (md := true) (ev_int (md := true) rfl) (ev_var (md := true) n1 rfl rfl) rfl) (ev_var (md := true) n1 rfl rfl) rfl) rfl) (ev_var (md := true) n1 rfl rfl) rfl) (ev_int (md := true) rfl) rfl)
  refine w_asg (α := Int) (Γ' := fun y26 : Int => [.fr (α := Int) t.1, .fr (α := Int) t.2.1, .fr (α := Int) y26]) fr l2 (he := by rfl) ?_ fun y26 => ?_
  · exact (ev_mod (ma := true) (mb := true) (md := true) (ev_mul (ma := true) (mb := true) (md := true) (ev_var (md := true) n2 rfl rfl) (ev_var (md := true) n2 rfl rfl) rfl) (ev_int (md := true) rfl) rfl)
  exact w_ret (m1 := (((mulR y26 (48271 : Int)) : R _).bind fun x27 => (modR x27 (998244353 : Int)))) (g := fun z => z) fr hR (ev_mod (ma := true) (mb := true) (md := true) (ev_mul (ma := true) (mb := true) (md := true) (ev_var (md := true) n2 rfl rfl) (ev_int (md := true) rfl) rfl) (ev_int (md := true) rfl) rfl) (fun _ h => h) rfl
theorem gd_law_mixed {P : Program} {w : World} {K : PySem.W.Frag} {mg : PySem.Str → Option Value} {base : Heap} (fc : Fac fe fa fn K mg) : Gd P w K mg base "_law_mixed" (spF K (τ := Int × Int × Unit) (ρ := Int) 2 m_law_mixed) 2 1 :=
  gd_F 15 27 fc rfl rfl sc_law_mixed rfl bn_law_mixed fun X _ _ _ _ _ C H0 qs rt A B fr hR t => b_law_mixed (by omega) X C H0 qs rt A B fr hR t
theorem sc_law_ties : FnScope ["houses", "more", "cell", "ties", "order", "k", "mark", "one", "other"] ["houses", "more", "cell"] dd__law_ties.scope := ⟨rfl, rfl, rfl, by decide +kernel, rfl, by decide +kernel, by decide +kernel⟩
theorem bn_law_ties : BindE dd__law_ties ["houses", "more", "cell"] := fun _ _ _ _ _ _ us hl => match us, hl with | [_, _, _], _ => rfl
theorem b_law_ties {k : Nat} (hk : 1 ≤ k) (X : Cx) (C : Cb fe fa fn X (["houses", "more", "cell", "ties", "order", "k", "mark", "one", "other"] : List PySem.Str) dd__law_ties.scope k) (H0 : Hp) (qs : List Addr) (rt : VK) (A : (List (Int × Int)) → Prop) (B : Exc → Prop) (fr : Fr X H0 B) (hR : RtO (ρ := (Int × Int)) X H0 qs rt A) (t : Int × Int × Int × Unit) :
    W X H0 qs rt (fun _ H => rt .non H) A B [.fr (α := Int) t.1, .fr (α := Int) t.2.1, .fr (α := Int) t.2.2.1, .un, .un, .un, .un, .un, .un] dd__law_ties.body (m_law_ties t) := by
  have n0 : Nm X 0 "houses" := nm_mk C.hX.toXN (by decide +kernel)
  have n1 : Nm X 1 "more" := nm_mk C.hX.toXN (by decide +kernel)
  have n2 : Nm X 2 "cell" := nm_mk C.hX.toXN (by decide +kernel)
  have n3 : Nm X 3 "ties" := nm_mk C.hX.toXN (by decide +kernel)
  have n4 : Nm X 4 "order" := nm_mk C.hX.toXN (by decide +kernel)
  have n5 : Nm X 5 "k" := nm_mk C.hX.toXN (by decide +kernel)
  have n6 : Nm X 6 "mark" := nm_mk C.hX.toXN (by decide +kernel)
  have n7 : Nm X 7 "one" := nm_mk C.hX.toXN (by decide +kernel)
  have l3 : Lc X 3 "ties" := lc_mk C.hX.toXN (by decide +kernel)
  have l4 : Lc X 4 "order" := lc_cell C.hX.toXN (C.fnt _) (by decide +kernel)
  have l5 : Lc X 5 "k" := lc_mk C.hX.toXN (by decide +kernel)
  have l6 : Lc X 6 "mark" := lc_mk C.hX.toXN (by decide +kernel)
  have l7 : Lc X 7 "one" := lc_mk C.hX.toXN (by decide +kernel)
  have g__law_mixed : Gn X "_law_mixed" := gn_mk C.hX.toXN (by decide +kernel)
  have g_range : Gn X "range" := gn_mk C.hX.toXN (by decide +kernel)
  have f_range : X.mg "range" = none := C.fc.free 40
  have d_law_mixed : Dn X "_law_mixed" (spF X.K (τ := Int × Int × Unit) (ρ := Int) 2 m_law_mixed) 2 := (gd_law_mixed C.fc).dn C.rm (by omega)
  refine w_asgO (α := (Int × Int)) (Γ' := fun y14 : (List (Int × Int)) => [.fr (α := Int) t.1, .fr (α := Int) t.2.1, .fr (α := Int) t.2.2.1, .ow (α := (Int × Int)) y14, .un, .un, .un, .un, .un]) fr l3 (he := by rfl) ?_ fun y14 => ?_
  · exact (ev_lst (md := true) (el_nil (α := (Int × Int)) rfl))
  refine w_asgO (α := Int) (Γ' := fun y15 : (List Int) => [.fr (α := Int) t.1, .fr (α := Int) t.2.1, .fr (α := Int) t.2.2.1, .ow (α := (Int × Int)) y14, .ow (α := Int) y15, .un, .un, .un, .un]) fr l4 (he := by rfl) ?_ fun y15 => ?_
  · exact (ev_lst (md := true) (el_cons (md := true) (ev_int (md := true) rfl) (el_nil (α := Int) rfl) rfl))
  refine w_for (α := Int) (S := ((List (Int × Int)) × (List Int))) (mx := (rngR (1 : Int) t.1)) (bd := (fun y17 s16 => (((m_law_mixed (t.2.2.1, y17, ())) : R Int).bind fun y29 => (((((((((((((modR y29 y17) : R _).bind fun x30 => (.ok (x30, (())))) : R _).bind fun x31 => (.ok (y17, x31))) : R _).bind fun x32 => (.ok (x32.1, x32.2.1))) : R _).bind fun x36 => (((((((((modR y29 y17) : R _).bind fun x33 => (.ok (x33, (y17, ())))) : R _).bind fun x34 => (.ok (x34.1, x34.2.1))) : R _).bind fun x35 => (.ok (x35 :: []))) : R _).bind fun x37 => (.ok (x36 :: x37)))) : R _).bind fun x39 => (((((divR y29 (7 : Int)) : R _).bind fun x38 => (modR x38 (2 : Int))) : R _).bind fun x40 => (ixR x39 x40))) : R _).bind fun x49 => ((appR s16.1 x49).bind fun y41 => (((((((((m_law_mixed (t.2.2.1, (90 : Int) + y17, ())) : R _).bind fun x42 => (modR x42 (y17 + (1 : Int)))) : R _).bind fun x44 => (((((divR t.2.2.1 (3 : Int)) : R _).bind fun x43 => (modR x43 (2 : Int))) : R _).bind fun x45 => (mulR x44 x45))) : R _).bind fun x46 => (.ok (y17 - x46))) : R _).bind fun x48 => ((insR s16.2 x48 y17).bind fun y47 => (.ok (y41, y47))))))))) (s0 := (y14, y15)) (Γs := fun s16 : ((List (Int × Int)) × (List Int)) => [.fr (α := Int) t.1, .fr (α := Int) t.2.1, .fr (α := Int) t.2.2.1, .ow (α := (Int × Int)) s16.1, .ow (α := Int) s16.2, .un, .un, .un, .un]) (Γb := fun (y17 : Int) (s16 : ((List (Int × Int)) × (List Int))) => [.fr (α := Int) t.1, .fr (α := Int) t.2.1, .fr (α := Int) t.2.2.1, .ow (α := (Int × Int)) s16.1, .ow (α := Int) s16.2, .fr (α := Int) y17, .un, .un, .un]) (is := [5]) C.hX.calm fr (he := by rfl) ?_ ?_ ?_ fun s16 => ?_
  · exact (ei_range2 (ma := true) (mb := true) g_range f_range (ev_int (md := true) rfl) (ev_var (md := true) n0 rfl rfl) rfl)
  · exact fun y17 s16 => (eg_name (α := Int) l5 rfl (fun _ => rfl))
  · intro H18 sb19 N y17 s16
    replace fr := fr.up sb19
    try replace hR := hR.up sb19
    refine w_asg (α := Int) (Γ' := fun y29 : Int => [.fr (α := Int) t.1, .fr (α := Int) t.2.1, .fr (α := Int) t.2.2.1, .ow (α := (Int × Int)) s16.1, .ow (α := Int) s16.2, .fr (α := Int) y17, .fr (α := Int) y29, .un, .un]) fr l6 (he := by rfl) ?_ fun y29 => ?_
    · exact (ev_call (md := true) d_law_mixed g__law_mixed (ea_cons (md := true) (ev_var (md := true) n2 rfl rfl) (ea_cons (md := true) (ev_var (md := true) n5 rfl rfl) (ea_nil (md := true) rfl) rfl) rfl) rfl rfl)
    refine w_append (α := (Int × Int)) (m1 := (((((((((((modR y29 y17) : R _).bind fun x30 => (.ok (x30, (())))) : R _).bind fun x31 => (.ok (y17, x31))) : R _).bind fun x32 => (.ok (x32.1, x32.2.1))) : R _).bind fun x36 => (((((((((modR y29 y17) : R _).bind fun x33 => (.ok (x33, (y17, ())))) : R _).bind fun x34 => (.ok (x34.1, x34.2.1))) : R _).bind fun x35 => (.ok (x35 :: []))) : R _).bind fun x37 => (.ok (x36 :: x37)))) : R _).bind fun x39 => (((((divR y29 (7 : Int)) : R _).bind fun x38 => (modR x38 (2 : Int))) : R _).bind fun x40 => (ixR x39 x40)))) (Γ' := fun y41 : (List (Int × Int)) => [.fr (α := Int) t.1, .fr (α := Int) t.2.1, .fr (α := Int) t.2.2.1, .ow (α := (Int × Int)) y41, .ow (α := Int) s16.2, .fr (α := Int) y17, .fr (α := Int) y29, .un, .un]) fr n3 rfl ?_ (he := by rfl) fun y41 => ?_
    · exact (ev_ixL (md := true) (mb := true) (EvO.fz (ev_lst (md := true) (el_cons (md := true) (ev_tup (md := true) tup2 (ea_cons (md := true) (ev_var (md := true) n5 rfl rfl) (ea_cons (md := true) (ev_mod (ma := true) (mb := true) (md := true) (ev_var (md := true) n6 rfl rfl) (ev_var (md := true) n5 rfl rfl) rfl) (ea_nil (md := true) rfl) rfl) rfl) rfl) (el_cons (md := true) (ev_tup (md := true) tup2 (ea_cons (md := true) (ev_mod (ma := true) (mb := true) (md := true) (ev_var (md := true) n6 rfl rfl) (ev_var (md := true) n5 rfl rfl) rfl) (ea_cons (md := true) (ev_var (md := true) n5 rfl rfl) (ea_nil (md := true) rfl) rfl) rfl) rfl) (el_nil (α := (Int × Int)) rfl) rfl) rfl))) (ev_mod (ma := true) (mb := true) (md := true) (ev_div (ma := true) (mb := true) (md := true) (ev_var (md := true) n6 rfl rfl) (ev_int (md := true) rfl) rfl) (ev_int (md := true) rfl) rfl) rfl)
    refine w_insert (α := Int) (mj := (((((((m_law_mixed (t.2.2.1, (90 : Int) + y17, ())) : R _).bind fun x42 => (modR x42 (y17 + (1 : Int)))) : R _).bind fun x44 => (((((divR t.2.2.1 (3 : Int)) : R _).bind fun x43 => (modR x43 (2 : Int))) : R _).bind fun x45 => (mulR x44 x45))) : R _).bind fun x46 => (.ok (y17 - x46)))) (m1 := (.ok y17)) (Γ' := fun y47 : (List Int) => [.fr (α := Int) t.1, .fr (α := Int) t.2.1, .fr (α := Int) t.2.2.1, .ow (α := (Int × Int)) y41, .ow (α := Int) y47, .fr (α := Int) y17, .fr (α := Int) y29, .un, .un]) fr n4 rfl ?_ ?_ (he := by rfl) fun y47 => ?_
    · exact (ev_sub (ma := true) (mb := true) (md := true) (ev_var (md := true) n5 rfl rfl) (ev_mul (ma := true) (mb := true) (md := true) (ev_mod (ma := true) (mb := true) (md := true) (ev_call (md := true) d_law_mixed g__law_mixed (ea_cons (md := true) (ev_var (md := true) n2 rfl rfl) (ea_cons (md := true) (ev_add (ma := true) (mb := true) (md := true) (ev_int (md := true) rfl) (ev_var (md := true) n5 rfl rfl) rfl) (ea_nil (md := true) rfl) rfl) rfl) rfl rfl) (ev_add (ma := true) (mb := true) (md := true) (ev_var (md := true) n5 rfl rfl) (ev_int (md := true) rfl) rfl) rfl) (ev_mod (ma := true) (mb := true) (md := true) (ev_div (ma := true) (mb := true) (md := true) (ev_var (md := true) n2 rfl rfl) (ev_int (md := true) rfl) rfl) (ev_int (md := true) rfl) rfl) rfl) rfl)
    · exact (ev_var (md := true) n5 rfl rfl)
    exact w_end (s := (y41, y47)) [5, 6] rfl rfl
  refine w_for (α := Int) (S := (List (Int × Int))) (mx := (rngR 0 t.2.1)) (bd := (fun y51 s50 => (((((((((((((mulR (2 : Int) y51) : R _).bind fun x54 => (.ok ((20 : Int) + x54))) : R _).bind fun x55 => (.ok (x55, (())))) : R _).bind fun x56 => (.ok (t.2.2.1, x56))) : R _).bind fun x57 => (m_law_mixed x57)) : R _).bind fun x58 => (modR x58 t.1)) : R Int).bind fun y59 => (((((((((((((((((((((((mulR (2 : Int) y51) : R _).bind fun x60 => (.ok ((21 : Int) + x60))) : R _).bind fun x61 => (.ok (x61, (())))) : R _).bind fun x62 => (.ok (t.2.2.1, x62))) : R _).bind fun x63 => (m_law_mixed x63)) : R _).bind fun x64 => (modR x64 (t.1 - (1 : Int)))) : R _).bind fun x65 => (.ok ((y59 + (1 : Int)) + x65))) : R _).bind fun x66 => (modR x66 t.1)) : R _).bind fun x67 => (.ok (x67, (())))) : R _).bind fun x68 => (.ok (y59, x68))) : R _).bind fun x69 => (.ok (x69.1, x69.2.1))) : R _).bind fun x71 => ((appR s50 x71).bind fun y70 => (.ok y70)))))) (s0 := s16.1) (Γs := fun s50 : (List (Int × Int)) => [.fr (α := Int) t.1, .fr (α := Int) t.2.1, .fr (α := Int) t.2.2.1, .ow (α := (Int × Int)) s50, .ow (α := Int) s16.2, .un, .un, .un, .un]) (Γb := fun (y51 : Int) (s50 : (List (Int × Int))) => [.fr (α := Int) t.1, .fr (α := Int) t.2.1, .fr (α := Int) t.2.2.1, .ow (α := (Int × Int)) s50, .ow (α := Int) s16.2, .fr (α := Int) y51, .un, .un, .un]) (is := [5]) C.hX.calm fr (he := by rfl) ?_ ?_ ?_ fun s50 => ?_
  · exact (ei_range1 (ma := true) g_range f_range (ev_var (md := true) n1 rfl rfl) rfl)
  · exact fun y51 s50 => (eg_name (α := Int) l5 rfl (fun _ => rfl))
  · intro H52 sb53 N y51 s50
    replace fr := fr.up sb53
    try replace hR := hR.up sb53
    refine w_asg (α := Int) (Γ' := fun y59 : Int => [.fr (α := Int) t.1, .fr (α := Int) t.2.1, .fr (α := Int) t.2.2.1, .ow (α := (Int × Int)) s50, .ow (α := Int) s16.2, .fr (α := Int) y51, .un, .fr (α := Int) y59, .un]) fr l7 (he := by rfl) ?_ fun y59 => ?_
    · exact (ev_mod (ma := true) (mb := true) (md := true) (ev_call (md := true) d_law_mixed g__law_mixed (ea_cons (md := true) (ev_var (md := true) n2 rfl rfl) (ea_cons (md := true) (ev_add (ma := true) (mb := true) (md := true) (ev_int (md := true) rfl) (ev_mul (ma := true) (mb := true) (md := true) (ev_int (md := true) rfl) (ev_var (md := true) n5 rfl rfl) rfl) rfl) (ea_nil (md := true) rfl) rfl) rfl) rfl rfl) (ev_var (md := true) n0 rfl rfl) rfl)
    refine w_append (α := (Int × Int)) (m1 := (((((((((((((((((((((mulR (2 : Int) y51) : R _).bind fun x60 => (.ok ((21 : Int) + x60))) : R _).bind fun x61 => (.ok (x61, (())))) : R _).bind fun x62 => (.ok (t.2.2.1, x62))) : R _).bind fun x63 => (m_law_mixed x63)) : R _).bind fun x64 => (modR x64 (t.1 - (1 : Int)))) : R _).bind fun x65 => (.ok ((y59 + (1 : Int)) + x65))) : R _).bind fun x66 => (modR x66 t.1)) : R _).bind fun x67 => (.ok (x67, (())))) : R _).bind fun x68 => (.ok (y59, x68))) : R _).bind fun x69 => (.ok (x69.1, x69.2.1)))) (Γ' := fun y70 : (List (Int × Int)) => [.fr (α := Int) t.1, .fr (α := Int) t.2.1, .fr (α := Int) t.2.2.1, .ow (α := (Int × Int)) y70, .ow (α := Int) s16.2, .fr (α := Int) y51, .un, .fr (α := Int) y59, .un]) fr n3 rfl ?_ (he := by rfl) fun y70 => ?_
    · exact (ev_tup (md := true) tup2 (ea_cons (md := true) (ev_var (md := true) n7 rfl rfl) (ea_cons (md := true) (ev_mod (ma := true) (mb := true) (md := true) (ev_add (ma := true) (mb := true) (md := true) (ev_add (ma := true) (mb := true) (md := true) (ev_var (md := true) n7 rfl rfl) (ev_int (md := true) rfl) rfl) (ev_mod (ma := true) (mb := true) (md := true) (ev_call (md := true) d_law_mixed g__law_mixed (ea_cons (md := true) (ev_var (md := true) n2 rfl rfl) (ea_cons (md := true) (ev_add (ma := true) (mb := true) (md := true) (ev_int (md := true) rfl) (ev_mul (ma := true) (mb := true) (md := true) (ev_int (md := true) rfl) (ev_var (md := true) n5 rfl rfl) rfl) rfl) (ea_nil (md := true) rfl) rfl) rfl) rfl rfl) (ev_sub (ma := true) (mb := true) (md := true) (ev_var (md := true) n0 rfl rfl) (ev_int (md := true) rfl) rfl) rfl) rfl) (ev_var (md := true) n0 rfl rfl) rfl) (ea_nil (md := true) rfl) rfl) rfl) rfl)
    exact w_end (s := y70) [5, 7] rfl rfl
  exact w_retO (m1 := (mapR (fun y72 => (((((ixR s16.2 y72.1) : R _).bind fun x78 => (((((ixR s16.2 y72.2) : R _).bind fun x77 => (.ok (x77, (())))) : R _).bind fun x79 => (.ok (x78, x79)))) : R _).bind fun x80 => (.ok (x80.1, x80.2.1)))) s50)) (g := fun z => z) fr hR (ev_mapT (mi := false) (α := (Int × Int)) (β := (Int × Int)) (mx := (.ok s50)) (g := (fun y72 => (((((ixR s16.2 y72.1) : R _).bind fun x78 => (((((ixR s16.2 y72.2) : R _).bind fun x77 => (.ok (x77, (())))) : R _).bind fun x79 => (.ok (x78, x79)))) : R _).bind fun x80 => (.ok (x80.1, x80.2.1))))) (own := [("one", 7), ("other", 8)]) (Γx := fun y72 : (Int × Int) => [.fr (α := Int) t.1, .fr (α := Int) t.2.1, .fr (α := Int) t.2.2.1, .ow (α := (Int × Int)) s50, .ow (α := Int) s16.2, .un, .un, .fr (α := Int) y72.1, .fr (α := Int) y72.2]) (is := [7, 8]) C.hX (ei_list (ev_own n3 rfl rfl))  (by decide +kernel) (no2 (fun _ => rfl) (fun _ => rfl)) (by decide) (fun X74 b73 y72 => have h75 := b73.ok C.hX; (eg_nl (α := (Int × Int)) (eg_two h75.calm (eg_name (α := Int) (lc_mk (i := 7) (x := "one") h75.toXN (by decide +kernel)) rfl (fun _ => rfl)) (eg_name (α := Int) (lc_mk (i := 8) (x := "other") h75.toXN (by decide +kernel)) rfl (fun _ => rfl))))) (fun X74 b73 D76 y72 => have h75 := b73.ok C.hX; (ev_tup (md := true) tup2 (ea_cons (md := true) (Ev.flat (ma := false) (ev_ixL (md := false) (mb := true) (ev_own (nm_mk (i := 4) (x := "order") h75.toXN (by decide +kernel)) rfl rfl) (ev_var (md := true) (nm_mk (i := 7) (x := "one") h75.toXN (by decide +kernel)) rfl rfl) rfl)) (ea_cons (md := true) (Ev.flat (ma := false) (ev_ixL (md := false) (mb := true) (ev_own (nm_mk (i := 4) (x := "order") h75.toXN (by decide +kernel)) rfl rfl) (ev_var (md := true) (nm_mk (i := 8) (x := "other") h75.toXN (by decide +kernel)) rfl rfl) rfl)) (ea_nil (md := true) rfl) rfl) rfl) rfl)) rfl) (fun _ h => h) rfl
theorem gd_law_ties {P : Program} {w : World} {K : PySem.W.Frag} {mg : PySem.Str → Option Value} {base : Heap} (fc : Fac fe fa fn K mg) : Gd P w K mg base "_law_ties" (spO K (τ := Int × Int × Int × Unit) (ρ := (Int × Int)) 3 m_law_ties) 3 2 :=
  gd_O 16 28 fc rfl rfl sc_law_ties rfl bn_law_ties fun X _ _ _ _ _ C H0 qs rt A B fr hR t => b_law_ties (by omega) X C H0 qs rt A B fr hR t
theorem sc_tie_fits : FnScope ["houses", "tie"] ["houses", "tie"] dd_tie_fits.scope := ⟨rfl, rfl, rfl, by decide +kernel, rfl, by decide +kernel, by decide +kernel⟩
theorem bn_tie_fits : BindE dd_tie_fits ["houses", "tie"] := fun _ _ _ _ _ _ us hl => match us, hl with | [_, _], _ => rfl
theorem b_tie_fits {k : Nat} (hk : 0 ≤ k) (X : Cx) (C : Cb fe fa fn X (["houses", "tie"] : List PySem.Str) dd_tie_fits.scope k) (H0 : Hp) (qs : List Addr) (rt : VK) (A : Bool → Prop) (B : Exc → Prop) (fr : Fr X H0 B) (hR : RtF (ρ := Bool) X H0 qs rt A) (t : Int × (Int × Int) × Unit) :
    W X H0 qs rt (fun _ H => rt .non H) A B [.fr (α := Int) t.1, .fr (α := (Int × Int)) t.2.1] dd_tie_fits.body (m_tie_fits t) := by
  have n0 : Nm X 0 "houses" := nm_mk C.hX.toXN (by decide +kernel)
  have n1 : Nm X 1 "tie" := nm_mk C.hX.toXN (by decide +kernel)
  have g_max : Gn X "max" := gn_mk C.hX.toXN (by decide +kernel)
  have g_min : Gn X "min" := gn_mk C.hX.toXN (by decide +kernel)
  have f_max : X.mg "max" = none := C.fc.free 45
  have f_min : X.mg "min" = none := C.fc.free 44
  exact w_ret (m1 := (if (!pyEq t.2.1.1 t.2.1.2) = true then (if (decide ((0 : Int) ≤ min t.2.1.1 t.2.1.2)) = true then (R.ok (decide (max t.2.1.1 t.2.1.2 < t.1))) else R.ok false) else R.ok false)) (g := fun z => z) fr hR (ev_and (ma := true) (mb := true) (md := true) (ev_ne (α := Int) (ma := true) (mb := true) (md := true) C.hu (ev_ixP (md := true) ix20 (ev_var (md := true) n1 rfl rfl) (ev_int (md := true) rfl) rfl) (ev_ixP (md := true) ix21 (ev_var (md := true) n1 rfl rfl) (ev_int (md := true) rfl) rfl) rfl) (ev_and (ma := true) (mb := true) (md := true) (ev_ge (ma := true) (mb := true) (md := true) (ev_minP (ma := true) (md := true) C.hX.calm C.hu g_min f_min (ev_var (md := true) n1 rfl rfl) rfl) (ev_int (md := true) rfl) rfl) (ev_one (md := true) (ev_lt (ma := true) (mb := true) (md := true) (ev_maxP (ma := true) (md := true) C.hX.calm C.hu g_max f_max (ev_var (md := true) n1 rfl rfl) rfl) (ev_var (md := true) n0 rfl rfl) rfl)) rfl) rfl) (fun _ h => h) rfl
theorem gd_tie_fits {P : Program} {w : World} {K : PySem.W.Frag} {mg : PySem.Str → Option Value} {base : Heap} (fc : Fac fe fa fn K mg) : Gd P w K mg base "tie_fits" (spF K (τ := Int × (Int × Int) × Unit) (ρ := Bool) 2 m_tie_fits) 2 1 :=
  gd_F 11 23 fc rfl rfl sc_tie_fits rfl bn_tie_fits fun X _ _ _ _ _ C H0 qs rt A B fr hR t => b_tie_fits (by omega) X C H0 qs rt A B fr hR t
theorem sc_reached : FnScope ["houses", "ties", "seen", "grew", "one", "other", "house"] ["houses", "ties"] dd_reached.scope := ⟨rfl, rfl, rfl, by decide +kernel, rfl, by decide +kernel, by decide +kernel⟩
theorem bn_reached : BindE dd_reached ["houses", "ties"] := fun _ _ _ _ _ _ us hl => match us, hl with | [_, _], _ => rfl
theorem b_reached {k : Nat} (hk : 0 ≤ k) (X : Cx) (C : Cb fe fa fn X (["houses", "ties", "seen", "grew", "one", "other", "house"] : List PySem.Str) dd_reached.scope k) (H0 : Hp) (qs : List Addr) (rt : VK) (A : (List Int) → Prop) (B : Exc → Prop) (fr : Fr X H0 B) (hR : RtO (ρ := Int) X H0 qs rt A) (t : Int × (List (Int × Int)) × Unit) :
    W X H0 qs rt (fun _ H => rt .non H) A B [.fr (α := Int) t.1, .fr (α := (List (Int × Int))) t.2.1, .un, .un, .un, .un, .un] dd_reached.body (m_reached t) := by
  have n0 : Nm X 0 "houses" := nm_mk C.hX.toXN (by decide +kernel)
  have n1 : Nm X 1 "ties" := nm_mk C.hX.toXN (by decide +kernel)
  have n2 : Nm X 2 "seen" := nm_mk C.hX.toXN (by decide +kernel)
  have n3 : Nm X 3 "grew" := nm_mk C.hX.toXN (by decide +kernel)
  have n4 : Nm X 4 "one" := nm_mk C.hX.toXN (by decide +kernel)
  have n5 : Nm X 5 "other" := nm_mk C.hX.toXN (by decide +kernel)
  have l2 : Lc X 2 "seen" := lc_cell C.hX.toXN (C.fnt _) (by decide +kernel)
  have l3 : Lc X 3 "grew" := lc_mk C.hX.toXN (by decide +kernel)
  have l4 : Lc X 4 "one" := lc_mk C.hX.toXN (by decide +kernel)
  have l5 : Lc X 5 "other" := lc_mk C.hX.toXN (by decide +kernel)
  have g_range : Gn X "range" := gn_mk C.hX.toXN (by decide +kernel)
  have f_range : X.mg "range" = none := C.fc.free 40
  refine w_asgK (α := Bool) (Γ' := fun y102 : (List Bool) => [.fr (α := Int) t.1, .fr (α := (List (Int × Int))) t.2.1, .ow (α := Bool) y102, .un, .un, .un, .un]) fr l2 (by rw [C.hX.hs]; decide +kernel) (he := by rfl) ?_ fun y102 => ?_
  · exact (ev_map (mi := true) (α := Int) (β := Bool) (mx := (rngR 0 t.1)) (g := (fun y96 => (.ok (pyEq y96 (0 : Int))))) (own := [("house", 6)]) (Γx := fun y96 : Int => [.fr (α := Int) t.1, .fr (α := (List (Int × Int))) t.2.1, .un, .un, .un, .un, .fr (α := Int) y96]) (is := [6]) C.hX (ei_range1 (ma := true) g_range f_range (ev_var (md := true) n0 rfl rfl) rfl) (.inl rfl) (by decide +kernel) (no1 (fun _ => rfl)) (by decide) (fun X98 b97 y96 => have h99 := b97.ok C.hX; (eg_name (α := Int) (lc_mk (i := 6) (x := "house") h99.toXN (by decide +kernel)) rfl (fun _ => rfl))) (fun X98 b97 D100 y96 => have h99 := b97.ok C.hX; (ev_eq (α := Int) (ma := true) (mb := true) (md := true) (b97.hu C.hu) (ev_var (md := true) (nm_mk (i := 6) (x := "house") h99.toXN (by decide +kernel)) rfl rfl) (ev_int (md := true) rfl) rfl)) rfl)
  refine w_asg (α := Bool) (Γ' := fun y103 : Bool => [.fr (α := Int) t.1, .fr (α := (List (Int × Int))) t.2.1, .ow (α := Bool) y102, .fr (α := Bool) y103, .un, .un, .un]) fr l3 (he := by rfl) ?_ fun y103 => ?_
  · exact (ev_bool (md := true) rfl)
  refine w_while (S := ((List Bool) × Bool)) (tc := (fun s104 => (.ok s104.2))) (bd := (fun s104 => (((.ok false) : R Bool).bind fun y105 => (R.bind (forR (fun y107 s106 => (((((ixR s106.1 y107.1) : R _).bind fun x110 => (((ixR s106.1 y107.2) : R _).bind fun x111 => (.ok (!pyEq x110 x111)))) : R Bool).bind fun c117 => R.bind (if c117 = true then ((setR s106.1 y107.1 true).bind fun y113 => ((setR y113 y107.2 true).bind fun y114 => (((.ok true) : R Bool).bind fun y115 => (.ok (y114, y115))))) else (.ok (s106.1, s106.2))) fun s112 : ((List Bool) × Bool) => (.ok (s112.1, s112.2)))) t.2.1 (s104.1, y105)) fun s106 : ((List Bool) × Bool) => (.ok (s106.1, s106.2)))))) (n := fuel) (s0 := (y102, y103)) (Γs := fun s104 : ((List Bool) × Bool) => [.fr (α := Int) t.1, .fr (α := (List (Int × Int))) t.2.1, .ow (α := Bool) s104.1, .fr (α := Bool) s104.2, .un, .un, .un]) C.hX.calm fr (he := by rfl) ?_ ?_ fun s104 => ?_
  · exact fun s104 => (et_val (md := true) (ev_var (md := true) n3 rfl rfl))
  · intro N s104
    refine w_asg (α := Bool) (Γ' := fun y105 : Bool => [.fr (α := Int) t.1, .fr (α := (List (Int × Int))) t.2.1, .ow (α := Bool) s104.1, .fr (α := Bool) y105, .un, .un, .un]) fr l3 (he := by rfl) ?_ fun y105 => ?_
    · exact (ev_bool (md := true) rfl)
    refine w_for (α := (Int × Int)) (S := ((List Bool) × Bool)) (mx := (.ok t.2.1)) (bd := (fun y107 s106 => (((((ixR s106.1 y107.1) : R _).bind fun x110 => (((ixR s106.1 y107.2) : R _).bind fun x111 => (.ok (!pyEq x110 x111)))) : R Bool).bind fun c117 => R.bind (if c117 = true then ((setR s106.1 y107.1 true).bind fun y113 => ((setR y113 y107.2 true).bind fun y114 => (((.ok true) : R Bool).bind fun y115 => (.ok (y114, y115))))) else (.ok (s106.1, s106.2))) fun s112 : ((List Bool) × Bool) => (.ok (s112.1, s112.2))))) (s0 := (s104.1, y105)) (Γs := fun s106 : ((List Bool) × Bool) => [.fr (α := Int) t.1, .fr (α := (List (Int × Int))) t.2.1, .ow (α := Bool) s106.1, .fr (α := Bool) s106.2, .un, .un, .un]) (Γb := fun (y107 : (Int × Int)) (s106 : ((List Bool) × Bool)) => [.fr (α := Int) t.1, .fr (α := (List (Int × Int))) t.2.1, .ow (α := Bool) s106.1, .fr (α := Bool) s106.2, .fr (α := Int) y107.1, .fr (α := Int) y107.2, .un]) (is := [4, 5]) C.hX.calm fr (he := by rfl) ?_ ?_ ?_ fun s106 => ?_
    · exact (ei_list (ev_var (md := true) n1 rfl rfl))
    · exact fun y107 s106 => (eg_two C.hX.calm (eg_name (α := Int) l4 rfl (fun _ => rfl)) (eg_name (α := Int) l5 rfl (fun _ => rfl)))
    · intro H108 sb109 N y107 s106
      replace fr := fr.up sb109
      try replace hR := hR.up sb109
      refine w_ifJ (S := ((List Bool) × Bool)) (mc := (((ixR s106.1 y107.1) : R _).bind fun x110 => (((ixR s106.1 y107.2) : R _).bind fun x111 => (.ok (!pyEq x110 x111))))) (ma := ((setR s106.1 y107.1 true).bind fun y113 => ((setR y113 y107.2 true).bind fun y114 => (((.ok true) : R Bool).bind fun y115 => (.ok (y114, y115)))))) (mb := (.ok (s106.1, s106.2))) (Γs := fun s112 : ((List Bool) × Bool) => [.fr (α := Int) t.1, .fr (α := (List (Int × Int))) t.2.1, .ow (α := Bool) s112.1, .fr (α := Bool) s112.2, .fr (α := Int) y107.1, .fr (α := Int) y107.2, .un]) fr (et_ne (α := Bool) (ma := true) (mb := true) C.hu (Ev.flat (ma := false) (ev_ixL (md := false) (mb := true) (ev_own n2 rfl rfl) (ev_var (md := true) n4 rfl rfl) rfl)) (Ev.flat (ma := false) (ev_ixL (md := false) (mb := true) (ev_own n2 rfl rfl) (ev_var (md := true) n5 rfl rfl) rfl)) rfl) ?_ ?_ (he := by rfl) fun s112 => ?_
      · intro N
        refine w_setix (α := Bool) (m1 := (.ok true)) (mj := (.ok y107.1)) (Γ' := fun y113 : (List Bool) => [.fr (α := Int) t.1, .fr (α := (List (Int × Int))) t.2.1, .ow (α := Bool) y113, .fr (α := Bool) s106.2, .fr (α := Int) y107.1, .fr (α := Int) y107.2, .un]) fr n2 rfl ?_ ?_ (he := by rfl) fun y113 => ?_
        · exact (ev_bool (md := true) rfl)
        · exact (ev_var (md := true) n4 rfl rfl)
        refine w_setix (α := Bool) (m1 := (.ok true)) (mj := (.ok y107.2)) (Γ' := fun y114 : (List Bool) => [.fr (α := Int) t.1, .fr (α := (List (Int × Int))) t.2.1, .ow (α := Bool) y114, .fr (α := Bool) s106.2, .fr (α := Int) y107.1, .fr (α := Int) y107.2, .un]) fr n2 rfl ?_ ?_ (he := by rfl) fun y114 => ?_
        · exact (ev_bool (md := true) rfl)
        · exact (ev_var (md := true) n5 rfl rfl)
        refine w_asg (α := Bool) (Γ' := fun y115 : Bool => [.fr (α := Int) t.1, .fr (α := (List (Int × Int))) t.2.1, .ow (α := Bool) y114, .fr (α := Bool) y115, .fr (α := Int) y107.1, .fr (α := Int) y107.2, .un]) fr l3 (he := by rfl) ?_ fun y115 => ?_
        · exact (ev_bool (md := true) rfl)
        exact w_end (s := (y114, y115)) [] rfl rfl
      · intro N
        exact w_end (s := (s106.1, s106.2)) [] rfl rfl
      exact w_end (s := (s112.1, s112.2)) [4, 5] rfl rfl
    exact w_end (s := (s106.1, s106.2)) [] rfl rfl
  exact w_retO (m1 := (((rngR 0 t.1) : R _).bind fun x124 => (compR (fun y118 => (((ixR s104.1 y118) : R _).bind fun x123 => (if x123 = true then (R.ok (some y118)) else R.ok none))) x124))) (g := fun z => z) fr hR (ev_filt (mi := true) (α := Int) (β := Int) (mx := (rngR 0 t.1)) (t := fun y118 => (ixR s104.1 y118)) (g := fun y118 => (.ok y118)) (own := [("house", 6)]) (Γx := fun y118 : Int => [.fr (α := Int) t.1, .fr (α := (List (Int × Int))) t.2.1, .ow (α := Bool) s104.1, .fr (α := Bool) s104.2, .un, .un, .fr (α := Int) y118]) (is := [6]) C.hX (ei_range1 (ma := true) g_range f_range (ev_var (md := true) n0 rfl rfl) rfl) (.inl rfl) (by decide +kernel) (no1 (fun _ => rfl)) (by decide) (fun X120 b119 y118 => have h121 := b119.ok C.hX; (eg_name (α := Int) (lc_mk (i := 6) (x := "house") h121.toXN (by decide +kernel)) rfl (fun _ => rfl))) (fun X120 b119 D122 y118 => have h121 := b119.ok C.hX; (et_val (md := true) (Ev.flat (ma := false) (ev_ixL (md := false) (mb := true) (ev_own (nm_mk (i := 2) (x := "seen") h121.toXN (by decide +kernel)) rfl rfl) (ev_var (md := true) (nm_mk (i := 6) (x := "house") h121.toXN (by decide +kernel)) rfl rfl) rfl)))) (fun X120 b119 D122 y118 => have h121 := b119.ok C.hX; (ev_var (md := true) (nm_mk (i := 6) (x := "house") h121.toXN (by decide +kernel)) rfl rfl)) rfl) (fun _ h => h) rfl
theorem gd_reached {P : Program} {w : World} {K : PySem.W.Frag} {mg : PySem.Str → Option Value} {base : Heap} (fc : Fac fe fa fn K mg) : Gd P w K mg base "reached" (spO K (τ := Int × (List (Int × Int)) × Unit) (ρ := Int) 2 m_reached) 2 1 :=
  gd_O 12 24 fc rfl rfl sc_reached rfl bn_reached fun X _ _ _ _ _ C H0 qs rt A B fr hR t => b_reached (by omega) X C H0 qs rt A B fr hR t
theorem sc_made : FnScope ["houses", "ties", "tie"] ["houses", "ties"] dd_made.scope := ⟨rfl, rfl, rfl, by decide +kernel, rfl, by decide +kernel, by decide +kernel⟩
theorem bn_made : BindE dd_made ["houses", "ties"] := fun _ _ _ _ _ _ us hl => match us, hl with | [_, _], _ => rfl
theorem b_made {k : Nat} (hk : 1 ≤ k) (X : Cx) (C : Cb fe fa fn X (["houses", "ties", "tie"] : List PySem.Str) dd_made.scope k) (H0 : Hp) (qs : List Addr) (rt : VK) (A : (Int × (Tu (Int × Int))) → Prop) (B : Exc → Prop) (fr : Fr X H0 B) (hR : RtF (ρ := (Int × (Tu (Int × Int)))) X H0 qs rt A) (t : Int × (List (Int × Int)) × Unit) :
    W X H0 qs rt (fun _ H => rt .non H) A B [.fr (α := Int) t.1, .fr (α := (List (Int × Int))) t.2.1, .un] dd_made.body (m_made t) := by
  have n0 : Nm X 0 "houses" := nm_mk C.hX.toXN (by decide +kernel)
  have n1 : Nm X 1 "ties" := nm_mk C.hX.toXN (by decide +kernel)
  have n2 : Nm X 2 "tie" := nm_mk C.hX.toXN (by decide +kernel)
  have l2 : Lc X 2 "tie" := lc_mk C.hX.toXN (by decide +kernel)
  have g_BadWeb : Gn X "BadWeb" := gn_mk C.hX.toXN (by decide +kernel)
  have g_MOST_HOUSES : Gn X "MOST_HOUSES" := gn_mk C.hX.toXN (by decide +kernel)
  have g_MOST_TIES : Gn X "MOST_TIES" := gn_mk C.hX.toXN (by decide +kernel)
  have g_Parted : Gn X "Parted" := gn_mk C.hX.toXN (by decide +kernel)
  have g_len : Gn X "len" := gn_mk C.hX.toXN (by decide +kernel)
  have g_reached : Gn X "reached" := gn_mk C.hX.toXN (by decide +kernel)
  have g_sorted : Gn X "sorted" := gn_mk C.hX.toXN (by decide +kernel)
  have g_tie_fits : Gn X "tie_fits" := gn_mk C.hX.toXN (by decide +kernel)
  have g_tuple : Gn X "tuple" := gn_mk C.hX.toXN (by decide +kernel)
  have f_len : X.mg "len" = none := C.fc.free 39
  have f_max : X.mg "max" = none := C.fc.free 45
  have f_min : X.mg "min" = none := C.fc.free 44
  have f_sorted : X.mg "sorted" = none := C.fc.free 47
  have f_tuple : X.mg "tuple" = none := C.fc.free 46
  obtain ⟨_, c_MOST_HOUSES⟩ := C.fc.int 21 (x := "MOST_HOUSES") (z := 8) rfl
  obtain ⟨_, c_MOST_TIES⟩ := C.fc.int 22 (x := "MOST_TIES") (z := 16) rfl
  have x_BadWeb : Xn X .badWeb := C.xn .badWeb 2 3
  have x_Parted : Xn X .parted := C.xn .parted 4 5
  have d_tie_fits : Dn X "tie_fits" (spF X.K (τ := Int × (Int × Int) × Unit) (ρ := Bool) 2 m_tie_fits) 2 := (gd_tie_fits C.fc).dn C.rm (by omega)
  have d_reached : Dn X "reached" (spO X.K (τ := Int × (List (Int × Int)) × Unit) (ρ := Int) 2 m_reached) 2 := (gd_reached C.fc).dn C.rm (by omega)
  refine w_ifR (mc := (if (decide (t.1 < (1 : Int))) = true then R.ok true else (if (decide ((8 : Int) < t.1)) = true then R.ok true else (R.ok (decide ((16 : Int) < (t.2.1.length : Int))))))) fr (EvW.t (ew_or (et_lt (ma := true) (mb := true) (ev_var (md := true) n0 rfl rfl) (ev_int (md := true) rfl) rfl) (ew_or (et_gt (ma := true) (mb := true) (ev_var (md := true) n0 rfl rfl) (ev_gint (md := true) g_MOST_HOUSES c_MOST_HOUSES rfl) rfl) (ew_or1 (et_gt (ma := true) (mb := true) (ev_lenL (ma := true) (md := true) g_len f_len (ev_var (md := true) n1 rfl rfl) rfl) (ev_gint (md := true) g_MOST_TIES c_MOST_TIES rfl) rfl)) rfl) rfl)) (fun nx' => ?_) ?_ (he := by rfl)
  · skip
    exact w_raise .badWeb C.hX.calm fr x_BadWeb g_BadWeb rfl
  refine w_for (α := (Int × Int)) (S := Unit) (mx := (.ok t.2.1)) (bd := (fun y90 s89 => (((((m_tie_fits (t.1, y90, ())) : R _).bind fun x94 => (.ok (!x94))) : R Bool).bind fun c95 => if c95 = true then (.exc .badWeb) else (.ok ())))) (s0 := ()) (Γs := fun s89 : Unit => [.fr (α := Int) t.1, .fr (α := (List (Int × Int))) t.2.1, .un]) (Γb := fun (y90 : (Int × Int)) (s89 : Unit) => [.fr (α := Int) t.1, .fr (α := (List (Int × Int))) t.2.1, .fr (α := (Int × Int)) y90]) (is := [2]) C.hX.calm fr (he := by rfl) ?_ ?_ ?_ fun s89 => ?_
  · exact (ei_list (ev_var (md := true) n1 rfl rfl))
  · exact fun y90 s89 => (eg_name (α := (Int × Int)) l2 rfl (fun _ => rfl))
  · intro H91 sb92 N y90 s89
    replace fr := fr.up sb92
    try replace hR := hR.up sb92
    refine w_ifR (mc := (((m_tie_fits (t.1, y90, ())) : R _).bind fun x94 => (.ok (!x94)))) fr (et_not (et_val (md := true) (ev_call (md := true) d_tie_fits g_tie_fits (ea_cons (md := true) (ev_var (md := true) n0 rfl rfl) (ea_cons (md := true) (ev_var (md := true) n2 rfl rfl) (ea_nil (md := true) rfl) rfl) rfl) rfl rfl)) rfl) (fun nx' => ?_) ?_ (he := by rfl)
    · skip
      exact w_raise .badWeb C.hX.calm fr x_BadWeb g_BadWeb rfl
    exact w_end (s := ()) [2] rfl rfl
  refine w_ifR (mc := (((((m_reached (t.1, t.2.1, ())) : R _).bind fun x126 => (.ok (x126.length : Int))) : R _).bind fun x127 => (.ok (decide (x127 < t.1))))) fr (et_lt (ma := true) (mb := true) (ev_lenL (ma := true) (md := true) g_len f_len (EvO.fz (ev_callO (md := true) d_reached g_reached (ea_cons (md := true) (ev_var (md := true) n0 rfl rfl) (ea_cons (md := true) (ev_var (md := true) n1 rfl rfl) (ea_nil (md := true) rfl) rfl) rfl) rfl rfl)) rfl) (ev_var (md := true) n0 rfl rfl) rfl) (fun nx' => ?_) ?_ (he := by rfl)
  · skip
    exact w_raise .parted C.hX.calm fr x_Parted g_Parted rfl
  exact w_ret (m1 := (((((((((((mapR (fun y128 => (.ok (min y128.1 y128.2, max y128.1 y128.2))) t.2.1) : R _).bind fun x133 => (.ok (sortP x133))) : R _).bind fun x134 => (.ok (Tu.mk x134))) : R _).bind fun x135 => (.ok (x135, (())))) : R _).bind fun x136 => (.ok (t.1, x136))) : R _).bind fun x137 => (.ok (x137.1, x137.2.1)))) (g := fun z => z) fr hR (ev_tup (md := true) tup2 (ea_cons (md := true) (ev_var (md := true) n0 rfl rfl) (ea_cons (md := true) (ev_tupL (md := true) g_tuple f_tuple (EvO.fz (ev_sortP (md := true) g_sorted f_sorted (EvO.fz (ev_map (mi := true) (α := (Int × Int)) (β := (Int × Int)) (mx := (.ok t.2.1)) (g := (fun y128 => (.ok (min y128.1 y128.2, max y128.1 y128.2)))) (own := [("tie", 2)]) (Γx := fun y128 : (Int × Int) => [.fr (α := Int) t.1, .fr (α := (List (Int × Int))) t.2.1, .fr (α := (Int × Int)) y128]) (is := [2]) C.hX (ei_list (ev_var (md := true) n1 rfl rfl)) (.inl rfl) (by decide +kernel) (no1 (fun _ => rfl)) (by decide) (fun X130 b129 y128 => have h131 := b129.ok C.hX; (eg_name (α := (Int × Int)) (lc_mk (i := 2) (x := "tie") h131.toXN (by decide +kernel)) rfl (fun _ => rfl))) (fun X130 b129 D132 y128 => have h131 := b129.ok C.hX; (ev_tup (md := true) tup2 (ea_cons (md := true) (ev_minP (ma := true) (md := true) h131.calm (b129.hu C.hu) (gn_mk (x := "min") h131.toXN (by decide +kernel)) (b129.none f_min) (ev_var (md := true) (nm_mk (i := 2) (x := "tie") h131.toXN (by decide +kernel)) rfl rfl) rfl) (ea_cons (md := true) (ev_maxP (ma := true) (md := true) h131.calm (b129.hu C.hu) (gn_mk (x := "max") h131.toXN (by decide +kernel)) (b129.none f_max) (ev_var (md := true) (nm_mk (i := 2) (x := "tie") h131.toXN (by decide +kernel)) rfl rfl) rfl) (ea_nil (md := true) rfl) rfl) rfl) rfl)) rfl)) rfl)) rfl) (ea_nil (md := true) rfl) rfl) rfl) rfl) (fun _ h => h) rfl
theorem gd_made {P : Program} {w : World} {K : PySem.W.Frag} {mg : PySem.Str → Option Value} {base : Heap} (fc : Fac fe fa fn K mg) : Gd P w K mg base "made" (spF K (τ := Int × (List (Int × Int)) × Unit) (ρ := (Int × (Tu (Int × Int)))) 2 m_made) 2 2 :=
  gd_F 13 25 fc rfl rfl sc_made rfl bn_made fun X _ _ _ _ _ C H0 qs rt A B fr hR t => b_made (by omega) X C H0 qs rt A B fr hR t
theorem sc_law_big : FnScope ["cell", "wide"] ["cell"] dd__law_big.scope := ⟨rfl, rfl, rfl, by decide +kernel, rfl, by decide +kernel, by decide +kernel⟩
theorem bn_law_big : BindE dd__law_big ["cell"] := fun _ _ _ _ _ _ us hl => match us, hl with | [_], _ => rfl
theorem b_law_big {k : Nat} (hk : 0 ≤ k) (X : Cx) (C : Cb fe fa fn X (["cell", "wide"] : List PySem.Str) dd__law_big.scope k) (H0 : Hp) (qs : List Addr) (rt : VK) (A : Int → Prop) (B : Exc → Prop) (fr : Fr X H0 B) (hR : RtF (ρ := Int) X H0 qs rt A) (t : Int × Unit) :
    W X H0 qs rt (fun _ H => rt .non H) A B [.fr (α := Int) t.1, .un] dd__law_big.body (m_law_big t) := by
  have n0 : Nm X 0 "cell" := nm_mk C.hX.toXN (by decide +kernel)
  have n1 : Nm X 1 "wide" := nm_mk C.hX.toXN (by decide +kernel)
  have l1 : Lc X 1 "wide" := lc_mk C.hX.toXN (by decide +kernel)
  refine w_ifR (mc := (((modR t.1 (2 : Int)) : R _).bind fun x157 => (.ok (pyEq x157 (0 : Int))))) fr (et_eq (α := Int) (ma := true) (mb := true) C.hu (ev_mod (ma := true) (mb := true) (md := true) (ev_var (md := true) n0 rfl rfl) (ev_int (md := true) rfl) rfl) (ev_int (md := true) rfl) rfl) (fun nx' => ?_) ?_ (he := by rfl)
  · skip
    exact w_ret (m1 := (((((divR t.1 (2 : Int)) : R _).bind fun x158 => (modR x158 (13 : Int))) : R _).bind fun x159 => (.ok (x159 - (6 : Int))))) (g := fun z => z) fr hR (ev_sub (ma := true) (mb := true) (md := true) (ev_mod (ma := true) (mb := true) (md := true) (ev_div (ma := true) (mb := true) (md := true) (ev_var (md := true) n0 rfl rfl) (ev_int (md := true) rfl) rfl) (ev_int (md := true) rfl) rfl) (ev_int (md := true) rfl) rfl) (fun _ h => h) rfl
  refine w_asg (α := Int) (Γ' := fun y163 : Int => [.fr (α := Int) t.1, .fr (α := Int) y163]) fr l1 (he := by rfl) ?_ fun y163 => ?_
  · exact (ev_mod (ma := true) (mb := true) (md := true) (ev_div (ma := true) (mb := true) (md := true) (ev_var (md := true) n0 rfl rfl) (ev_int (md := true) rfl) rfl) (ev_pow (ma := true) (mb := true) (md := true) (ev_int (md := true) rfl) (ev_int (md := true) rfl) rfl) rfl)
  exact w_ret (m1 := (((((((((powR y163 (4 : Int)) : R _).bind fun x164 => (mulR x164 (48270 : Int))) : R _).bind fun x165 => (.ok (x165 + y163))) : R _).bind fun x167 => (((((powR (10 : Int) (58 : Int)) : R _).bind fun x166 => (mulR (2 : Int) x166)) : R _).bind fun x168 => (modR x167 x168))) : R _).bind fun x169 => (((powR (10 : Int) (58 : Int)) : R _).bind fun x170 => (.ok (x169 - x170))))) (g := fun z => z) fr hR (ev_sub (ma := true) (mb := true) (md := true) (ev_mod (ma := true) (mb := true) (md := true) (ev_add (ma := true) (mb := true) (md := true) (ev_mul (ma := true) (mb := true) (md := true) (ev_pow (ma := true) (mb := true) (md := true) (ev_var (md := true) n1 rfl rfl) (ev_int (md := true) rfl) rfl) (ev_int (md := true) rfl) rfl) (ev_var (md := true) n1 rfl rfl) rfl) (ev_mul (ma := true) (mb := true) (md := true) (ev_int (md := true) rfl) (ev_pow (ma := true) (mb := true) (md := true) (ev_int (md := true) rfl) (ev_int (md := true) rfl) rfl) rfl) rfl) (ev_pow (ma := true) (mb := true) (md := true) (ev_int (md := true) rfl) (ev_int (md := true) rfl) rfl) rfl) (fun _ h => h) rfl
theorem gd_law_big {P : Program} {w : World} {K : PySem.W.Frag} {mg : PySem.Str → Option Value} {base : Heap} (fc : Fac fe fa fn K mg) : Gd P w K mg base "_law_big" (spF K (τ := Int × Unit) (ρ := Int) 1 m_law_big) 1 1 :=
  gd_F 21 33 fc rfl rfl sc_law_big rfl bn_law_big fun X _ _ _ _ _ C H0 qs rt A B fr hR t => b_law_big (by omega) X C H0 qs rt A B fr hR t
theorem sc_law_standings : FnScope ["script", "houses", "numbers", "k", "at", "one", "other", "number"] ["script", "houses"] dd__law_standings.scope := ⟨rfl, rfl, rfl, by decide +kernel, rfl, by decide +kernel, by decide +kernel⟩
theorem bn_law_standings : BindE dd__law_standings ["script", "houses"] := fun _ _ _ _ _ _ us hl => match us, hl with | [_, _], _ => rfl
theorem b_law_standings {k : Nat} (hk : 1 ≤ k) (X : Cx) (C : Cb fe fa fn X (["script", "houses", "numbers", "k", "at", "one", "other", "number"] : List PySem.Str) dd__law_standings.scope k) (H0 : Hp) (qs : List Addr) (rt : VK) (A : ((List Int) × (List Int)) → Prop) (B : Exc → Prop) (fr : Fr X H0 B) (hR : RtF (ρ := ((List Int) × (List Int))) X H0 qs rt A) (t : Scr × Int × Unit) :
    W X H0 qs rt (fun _ H => rt .non H) A B [.fr (α := Scr) t.1, .fr (α := Int) t.2.1, .un, .un, .un, .un, .un, .un] dd__law_standings.body (m_law_standings t) := by
  have n0 : Nm X 0 "script" := nm_mk C.hX.toXN (by decide +kernel)
  have n1 : Nm X 1 "houses" := nm_mk C.hX.toXN (by decide +kernel)
  have n2 : Nm X 2 "numbers" := nm_mk C.hX.toXN (by decide +kernel)
  have n3 : Nm X 3 "k" := nm_mk C.hX.toXN (by decide +kernel)
  have n4 : Nm X 4 "at" := nm_mk C.hX.toXN (by decide +kernel)
  have n5 : Nm X 5 "one" := nm_mk C.hX.toXN (by decide +kernel)
  have n6 : Nm X 6 "other" := nm_mk C.hX.toXN (by decide +kernel)
  have l2 : Lc X 2 "numbers" := lc_mk C.hX.toXN (by decide +kernel)
  have l3 : Lc X 3 "k" := lc_mk C.hX.toXN (by decide +kernel)
  have l4 : Lc X 4 "at" := lc_mk C.hX.toXN (by decide +kernel)
  have l5 : Lc X 5 "one" := lc_mk C.hX.toXN (by decide +kernel)
  have l6 : Lc X 6 "other" := lc_mk C.hX.toXN (by decide +kernel)
  have g__law_big : Gn X "_law_big" := gn_mk C.hX.toXN (by decide +kernel)
  have g__law_cell_at : Gn X "_law_cell_at" := gn_mk C.hX.toXN (by decide +kernel)
  have g_len : Gn X "len" := gn_mk C.hX.toXN (by decide +kernel)
  have g_min : Gn X "min" := gn_mk C.hX.toXN (by decide +kernel)
  have g_range : Gn X "range" := gn_mk C.hX.toXN (by decide +kernel)
  have g_sum : Gn X "sum" := gn_mk C.hX.toXN (by decide +kernel)
  have f_len : X.mg "len" = none := C.fc.free 39
  have f_min : X.mg "min" = none := C.fc.free 44
  have f_range : X.mg "range" = none := C.fc.free 40
  have f_sum : X.mg "sum" = none := C.fc.free 42
  have d_law_big : Dn X "_law_big" (spF X.K (τ := Int × Unit) (ρ := Int) 1 m_law_big) 1 := (gd_law_big C.fc).dn C.rm (by omega)
  have d_law_cell_at : Dn X "_law_cell_at" (spF X.K (τ := Scr × Int × Unit) (ρ := Int) 2 m_law_cell_at) 2 := (gd_law_cell_at C.fc).dn C.rm (by omega)
  refine w_asgC (α := Int) (Γ' := fun y149 : (List Int) => [.fr (α := Scr) t.1, .fr (α := Int) t.2.1, .ow (α := Int) y149, .un, .un, .un, .un, .un]) fr l2 (by rw [C.hX.hs]; decide +kernel) C.kd (he := by rfl) ?_ fun y149 => ?_
  · exact (ec_map (mi := true) (α := Int) (β := Int) (mx := (((mulR (2 : Int) t.2.1) : R _).bind fun x142 => (rngR 0 x142))) (g := (fun y143 => (.ok (0 : Int)))) (own := [("k", 3)]) (Γx := fun y143 : Int => [.fr (α := Scr) t.1, .fr (α := Int) t.2.1, .un, .fr (α := Int) y143, .un, .un, .un, .un]) (is := [3]) C.hX (ei_range1 (ma := true) g_range f_range (ev_mul (ma := true) (mb := true) (md := true) (ev_int (md := true) rfl) (ev_var (md := true) n1 rfl rfl) rfl) rfl) (.inl rfl) (by decide +kernel) (no1 (fun _ => rfl)) (by decide) (fun X145 b144 y143 => have h146 := b144.ok C.hX; (eg_name (α := Int) (lc_mk (i := 3) (x := "k") h146.toXN (by decide +kernel)) rfl (fun _ => rfl))) (fun X145 b144 D147 y143 => have h146 := b144.ok C.hX; (ev_int (md := true) rfl)) rfl)
  refine w_for (α := Int) (S := (List Int)) (mx := (rngR (2 : Int) (min (t.1.l.length : Int) (64 : Int)))) (bd := (fun y151 s150 => (((((mulR (2 : Int) t.2.1) : R _).bind fun x154 => (modR y151 x154)) : R Int).bind fun y155 => (((((((ixR s150 y155) : R _).bind fun x156 => (mulR x156 (1000003 : Int))) : R _).bind fun x175 => (((((((ixR t.1.l y151) : R _).bind fun x173 => (.ok (x173, (())))) : R _).bind fun x174 => (m_law_big x174)) : R _).bind fun x176 => (.ok (x175 + x176)))) : R _).bind fun x178 => ((setR s150 y155 x178).bind fun y177 => (.ok y177)))))) (s0 := y149) (Γs := fun s150 : (List Int) => [.fr (α := Scr) t.1, .fr (α := Int) t.2.1, .ow (α := Int) s150, .un, .un, .un, .un, .un]) (Γb := fun (y151 : Int) (s150 : (List Int)) => [.fr (α := Scr) t.1, .fr (α := Int) t.2.1, .ow (α := Int) s150, .fr (α := Int) y151, .un, .un, .un, .un]) (is := [3]) C.hX.calm fr (he := by rfl) ?_ ?_ ?_ fun s150 => ?_
  · exact (ei_range2 (ma := true) (mb := true) g_range f_range (ev_int (md := true) rfl) (ev_min2 (ma := true) (mb := true) (md := true) C.hX.calm g_min f_min (ev_lenS (ma := true) (md := true) g_len f_len (ev_var (md := true) n0 rfl rfl) rfl) (ev_int (md := true) rfl) rfl) rfl)
  · exact fun y151 s150 => (eg_name (α := Int) l3 rfl (fun _ => rfl))
  · intro H152 sb153 N y151 s150
    replace fr := fr.up sb153
    try replace hR := hR.up sb153
    refine w_asg (α := Int) (Γ' := fun y155 : Int => [.fr (α := Scr) t.1, .fr (α := Int) t.2.1, .ow (α := Int) s150, .fr (α := Int) y151, .fr (α := Int) y155, .un, .un, .un]) fr l4 (he := by rfl) ?_ fun y155 => ?_
    · exact (ev_mod (ma := true) (mb := true) (md := true) (ev_var (md := true) n3 rfl rfl) (ev_mul (ma := true) (mb := true) (md := true) (ev_int (md := true) rfl) (ev_var (md := true) n1 rfl rfl) rfl) rfl)
    refine w_setix (α := Int) (m1 := (((((ixR s150 y155) : R _).bind fun x156 => (mulR x156 (1000003 : Int))) : R _).bind fun x175 => (((((((ixR t.1.l y151) : R _).bind fun x173 => (.ok (x173, (())))) : R _).bind fun x174 => (m_law_big x174)) : R _).bind fun x176 => (.ok (x175 + x176))))) (mj := (.ok y155)) (Γ' := fun y177 : (List Int) => [.fr (α := Scr) t.1, .fr (α := Int) t.2.1, .ow (α := Int) y177, .fr (α := Int) y151, .fr (α := Int) y155, .un, .un, .un]) fr n2 rfl ?_ ?_ (he := by rfl) fun y177 => ?_
    · exact (ev_add (ma := true) (mb := true) (md := true) (ev_mul (ma := true) (mb := true) (md := true) (Ev.flat (ma := false) (ev_ixL (md := false) (mb := true) (ev_own n2 rfl rfl) (ev_var (md := true) n4 rfl rfl) rfl)) (ev_int (md := true) rfl) rfl) (ev_call (md := true) d_law_big g__law_big (ea_cons (md := true) (ev_ixS (ma := true) (mb := true) (md := true) (ev_var (md := true) n0 rfl rfl) (ev_var (md := true) n3 rfl rfl) rfl) (ea_nil (md := true) rfl) rfl) rfl rfl) rfl)
    · exact (ev_var (md := true) n4 rfl rfl)
    exact w_end (s := y177) [3, 4] rfl rfl
  refine w_ifJ (S := (List Int)) (mc := (((((((m_law_cell_at (t.1, (0 : Int), ())) : R _).bind fun x179 => (divR x179 (128 : Int))) : R _).bind fun x180 => (modR x180 (2 : Int))) : R _).bind fun x181 => (.ok (pyEq x181 (0 : Int))))) (ma := (((mapR (fun y183 => (((((powR y183 (4 : Int)) : R _).bind fun x188 => (mulR x188 (48270 : Int))) : R _).bind fun x189 => (.ok (x189 + y183)))) s150) : R (List Int)).bind fun y190 => (.ok y190))) (mb := (.ok s150)) (Γs := fun s182 : (List Int) => [.fr (α := Scr) t.1, .fr (α := Int) t.2.1, .ow (α := Int) s182, .un, .un, .un, .un, .un]) fr (et_eq (α := Int) (ma := true) (mb := true) C.hu (ev_mod (ma := true) (mb := true) (md := true) (ev_div (ma := true) (mb := true) (md := true) (ev_call (md := true) d_law_cell_at g__law_cell_at (ea_cons (md := true) (ev_var (md := true) n0 rfl rfl) (ea_cons (md := true) (ev_int (md := true) rfl) (ea_nil (md := true) rfl) rfl) rfl) rfl rfl) (ev_int (md := true) rfl) rfl) (ev_int (md := true) rfl) rfl) (ev_int (md := true) rfl) rfl) ?_ ?_ (he := by rfl) fun s182 => ?_
  · intro N
    refine w_asgC (α := Int) (Γ' := fun y190 : (List Int) => [.fr (α := Scr) t.1, .fr (α := Int) t.2.1, .ow (α := Int) y190, .un, .un, .un, .un, .un]) fr l2 (by rw [C.hX.hs]; decide +kernel) C.kd (he := by rfl) ?_ fun y190 => ?_
    · exact (ec_map (mi := false) (α := Int) (β := Int) (mx := (.ok s150)) (g := (fun y183 => (((((powR y183 (4 : Int)) : R _).bind fun x188 => (mulR x188 (48270 : Int))) : R _).bind fun x189 => (.ok (x189 + y183))))) (own := [("number", 7)]) (Γx := fun y183 : Int => [.fr (α := Scr) t.1, .fr (α := Int) t.2.1, .ow (α := Int) s150, .un, .un, .un, .un, .fr (α := Int) y183]) (is := [7]) C.hX (ei_list (ev_own n2 rfl rfl)) (.inr PyF.flat) (by decide +kernel) (no1 (fun _ => rfl)) (by decide) (fun X185 b184 y183 => have h186 := b184.ok C.hX; (eg_name (α := Int) (lc_mk (i := 7) (x := "number") h186.toXN (by decide +kernel)) rfl (fun _ => rfl))) (fun X185 b184 D187 y183 => have h186 := b184.ok C.hX; (ev_add (ma := true) (mb := true) (md := true) (ev_mul (ma := true) (mb := true) (md := true) (ev_pow (ma := true) (mb := true) (md := true) (ev_var (md := true) (nm_mk (i := 7) (x := "number") h186.toXN (by decide +kernel)) rfl rfl) (ev_int (md := true) rfl) rfl) (ev_int (md := true) rfl) rfl) (ev_var (md := true) (nm_mk (i := 7) (x := "number") h186.toXN (by decide +kernel)) rfl rfl) rfl)) rfl)
    exact w_end (s := y190) [] rfl rfl
  · intro N
    exact w_end (s := s150) [] rfl rfl
  refine w_asgC (α := Int) (Γ' := fun y200 : (List Int) => [.fr (α := Scr) t.1, .fr (α := Int) t.2.1, .ow (α := Int) y200, .un, .un, .un, .un, .un]) fr l2 (by rw [C.hX.hs]; decide +kernel) C.kd (he := by rfl) ?_ fun y200 => ?_
  · exact (ec_map (mi := false) (α := Int) (β := Int) (mx := (.ok s182)) (g := (fun y191 => (((((((powR (10 : Int) (58 : Int)) : R _).bind fun x196 => (mulR (2 : Int) x196)) : R _).bind fun x197 => (modR y191 x197)) : R _).bind fun x198 => (((powR (10 : Int) (58 : Int)) : R _).bind fun x199 => (.ok (x198 - x199)))))) (own := [("number", 7)]) (Γx := fun y191 : Int => [.fr (α := Scr) t.1, .fr (α := Int) t.2.1, .ow (α := Int) s182, .un, .un, .un, .un, .fr (α := Int) y191]) (is := [7]) C.hX (ei_list (ev_own n2 rfl rfl)) (.inr PyF.flat) (by decide +kernel) (no1 (fun _ => rfl)) (by decide) (fun X193 b192 y191 => have h194 := b192.ok C.hX; (eg_name (α := Int) (lc_mk (i := 7) (x := "number") h194.toXN (by decide +kernel)) rfl (fun _ => rfl))) (fun X193 b192 D195 y191 => have h194 := b192.ok C.hX; (ev_sub (ma := true) (mb := true) (md := true) (ev_mod (ma := true) (mb := true) (md := true) (ev_var (md := true) (nm_mk (i := 7) (x := "number") h194.toXN (by decide +kernel)) rfl rfl) (ev_mul (ma := true) (mb := true) (md := true) (ev_int (md := true) rfl) (ev_pow (ma := true) (mb := true) (md := true) (ev_int (md := true) rfl) (ev_int (md := true) rfl) rfl) rfl) rfl) (ev_pow (ma := true) (mb := true) (md := true) (ev_int (md := true) rfl) (ev_int (md := true) rfl) rfl) rfl)) rfl)
  refine w_ifJ (S := (List Int)) (mc := (((((((m_law_cell_at (t.1, (0 : Int), ())) : R _).bind fun x201 => (divR x201 (128 : Int))) : R _).bind fun x202 => (modR x202 (2 : Int))) : R _).bind fun x203 => (.ok (pyEq x203 (1 : Int))))) (ma := (((mapR (fun y205 => (((modR y205 (13 : Int)) : R _).bind fun x210 => (.ok (x210 - (6 : Int))))) y200) : R (List Int)).bind fun y211 => (.ok y211))) (mb := (.ok y200)) (Γs := fun s204 : (List Int) => [.fr (α := Scr) t.1, .fr (α := Int) t.2.1, .ow (α := Int) s204, .un, .un, .un, .un, .un]) fr (et_eq (α := Int) (ma := true) (mb := true) C.hu (ev_mod (ma := true) (mb := true) (md := true) (ev_div (ma := true) (mb := true) (md := true) (ev_call (md := true) d_law_cell_at g__law_cell_at (ea_cons (md := true) (ev_var (md := true) n0 rfl rfl) (ea_cons (md := true) (ev_int (md := true) rfl) (ea_nil (md := true) rfl) rfl) rfl) rfl rfl) (ev_int (md := true) rfl) rfl) (ev_int (md := true) rfl) rfl) (ev_int (md := true) rfl) rfl) ?_ ?_ (he := by rfl) fun s204 => ?_
  · intro N
    refine w_asgC (α := Int) (Γ' := fun y211 : (List Int) => [.fr (α := Scr) t.1, .fr (α := Int) t.2.1, .ow (α := Int) y211, .un, .un, .un, .un, .un]) fr l2 (by rw [C.hX.hs]; decide +kernel) C.kd (he := by rfl) ?_ fun y211 => ?_
    · exact (ec_map (mi := false) (α := Int) (β := Int) (mx := (.ok y200)) (g := (fun y205 => (((modR y205 (13 : Int)) : R _).bind fun x210 => (.ok (x210 - (6 : Int)))))) (own := [("number", 7)]) (Γx := fun y205 : Int => [.fr (α := Scr) t.1, .fr (α := Int) t.2.1, .ow (α := Int) y200, .un, .un, .un, .un, .fr (α := Int) y205]) (is := [7]) C.hX (ei_list (ev_own n2 rfl rfl)) (.inr PyF.flat) (by decide +kernel) (no1 (fun _ => rfl)) (by decide) (fun X207 b206 y205 => have h208 := b206.ok C.hX; (eg_name (α := Int) (lc_mk (i := 7) (x := "number") h208.toXN (by decide +kernel)) rfl (fun _ => rfl))) (fun X207 b206 D209 y205 => have h208 := b206.ok C.hX; (ev_sub (ma := true) (mb := true) (md := true) (ev_mod (ma := true) (mb := true) (md := true) (ev_var (md := true) (nm_mk (i := 7) (x := "number") h208.toXN (by decide +kernel)) rfl rfl) (ev_int (md := true) rfl) rfl) (ev_int (md := true) rfl) rfl)) rfl)
    exact w_end (s := y211) [] rfl rfl
  · intro N
    exact w_end (s := y200) [] rfl rfl
  refine w_asg (α := (List Int)) (Γ' := fun y212 : (List Int) => [.fr (α := Scr) t.1, .fr (α := Int) t.2.1, .ow (α := Int) s204, .un, .un, .fr (α := (List Int)) y212, .un, .un]) fr l5 (he := by rfl) ?_ fun y212 => ?_
  · exact (EvO.fz (EvO.flat (ma := false) (ev_cut (md := false) (ev_own n2 rfl rfl) ep_no (ep_of (ma := true) (ev_var (md := true) n1 rfl rfl) rfl) rfl)))
  refine w_asgO (α := Int) (Γ' := fun y213 : (List Int) => [.fr (α := Scr) t.1, .fr (α := Int) t.2.1, .ow (α := Int) s204, .un, .un, .fr (α := (List Int)) y212, .ow (α := Int) y213, .un]) fr l6 (he := by rfl) ?_ fun y213 => ?_
  · exact (EvO.flat (ma := false) (ev_cut (md := false) (ev_own n2 rfl rfl) (ep_of (ma := true) (ev_var (md := true) n1 rfl rfl) rfl) ep_no rfl))
  refine w_ifJ (S := (List Int)) (mc := (((((m_law_cell_at (t.1, (1 : Int), ())) : R _).bind fun x214 => (modR x214 (4 : Int))) : R _).bind fun x215 => (.ok (decide ((0 : Int) < x215))))) (ma := ((setR y213 (t.2.1 - (1 : Int)) ((List.sum y212) - (List.sum (cutL y213 none (some (t.2.1 - (1 : Int))))))).bind fun y217 => (.ok y217))) (mb := (.ok y213)) (Γs := fun s216 : (List Int) => [.fr (α := Scr) t.1, .fr (α := Int) t.2.1, .ow (α := Int) s204, .un, .un, .fr (α := (List Int)) y212, .ow (α := Int) s216, .un]) fr (et_gt (ma := true) (mb := true) (ev_mod (ma := true) (mb := true) (md := true) (ev_call (md := true) d_law_cell_at g__law_cell_at (ea_cons (md := true) (ev_var (md := true) n0 rfl rfl) (ea_cons (md := true) (ev_int (md := true) rfl) (ea_nil (md := true) rfl) rfl) rfl) rfl rfl) (ev_int (md := true) rfl) rfl) (ev_int (md := true) rfl) rfl) ?_ ?_ (he := by rfl) fun s216 => ?_
  · intro N
    refine w_setix (α := Int) (m1 := (.ok ((List.sum y212) - (List.sum (cutL y213 none (some (t.2.1 - (1 : Int)))))))) (mj := (.ok (t.2.1 - (1 : Int)))) (Γ' := fun y217 : (List Int) => [.fr (α := Scr) t.1, .fr (α := Int) t.2.1, .ow (α := Int) s204, .un, .un, .fr (α := (List Int)) y212, .ow (α := Int) y217, .un]) fr n6 rfl ?_ ?_ (he := by rfl) fun y217 => ?_
    · exact (ev_sub (ma := true) (mb := true) (md := true) (ev_sum (ma := true) (md := true) C.hX.calm g_sum f_sum (ev_var (md := true) n5 rfl rfl) rfl) (ev_sum (ma := true) (md := true) C.hX.calm g_sum f_sum (EvO.fz (EvO.flat (ma := false) (ev_cut (md := false) (ev_own n6 rfl rfl) ep_no (ep_of (ma := true) (ev_sub (ma := true) (mb := true) (md := true) (ev_var (md := true) n1 rfl rfl) (ev_int (md := true) rfl) rfl) rfl) rfl))) rfl) rfl)
    · exact (ev_sub (ma := true) (mb := true) (md := true) (ev_var (md := true) n1 rfl rfl) (ev_int (md := true) rfl) rfl)
    exact w_end (s := y217) [] rfl rfl
  · intro N
    exact w_end (s := y213) [] rfl rfl
  refine w_frz 6 rfl (Γ' := [.fr (α := Scr) t.1, .fr (α := Int) t.2.1, .ow (α := Int) s204, .un, .un, .fr (α := (List Int)) y212, .fr (α := (List Int)) s216, .un]) rfl ?_
  exact w_ret (m1 := (.ok (y212, s216))) (g := fun z => z) fr hR (ev_tup (md := true) tup2 (ea_cons (md := true) (ev_var (md := true) n5 rfl rfl) (ea_cons (md := true) (ev_var (md := true) n6 rfl rfl) (ea_nil (md := true) rfl) rfl) rfl) rfl) (fun _ h => h) rfl
theorem gd_law_standings {P : Program} {w : World} {K : PySem.W.Frag} {mg : PySem.Str → Option Value} {base : Heap} (fc : Fac fe fa fn K mg) : Gd P w K mg base "_law_standings" (spF K (τ := Scr × Int × Unit) (ρ := ((List Int) × (List Int))) 2 m_law_standings) 2 2 :=
  gd_F 22 34 fc rfl rfl sc_law_standings rfl bn_law_standings fun X _ _ _ _ _ C H0 qs rt A B fr hR t => b_law_standings (by omega) X C H0 qs rt A B fr hR t
theorem sc_look_at_lengths : FnScope ["web", "one", "other"] ["web", "one", "other"] dd_look_at_lengths.scope := ⟨rfl, rfl, rfl, by decide +kernel, rfl, by decide +kernel, by decide +kernel⟩
theorem bn_look_at_lengths : BindE dd_look_at_lengths ["web", "one", "other"] := fun _ _ _ _ _ _ us hl => match us, hl with | [_, _, _], _ => rfl
theorem b_look_at_lengths {k : Nat} (hk : 0 ≤ k) (X : Cx) (C : Cb fe fa fn X (["web", "one", "other"] : List PySem.Str) dd_look_at_lengths.scope k) (H0 : Hp) (qs : List Addr) (rt : VK) (A : Unit → Prop) (B : Exc → Prop) (fr : Fr X H0 B) (hR : RtF (ρ := Unit) X H0 qs rt A) (t : (Int × (Tu (Int × Int))) × (List Int) × (List Int) × Unit) :
    W X H0 qs rt (fun _ H => rt .non H) A B [.fr (α := (Int × (Tu (Int × Int)))) t.1, .fr (α := (List Int)) t.2.1, .fr (α := (List Int)) t.2.2.1] dd_look_at_lengths.body (m_look_at_lengths t) := by
  have n0 : Nm X 0 "web" := nm_mk C.hX.toXN (by decide +kernel)
  have n1 : Nm X 1 "one" := nm_mk C.hX.toXN (by decide +kernel)
  have n2 : Nm X 2 "other" := nm_mk C.hX.toXN (by decide +kernel)
  have g_BadStanding : Gn X "BadStanding" := gn_mk C.hX.toXN (by decide +kernel)
  have g_len : Gn X "len" := gn_mk C.hX.toXN (by decide +kernel)
  have f_len : X.mg "len" = none := C.fc.free 39
  have x_BadStanding : Xn X .badStanding := C.xn .badStanding 6 7
  refine w_ifR (mc := (if (!pyEq (t.2.1.length : Int) t.1.1) = true then R.ok true else (R.ok (!pyEq (t.2.2.1.length : Int) t.1.1)))) fr (EvW.t (ew_or (et_ne (α := Int) (ma := true) (mb := true) C.hu (ev_lenL (ma := true) (md := true) g_len f_len (ev_var (md := true) n1 rfl rfl) rfl) (ev_ixP (md := true) ix20 (ev_var (md := true) n0 rfl rfl) (ev_int (md := true) rfl) rfl) rfl) (ew_or1 (et_ne (α := Int) (ma := true) (mb := true) C.hu (ev_lenL (ma := true) (md := true) g_len f_len (ev_var (md := true) n2 rfl rfl) rfl) (ev_ixP (md := true) ix20 (ev_var (md := true) n0 rfl rfl) (ev_int (md := true) rfl) rfl) rfl)) rfl)) (fun nx' => ?_) ?_ (he := by rfl)
  · skip
    exact w_raise .badStanding C.hX.calm fr x_BadStanding g_BadStanding rfl
  exact w_endN hR rfl
theorem gd_look_at_lengths {P : Program} {w : World} {K : PySem.W.Frag} {mg : PySem.Str → Option Value} {base : Heap} (fc : Fac fe fa fn K mg) : Gd P w K mg base "look_at_lengths" (spF K (τ := (Int × (Tu (Int × Int))) × (List Int) × (List Int) × Unit) (ρ := Unit) 3 m_look_at_lengths) 3 1 :=
  gd_F 8 18 fc rfl rfl sc_look_at_lengths rfl bn_look_at_lengths fun X _ _ _ _ _ C H0 qs rt A B fr hR t => b_look_at_lengths (by omega) X C H0 qs rt A B fr hR t
theorem sc_coins : FnScope ["standing"] ["standing"] dd_coins.scope := ⟨rfl, rfl, rfl, by decide +kernel, rfl, by decide +kernel, by decide +kernel⟩
theorem bn_coins : BindE dd_coins ["standing"] := fun _ _ _ _ _ _ us hl => match us, hl with | [_], _ => rfl
theorem b_coins {k : Nat} (hk : 0 ≤ k) (X : Cx) (C : Cb fe fa fn X (["standing"] : List PySem.Str) dd_coins.scope k) (H0 : Hp) (qs : List Addr) (rt : VK) (A : Int → Prop) (B : Exc → Prop) (fr : Fr X H0 B) (hR : RtF (ρ := Int) X H0 qs rt A) (t : (List Int) × Unit) :
    W X H0 qs rt (fun _ H => rt .non H) A B [.fr (α := (List Int)) t.1] dd_coins.body (m_coins t) := by
  have n0 : Nm X 0 "standing" := nm_mk C.hX.toXN (by decide +kernel)
  have g_sum : Gn X "sum" := gn_mk C.hX.toXN (by decide +kernel)
  have f_sum : X.mg "sum" = none := C.fc.free 42
  exact w_ret (m1 := (.ok (List.sum t.1))) (g := fun z => z) fr hR (ev_sum (ma := true) (md := true) C.hX.calm g_sum f_sum (ev_var (md := true) n0 rfl rfl) rfl) (fun _ h => h) rfl
theorem gd_coins {P : Program} {w : World} {K : PySem.W.Frag} {mg : PySem.Str → Option Value} {base : Heap} (fc : Fac fe fa fn K mg) : Gd P w K mg base "coins" (spF K (τ := (List Int) × Unit) (ρ := Int) 1 m_coins) 1 1 :=
  gd_F 0 10 fc rfl rfl sc_coins rfl bn_coins fun X _ _ _ _ _ C H0 qs rt A B fr hR t => b_coins (by omega) X C H0 qs rt A B fr hR t
theorem sc_small_table : FnScope ["web", "many", "table", "one", "other", "row", "column"] ["web"] dd_small_table.scope := ⟨rfl, rfl, rfl, by decide +kernel, rfl, by decide +kernel, by decide +kernel⟩
theorem bn_small_table : BindE dd_small_table ["web"] := fun _ _ _ _ _ _ us hl => match us, hl with | [_], _ => rfl
theorem b_small_table {k : Nat} (hk : 0 ≤ k) (X : Cx) (C : Cb fe fa fn X (["web", "many", "table", "one", "other", "row", "column"] : List PySem.Str) dd_small_table.scope k) (H0 : Hp) (qs : List Addr) (rt : VK) (A : (List (List Int)) → Prop) (B : Exc → Prop) (fr : Fr X H0 B) (hR : RtO (ρ := (List Int)) X H0 qs rt A) (t : (Int × (Tu (Int × Int))) × Unit) :
    W X H0 qs rt (fun _ H => rt .non H) A B [.fr (α := (Int × (Tu (Int × Int)))) t.1, .un, .un, .un, .un, .un, .un] dd_small_table.body (m_small_table t) := by
  have n0 : Nm X 0 "web" := nm_mk C.hX.toXN (by decide +kernel)
  have n1 : Nm X 1 "many" := nm_mk C.hX.toXN (by decide +kernel)
  have n2 : Nm X 2 "table" := nm_mk C.hX.toXN (by decide +kernel)
  have n3 : Nm X 3 "one" := nm_mk C.hX.toXN (by decide +kernel)
  have n4 : Nm X 4 "other" := nm_mk C.hX.toXN (by decide +kernel)
  have l1 : Lc X 1 "many" := lc_cell C.hX.toXN (C.fnt _) (by decide +kernel)
  have l2 : Lc X 2 "table" := lc_mk C.hX.toXN (by decide +kernel)
  have l3 : Lc X 3 "one" := lc_mk C.hX.toXN (by decide +kernel)
  have l4 : Lc X 4 "other" := lc_mk C.hX.toXN (by decide +kernel)
  have g_range : Gn X "range" := gn_mk C.hX.toXN (by decide +kernel)
  have f_range : X.mg "range" = none := C.fc.free 40
  refine w_asg (α := Int) (Γ' := fun y234 : Int => [.fr (α := (Int × (Tu (Int × Int)))) t.1, .fr (α := Int) y234, .un, .un, .un, .un, .un]) fr l1 (he := by rfl) ?_ fun y234 => ?_
  · exact (ev_ixP (md := true) ix20 (ev_var (md := true) n0 rfl rfl) (ev_int (md := true) rfl) rfl)
  refine w_asgCt (α := Int) (Γ' := fun r248 (y247 : (List (List Int))) => [.fr (α := (Int × (Tu (Int × Int)))) t.1, .fr (α := Int) y234, .ot (α := Int) r248 y247, .un, .un, .un, .un]) fr l2 (by rw [C.hX.hs]; decide +kernel) C.kd (he := by rfl) ?_ fun r248 y247 => ?_
  · exact (ect_map (mi := true) (α := Int) (γ := Int) (mx := (rngR (1 : Int) y234)) (g := (fun y235 => (((rngR (1 : Int) y234) : R _).bind fun x245 => (mapR (fun y240 => (.ok (0 : Int))) x245)))) (own := [("row", 5)]) (Γx := fun y235 : Int => [.fr (α := (Int × (Tu (Int × Int)))) t.1, .fr (α := Int) y234, .un, .un, .un, .fr (α := Int) y235, .un]) (is := [5]) C.hX (ei_range2 (ma := true) (mb := true) g_range f_range (ev_int (md := true) rfl) (ev_var (md := true) n1 rfl rfl) rfl) (.inl rfl) (by decide +kernel) (no1 (fun _ => rfl)) (by decide) (fun X237 b236 y235 => have h238 := b236.ok C.hX; (eg_name (α := Int) (lc_mk (i := 5) (x := "row") h238.toXN (by decide +kernel)) rfl (fun _ => rfl))) (fun X237 b236 D239 y235 => have h238 := b236.ok C.hX; (ev_map (mi := true) (α := Int) (β := Int) (mx := (rngR (1 : Int) y234)) (g := (fun y240 => (.ok (0 : Int)))) (own := [("column", 6)]) (Γx := fun y240 : Int => [.fr (α := (Int × (Tu (Int × Int)))) t.1, .fr (α := Int) y234, .un, .un, .un, .fr (α := Int) y235, .fr (α := Int) y240]) (is := [6]) h238 (ei_range2 (ma := true) (mb := true) (gn_mk (x := "range") h238.toXN (by decide +kernel)) (b236.none f_range) (ev_int (md := true) rfl) (ev_var (md := true) (nm_mk (i := 1) (x := "many") h238.toXN (by decide +kernel)) rfl rfl) rfl) (.inl rfl) (by decide +kernel) (no1 (fun _ => rfl)) (by decide) (fun X242 b241 y240 => have h243 := b241.ok h238; (eg_name (α := Int) (lc_mk (i := 6) (x := "column") h243.toXN (by decide +kernel)) rfl (fun _ => rfl))) (fun X242 b241 D244 y240 => have h243 := b241.ok h238; (ev_int (md := true) rfl)) rfl)) rfl)
  refine w_for (α := (Int × Int)) (S := (List (List Int))) (mx := (.ok ((t.1.2).l))) (bd := (fun y250 s249 => (((((((ixR s249 (y250.2 - (1 : Int))) : R _).bind fun x253 => (ixR x253 (y250.2 - (1 : Int)))) : R _).bind fun x254 => (.ok (x254 + (1 : Int)))) : R _).bind fun x275 => (((rowR s249 (y250.2 - (1 : Int))) : R _).bind fun k276 => (((setR k276.2 (y250.2 - (1 : Int)) x275) : R _).bind fun w277 => ((fun y255 : (List (List Int)) => (R.bind (if (decide ((0 : Int) < y250.1)) = true then (((((((ixR y255 (y250.1 - (1 : Int))) : R _).bind fun x257 => (ixR x257 (y250.1 - (1 : Int)))) : R _).bind fun x258 => (.ok (x258 + (1 : Int)))) : R _).bind fun x272 => (((rowR y255 (y250.1 - (1 : Int))) : R _).bind fun k273 => (((setR k273.2 (y250.1 - (1 : Int)) x272) : R _).bind fun w274 => ((fun y259 : (List (List Int)) => (((((((ixR y259 (y250.1 - (1 : Int))) : R _).bind fun x260 => (ixR x260 (y250.2 - (1 : Int)))) : R _).bind fun x261 => (.ok (x261 - (1 : Int)))) : R _).bind fun x269 => (((rowR y259 (y250.1 - (1 : Int))) : R _).bind fun k270 => (((setR k270.2 (y250.2 - (1 : Int)) x269) : R _).bind fun w271 => ((fun y262 : (List (List Int)) => (((((((ixR y262 (y250.2 - (1 : Int))) : R _).bind fun x263 => (ixR x263 (y250.1 - (1 : Int)))) : R _).bind fun x264 => (.ok (x264 - (1 : Int)))) : R _).bind fun x266 => (((rowR y262 (y250.2 - (1 : Int))) : R _).bind fun k267 => (((setR k267.2 (y250.1 - (1 : Int)) x266) : R _).bind fun w268 => ((fun y265 : (List (List Int)) => (.ok y265)) (List.set y262 k267.1 w268)))))) (List.set y259 k270.1 w271)))))) (List.set y255 k273.1 w274))))) else (.ok y255)) fun s256 : (List (List Int)) => (.ok s256))) (List.set s249 k276.1 w277))))))) (s0 := y247) (Γs := fun s249 : (List (List Int)) => [.fr (α := (Int × (Tu (Int × Int)))) t.1, .fr (α := Int) y234, .ot (α := Int) r248 s249, .un, .un, .un, .un]) (Γb := fun (y250 : (Int × Int)) (s249 : (List (List Int))) => [.fr (α := (Int × (Tu (Int × Int)))) t.1, .fr (α := Int) y234, .ot (α := Int) r248 s249, .fr (α := Int) y250.1, .fr (α := Int) y250.2, .un, .un]) (is := [3, 4]) C.hX.calm fr (he := by rfl) ?_ ?_ ?_ fun s249 => ?_
  · exact (ei_tup (ev_ixP (md := true) ix21 (ev_var (md := true) n0 rfl rfl) (ev_int (md := true) rfl) rfl) rfl)
  · exact fun y250 s249 => (eg_two C.hX.calm (eg_name (α := Int) l3 rfl (fun _ => rfl)) (eg_name (α := Int) l4 rfl (fun _ => rfl)))
  · intro H251 sb252 N y250 s249
    replace fr := fr.up sb252
    try replace hR := hR.up sb252
    refine w_setix2 (α := Int) (m1 := (((((ixR s249 (y250.2 - (1 : Int))) : R _).bind fun x253 => (ixR x253 (y250.2 - (1 : Int)))) : R _).bind fun x254 => (.ok (x254 + (1 : Int))))) (ma := (.ok (y250.2 - (1 : Int)))) (mj := (.ok (y250.2 - (1 : Int)))) (f := fun y255 => (R.bind (if (decide ((0 : Int) < y250.1)) = true then (((((((ixR y255 (y250.1 - (1 : Int))) : R _).bind fun x257 => (ixR x257 (y250.1 - (1 : Int)))) : R _).bind fun x258 => (.ok (x258 + (1 : Int)))) : R _).bind fun x272 => (((rowR y255 (y250.1 - (1 : Int))) : R _).bind fun k273 => (((setR k273.2 (y250.1 - (1 : Int)) x272) : R _).bind fun w274 => ((fun y259 : (List (List Int)) => (((((((ixR y259 (y250.1 - (1 : Int))) : R _).bind fun x260 => (ixR x260 (y250.2 - (1 : Int)))) : R _).bind fun x261 => (.ok (x261 - (1 : Int)))) : R _).bind fun x269 => (((rowR y259 (y250.1 - (1 : Int))) : R _).bind fun k270 => (((setR k270.2 (y250.2 - (1 : Int)) x269) : R _).bind fun w271 => ((fun y262 : (List (List Int)) => (((((((ixR y262 (y250.2 - (1 : Int))) : R _).bind fun x263 => (ixR x263 (y250.1 - (1 : Int)))) : R _).bind fun x264 => (.ok (x264 - (1 : Int)))) : R _).bind fun x266 => (((rowR y262 (y250.2 - (1 : Int))) : R _).bind fun k267 => (((setR k267.2 (y250.1 - (1 : Int)) x266) : R _).bind fun w268 => ((fun y265 : (List (List Int)) => (.ok y265)) (List.set y262 k267.1 w268)))))) (List.set y259 k270.1 w271)))))) (List.set y255 k273.1 w274))))) else (.ok y255)) fun s256 : (List (List Int)) => (.ok s256))) (Γ' := fun y255 : (List (List Int)) => [.fr (α := (Int × (Tu (Int × Int)))) t.1, .fr (α := Int) y234, .ot (α := Int) r248 y255, .fr (α := Int) y250.1, .fr (α := Int) y250.2, .un, .un]) fr n2 rfl ?_ ?_ ?_ (he := by rfl) fun y255 => ?_
    · exact (ev_add (ma := true) (mb := true) (md := true) (Ev.flat (ma := false) (ev_ixL (md := false) (mb := true) (ev_ixL (md := false) (mb := true) (ev_tab n2 rfl rfl) (ev_sub (ma := true) (mb := true) (md := true) (ev_var (md := true) n4 rfl rfl) (ev_int (md := true) rfl) rfl) rfl) (ev_sub (ma := true) (mb := true) (md := true) (ev_var (md := true) n4 rfl rfl) (ev_int (md := true) rfl) rfl) rfl)) (ev_int (md := true) rfl) rfl)
    · exact (ev_sub (ma := true) (mb := true) (md := true) (ev_var (md := true) n4 rfl rfl) (ev_int (md := true) rfl) rfl)
    · exact (ev_sub (ma := true) (mb := true) (md := true) (ev_var (md := true) n4 rfl rfl) (ev_int (md := true) rfl) rfl)
    refine w_ifJ (S := (List (List Int))) (mc := (.ok (decide ((0 : Int) < y250.1)))) (ma := (((((((ixR y255 (y250.1 - (1 : Int))) : R _).bind fun x257 => (ixR x257 (y250.1 - (1 : Int)))) : R _).bind fun x258 => (.ok (x258 + (1 : Int)))) : R _).bind fun x272 => (((rowR y255 (y250.1 - (1 : Int))) : R _).bind fun k273 => (((setR k273.2 (y250.1 - (1 : Int)) x272) : R _).bind fun w274 => ((fun y259 : (List (List Int)) => (((((((ixR y259 (y250.1 - (1 : Int))) : R _).bind fun x260 => (ixR x260 (y250.2 - (1 : Int)))) : R _).bind fun x261 => (.ok (x261 - (1 : Int)))) : R _).bind fun x269 => (((rowR y259 (y250.1 - (1 : Int))) : R _).bind fun k270 => (((setR k270.2 (y250.2 - (1 : Int)) x269) : R _).bind fun w271 => ((fun y262 : (List (List Int)) => (((((((ixR y262 (y250.2 - (1 : Int))) : R _).bind fun x263 => (ixR x263 (y250.1 - (1 : Int)))) : R _).bind fun x264 => (.ok (x264 - (1 : Int)))) : R _).bind fun x266 => (((rowR y262 (y250.2 - (1 : Int))) : R _).bind fun k267 => (((setR k267.2 (y250.1 - (1 : Int)) x266) : R _).bind fun w268 => ((fun y265 : (List (List Int)) => (.ok y265)) (List.set y262 k267.1 w268)))))) (List.set y259 k270.1 w271)))))) (List.set y255 k273.1 w274)))))) (mb := (.ok y255)) (Γs := fun s256 : (List (List Int)) => [.fr (α := (Int × (Tu (Int × Int)))) t.1, .fr (α := Int) y234, .ot (α := Int) r248 s256, .fr (α := Int) y250.1, .fr (α := Int) y250.2, .un, .un]) fr (et_gt (ma := true) (mb := true) (ev_var (md := true) n3 rfl rfl) (ev_int (md := true) rfl) rfl) ?_ ?_ (he := by rfl) fun s256 => ?_
    · intro N
      refine w_setix2 (α := Int) (m1 := (((((ixR y255 (y250.1 - (1 : Int))) : R _).bind fun x257 => (ixR x257 (y250.1 - (1 : Int)))) : R _).bind fun x258 => (.ok (x258 + (1 : Int))))) (ma := (.ok (y250.1 - (1 : Int)))) (mj := (.ok (y250.1 - (1 : Int)))) (f := fun y259 => (((((((ixR y259 (y250.1 - (1 : Int))) : R _).bind fun x260 => (ixR x260 (y250.2 - (1 : Int)))) : R _).bind fun x261 => (.ok (x261 - (1 : Int)))) : R _).bind fun x269 => (((rowR y259 (y250.1 - (1 : Int))) : R _).bind fun k270 => (((setR k270.2 (y250.2 - (1 : Int)) x269) : R _).bind fun w271 => ((fun y262 : (List (List Int)) => (((((((ixR y262 (y250.2 - (1 : Int))) : R _).bind fun x263 => (ixR x263 (y250.1 - (1 : Int)))) : R _).bind fun x264 => (.ok (x264 - (1 : Int)))) : R _).bind fun x266 => (((rowR y262 (y250.2 - (1 : Int))) : R _).bind fun k267 => (((setR k267.2 (y250.1 - (1 : Int)) x266) : R _).bind fun w268 => ((fun y265 : (List (List Int)) => (.ok y265)) (List.set y262 k267.1 w268)))))) (List.set y259 k270.1 w271)))))) (Γ' := fun y259 : (List (List Int)) => [.fr (α := (Int × (Tu (Int × Int)))) t.1, .fr (α := Int) y234, .ot (α := Int) r248 y259, .fr (α := Int) y250.1, .fr (α := Int) y250.2, .un, .un]) fr n2 rfl ?_ ?_ ?_ (he := by rfl) fun y259 => ?_
      · exact (ev_add (ma := true) (mb := true) (md := true) (Ev.flat (ma := false) (ev_ixL (md := false) (mb := true) (ev_ixL (md := false) (mb := true) (ev_tab n2 rfl rfl) (ev_sub (ma := true) (mb := true) (md := true) (ev_var (md := true) n3 rfl rfl) (ev_int (md := true) rfl) rfl) rfl) (ev_sub (ma := true) (mb := true) (md := true) (ev_var (md := true) n3 rfl rfl) (ev_int (md := true) rfl) rfl) rfl)) (ev_int (md := true) rfl) rfl)
      · exact (ev_sub (ma := true) (mb := true) (md := true) (ev_var (md := true) n3 rfl rfl) (ev_int (md := true) rfl) rfl)
      · exact (ev_sub (ma := true) (mb := true) (md := true) (ev_var (md := true) n3 rfl rfl) (ev_int (md := true) rfl) rfl)
      refine w_setix2 (α := Int) (m1 := (((((ixR y259 (y250.1 - (1 : Int))) : R _).bind fun x260 => (ixR x260 (y250.2 - (1 : Int)))) : R _).bind fun x261 => (.ok (x261 - (1 : Int))))) (ma := (.ok (y250.1 - (1 : Int)))) (mj := (.ok (y250.2 - (1 : Int)))) (f := fun y262 => (((((((ixR y262 (y250.2 - (1 : Int))) : R _).bind fun x263 => (ixR x263 (y250.1 - (1 : Int)))) : R _).bind fun x264 => (.ok (x264 - (1 : Int)))) : R _).bind fun x266 => (((rowR y262 (y250.2 - (1 : Int))) : R _).bind fun k267 => (((setR k267.2 (y250.1 - (1 : Int)) x266) : R _).bind fun w268 => ((fun y265 : (List (List Int)) => (.ok y265)) (List.set y262 k267.1 w268)))))) (Γ' := fun y262 : (List (List Int)) => [.fr (α := (Int × (Tu (Int × Int)))) t.1, .fr (α := Int) y234, .ot (α := Int) r248 y262, .fr (α := Int) y250.1, .fr (α := Int) y250.2, .un, .un]) fr n2 rfl ?_ ?_ ?_ (he := by rfl) fun y262 => ?_
      · exact (ev_sub (ma := true) (mb := true) (md := true) (Ev.flat (ma := false) (ev_ixL (md := false) (mb := true) (ev_ixL (md := false) (mb := true) (ev_tab n2 rfl rfl) (ev_sub (ma := true) (mb := true) (md := true) (ev_var (md := true) n3 rfl rfl) (ev_int (md := true) rfl) rfl) rfl) (ev_sub (ma := true) (mb := true) (md := true) (ev_var (md := true) n4 rfl rfl) (ev_int (md := true) rfl) rfl) rfl)) (ev_int (md := true) rfl) rfl)
      · exact (ev_sub (ma := true) (mb := true) (md := true) (ev_var (md := true) n3 rfl rfl) (ev_int (md := true) rfl) rfl)
      · exact (ev_sub (ma := true) (mb := true) (md := true) (ev_var (md := true) n4 rfl rfl) (ev_int (md := true) rfl) rfl)
      refine w_setix2 (α := Int) (m1 := (((((ixR y262 (y250.2 - (1 : Int))) : R _).bind fun x263 => (ixR x263 (y250.1 - (1 : Int)))) : R _).bind fun x264 => (.ok (x264 - (1 : Int))))) (ma := (.ok (y250.2 - (1 : Int)))) (mj := (.ok (y250.1 - (1 : Int)))) (f := fun y265 => (.ok y265)) (Γ' := fun y265 : (List (List Int)) => [.fr (α := (Int × (Tu (Int × Int)))) t.1, .fr (α := Int) y234, .ot (α := Int) r248 y265, .fr (α := Int) y250.1, .fr (α := Int) y250.2, .un, .un]) fr n2 rfl ?_ ?_ ?_ (he := by rfl) fun y265 => ?_
      · exact (ev_sub (ma := true) (mb := true) (md := true) (Ev.flat (ma := false) (ev_ixL (md := false) (mb := true) (ev_ixL (md := false) (mb := true) (ev_tab n2 rfl rfl) (ev_sub (ma := true) (mb := true) (md := true) (ev_var (md := true) n4 rfl rfl) (ev_int (md := true) rfl) rfl) rfl) (ev_sub (ma := true) (mb := true) (md := true) (ev_var (md := true) n3 rfl rfl) (ev_int (md := true) rfl) rfl) rfl)) (ev_int (md := true) rfl) rfl)
      · exact (ev_sub (ma := true) (mb := true) (md := true) (ev_var (md := true) n4 rfl rfl) (ev_int (md := true) rfl) rfl)
      · exact (ev_sub (ma := true) (mb := true) (md := true) (ev_var (md := true) n3 rfl rfl) (ev_int (md := true) rfl) rfl)
      exact w_end (s := y265) [] rfl rfl
    · intro N
      exact w_end (s := y255) [] rfl rfl
    exact w_end (s := s256) [3, 4] rfl rfl
  exact w_retTb (g := fun z => z) fr hR n2 rfl (fun _ h => h) rfl
theorem gd_small_table {P : Program} {w : World} {K : PySem.W.Frag} {mg : PySem.Str → Option Value} {base : Heap} (fc : Fac fe fa fn K mg) : Gd P w K mg base "small_table" (spO K (τ := (Int × (Tu (Int × Int))) × Unit) (ρ := (List Int)) 1 m_small_table) 1 1 :=
  gd_O 2 12 fc rfl rfl sc_small_table rfl bn_small_table fun X _ _ _ _ _ C H0 qs rt A B fr hR t => b_small_table (by omega) X C H0 qs rt A B fr hR t
theorem sc_pivot_row : FnScope ["rows", "at", "row"] ["rows", "at"] dd_pivot_row.scope := ⟨rfl, rfl, rfl, by decide +kernel, rfl, by decide +kernel, by decide +kernel⟩
theorem bn_pivot_row : BindE dd_pivot_row ["rows", "at"] := fun _ _ _ _ _ _ us hl => match us, hl with | [_, _], _ => rfl
theorem b_pivot_row {k : Nat} (hk : 0 ≤ k) (X : Cx) (C : Cb fe fa fn X (["rows", "at", "row"] : List PySem.Str) dd_pivot_row.scope k) (H0 : Hp) (qs : List Addr) (rt : VK) (A : Int → Prop) (B : Exc → Prop) (fr : Fr X H0 B) (hR : RtF (ρ := Int) X H0 qs rt A) (t : (List (List Int)) × Int × Unit) :
    W X H0 qs rt (fun _ H => rt .non H) A B [.fr (α := (List (List Int))) t.1, .fr (α := Int) t.2.1, .un] dd_pivot_row.body (m_pivot_row t) := by
  have n0 : Nm X 0 "rows" := nm_mk C.hX.toXN (by decide +kernel)
  have n1 : Nm X 1 "at" := nm_mk C.hX.toXN (by decide +kernel)
  have n2 : Nm X 2 "row" := nm_mk C.hX.toXN (by decide +kernel)
  have l2 : Lc X 2 "row" := lc_mk C.hX.toXN (by decide +kernel)
  have g_len : Gn X "len" := gn_mk C.hX.toXN (by decide +kernel)
  have g_range : Gn X "range" := gn_mk C.hX.toXN (by decide +kernel)
  have f_len : X.mg "len" = none := C.fc.free 39
  have f_range : X.mg "range" = none := C.fc.free 40
  refine w_forM (α := Int) (S := Unit) (mx := (rngR t.2.1 (t.1.length : Int))) (bd := (fun y293 s292 => (((((((ixR t.1 y293) : R _).bind fun x296 => (ixR x296 t.2.1)) : R _).bind fun x297 => (.ok (!pyEq x297 (0 : Int)))) : R Bool).bind fun c298 => if c298 = true then (.ok (.rt y293)) else (.ok (.nx ()))))) (s0 := ()) (Γs := fun s292 : Unit => [.fr (α := (List (List Int))) t.1, .fr (α := Int) t.2.1, .un]) (Γb := fun (y293 : Int) (s292 : Unit) => [.fr (α := (List (List Int))) t.1, .fr (α := Int) t.2.1, .fr (α := Int) y293]) (is := [2]) C.hX.calm fr (he := by rfl) ?_ ?_ ?_ fun s292 => ?_
  · exact (ei_range2 (ma := true) (mb := true) g_range f_range (ev_var (md := true) n1 rfl rfl) (ev_lenL (ma := true) (md := true) g_len f_len (ev_var (md := true) n0 rfl rfl) rfl) rfl)
  · exact fun y293 s292 => (eg_name (α := Int) l2 rfl (fun _ => rfl))
  · intro H294 sb295 N y293 s292
    replace fr := fr.up sb295
    try replace hR := hR.up sb295
    refine w_ifR (mc := (((((ixR t.1 y293) : R _).bind fun x296 => (ixR x296 t.2.1)) : R _).bind fun x297 => (.ok (!pyEq x297 (0 : Int))))) fr (et_ne (α := Int) (ma := true) (mb := true) C.hu (ev_ixL (md := true) (mb := true) (ev_ixL (md := true) (mb := true) (ev_var (md := true) n0 rfl rfl) (ev_var (md := true) n2 rfl rfl) rfl) (ev_var (md := true) n1 rfl rfl) rfl) (ev_int (md := true) rfl) rfl) (fun nx' => ?_) ?_ (he := by rfl)
    · skip
      exact w_ret (m1 := (.ok y293)) (g := fun z => .rt z) fr hR (ev_var (md := true) n2 rfl rfl) (fun _ h => h) rfl
    exact w_endM (s := ()) [2] rfl rfl
  exact w_ret (m1 := (.ok (-(1 : Int)))) (g := fun z => z) fr hR (ev_neg (ma := true) (md := true) (ev_int (md := true) rfl) rfl) (fun _ h => h) rfl
theorem gd_pivot_row {P : Program} {w : World} {K : PySem.W.Frag} {mg : PySem.Str → Option Value} {base : Heap} (fc : Fac fe fa fn K mg) : Gd P w K mg base "pivot_row" (spF K (τ := (List (List Int)) × Int × Unit) (ρ := Int) 2 m_pivot_row) 2 1 :=
  gd_F 3 13 fc rfl rfl sc_pivot_row rfl bn_pivot_row fun X _ _ _ _ _ C H0 qs rt A B fr hR t => b_pivot_row (by omega) X C H0 qs rt A B fr hR t
theorem sc_det : FnScope ["table", "rows", "sign", "before", "at", "found", "kept", "pivot", "row", "head", "column"] ["table"] dd_det.scope := ⟨rfl, rfl, rfl, by decide +kernel, rfl, by decide +kernel, by decide +kernel⟩
theorem bn_det : BindE dd_det ["table"] := fun _ _ _ _ _ _ us hl => match us, hl with | [_], _ => rfl
theorem b_det {k : Nat} (hk : 1 ≤ k) (X : Cx) (C : Cb fe fa fn X (["table", "rows", "sign", "before", "at", "found", "kept", "pivot", "row", "head", "column"] : List PySem.Str) dd_det.scope k) (H0 : Hp) (qs : List Addr) (rt : VK) (A : Int → Prop) (B : Exc → Prop) (fr : Fr X H0 B) (hR : RtF (ρ := Int) X H0 qs rt A) (t : (List (List Int)) × Unit) :
    W X H0 qs rt (fun _ H => rt .non H) A B [.fr (α := (List (List Int))) t.1, .un, .un, .un, .un, .un, .un, .un, .un, .un, .un] dd_det.body (m_det t) := by
  have n0 : Nm X 0 "table" := nm_mk C.hX.toXN (by decide +kernel)
  have n1 : Nm X 1 "rows" := nm_mk C.hX.toXN (by decide +kernel)
  have n2 : Nm X 2 "sign" := nm_mk C.hX.toXN (by decide +kernel)
  have n3 : Nm X 3 "before" := nm_mk C.hX.toXN (by decide +kernel)
  have n4 : Nm X 4 "at" := nm_mk C.hX.toXN (by decide +kernel)
  have n5 : Nm X 5 "found" := nm_mk C.hX.toXN (by decide +kernel)
  have n6 : Nm X 6 "kept" := nm_mk C.hX.toXN (by decide +kernel)
  have n7 : Nm X 7 "pivot" := nm_mk C.hX.toXN (by decide +kernel)
  have n8 : Nm X 8 "row" := nm_mk C.hX.toXN (by decide +kernel)
  have n9 : Nm X 9 "head" := nm_mk C.hX.toXN (by decide +kernel)
  have n10 : Nm X 10 "column" := nm_mk C.hX.toXN (by decide +kernel)
  have l1 : Lc X 1 "rows" := lc_mk C.hX.toXN (by decide +kernel)
  have l2 : Lc X 2 "sign" := lc_mk C.hX.toXN (by decide +kernel)
  have l3 : Lc X 3 "before" := lc_mk C.hX.toXN (by decide +kernel)
  have l4 : Lc X 4 "at" := lc_mk C.hX.toXN (by decide +kernel)
  have l5 : Lc X 5 "found" := lc_mk C.hX.toXN (by decide +kernel)
  have l6 : Lc X 6 "kept" := lc_mk C.hX.toXN (by decide +kernel)
  have l7 : Lc X 7 "pivot" := lc_mk C.hX.toXN (by decide +kernel)
  have l8 : Lc X 8 "row" := lc_mk C.hX.toXN (by decide +kernel)
  have l9 : Lc X 9 "head" := lc_mk C.hX.toXN (by decide +kernel)
  have l10 : Lc X 10 "column" := lc_mk C.hX.toXN (by decide +kernel)
  have g_len : Gn X "len" := gn_mk C.hX.toXN (by decide +kernel)
  have g_pivot_row : Gn X "pivot_row" := gn_mk C.hX.toXN (by decide +kernel)
  have g_range : Gn X "range" := gn_mk C.hX.toXN (by decide +kernel)
  have f_len : X.mg "len" = none := C.fc.free 39
  have f_list : X.mg "list" = none := C.fc.free 41
  have f_range : X.mg "range" = none := C.fc.free 40
  have d_pivot_row : Dn X "pivot_row" (spF X.K (τ := (List (List Int)) × Int × Unit) (ρ := Int) 2 m_pivot_row) 2 := (gd_pivot_row C.fc).dn C.rm (by omega)
  refine w_asgCt (α := Int) (Γ' := fun r285 (y284 : (List (List Int))) => [.fr (α := (List (List Int))) t.1, .ot (α := Int) r285 y284, .un, .un, .un, .un, .un, .un, .un, .un, .un]) fr l1 (by rw [C.hX.hs]; decide +kernel) C.kd (he := by rfl) ?_ fun r285 y284 => ?_
  · exact (ect_map (mi := true) (α := (List Int)) (γ := Int) (mx := (.ok t.1)) (g := (fun y279 => (.ok y279))) (own := [("row", 8)]) (Γx := fun y279 : (List Int) => [.fr (α := (List (List Int))) t.1, .un, .un, .un, .un, .un, .un, .un, .fr (α := (List Int)) y279, .un, .un]) (is := [8]) C.hX (ei_list (ev_var (md := true) n0 rfl rfl)) (.inl rfl) (by decide +kernel) (no1 (fun _ => rfl)) (by decide) (fun X281 b280 y279 => have h282 := b280.ok C.hX; (eg_name (α := (List Int)) (lc_mk (i := 8) (x := "row") h282.toXN (by decide +kernel)) rfl (fun _ => rfl))) (fun X281 b280 D283 y279 => have h282 := b280.ok C.hX; (ev_listL (md := true) (gn_mk (x := "list") h282.toXN (by decide +kernel)) (b280.none f_list) (ev_var (md := true) (nm_mk (i := 8) (x := "row") h282.toXN (by decide +kernel)) rfl rfl) rfl)) rfl)
  refine w_asg (α := Int) (Γ' := fun y286 : Int => [.fr (α := (List (List Int))) t.1, .ot (α := Int) r285 y284, .fr (α := Int) y286, .un, .un, .un, .un, .un, .un, .un, .un]) fr l2 (he := by rfl) ?_ fun y286 => ?_
  · exact (ev_int (md := true) rfl)
  refine w_asg (α := Int) (Γ' := fun y287 : Int => [.fr (α := (List (List Int))) t.1, .ot (α := Int) r285 y284, .fr (α := Int) y286, .fr (α := Int) y287, .un, .un, .un, .un, .un, .un, .un]) fr l3 (he := by rfl) ?_ fun y287 => ?_
  · exact (ev_int (md := true) rfl)
  refine w_forM (α := Int) (S := ((List (List Int)) × Int × Int)) (mx := (rngR 0 (y284.length : Int))) (bd := (fun y289 s288 => (((m_pivot_row (s288.1, y289, ())) : R Int).bind fun y300 => (if (decide (y300 < (0 : Int))) = true then (.ok (.rt (0 : Int))) else (R.bind (if (!pyEq y300 y289) = true then ((swapR s288.1 y289 y300).bind fun y302 => (((.ok (-s288.2.1)) : R Int).bind fun y303 => (.ok (y302, y303)))) else (.ok (s288.1, s288.2.1))) fun s301 : ((List (List Int)) × Int) => (((((ixR s301.1 y289) : R _).bind fun x304 => (ixR x304 y289)) : R Int).bind fun y305 => (((rngR (y289 + (1 : Int)) (s301.1.length : Int)) : R _).bind fun x329 => (R.bind (forR (fun y307 s306 => (((((ixR s306 y307) : R _).bind fun x310 => (ixR x310 y289)) : R Int).bind fun y311 => (((rngR y289 (s306.length : Int)) : R _).bind fun x327 => (R.bind (forR (fun y313 s312 => (((((((((((ixR s312 y307) : R _).bind fun x316 => (ixR x316 y313)) : R _).bind fun x317 => (mulR x317 y305)) : R _).bind fun x320 => (((((((ixR s312 y289) : R _).bind fun x318 => (ixR x318 y313)) : R _).bind fun x319 => (mulR y311 x319)) : R _).bind fun x321 => (.ok (x320 - x321)))) : R _).bind fun x322 => (divR x322 s288.2.2)) : R _).bind fun x324 => (((rowR s312 y307) : R _).bind fun k325 => (((setR k325.2 y313 x324) : R _).bind fun w326 => ((fun y323 : (List (List Int)) => (.ok y323)) (List.set s312 k325.1 w326)))))) x327 s306) fun s312 : (List (List Int)) => (.ok s312))))) x329 s301.1) fun s306 : (List (List Int)) => (((.ok y305) : R Int).bind fun y328 => (.ok (.nx (s306, s301.2, y328)))))))))))) (s0 := (y284, y286, y287)) (Γs := fun s288 : ((List (List Int)) × Int × Int) => [.fr (α := (List (List Int))) t.1, .ot (α := Int) r285 s288.1, .fr (α := Int) s288.2.1, .fr (α := Int) s288.2.2, .un, .un, .un, .un, .un, .un, .un]) (Γb := fun (y289 : Int) (s288 : ((List (List Int)) × Int × Int)) => [.fr (α := (List (List Int))) t.1, .ot (α := Int) r285 s288.1, .fr (α := Int) s288.2.1, .fr (α := Int) s288.2.2, .fr (α := Int) y289, .un, .un, .un, .un, .un, .un]) (is := [4]) C.hX.calm fr (he := by rfl) ?_ ?_ ?_ fun s288 => ?_
  · exact (ei_range1 (m1 := .ok (y284.length : Int)) (ma := true) g_range f_range (ev_lenL (m1 := .ok y284) (ma := false) (md := true) g_len f_len (ev_tab n1 rfl rfl) rfl) (rng_he _))
  · exact fun y289 s288 => (eg_name (α := Int) l4 rfl (fun _ => rfl))
  · intro H290 sb291 N y289 s288
    replace fr := fr.up sb291
    try replace hR := hR.up sb291
    refine w_asg (α := Int) (Γ' := fun y300 : Int => [.fr (α := (List (List Int))) t.1, .ot (α := Int) r285 s288.1, .fr (α := Int) s288.2.1, .fr (α := Int) s288.2.2, .fr (α := Int) y289, .fr (α := Int) y300, .un, .un, .un, .un, .un]) fr l5 (he := by rfl) ?_ fun y300 => ?_
    · exact (Ev.flat (ma := false) (ev_call (md := false) d_pivot_row g_pivot_row (ea_cons (md := false) (ev_tab n1 rfl rfl) (ea_cons (md := false) (ev_var (md := false) n4 rfl rfl) (ea_nil (md := false) rfl) rfl) rfl) rfl rfl))
    refine w_ifR (ma := (.ok (.rt (0 : Int)))) (mc := (.ok (decide (y300 < (0 : Int))))) fr (et_lt (ma := true) (mb := true) (ev_var (md := true) n5 rfl rfl) (ev_int (md := true) rfl) rfl) (fun nx' => ?_) ?_ (he := by rfl)
    · skip
      exact w_ret (m1 := (.ok (0 : Int))) (g := fun z => .rt z) fr hR (ev_int (md := true) rfl) (fun _ h => h) rfl
    refine w_ifJ (S := ((List (List Int)) × Int)) (mc := (.ok (!pyEq y300 y289))) (ma := ((swapR s288.1 y289 y300).bind fun y302 => (((.ok (-s288.2.1)) : R Int).bind fun y303 => (.ok (y302, y303))))) (mb := (.ok (s288.1, s288.2.1))) (Γs := fun s301 : ((List (List Int)) × Int) => [.fr (α := (List (List Int))) t.1, .ot (α := Int) r285 s301.1, .fr (α := Int) s301.2, .fr (α := Int) s288.2.2, .fr (α := Int) y289, .fr (α := Int) y300, .un, .un, .un, .un, .un]) fr (et_ne (α := Int) (ma := true) (mb := true) C.hu (ev_var (md := true) n5 rfl rfl) (ev_var (md := true) n4 rfl rfl) rfl) ?_ ?_ (he := by rfl) fun s301 => ?_
    · intro N
      refine w_swap3 (α := Int) (j1 := y289) (j2 := y300) (Γ' := fun y302 : (List (List Int)) => [.fr (α := (List (List Int))) t.1, .ot (α := Int) r285 y302, .fr (α := Int) s288.2.1, .fr (α := Int) s288.2.2, .fr (α := Int) y289, .fr (α := Int) y300, .un, .un, .un, .un, .un]) fr n1 rfl l6 n6 rfl n4 rfl n5 rfl (he := by rfl) fun y302 => ?_
      refine w_asg (α := Int) (Γ' := fun y303 : Int => [.fr (α := (List (List Int))) t.1, .ot (α := Int) r285 y302, .fr (α := Int) y303, .fr (α := Int) s288.2.2, .fr (α := Int) y289, .fr (α := Int) y300, .un, .un, .un, .un, .un]) fr l2 (he := by rfl) ?_ fun y303 => ?_
      · exact (ev_neg (ma := true) (md := true) (ev_var (md := true) n2 rfl rfl) rfl)
      exact w_end (s := (y302, y303)) [] rfl rfl
    · intro N
      exact w_end (s := (s288.1, s288.2.1)) [] rfl rfl
    refine w_asg (α := Int) (Γ' := fun y305 : Int => [.fr (α := (List (List Int))) t.1, .ot (α := Int) r285 s301.1, .fr (α := Int) s301.2, .fr (α := Int) s288.2.2, .fr (α := Int) y289, .fr (α := Int) y300, .un, .fr (α := Int) y305, .un, .un, .un]) fr l7 (he := by rfl) ?_ fun y305 => ?_
    · exact (Ev.flat (ma := false) (ev_ixL (md := false) (mb := true) (ev_ixL (md := false) (mb := true) (ev_tab n1 rfl rfl) (ev_var (md := true) n4 rfl rfl) rfl) (ev_var (md := true) n4 rfl rfl) rfl))
    refine w_for (α := Int) (S := (List (List Int))) (mx := (rngR (y289 + (1 : Int)) (s301.1.length : Int))) (bd := (fun y307 s306 => (((((ixR s306 y307) : R _).bind fun x310 => (ixR x310 y289)) : R Int).bind fun y311 => (((rngR y289 (s306.length : Int)) : R _).bind fun x327 => (R.bind (forR (fun y313 s312 => (((((((((((ixR s312 y307) : R _).bind fun x316 => (ixR x316 y313)) : R _).bind fun x317 => (mulR x317 y305)) : R _).bind fun x320 => (((((((ixR s312 y289) : R _).bind fun x318 => (ixR x318 y313)) : R _).bind fun x319 => (mulR y311 x319)) : R _).bind fun x321 => (.ok (x320 - x321)))) : R _).bind fun x322 => (divR x322 s288.2.2)) : R _).bind fun x324 => (((rowR s312 y307) : R _).bind fun k325 => (((setR k325.2 y313 x324) : R _).bind fun w326 => ((fun y323 : (List (List Int)) => (.ok y323)) (List.set s312 k325.1 w326)))))) x327 s306) fun s312 : (List (List Int)) => (.ok s312)))))) (s0 := s301.1) (Γs := fun s306 : (List (List Int)) => [.fr (α := (List (List Int))) t.1, .ot (α := Int) r285 s306, .fr (α := Int) s301.2, .fr (α := Int) s288.2.2, .fr (α := Int) y289, .fr (α := Int) y300, .un, .fr (α := Int) y305, .un, .un, .un]) (Γb := fun (y307 : Int) (s306 : (List (List Int))) => [.fr (α := (List (List Int))) t.1, .ot (α := Int) r285 s306, .fr (α := Int) s301.2, .fr (α := Int) s288.2.2, .fr (α := Int) y289, .fr (α := Int) y300, .un, .fr (α := Int) y305, .fr (α := Int) y307, .un, .un]) (is := [8]) C.hX.calm fr (he := by rfl) ?_ ?_ ?_ fun s306 => ?_
    · exact (ei_range2 (ma := true) (mb := true) g_range f_range (ev_add (ma := true) (mb := true) (md := true) (ev_var (md := true) n4 rfl rfl) (ev_int (md := true) rfl) rfl) (ev_lenL (ma := false) (md := true) g_len f_len (ev_tab n1 rfl rfl) rfl) rfl)
    · exact fun y307 s306 => (eg_name (α := Int) l8 rfl (fun _ => rfl))
    · intro H308 sb309 N y307 s306
      replace fr := fr.up sb309
      try replace hR := hR.up sb309
      refine w_asg (α := Int) (Γ' := fun y311 : Int => [.fr (α := (List (List Int))) t.1, .ot (α := Int) r285 s306, .fr (α := Int) s301.2, .fr (α := Int) s288.2.2, .fr (α := Int) y289, .fr (α := Int) y300, .un, .fr (α := Int) y305, .fr (α := Int) y307, .fr (α := Int) y311, .un]) fr l9 (he := by rfl) ?_ fun y311 => ?_
      · exact (Ev.flat (ma := false) (ev_ixL (md := false) (mb := true) (ev_ixL (md := false) (mb := true) (ev_tab n1 rfl rfl) (ev_var (md := true) n8 rfl rfl) rfl) (ev_var (md := true) n4 rfl rfl) rfl))
      refine w_for (α := Int) (S := (List (List Int))) (mx := (rngR y289 (s306.length : Int))) (bd := (fun y313 s312 => (((((((((((ixR s312 y307) : R _).bind fun x316 => (ixR x316 y313)) : R _).bind fun x317 => (mulR x317 y305)) : R _).bind fun x320 => (((((((ixR s312 y289) : R _).bind fun x318 => (ixR x318 y313)) : R _).bind fun x319 => (mulR y311 x319)) : R _).bind fun x321 => (.ok (x320 - x321)))) : R _).bind fun x322 => (divR x322 s288.2.2)) : R _).bind fun x324 => (((rowR s312 y307) : R _).bind fun k325 => (((setR k325.2 y313 x324) : R _).bind fun w326 => ((fun y323 : (List (List Int)) => (.ok y323)) (List.set s312 k325.1 w326))))))) (s0 := s306) (Γs := fun s312 : (List (List Int)) => [.fr (α := (List (List Int))) t.1, .ot (α := Int) r285 s312, .fr (α := Int) s301.2, .fr (α := Int) s288.2.2, .fr (α := Int) y289, .fr (α := Int) y300, .un, .fr (α := Int) y305, .fr (α := Int) y307, .fr (α := Int) y311, .un]) (Γb := fun (y313 : Int) (s312 : (List (List Int))) => [.fr (α := (List (List Int))) t.1, .ot (α := Int) r285 s312, .fr (α := Int) s301.2, .fr (α := Int) s288.2.2, .fr (α := Int) y289, .fr (α := Int) y300, .un, .fr (α := Int) y305, .fr (α := Int) y307, .fr (α := Int) y311, .fr (α := Int) y313]) (is := [10]) C.hX.calm fr (he := by rfl) ?_ ?_ ?_ fun s312 => ?_
      · exact (ei_range2 (ma := true) (mb := true) g_range f_range (ev_var (md := true) n4 rfl rfl) (ev_lenL (m1 := .ok s306) (ma := false) (md := true) g_len f_len (ev_tab n1 rfl rfl) rfl) rfl)
      · exact fun y313 s312 => (eg_name (α := Int) l10 rfl (fun _ => rfl))
      · intro H314 sb315 N y313 s312
        replace fr := fr.up sb315
        try replace hR := hR.up sb315
        refine w_setix2 (α := Int) (m1 := (((((((((ixR s312 y307) : R _).bind fun x316 => (ixR x316 y313)) : R _).bind fun x317 => (mulR x317 y305)) : R _).bind fun x320 => (((((((ixR s312 y289) : R _).bind fun x318 => (ixR x318 y313)) : R _).bind fun x319 => (mulR y311 x319)) : R _).bind fun x321 => (.ok (x320 - x321)))) : R _).bind fun x322 => (divR x322 s288.2.2))) (ma := (.ok y307)) (mj := (.ok y313)) (f := fun y323 => (.ok y323)) (Γ' := fun y323 : (List (List Int)) => [.fr (α := (List (List Int))) t.1, .ot (α := Int) r285 y323, .fr (α := Int) s301.2, .fr (α := Int) s288.2.2, .fr (α := Int) y289, .fr (α := Int) y300, .un, .fr (α := Int) y305, .fr (α := Int) y307, .fr (α := Int) y311, .fr (α := Int) y313]) fr n1 rfl ?_ ?_ ?_ (he := by rfl) fun y323 => ?_
        · exact (ev_div (ma := true) (mb := true) (md := true) (ev_sub (ma := true) (mb := true) (md := true) (ev_mul (ma := true) (mb := true) (md := true) (Ev.flat (ma := false) (ev_ixL (md := false) (mb := true) (ev_ixL (md := false) (mb := true) (ev_tab n1 rfl rfl) (ev_var (md := true) n8 rfl rfl) rfl) (ev_var (md := true) n10 rfl rfl) rfl)) (ev_var (md := true) n7 rfl rfl) rfl) (ev_mul (ma := true) (mb := true) (md := true) (ev_var (md := true) n9 rfl rfl) (Ev.flat (ma := false) (ev_ixL (md := false) (mb := true) (ev_ixL (md := false) (mb := true) (ev_tab n1 rfl rfl) (ev_var (md := true) n4 rfl rfl) rfl) (ev_var (md := true) n10 rfl rfl) rfl)) rfl) rfl) (ev_var (md := true) n3 rfl rfl) rfl)
        · exact (ev_var (md := true) n8 rfl rfl)
        · exact (ev_var (md := true) n10 rfl rfl)
        exact w_end (s := y323) [10] rfl rfl
      exact w_end (s := s312) [8, 9] rfl rfl
    refine w_asg (α := Int) (Γ' := fun y328 : Int => [.fr (α := (List (List Int))) t.1, .ot (α := Int) r285 s306, .fr (α := Int) s301.2, .fr (α := Int) y328, .fr (α := Int) y289, .fr (α := Int) y300, .un, .fr (α := Int) y305, .un, .un, .un]) fr l3 (he := by rfl) ?_ fun y328 => ?_
    · exact (ev_var (md := true) n7 rfl rfl)
    exact w_endM (s := (s306, s301.2, y328)) [4, 5, 7] rfl rfl
  exact w_ret (m1 := (mulR s288.2.1 s288.2.2)) (g := fun z => z) fr hR (ev_mul (ma := true) (mb := true) (md := true) (ev_var (md := true) n2 rfl rfl) (ev_var (md := true) n3 rfl rfl) rfl) (fun _ h => h) rfl
theorem gd_det {P : Program} {w : World} {K : PySem.W.Frag} {mg : PySem.Str → Option Value} {base : Heap} (fc : Fac fe fa fn K mg) : Gd P w K mg base "det" (spF K (τ := (List (List Int)) × Unit) (ρ := Int) 1 m_det) 1 2 :=
  gd_F 4 14 fc rfl rfl sc_det rfl bn_det fun X _ _ _ _ _ C H0 qs rt A B fr hR t => b_det (by omega) X C H0 qs rt A B fr hR t
theorem sc_without : FnScope ["table", "row", "column", "rows", "one"] ["table", "row", "column"] dd_without.scope := ⟨rfl, rfl, rfl, by decide +kernel, rfl, by decide +kernel, by decide +kernel⟩
theorem bn_without : BindE dd_without ["table", "row", "column"] := fun _ _ _ _ _ _ us hl => match us, hl with | [_, _, _], _ => rfl
theorem b_without {k : Nat} (hk : 0 ≤ k) (X : Cx) (C : Cb fe fa fn X (["table", "row", "column", "rows", "one"] : List PySem.Str) dd_without.scope k) (H0 : Hp) (qs : List Addr) (rt : VK) (A : (List (List Int)) → Prop) (B : Exc → Prop) (fr : Fr X H0 B) (hR : RtO (ρ := (List Int)) X H0 qs rt A) (t : (List (List Int)) × Int × Int × Unit) :
    W X H0 qs rt (fun _ H => rt .non H) A B [.fr (α := (List (List Int))) t.1, .fr (α := Int) t.2.1, .fr (α := Int) t.2.2.1, .un, .un] dd_without.body (m_without t) := by
  have n0 : Nm X 0 "table" := nm_mk C.hX.toXN (by decide +kernel)
  have n1 : Nm X 1 "row" := nm_mk C.hX.toXN (by decide +kernel)
  have n3 : Nm X 3 "rows" := nm_mk C.hX.toXN (by decide +kernel)
  have l3 : Lc X 3 "rows" := lc_mk C.hX.toXN (by decide +kernel)
  refine w_asg (α := (List (List Int))) (Γ' := fun y344 : (List (List Int)) => [.fr (α := (List (List Int))) t.1, .fr (α := Int) t.2.1, .fr (α := Int) t.2.2.1, .fr (α := (List (List Int))) y344, .un]) fr l3 (he := by rfl) ?_ fun y344 => ?_
  · exact (EvO.fz (ev_cat (md := true) (EvO.fz (ev_cut (md := true) (ev_var (md := true) n0 rfl rfl) ep_no (ep_of (ma := true) (ev_var (md := true) n1 rfl rfl) rfl) rfl)) (EvO.fz (ev_cut (md := true) (ev_var (md := true) n0 rfl rfl) (ep_of (ma := true) (ev_add (ma := true) (mb := true) (md := true) (ev_var (md := true) n1 rfl rfl) (ev_int (md := true) rfl) rfl) rfl) ep_no rfl)) rfl))
  exact w_retO (m1 := (mapR (fun y345 => (catR (cutL y345 none (some t.2.2.1)) (cutL y345 (some (t.2.2.1 + (1 : Int))) none))) y344)) (g := fun z => z) fr hR (ev_map (mi := true) (α := (List Int)) (β := (List Int)) (mx := (.ok y344)) (g := (fun y345 => (catR (cutL y345 none (some t.2.2.1)) (cutL y345 (some (t.2.2.1 + (1 : Int))) none)))) (own := [("one", 4)]) (Γx := fun y345 : (List Int) => [.fr (α := (List (List Int))) t.1, .fr (α := Int) t.2.1, .fr (α := Int) t.2.2.1, .fr (α := (List (List Int))) y344, .fr (α := (List Int)) y345]) (is := [4]) C.hX (ei_list (ev_var (md := true) n3 rfl rfl)) (.inl rfl) (by decide +kernel) (no1 (fun _ => rfl)) (by decide) (fun X347 b346 y345 => have h348 := b346.ok C.hX; (eg_name (α := (List Int)) (lc_mk (i := 4) (x := "one") h348.toXN (by decide +kernel)) rfl (fun _ => rfl))) (fun X347 b346 D349 y345 => have h348 := b346.ok C.hX; (EvO.fz (ev_cat (md := true) (EvO.fz (ev_cut (md := true) (ev_var (md := true) (nm_mk (i := 4) (x := "one") h348.toXN (by decide +kernel)) rfl rfl) ep_no (ep_of (ma := true) (ev_var (md := true) (nm_mk (i := 2) (x := "column") h348.toXN (by decide +kernel)) rfl rfl) rfl) rfl)) (EvO.fz (ev_cut (md := true) (ev_var (md := true) (nm_mk (i := 4) (x := "one") h348.toXN (by decide +kernel)) rfl rfl) (ep_of (ma := true) (ev_add (ma := true) (mb := true) (md := true) (ev_var (md := true) (nm_mk (i := 2) (x := "column") h348.toXN (by decide +kernel)) rfl rfl) (ev_int (md := true) rfl) rfl) rfl) ep_no rfl)) rfl))) rfl) (fun _ h => h) rfl
theorem gd_without {P : Program} {w : World} {K : PySem.W.Frag} {mg : PySem.Str → Option Value} {base : Heap} (fc : Fac fe fa fn K mg) : Gd P w K mg base "without" (spO K (τ := (List (List Int)) × Int × Int × Unit) (ρ := (List Int)) 3 m_without) 3 1 :=
  gd_O 5 15 fc rfl rfl sc_without rfl bn_without fun X _ _ _ _ _ C H0 qs rt A B fr hR t => b_without (by omega) X C H0 qs rt A B fr hR t
theorem sc_adjoint : FnScope ["table", "size", "told", "row", "numbers", "column", "minor"] ["table"] dd_adjoint.scope := ⟨rfl, rfl, rfl, by decide +kernel, rfl, by decide +kernel, by decide +kernel⟩
theorem bn_adjoint : BindE dd_adjoint ["table"] := fun _ _ _ _ _ _ us hl => match us, hl with | [_], _ => rfl
theorem b_adjoint {k : Nat} (hk : 2 ≤ k) (X : Cx) (C : Cb fe fa fn X (["table", "size", "told", "row", "numbers", "column", "minor"] : List PySem.Str) dd_adjoint.scope k) (H0 : Hp) (qs : List Addr) (rt : VK) (A : (List (List Int)) → Prop) (B : Exc → Prop) (fr : Fr X H0 B) (hR : RtO (ρ := (List Int)) X H0 qs rt A) (t : (List (List Int)) × Unit) :
    W X H0 qs rt (fun _ H => rt .non H) A B [.fr (α := (List (List Int))) t.1, .un, .un, .un, .un, .un, .un] dd_adjoint.body (m_adjoint t) := by
  have n0 : Nm X 0 "table" := nm_mk C.hX.toXN (by decide +kernel)
  have n1 : Nm X 1 "size" := nm_mk C.hX.toXN (by decide +kernel)
  have n2 : Nm X 2 "told" := nm_mk C.hX.toXN (by decide +kernel)
  have n3 : Nm X 3 "row" := nm_mk C.hX.toXN (by decide +kernel)
  have n4 : Nm X 4 "numbers" := nm_mk C.hX.toXN (by decide +kernel)
  have n5 : Nm X 5 "column" := nm_mk C.hX.toXN (by decide +kernel)
  have n6 : Nm X 6 "minor" := nm_mk C.hX.toXN (by decide +kernel)
  have l1 : Lc X 1 "size" := lc_mk C.hX.toXN (by decide +kernel)
  have l2 : Lc X 2 "told" := lc_mk C.hX.toXN (by decide +kernel)
  have l3 : Lc X 3 "row" := lc_mk C.hX.toXN (by decide +kernel)
  have l4 : Lc X 4 "numbers" := lc_mk C.hX.toXN (by decide +kernel)
  have l5 : Lc X 5 "column" := lc_mk C.hX.toXN (by decide +kernel)
  have l6 : Lc X 6 "minor" := lc_mk C.hX.toXN (by decide +kernel)
  have g_det : Gn X "det" := gn_mk C.hX.toXN (by decide +kernel)
  have g_len : Gn X "len" := gn_mk C.hX.toXN (by decide +kernel)
  have g_range : Gn X "range" := gn_mk C.hX.toXN (by decide +kernel)
  have g_without : Gn X "without" := gn_mk C.hX.toXN (by decide +kernel)
  have f_len : X.mg "len" = none := C.fc.free 39
  have f_range : X.mg "range" = none := C.fc.free 40
  have d_det : Dn X "det" (spF X.K (τ := (List (List Int)) × Unit) (ρ := Int) 1 m_det) 1 := (gd_det C.fc).dn C.rm (by omega)
  have d_without : Dn X "without" (spO X.K (τ := (List (List Int)) × Int × Int × Unit) (ρ := (List Int)) 3 m_without) 3 := (gd_without C.fc).dn C.rm (by omega)
  refine w_asg (α := Int) (Γ' := fun y333 : Int => [.fr (α := (List (List Int))) t.1, .fr (α := Int) y333, .un, .un, .un, .un, .un]) fr l1 (he := by rfl) ?_ fun y333 => ?_
  · exact (ev_lenL (ma := true) (md := true) g_len f_len (ev_var (md := true) n0 rfl rfl) rfl)
  refine w_asgO (α := (List Int)) (Γ' := fun y334 : (List (List Int)) => [.fr (α := (List (List Int))) t.1, .fr (α := Int) y333, .ow (α := (List Int)) y334, .un, .un, .un, .un]) fr l2 (he := by rfl) ?_ fun y334 => ?_
  · exact (ev_lst (md := true) (el_nil (α := (List Int)) rfl))
  refine w_for (α := Int) (S := (List (List Int))) (mx := (rngR 0 y333)) (bd := (fun y336 s335 => (((.ok ([] : (List Int))) : R (List Int)).bind fun y339 => (((rngR 0 y333) : R _).bind fun x362 => (R.bind (forR (fun y341 s340 => (((((((m_without (t.1, y341, y336, ())) : R _).bind fun x351 => (.ok (x351, (())))) : R _).bind fun x352 => (m_det x352)) : R Int).bind fun y353 => (((((modR (y336 + y341) (2 : Int)) : R _).bind fun x354 => (.ok (pyEq x354 (1 : Int)))) : R Bool).bind fun c359 => R.bind (if c359 = true then (((.ok (-y353)) : R Int).bind fun y356 => (.ok y356)) else (.ok y353)) fun s355 : Int => ((appR s340 s355).bind fun y357 => (.ok y357))))) x362 y339) fun s340 : (List Int) => ((appR s335 s340).bind fun y361 => (.ok y361))))))) (s0 := y334) (Γs := fun s335 : (List (List Int)) => [.fr (α := (List (List Int))) t.1, .fr (α := Int) y333, .ow (α := (List Int)) s335, .un, .un, .un, .un]) (Γb := fun (y336 : Int) (s335 : (List (List Int))) => [.fr (α := (List (List Int))) t.1, .fr (α := Int) y333, .ow (α := (List Int)) s335, .fr (α := Int) y336, .un, .un, .un]) (is := [3]) C.hX.calm fr (he := by rfl) ?_ ?_ ?_ fun s335 => ?_
  · exact (ei_range1 (ma := true) g_range f_range (ev_var (md := true) n1 rfl rfl) rfl)
  · exact fun y336 s335 => (eg_name (α := Int) l3 rfl (fun _ => rfl))
  · intro H337 sb338 N y336 s335
    replace fr := fr.up sb338
    try replace hR := hR.up sb338
    refine w_asgO (α := Int) (Γ' := fun y339 : (List Int) => [.fr (α := (List (List Int))) t.1, .fr (α := Int) y333, .ow (α := (List Int)) s335, .fr (α := Int) y336, .ow (α := Int) y339, .un, .un]) fr l4 (he := by rfl) ?_ fun y339 => ?_
    · exact (ev_lst (md := true) (el_nil (α := Int) rfl))
    refine w_for (α := Int) (S := (List Int)) (mx := (rngR 0 y333)) (bd := (fun y341 s340 => (((((((m_without (t.1, y341, y336, ())) : R _).bind fun x351 => (.ok (x351, (())))) : R _).bind fun x352 => (m_det x352)) : R Int).bind fun y353 => (((((modR (y336 + y341) (2 : Int)) : R _).bind fun x354 => (.ok (pyEq x354 (1 : Int)))) : R Bool).bind fun c359 => R.bind (if c359 = true then (((.ok (-y353)) : R Int).bind fun y356 => (.ok y356)) else (.ok y353)) fun s355 : Int => ((appR s340 s355).bind fun y357 => (.ok y357)))))) (s0 := y339) (Γs := fun s340 : (List Int) => [.fr (α := (List (List Int))) t.1, .fr (α := Int) y333, .ow (α := (List Int)) s335, .fr (α := Int) y336, .ow (α := Int) s340, .un, .un]) (Γb := fun (y341 : Int) (s340 : (List Int)) => [.fr (α := (List (List Int))) t.1, .fr (α := Int) y333, .ow (α := (List Int)) s335, .fr (α := Int) y336, .ow (α := Int) s340, .fr (α := Int) y341, .un]) (is := [5]) C.hX.calm fr (he := by rfl) ?_ ?_ ?_ fun s340 => ?_
    · exact (ei_range1 (ma := true) g_range f_range (ev_var (md := true) n1 rfl rfl) rfl)
    · exact fun y341 s340 => (eg_name (α := Int) l5 rfl (fun _ => rfl))
    · intro H342 sb343 N y341 s340
      replace fr := fr.up sb343
      try replace hR := hR.up sb343
      refine w_asg (α := Int) (Γ' := fun y353 : Int => [.fr (α := (List (List Int))) t.1, .fr (α := Int) y333, .ow (α := (List Int)) s335, .fr (α := Int) y336, .ow (α := Int) s340, .fr (α := Int) y341, .fr (α := Int) y353]) fr l6 (he := by rfl) ?_ fun y353 => ?_
      · exact (ev_call (md := true) d_det g_det (ea_cons (md := true) (EvO.fz (ev_callO (md := true) d_without g_without (ea_cons (md := true) (ev_var (md := true) n0 rfl rfl) (ea_cons (md := true) (ev_var (md := true) n5 rfl rfl) (ea_cons (md := true) (ev_var (md := true) n3 rfl rfl) (ea_nil (md := true) rfl) rfl) rfl) rfl) rfl rfl)) (ea_nil (md := true) rfl) rfl) rfl rfl)
      refine w_ifJ (S := Int) (mc := (((modR (y336 + y341) (2 : Int)) : R _).bind fun x354 => (.ok (pyEq x354 (1 : Int))))) (ma := (((.ok (-y353)) : R Int).bind fun y356 => (.ok y356))) (mb := (.ok y353)) (Γs := fun s355 : Int => [.fr (α := (List (List Int))) t.1, .fr (α := Int) y333, .ow (α := (List Int)) s335, .fr (α := Int) y336, .ow (α := Int) s340, .fr (α := Int) y341, .fr (α := Int) s355]) fr (et_eq (α := Int) (ma := true) (mb := true) C.hu (ev_mod (ma := true) (mb := true) (md := true) (ev_add (ma := true) (mb := true) (md := true) (ev_var (md := true) n3 rfl rfl) (ev_var (md := true) n5 rfl rfl) rfl) (ev_int (md := true) rfl) rfl) (ev_int (md := true) rfl) rfl) ?_ ?_ (he := by rfl) fun s355 => ?_
      · intro N
        refine w_asg (α := Int) (Γ' := fun y356 : Int => [.fr (α := (List (List Int))) t.1, .fr (α := Int) y333, .ow (α := (List Int)) s335, .fr (α := Int) y336, .ow (α := Int) s340, .fr (α := Int) y341, .fr (α := Int) y356]) fr l6 (he := by rfl) ?_ fun y356 => ?_
        · exact (ev_neg (ma := true) (md := true) (ev_var (md := true) n6 rfl rfl) rfl)
        exact w_end (s := y356) [] rfl rfl
      · intro N
        exact w_end (s := y353) [] rfl rfl
      refine w_append (α := Int) (m1 := (.ok s355)) (Γ' := fun y357 : (List Int) => [.fr (α := (List (List Int))) t.1, .fr (α := Int) y333, .ow (α := (List Int)) s335, .fr (α := Int) y336, .ow (α := Int) y357, .fr (α := Int) y341, .fr (α := Int) s355]) fr n4 rfl ?_ (he := by rfl) fun y357 => ?_
      · exact (ev_var (md := true) n6 rfl rfl)
      exact w_end (s := y357) [5, 6] rfl rfl
    refine w_frz 4 rfl (Γ' := [.fr (α := (List (List Int))) t.1, .fr (α := Int) y333, .ow (α := (List Int)) s335, .fr (α := Int) y336, .fr (α := (List Int)) s340, .un, .un]) rfl ?_
    refine w_append (α := (List Int)) (m1 := (.ok s340)) (Γ' := fun y361 : (List (List Int)) => [.fr (α := (List (List Int))) t.1, .fr (α := Int) y333, .ow (α := (List Int)) y361, .fr (α := Int) y336, .fr (α := (List Int)) s340, .un, .un]) fr n2 rfl ?_ (he := by rfl) fun y361 => ?_
    · exact (ev_var (md := true) n4 rfl rfl)
    exact w_end (s := y361) [3, 4] rfl rfl
  exact w_retV (g := fun z => z) fr hR n2 rfl (fun _ h => h) rfl
theorem gd_adjoint {P : Program} {w : World} {K : PySem.W.Frag} {mg : PySem.Str → Option Value} {base : Heap} (fc : Fac fe fa fn K mg) : Gd P w K mg base "adjoint" (spO K (τ := (List (List Int)) × Unit) (ρ := (List Int)) 1 m_adjoint) 1 3 :=
  gd_O 6 16 fc rfl rfl sc_adjoint rfl bn_adjoint fun X _ _ _ _ _ C H0 qs rt A B fr hR t => b_adjoint (by omega) X C H0 qs rt A B fr hR t
theorem sc_times : FnScope ["table", "numbers", "told", "row", "k"] ["table", "numbers"] dd_times.scope := ⟨rfl, rfl, rfl, by decide +kernel, rfl, by decide +kernel, by decide +kernel⟩
theorem bn_times : BindE dd_times ["table", "numbers"] := fun _ _ _ _ _ _ us hl => match us, hl with | [_, _], _ => rfl
theorem b_times {k : Nat} (hk : 0 ≤ k) (X : Cx) (C : Cb fe fa fn X (["table", "numbers", "told", "row", "k"] : List PySem.Str) dd_times.scope k) (H0 : Hp) (qs : List Addr) (rt : VK) (A : (List Int) → Prop) (B : Exc → Prop) (fr : Fr X H0 B) (hR : RtO (ρ := Int) X H0 qs rt A) (t : (List (List Int)) × (List Int) × Unit) :
    W X H0 qs rt (fun _ H => rt .non H) A B [.fr (α := (List (List Int))) t.1, .fr (α := (List Int)) t.2.1, .un, .un, .un] dd_times.body (m_times t) := by
  have n0 : Nm X 0 "table" := nm_mk C.hX.toXN (by decide +kernel)
  have n1 : Nm X 1 "numbers" := nm_mk C.hX.toXN (by decide +kernel)
  have n2 : Nm X 2 "told" := nm_mk C.hX.toXN (by decide +kernel)
  have l2 : Lc X 2 "told" := lc_mk C.hX.toXN (by decide +kernel)
  have l3 : Lc X 3 "row" := lc_cell C.hX.toXN (C.fnt _) (by decide +kernel)
  have g_len : Gn X "len" := gn_mk C.hX.toXN (by decide +kernel)
  have g_range : Gn X "range" := gn_mk C.hX.toXN (by decide +kernel)
  have g_sum : Gn X "sum" := gn_mk C.hX.toXN (by decide +kernel)
  have f_len : X.mg "len" = none := C.fc.free 39
  have f_range : X.mg "range" = none := C.fc.free 40
  have f_sum : X.mg "sum" = none := C.fc.free 42
  refine w_asgO (α := Int) (Γ' := fun y375 : (List Int) => [.fr (α := (List (List Int))) t.1, .fr (α := (List Int)) t.2.1, .ow (α := Int) y375, .un, .un]) fr l2 (he := by rfl) ?_ fun y375 => ?_
  · exact (ev_lst (md := true) (el_nil (α := Int) rfl))
  refine w_for (α := (List Int)) (S := (List Int)) (mx := (.ok t.1)) (bd := (fun y377 s376 => (((((((rngR 0 (t.2.1.length : Int)) : R _).bind fun x387 => (mapR (fun y380 => (((ixR y377 y380) : R _).bind fun x385 => (((ixR t.2.1 y380) : R _).bind fun x386 => (mulR x385 x386)))) x387)) : R _).bind fun x388 => (.ok (List.sum x388))) : R _).bind fun x390 => ((appR s376 x390).bind fun y389 => (.ok y389))))) (s0 := y375) (Γs := fun s376 : (List Int) => [.fr (α := (List (List Int))) t.1, .fr (α := (List Int)) t.2.1, .ow (α := Int) s376, .un, .un]) (Γb := fun (y377 : (List Int)) (s376 : (List Int)) => [.fr (α := (List (List Int))) t.1, .fr (α := (List Int)) t.2.1, .ow (α := Int) s376, .fr (α := (List Int)) y377, .un]) (is := [3]) C.hX.calm fr (he := by rfl) ?_ ?_ ?_ fun s376 => ?_
  · exact (ei_list (ev_var (md := true) n0 rfl rfl))
  · exact fun y377 s376 => (eg_name (α := (List Int)) l3 rfl (fun _ => rfl))
  · intro H378 sb379 N y377 s376
    replace fr := fr.up sb379
    try replace hR := hR.up sb379
    refine w_append (α := Int) (m1 := (((((rngR 0 (t.2.1.length : Int)) : R _).bind fun x387 => (mapR (fun y380 => (((ixR y377 y380) : R _).bind fun x385 => (((ixR t.2.1 y380) : R _).bind fun x386 => (mulR x385 x386)))) x387)) : R _).bind fun x388 => (.ok (List.sum x388)))) (Γ' := fun y389 : (List Int) => [.fr (α := (List (List Int))) t.1, .fr (α := (List Int)) t.2.1, .ow (α := Int) y389, .fr (α := (List Int)) y377, .un]) fr n2 rfl ?_ (he := by rfl) fun y389 => ?_
    · exact (ev_sum (ma := true) (md := true) C.hX.calm g_sum f_sum (EvO.fz (ev_map (mi := true) (α := Int) (β := Int) (mx := (rngR 0 (t.2.1.length : Int))) (g := (fun y380 => (((ixR y377 y380) : R _).bind fun x385 => (((ixR t.2.1 y380) : R _).bind fun x386 => (mulR x385 x386))))) (own := [("k", 4)]) (Γx := fun y380 : Int => [.fr (α := (List (List Int))) t.1, .fr (α := (List Int)) t.2.1, .ow (α := Int) s376, .fr (α := (List Int)) y377, .fr (α := Int) y380]) (is := [4]) C.hX (ei_range1 (m1 := .ok (t.2.1.length : Int)) (ma := true) g_range f_range (ev_lenL (ma := true) (md := true) g_len f_len (ev_var (md := true) n1 rfl rfl) rfl) (rng_he _)) (.inl rfl) (by decide +kernel) (no1 (fun _ => rfl)) (by decide) (fun X382 b381 y380 => have h383 := b381.ok C.hX; (eg_name (α := Int) (lc_mk (i := 4) (x := "k") h383.toXN (by decide +kernel)) rfl (fun _ => rfl))) (fun X382 b381 D384 y380 => have h383 := b381.ok C.hX; (ev_mul (ma := true) (mb := true) (md := true) (ev_ixL (md := true) (mb := true) (ev_var (md := true) (nm_mk (i := 3) (x := "row") h383.toXN (by decide +kernel)) rfl rfl) (ev_var (md := true) (nm_mk (i := 4) (x := "k") h383.toXN (by decide +kernel)) rfl rfl) rfl) (ev_ixL (md := true) (mb := true) (ev_var (md := true) (nm_mk (i := 1) (x := "numbers") h383.toXN (by decide +kernel)) rfl rfl) (ev_var (md := true) (nm_mk (i := 4) (x := "k") h383.toXN (by decide +kernel)) rfl rfl) rfl) rfl)) rfl)) rfl)
    exact w_end (s := y389) [3] rfl rfl
  exact w_retV (g := fun z => z) fr hR n2 rfl (fun _ h => h) rfl
theorem gd_times {P : Program} {w : World} {K : PySem.W.Frag} {mg : PySem.Str → Option Value} {base : Heap} (fc : Fac fe fa fn K mg) : Gd P w K mg base "times" (spO K (τ := (List (List Int)) × (List Int) × Unit) (ρ := Int) 2 m_times) 2 1 :=
  gd_O 9 19 fc rfl rfl sc_times rfl bn_times fun X _ _ _ _ _ C H0 qs rt A B fr hR t => b_times (by omega) X C H0 qs rt A B fr hR t
theorem sc_less : FnScope ["one", "other", "house"] ["one", "other"] dd_less.scope := ⟨rfl, rfl, rfl, by decide +kernel, rfl, by decide +kernel, by decide +kernel⟩
theorem bn_less : BindE dd_less ["one", "other"] := fun _ _ _ _ _ _ us hl => match us, hl with | [_, _], _ => rfl
theorem b_less {k : Nat} (hk : 0 ≤ k) (X : Cx) (C : Cb fe fa fn X (["one", "other", "house"] : List PySem.Str) dd_less.scope k) (H0 : Hp) (qs : List Addr) (rt : VK) (A : (List Int) → Prop) (B : Exc → Prop) (fr : Fr X H0 B) (hR : RtO (ρ := Int) X H0 qs rt A) (t : (List Int) × (List Int) × Unit) :
    W X H0 qs rt (fun _ H => rt .non H) A B [.fr (α := (List Int)) t.1, .fr (α := (List Int)) t.2.1, .un] dd_less.body (m_less t) := by
  have n0 : Nm X 0 "one" := nm_mk C.hX.toXN (by decide +kernel)
  have n1 : Nm X 1 "other" := nm_mk C.hX.toXN (by decide +kernel)
  have g_BadStanding : Gn X "BadStanding" := gn_mk C.hX.toXN (by decide +kernel)
  have g_len : Gn X "len" := gn_mk C.hX.toXN (by decide +kernel)
  have g_range : Gn X "range" := gn_mk C.hX.toXN (by decide +kernel)
  have f_len : X.mg "len" = none := C.fc.free 39
  have f_range : X.mg "range" = none := C.fc.free 40
  have x_BadStanding : Xn X .badStanding := C.xn .badStanding 6 7
  refine w_ifR (ma := (.exc .badStanding)) (mc := (.ok (!pyEq (t.1.length : Int) (t.2.1.length : Int)))) fr (et_ne (α := Int) (ma := true) (mb := true) C.hu (ev_lenL (ma := true) (md := true) g_len f_len (ev_var (md := true) n0 rfl rfl) rfl) (ev_lenL (ma := true) (md := true) g_len f_len (ev_var (md := true) n1 rfl rfl) rfl) rfl) (fun nx' => ?_) ?_ (he := by rfl)
  · skip
    exact w_raise .badStanding C.hX.calm fr x_BadStanding g_BadStanding rfl
  exact w_retO (m1 := (((rngR 0 (t.1.length : Int)) : R _).bind fun x372 => (mapR (fun y365 => (((ixR t.1 y365) : R _).bind fun x370 => (((ixR t.2.1 y365) : R _).bind fun x371 => (.ok (x370 - x371))))) x372))) (g := fun z => z) fr hR (ev_map (mi := true) (α := Int) (β := Int) (mx := (rngR 0 (t.1.length : Int))) (g := (fun y365 => (((ixR t.1 y365) : R _).bind fun x370 => (((ixR t.2.1 y365) : R _).bind fun x371 => (.ok (x370 - x371)))))) (own := [("house", 2)]) (Γx := fun y365 : Int => [.fr (α := (List Int)) t.1, .fr (α := (List Int)) t.2.1, .fr (α := Int) y365]) (is := [2]) C.hX (ei_range1 (m1 := .ok (t.1.length : Int)) (ma := true) g_range f_range (ev_lenL (ma := true) (md := true) g_len f_len (ev_var (md := true) n0 rfl rfl) rfl) (rng_he _)) (.inl rfl) (by decide +kernel) (no1 (fun _ => rfl)) (by decide) (fun X367 b366 y365 => have h368 := b366.ok C.hX; (eg_name (α := Int) (lc_mk (i := 2) (x := "house") h368.toXN (by decide +kernel)) rfl (fun _ => rfl))) (fun X367 b366 D369 y365 => have h368 := b366.ok C.hX; (ev_sub (ma := true) (mb := true) (md := true) (ev_ixL (md := true) (mb := true) (ev_var (md := true) (nm_mk (i := 0) (x := "one") h368.toXN (by decide +kernel)) rfl rfl) (ev_var (md := true) (nm_mk (i := 2) (x := "house") h368.toXN (by decide +kernel)) rfl rfl) rfl) (ev_ixL (md := true) (mb := true) (ev_var (md := true) (nm_mk (i := 1) (x := "other") h368.toXN (by decide +kernel)) rfl rfl) (ev_var (md := true) (nm_mk (i := 2) (x := "house") h368.toXN (by decide +kernel)) rfl rfl) rfl) rfl)) rfl) (fun _ h => h) rfl
theorem gd_less {P : Program} {w : World} {K : PySem.W.Frag} {mg : PySem.Str → Option Value} {base : Heap} (fc : Fac fe fa fn K mg) : Gd P w K mg base "less" (spO K (τ := (List Int) × (List Int) × Unit) (ρ := Int) 2 m_less) 2 1 :=
  gd_O 1 11 fc rfl rfl sc_less rfl bn_less fun X _ _ _ _ _ C H0 qs rt A B fr hR t => b_less (by omega) X C H0 qs rt A B fr hR t
theorem sc_alike : FnScope ["web", "one", "other", "table", "many", "by", "products", "at", "product"] ["web", "one", "other"] dd_alike.scope := ⟨rfl, rfl, rfl, by decide +kernel, rfl, by decide +kernel, by decide +kernel⟩
theorem bn_alike : BindE dd_alike ["web", "one", "other"] := fun _ _ _ _ _ _ us hl => match us, hl with | [_, _, _], _ => rfl
theorem b_alike {k : Nat} (hk : 3 ≤ k) (X : Cx) (C : Cb fe fa fn X (["web", "one", "other", "table", "many", "by", "products", "at", "product"] : List PySem.Str) dd_alike.scope k) (H0 : Hp) (qs : List Addr) (rt : VK) (A : ((T1 PySem.Str) ⊕ ((T3 PySem.Str Int (List Int)) ⊕ (PySem.Str × (List Int)))) → Prop) (B : Exc → Prop) (fr : Fr X H0 B) (hR : RtF (ρ := ((T1 PySem.Str) ⊕ ((T3 PySem.Str Int (List Int)) ⊕ (PySem.Str × (List Int))))) X H0 qs rt A) (t : (Int × (Tu (Int × Int))) × (List Int) × (List Int) × Unit) :
    W X H0 qs rt (fun _ H => rt .non H) A B [.fr (α := (Int × (Tu (Int × Int)))) t.1, .fr (α := (List Int)) t.2.1, .fr (α := (List Int)) t.2.2.1, .un, .un, .un, .un, .un, .un] dd_alike.body (m_alike t) := by
  have n0 : Nm X 0 "web" := nm_mk C.hX.toXN (by decide +kernel)
  have n1 : Nm X 1 "one" := nm_mk C.hX.toXN (by decide +kernel)
  have n2 : Nm X 2 "other" := nm_mk C.hX.toXN (by decide +kernel)
  have n3 : Nm X 3 "table" := nm_mk C.hX.toXN (by decide +kernel)
  have n4 : Nm X 4 "many" := nm_mk C.hX.toXN (by decide +kernel)
  have n5 : Nm X 5 "by" := nm_mk C.hX.toXN (by decide +kernel)
  have n6 : Nm X 6 "products" := nm_mk C.hX.toXN (by decide +kernel)
  have n7 : Nm X 7 "at" := nm_mk C.hX.toXN (by decide +kernel)
  have n8 : Nm X 8 "product" := nm_mk C.hX.toXN (by decide +kernel)
  have l3 : Lc X 3 "table" := lc_mk C.hX.toXN (by decide +kernel)
  have l4 : Lc X 4 "many" := lc_cell C.hX.toXN (C.fnt _) (by decide +kernel)
  have l5 : Lc X 5 "by" := lc_mk C.hX.toXN (by decide +kernel)
  have l6 : Lc X 6 "products" := lc_mk C.hX.toXN (by decide +kernel)
  have l7 : Lc X 7 "at" := lc_mk C.hX.toXN (by decide +kernel)
  have l8 : Lc X 8 "product" := lc_mk C.hX.toXN (by decide +kernel)
  have g_adjoint : Gn X "adjoint" := gn_mk C.hX.toXN (by decide +kernel)
  have g_coins : Gn X "coins" := gn_mk C.hX.toXN (by decide +kernel)
  have g_det : Gn X "det" := gn_mk C.hX.toXN (by decide +kernel)
  have g_enumerate : Gn X "enumerate" := gn_mk C.hX.toXN (by decide +kernel)
  have g_less : Gn X "less" := gn_mk C.hX.toXN (by decide +kernel)
  have g_look_at_lengths : Gn X "look_at_lengths" := gn_mk C.hX.toXN (by decide +kernel)
  have g_small_table : Gn X "small_table" := gn_mk C.hX.toXN (by decide +kernel)
  have g_times : Gn X "times" := gn_mk C.hX.toXN (by decide +kernel)
  have f_enumerate : X.mg "enumerate" = none := C.fc.free 48
  have d_look_at_lengths : Dn X "look_at_lengths" (spF X.K (τ := (Int × (Tu (Int × Int))) × (List Int) × (List Int) × Unit) (ρ := Unit) 3 m_look_at_lengths) 3 := (gd_look_at_lengths C.fc).dn C.rm (by omega)
  have d_coins : Dn X "coins" (spF X.K (τ := (List Int) × Unit) (ρ := Int) 1 m_coins) 1 := (gd_coins C.fc).dn C.rm (by omega)
  have d_small_table : Dn X "small_table" (spO X.K (τ := (Int × (Tu (Int × Int))) × Unit) (ρ := (List Int)) 1 m_small_table) 1 := (gd_small_table C.fc).dn C.rm (by omega)
  have d_det : Dn X "det" (spF X.K (τ := (List (List Int)) × Unit) (ρ := Int) 1 m_det) 1 := (gd_det C.fc).dn C.rm (by omega)
  have d_adjoint : Dn X "adjoint" (spO X.K (τ := (List (List Int)) × Unit) (ρ := (List Int)) 1 m_adjoint) 1 := (gd_adjoint C.fc).dn C.rm (by omega)
  have d_times : Dn X "times" (spO X.K (τ := (List (List Int)) × (List Int) × Unit) (ρ := Int) 2 m_times) 2 := (gd_times C.fc).dn C.rm (by omega)
  have d_less : Dn X "less" (spO X.K (τ := (List Int) × (List Int) × Unit) (ρ := Int) 2 m_less) 2 := (gd_less C.fc).dn C.rm (by omega)
  refine w_expr (α := Unit) (m1 := (m_look_at_lengths (t.1, t.2.1, t.2.2.1, ()))) fr ?_ ?_ (he := by rfl)
  · exact (ev_call (md := true) d_look_at_lengths g_look_at_lengths (ea_cons (md := true) (ev_var (md := true) n0 rfl rfl) (ea_cons (md := true) (ev_var (md := true) n1 rfl rfl) (ea_cons (md := true) (ev_var (md := true) n2 rfl rfl) (ea_nil (md := true) rfl) rfl) rfl) rfl) rfl rfl)
  refine w_ifR (mc := (((m_coins (t.2.1, ())) : R _).bind fun x232 => (((m_coins (t.2.2.1, ())) : R _).bind fun x233 => (.ok (!pyEq x232 x233))))) fr (et_ne (α := Int) (ma := true) (mb := true) C.hu (ev_call (md := true) d_coins g_coins (ea_cons (md := true) (ev_var (md := true) n1 rfl rfl) (ea_nil (md := true) rfl) rfl) rfl rfl) (ev_call (md := true) d_coins g_coins (ea_cons (md := true) (ev_var (md := true) n2 rfl rfl) (ea_nil (md := true) rfl) rfl) rfl rfl) rfl) (fun nx' => ?_) ?_ (he := by rfl)
  · skip
    exact w_ret (m1 := (.ok (Sum.inl (T1.mk ("sums" : PySem.Str)) : ((T1 PySem.Str) ⊕ ((T3 PySem.Str Int (List Int)) ⊕ (PySem.Str × (List Int))))))) (g := fun z => z) fr hR (Ev.inl (m := (.ok (T1.mk ("sums" : PySem.Str)))) (ev_tup (md := true) tup1 (ea_cons (md := true) (ev_str (md := true) rfl) (ea_nil (md := true) rfl) rfl) rfl) rfl) (fun _ h => h) rfl
  refine w_asg (α := (List (List Int))) (Γ' := fun y278 : (List (List Int)) => [.fr (α := (Int × (Tu (Int × Int)))) t.1, .fr (α := (List Int)) t.2.1, .fr (α := (List Int)) t.2.2.1, .fr (α := (List (List Int))) y278, .un, .un, .un, .un, .un]) fr l3 (he := by rfl) ?_ fun y278 => ?_
  · exact (EvO.fz (ev_callO (md := true) d_small_table g_small_table (ea_cons (md := true) (ev_var (md := true) n0 rfl rfl) (ea_nil (md := true) rfl) rfl) rfl rfl))
  refine w_asg (α := Int) (Γ' := fun y332 : Int => [.fr (α := (Int × (Tu (Int × Int)))) t.1, .fr (α := (List Int)) t.2.1, .fr (α := (List Int)) t.2.2.1, .fr (α := (List (List Int))) y278, .fr (α := Int) y332, .un, .un, .un, .un]) fr l4 (he := by rfl) ?_ fun y332 => ?_
  · exact (ev_call (md := true) d_det g_det (ea_cons (md := true) (ev_var (md := true) n3 rfl rfl) (ea_nil (md := true) rfl) rfl) rfl rfl)
  refine w_asg (α := (List (List Int))) (Γ' := fun y364 : (List (List Int)) => [.fr (α := (Int × (Tu (Int × Int)))) t.1, .fr (α := (List Int)) t.2.1, .fr (α := (List Int)) t.2.2.1, .fr (α := (List (List Int))) y278, .fr (α := Int) y332, .fr (α := (List (List Int))) y364, .un, .un, .un]) fr l5 (he := by rfl) ?_ fun y364 => ?_
  · exact (EvO.fz (ev_callO (md := true) d_adjoint g_adjoint (ea_cons (md := true) (ev_var (md := true) n3 rfl rfl) (ea_nil (md := true) rfl) rfl) rfl rfl))
  refine w_asg (α := (List Int)) (Γ' := fun y394 : (List Int) => [.fr (α := (Int × (Tu (Int × Int)))) t.1, .fr (α := (List Int)) t.2.1, .fr (α := (List Int)) t.2.2.1, .fr (α := (List (List Int))) y278, .fr (α := Int) y332, .fr (α := (List (List Int))) y364, .fr (α := (List Int)) y394, .un, .un]) fr l6 (he := by rfl) ?_ fun y394 => ?_
  · exact (EvO.fz (ev_callO (md := true) d_times g_times (ea_cons (md := true) (ev_var (md := true) n5 rfl rfl) (ea_cons (md := true) (EvO.fz (ev_cut (md := true) (EvO.fz (ev_callO (md := true) d_less g_less (ea_cons (md := true) (ev_var (md := true) n1 rfl rfl) (ea_cons (md := true) (ev_var (md := true) n2 rfl rfl) (ea_nil (md := true) rfl) rfl) rfl) rfl rfl)) (ep_of (ma := true) (ev_int (md := true) rfl) rfl) ep_no rfl)) (ea_nil (md := true) rfl) rfl) rfl) rfl rfl))
  refine w_forM (α := (Int × Int)) (S := Unit) (mx := (.ok (enumL y394))) (bd := (fun y396 s395 => (((((modR y396.2 y332) : R _).bind fun x399 => (.ok (!pyEq x399 (0 : Int)))) : R Bool).bind fun c408 => if c408 = true then (((((((((((((((((ixR y364 y396.1) : R _).bind fun x400 => (catR ([(0 : Int)] : (List Int)) x400)) : R _).bind fun x401 => (.ok (x401, (())))) : R _).bind fun x402 => (.ok (y332, x402))) : R _).bind fun x403 => (.ok (("weighed" : PySem.Str), x403))) : R _).bind fun x404 => (.ok (T3.mk x404.1 x404.2.1 x404.2.2.1))) : R _).bind fun x405 => (.ok (Sum.inl x405 : ((T3 PySem.Str Int (List Int)) ⊕ (PySem.Str × (List Int)))))) : R _).bind fun x406 => (.ok (Sum.inr x406 : ((T1 PySem.Str) ⊕ ((T3 PySem.Str Int (List Int)) ⊕ (PySem.Str × (List Int))))))) : R ((T1 PySem.Str) ⊕ ((T3 PySem.Str Int (List Int)) ⊕ (PySem.Str × (List Int))))).bind fun z407 => .ok (.rt z407)) else (.ok (.nx ()))))) (s0 := ()) (Γs := fun s395 : Unit => [.fr (α := (Int × (Tu (Int × Int)))) t.1, .fr (α := (List Int)) t.2.1, .fr (α := (List Int)) t.2.2.1, .fr (α := (List (List Int))) y278, .fr (α := Int) y332, .fr (α := (List (List Int))) y364, .fr (α := (List Int)) y394, .un, .un]) (Γb := fun (y396 : (Int × Int)) (s395 : Unit) => [.fr (α := (Int × (Tu (Int × Int)))) t.1, .fr (α := (List Int)) t.2.1, .fr (α := (List Int)) t.2.2.1, .fr (α := (List (List Int))) y278, .fr (α := Int) y332, .fr (α := (List (List Int))) y364, .fr (α := (List Int)) y394, .fr (α := Int) y396.1, .fr (α := Int) y396.2]) (is := [7, 8]) C.hX.calm fr (he := by rfl) ?_ ?_ ?_ fun s395 => ?_
  · exact (ei_enum g_enumerate f_enumerate (ev_var (md := true) n6 rfl rfl) rfl)
  · exact fun y396 s395 => (eg_two C.hX.calm (eg_name (α := Int) l7 rfl (fun _ => rfl)) (eg_name (α := Int) l8 rfl (fun _ => rfl)))
  · intro H397 sb398 N y396 s395
    replace fr := fr.up sb398
    try replace hR := hR.up sb398
    refine w_ifR (mc := (((modR y396.2 y332) : R _).bind fun x399 => (.ok (!pyEq x399 (0 : Int))))) fr (et_ne (α := Int) (ma := true) (mb := true) C.hu (ev_mod (ma := true) (mb := true) (md := true) (ev_var (md := true) n8 rfl rfl) (ev_var (md := true) n4 rfl rfl) rfl) (ev_int (md := true) rfl) rfl) (fun nx' => ?_) ?_ (he := by rfl)
    · skip
      exact w_ret (m1 := (((((((((((((((ixR y364 y396.1) : R _).bind fun x400 => (catR ([(0 : Int)] : (List Int)) x400)) : R _).bind fun x401 => (.ok (x401, (())))) : R _).bind fun x402 => (.ok (y332, x402))) : R _).bind fun x403 => (.ok (("weighed" : PySem.Str), x403))) : R _).bind fun x404 => (.ok (T3.mk x404.1 x404.2.1 x404.2.2.1))) : R _).bind fun x405 => (.ok (Sum.inl x405 : ((T3 PySem.Str Int (List Int)) ⊕ (PySem.Str × (List Int)))))) : R _).bind fun x406 => (.ok (Sum.inr x406 : ((T1 PySem.Str) ⊕ ((T3 PySem.Str Int (List Int)) ⊕ (PySem.Str × (List Int)))))))) (g := fun z => .rt z) fr hR (Ev.inr (m := (((((((((((((ixR y364 y396.1) : R _).bind fun x400 => (catR ([(0 : Int)] : (List Int)) x400)) : R _).bind fun x401 => (.ok (x401, (())))) : R _).bind fun x402 => (.ok (y332, x402))) : R _).bind fun x403 => (.ok (("weighed" : PySem.Str), x403))) : R _).bind fun x404 => (.ok (T3.mk x404.1 x404.2.1 x404.2.2.1))) : R _).bind fun x405 => (.ok (Sum.inl x405 : ((T3 PySem.Str Int (List Int)) ⊕ (PySem.Str × (List Int))))))) (Ev.inl (m := (((((((((((ixR y364 y396.1) : R _).bind fun x400 => (catR ([(0 : Int)] : (List Int)) x400)) : R _).bind fun x401 => (.ok (x401, (())))) : R _).bind fun x402 => (.ok (y332, x402))) : R _).bind fun x403 => (.ok (("weighed" : PySem.Str), x403))) : R _).bind fun x404 => (.ok (T3.mk x404.1 x404.2.1 x404.2.2.1)))) (ev_tup (md := true) tup3 (ea_cons (md := true) (ev_str (md := true) rfl) (ea_cons (md := true) (ev_var (md := true) n4 rfl rfl) (ea_cons (md := true) (EvO.fz (ev_cat (md := true) (EvO.fz (ev_lst (md := true) (el_cons (md := true) (ev_int (md := true) rfl) (el_nil (α := Int) rfl) rfl))) (ev_ixL (md := true) (mb := true) (ev_var (md := true) n5 rfl rfl) (ev_var (md := true) n7 rfl rfl) rfl) rfl)) (ea_nil (md := true) rfl) rfl) rfl) rfl) rfl) rfl) rfl) (fun _ h => h) rfl
    exact w_endM (s := ()) [7, 8] rfl rfl
  exact w_ret (m1 := (((((((((((((mapR (fun y409 => (divR y409 y332)) y394) : R _).bind fun x414 => (catR ([(0 : Int)] : (List Int)) x414)) : R _).bind fun x415 => (.ok (x415, (())))) : R _).bind fun x416 => (.ok (("lent" : PySem.Str), x416))) : R _).bind fun x417 => (.ok (x417.1, x417.2.1))) : R _).bind fun x418 => (.ok (Sum.inr x418 : ((T3 PySem.Str Int (List Int)) ⊕ (PySem.Str × (List Int)))))) : R _).bind fun x419 => (.ok (Sum.inr x419 : ((T1 PySem.Str) ⊕ ((T3 PySem.Str Int (List Int)) ⊕ (PySem.Str × (List Int)))))))) (g := fun z => z) fr hR (Ev.inr (m := (((((((((((mapR (fun y409 => (divR y409 y332)) y394) : R _).bind fun x414 => (catR ([(0 : Int)] : (List Int)) x414)) : R _).bind fun x415 => (.ok (x415, (())))) : R _).bind fun x416 => (.ok (("lent" : PySem.Str), x416))) : R _).bind fun x417 => (.ok (x417.1, x417.2.1))) : R _).bind fun x418 => (.ok (Sum.inr x418 : ((T3 PySem.Str Int (List Int)) ⊕ (PySem.Str × (List Int))))))) (Ev.inr (m := (((((((((mapR (fun y409 => (divR y409 y332)) y394) : R _).bind fun x414 => (catR ([(0 : Int)] : (List Int)) x414)) : R _).bind fun x415 => (.ok (x415, (())))) : R _).bind fun x416 => (.ok (("lent" : PySem.Str), x416))) : R _).bind fun x417 => (.ok (x417.1, x417.2.1)))) (ev_tup (md := true) tup2 (ea_cons (md := true) (ev_str (md := true) rfl) (ea_cons (md := true) (EvO.fz (ev_cat (md := true) (EvO.fz (ev_lst (md := true) (el_cons (md := true) (ev_int (md := true) rfl) (el_nil (α := Int) rfl) rfl))) (EvO.fz (ev_map (mi := true) (α := Int) (β := Int) (mx := (.ok y394)) (g := (fun y409 => (divR y409 y332))) (own := [("product", 8)]) (Γx := fun y409 : Int => [.fr (α := (Int × (Tu (Int × Int)))) t.1, .fr (α := (List Int)) t.2.1, .fr (α := (List Int)) t.2.2.1, .fr (α := (List (List Int))) y278, .fr (α := Int) y332, .fr (α := (List (List Int))) y364, .fr (α := (List Int)) y394, .un, .fr (α := Int) y409]) (is := [8]) C.hX (ei_list (ev_var (md := true) n6 rfl rfl)) (.inl rfl) (by decide +kernel) (no1 (fun _ => rfl)) (by decide) (fun X411 b410 y409 => have h412 := b410.ok C.hX; (eg_name (α := Int) (lc_mk (i := 8) (x := "product") h412.toXN (by decide +kernel)) rfl (fun _ => rfl))) (fun X411 b410 D413 y409 => have h412 := b410.ok C.hX; (ev_div (ma := true) (mb := true) (md := true) (ev_var (md := true) (nm_mk (i := 8) (x := "product") h412.toXN (by decide +kernel)) rfl rfl) (ev_var (md := true) (nm_mk (i := 4) (x := "many") h412.toXN (by decide +kernel)) rfl rfl) rfl)) rfl)) rfl)) (ea_nil (md := true) rfl) rfl) rfl) rfl) rfl) rfl) (fun _ h => h) rfl
theorem gd_alike {P : Program} {w : World} {K : PySem.W.Frag} {mg : PySem.Str → Option Value} {base : Heap} (fc : Fac fe fa fn K mg) : Gd P w K mg base "alike" (spF K (τ := (Int × (Tu (Int × Int))) × (List Int) × (List Int) × Unit) (ρ := ((T1 PySem.Str) ⊕ ((T3 PySem.Str Int (List Int)) ⊕ (PySem.Str × (List Int))))) 3 m_alike) 3 4 :=
  gd_F 10 20 fc rfl rfl sc_alike rfl bn_alike fun X _ _ _ _ _ C H0 qs rt A B fr hR t => b_alike (by omega) X C H0 qs rt A B fr hR t
theorem sc_law_refused : FnScope ["web", "one", "other", "right", "e"] ["web", "one", "other"] dd__law_refused.scope := ⟨rfl, rfl, rfl, by decide +kernel, rfl, by decide +kernel, by decide +kernel⟩
theorem bn_law_refused : BindE dd__law_refused ["web", "one", "other"] := fun _ _ _ _ _ _ us hl => match us, hl with | [_, _, _], _ => rfl
theorem b_law_refused {k : Nat} (hk : 4 ≤ k) (X : Cx) (C : Cb fe fa fn X (["web", "one", "other", "right", "e"] : List PySem.Str) dd__law_refused.scope k) (H0 : Hp) (qs : List Addr) (rt : VK) (A : Bool → Prop) (B : Exc → Prop) (fr : Fr X H0 B) (hR : RtF (ρ := Bool) X H0 qs rt A) (t : (Int × (Tu (Int × Int))) × (List Int) × (List Int) × Unit) :
    W X H0 qs rt (fun _ H => rt .non H) A B [.fr (α := (Int × (Tu (Int × Int)))) t.1, .fr (α := (List Int)) t.2.1, .fr (α := (List Int)) t.2.2.1, .un, .un] dd__law_refused.body (m_law_refused t) := by
  have n3 : Nm X 3 "right" := nm_mk C.hX.toXN (by decide +kernel)
  have l3 : Lc X 3 "right" := lc_mk C.hX.toXN (by decide +kernel)
  have l4 : Lc X 4 "e" := lc_mk C.hX.toXN (by decide +kernel)
  have g_OwingError : Gn X "OwingError" := gn_mk C.hX.toXN (by decide +kernel)
  have f_ValueError : X.mg "ValueError" = none := C.fc.free 52
  have f_isinstance : X.mg "isinstance" = none := C.fc.free 43
  have k_BadHouse : X.mg "BadHouse" = some (.ref (He.ga X.K "BadHouse")) := C.fc.glo 8
  have k_BadStanding : X.mg "BadStanding" = some (.ref (He.ga X.K "BadStanding")) := C.fc.glo 6
  have k_OwingError : X.mg "OwingError" = some (.ref (He.ga X.K "OwingError")) := C.fc.glo 0
  have d_alike : Dn X "alike" (spF X.K (τ := (Int × (Tu (Int × Int))) × (List Int) × (List Int) × Unit) (ρ := ((T1 PySem.Str) ⊕ ((T3 PySem.Str Int (List Int)) ⊕ (PySem.Str × (List Int))))) 3 m_alike) 3 := (gd_alike C.fc).dn C.rm (by omega)
  refine w_asg (α := Bool) (Γ' := fun y226 : Bool => [.fr (α := (Int × (Tu (Int × Int)))) t.1, .fr (α := (List Int)) t.2.1, .fr (α := (List Int)) t.2.2.1, .fr (α := Bool) y226, .un]) fr l3 (he := by rfl) ?_ fun y226 => ?_
  · exact (ev_bool (md := true) rfl)
  refine w_try (S := Bool) (mb := (((m_alike (t.1, t.2.1, t.2.2.1, ())) : R ((T1 PySem.Str) ⊕ ((T3 PySem.Str Int (List Int)) ⊕ (PySem.Str × (List Int))))).bind fun _ => .ok y226)) (h := (fun cc => match cc with | .badStanding => R.sure ((((if true = true then (if true = true then (R.ok (!false)) else R.ok false) else R.ok false) : R Bool).bind fun y427 => (.ok y427)) : R Bool) | _ => .stuck)) (Γs := fun s227 : Bool => [.fr (α := (Int × (Tu (Int × Int)))) t.1, .fr (α := (List Int)) t.2.1, .fr (α := (List Int)) t.2.2.1, .fr (α := Bool) s227, .un]) (f := fun s227 : Bool => (.ok s227)) C.hX.calm fr C.sk C.ff l4 (by rw [C.hX.hs]; decide +kernel) ⟨g_OwingError.gl, g_OwingError.hd, .inl k_OwingError⟩ ?_ ?_ (fun s227 => ?_) (by intro s; rfl) rfl
  · intro X228 u229
    have h230 := u229.hX C.hX
    exact (tb_expr (α := ((T1 PySem.Str) ⊕ ((T3 PySem.Str Int (List Int)) ⊕ (PySem.Str × (List Int))))) (g := y226) (ev_call (md := true) (u229.dnF d_alike) (gn_mk (x := "alike") h230.toXN (by decide +kernel)) (ea_cons (md := true) (ev_var (md := true) (nm_mk (i := 0) (x := "web") h230.toXN (by decide +kernel)) rfl rfl) (ea_cons (md := true) (ev_var (md := true) (nm_mk (i := 1) (x := "one") h230.toXN (by decide +kernel)) rfl rfl) (ea_cons (md := true) (ev_var (md := true) (nm_mk (i := 2) (x := "other") h230.toXN (by decide +kernel)) rfl rfl) (ea_nil (md := true) rfl) rfl) rfl) rfl) rfl rfl) rfl rfl)
  · intro cc; cases cc
    · exact .inl rfl
    · exact .inl rfl
    · exact .inl rfl
    · refine .inr ⟨_, rfl, He.exm_ok (x := "BadStanding") (y := "OwingError") (b := true) (C.fc.s.d.fact 57 rfl), ?_⟩
      intro X' a422 su423 H425 sb426 N
      have hs424 := su423.hX C.hX.toXN
      replace fr := su423.fr H425
      refine w_asg (α := Bool) (Γ' := fun y427 : Bool => [.fr (α := (Int × (Tu (Int × Int)))) t.1, .fr (α := (List Int)) t.2.1, .fr (α := (List Int)) t.2.2.1, .fr (α := Bool) y427, .fr (α := ExV) (ExV.mk a422)]) fr (lc_mk (i := 3) (x := "right") hs424 (by decide +kernel)) (he := by rfl) ?_ fun y427 => ?_
      · exact (ev_and (ma := true) (mb := true) (md := true) (ev_isE (md := true) (b := true) su423 (exc_of (x := "BadStanding") (C.fc.s.fact 0 rfl)) (gn_mk (x := "isinstance") hs424 (by decide +kernel)) f_isinstance (nm_mk (i := 4) (x := "e") hs424 (by decide +kernel)) rfl (pe_own' (gn_mk (x := "BadStanding") hs424 (by decide +kernel)) (su423.some k_BadStanding)) own_rel (kit_of' (x := "BadStanding") (y := "BadStanding") (C.fc.s.fact 1 rfl)) rfl) (ev_and (ma := true) (mb := true) (md := true) (ev_isE (md := true) (b := true) su423 (exc_of (x := "BadStanding") (C.fc.s.fact 0 rfl)) (gn_mk (x := "isinstance") hs424 (by decide +kernel)) f_isinstance (nm_mk (i := 4) (x := "e") hs424 (by decide +kernel)) rfl (pe_bltn (v := .ty "ValueError") (u := .type "ValueError") (gn_mk (x := "ValueError") hs424 (by decide +kernel)).gl (su423.none f_ValueError) (by decide +kernel) rfl (by decide +kernel) (gn_mk (x := "ValueError") hs424 (by decide +kernel)).hd) ty_rel (kitB_of (x := "BadStanding") (C.fc.s.fact 2 rfl)) rfl) (ev_one (md := true) (ev_not (ma := true) (md := true) (ev_isE (md := true) (b := false) su423 (exc_of (x := "BadStanding") (C.fc.s.fact 0 rfl)) (gn_mk (x := "isinstance") hs424 (by decide +kernel)) f_isinstance (nm_mk (i := 4) (x := "e") hs424 (by decide +kernel)) rfl (pe_own' (gn_mk (x := "BadHouse") hs424 (by decide +kernel)) (su423.some k_BadHouse)) own_rel (kit_of' (x := "BadStanding") (y := "BadHouse") (C.fc.s.fact 3 rfl)) rfl) rfl)) rfl) rfl)
      exact w_end (s := y427) [4] rfl rfl
    · exact .inl rfl
    · exact .inl rfl
    · exact .inl rfl
    · exact .inl rfl
    · exact .inl rfl
    · exact .inl rfl
  exact w_ret (m1 := (.ok s227)) (g := fun z => z) fr hR (ev_var (md := true) n3 rfl rfl) (fun _ h => h) rfl
theorem gd_law_refused {P : Program} {w : World} {K : PySem.W.Frag} {mg : PySem.Str → Option Value} {base : Heap} (fc : Fac fe fa fn K mg) : Gd P w K mg base "_law_refused" (spF K (τ := (Int × (Tu (Int × Int))) × (List Int) × (List Int) × Unit) (ρ := Bool) 3 m_law_refused) 3 5 :=
  gd_F 24 36 fc rfl rfl sc_law_refused rfl bn_law_refused fun X _ _ _ _ _ C H0 qs rt A B fr hR t => b_law_refused (by omega) X C H0 qs rt A B fr hR t
theorem sc_less_m11 : FnScope ["one", "other", "house"] ["one", "other"] dd_less.scope := ⟨rfl, rfl, rfl, by decide +kernel, rfl, by decide +kernel, by decide +kernel⟩
theorem bn_less_m11 : BindE dd_less ["one", "other"] := fun _ _ _ _ _ _ us hl => match us, hl with | [_, _], _ => rfl
theorem b_less_m11 {k : Nat} (hk : 0 ≤ k) (X : Cx) (C : Cb fe fa fn X (["one", "other", "house"] : List PySem.Str) dd_less.scope k) (H0 : Hp) (qs : List Addr) (rt : VK) (A : (List Int) → Prop) (B : Exc → Prop) (fr : Fr X H0 B) (hR : RtO (ρ := Int) X H0 qs rt A) (t : (List Int) × (List Int) × Unit) :
    W X H0 qs rt (fun _ H => rt .non H) A B [.pm (α := (List Int)) H0 t.1, .pm (α := (List Int)) H0 t.2.1, .un] dd_less.body (m_less t) := by
  have n0 : Nm X 0 "one" := nm_mk C.hX.toXN (by decide +kernel)
  have n1 : Nm X 1 "other" := nm_mk C.hX.toXN (by decide +kernel)
  have g_BadStanding : Gn X "BadStanding" := gn_mk C.hX.toXN (by decide +kernel)
  have g_len : Gn X "len" := gn_mk C.hX.toXN (by decide +kernel)
  have g_range : Gn X "range" := gn_mk C.hX.toXN (by decide +kernel)
  have f_len : X.mg "len" = none := C.fc.free 39
  have f_range : X.mg "range" = none := C.fc.free 40
  have x_BadStanding : Xn X .badStanding := C.xn .badStanding 6 7
  refine w_ifR (ma := (.exc .badStanding)) (mc := (.ok (!pyEq (t.1.length : Int) (t.2.1.length : Int)))) fr (et_ne (α := Int) (ma := true) (mb := true) C.hu (ev_lenL (ma := false) (md := true) g_len f_len (ev_pm n0 rfl rfl) rfl) (ev_lenL (ma := false) (md := true) g_len f_len (ev_pm n1 rfl rfl) rfl) rfl) (fun nx' => ?_) ?_ (he := by rfl)
  · skip
    exact w_raise .badStanding C.hX.calm fr x_BadStanding g_BadStanding rfl
  exact w_retO (m1 := (((rngR 0 (t.1.length : Int)) : R _).bind fun x455 => (mapR (fun y448 => (((ixR t.1 y448) : R _).bind fun x453 => (((ixR t.2.1 y448) : R _).bind fun x454 => (.ok (x453 - x454))))) x455))) (g := fun z => z) fr hR (ev_map (mi := true) (α := Int) (β := Int) (mx := (rngR 0 (t.1.length : Int))) (g := (fun y448 => (((ixR t.1 y448) : R _).bind fun x453 => (((ixR t.2.1 y448) : R _).bind fun x454 => (.ok (x453 - x454)))))) (own := [("house", 2)]) (Γx := fun y448 : Int => [.pm (α := (List Int)) H0 t.1, .pm (α := (List Int)) H0 t.2.1, .fr (α := Int) y448]) (is := [2]) C.hX (ei_range1 (m1 := .ok (t.1.length : Int)) (ma := true) g_range f_range (ev_lenL (ma := false) (md := true) g_len f_len (ev_pm n0 rfl rfl) rfl) (rng_he _)) (.inl rfl) (by decide +kernel) (no1 (fun _ => rfl)) (by decide) (fun X450 b449 y448 => have h451 := b449.ok C.hX; (eg_name (α := Int) (lc_mk (i := 2) (x := "house") h451.toXN (by decide +kernel)) rfl (fun _ => rfl))) (fun X450 b449 D452 y448 => have h451 := b449.ok C.hX; (ev_sub (ma := true) (mb := true) (md := true) (Ev.flat (ma := false) (ev_ixL (md := false) (mb := true) (ev_pm (nm_mk (i := 0) (x := "one") h451.toXN (by decide +kernel)) rfl rfl) (ev_var (md := true) (nm_mk (i := 2) (x := "house") h451.toXN (by decide +kernel)) rfl rfl) rfl)) (Ev.flat (ma := false) (ev_ixL (md := false) (mb := true) (ev_pm (nm_mk (i := 1) (x := "other") h451.toXN (by decide +kernel)) rfl rfl) (ev_var (md := true) (nm_mk (i := 2) (x := "house") h451.toXN (by decide +kernel)) rfl rfl) rfl)) rfl)) rfl) (fun _ h => h) rfl
theorem gd_less_m11 {P : Program} {w : World} {K : PySem.W.Frag} {mg : PySem.Str → Option Value} {base : Heap} (fc : Fac fe fa fn K mg) : Gd P w K mg base "less" (spOM K (τ := (List Int) × (List Int) × Unit) (ρ := Int) [true, true] 2 m_less) 2 1 :=
  gd_OM 1 11 fc rfl rfl sc_less_m11 rfl bn_less_m11 fun X _ _ _ _ _ C H0 qs rt A B fr hR t => b_less_m11 (by omega) X C H0 qs rt A B fr hR t
theorem sc_alike_m011 : FnScope ["web", "one", "other", "table", "many", "by", "products", "at", "product"] ["web", "one", "other"] dd_alike.scope := ⟨rfl, rfl, rfl, by decide +kernel, rfl, by decide +kernel, by decide +kernel⟩
theorem bn_alike_m011 : BindE dd_alike ["web", "one", "other"] := fun _ _ _ _ _ _ us hl => match us, hl with | [_, _, _], _ => rfl
theorem b_alike_m011 {k : Nat} (hk : 3 ≤ k) (X : Cx) (C : Cb fe fa fn X (["web", "one", "other", "table", "many", "by", "products", "at", "product"] : List PySem.Str) dd_alike.scope k) (H0 : Hp) (qs : List Addr) (rt : VK) (A : ((T1 PySem.Str) ⊕ ((T3 PySem.Str Int (List Int)) ⊕ (PySem.Str × (List Int)))) → Prop) (B : Exc → Prop) (fr : Fr X H0 B) (hR : RtF (ρ := ((T1 PySem.Str) ⊕ ((T3 PySem.Str Int (List Int)) ⊕ (PySem.Str × (List Int))))) X H0 qs rt A) (t : (Int × (Tu (Int × Int))) × (List Int) × (List Int) × Unit) :
    W X H0 qs rt (fun _ H => rt .non H) A B [.fr (α := (Int × (Tu (Int × Int)))) t.1, .pm (α := (List Int)) H0 t.2.1, .pm (α := (List Int)) H0 t.2.2.1, .un, .un, .un, .un, .un, .un] dd_alike.body (m_alike t) := by
  have n0 : Nm X 0 "web" := nm_mk C.hX.toXN (by decide +kernel)
  have n1 : Nm X 1 "one" := nm_mk C.hX.toXN (by decide +kernel)
  have n2 : Nm X 2 "other" := nm_mk C.hX.toXN (by decide +kernel)
  have n3 : Nm X 3 "table" := nm_mk C.hX.toXN (by decide +kernel)
  have n4 : Nm X 4 "many" := nm_mk C.hX.toXN (by decide +kernel)
  have n5 : Nm X 5 "by" := nm_mk C.hX.toXN (by decide +kernel)
  have n6 : Nm X 6 "products" := nm_mk C.hX.toXN (by decide +kernel)
  have n7 : Nm X 7 "at" := nm_mk C.hX.toXN (by decide +kernel)
  have n8 : Nm X 8 "product" := nm_mk C.hX.toXN (by decide +kernel)
  have l3 : Lc X 3 "table" := lc_mk C.hX.toXN (by decide +kernel)
  have l4 : Lc X 4 "many" := lc_cell C.hX.toXN (C.fnt _) (by decide +kernel)
  have l5 : Lc X 5 "by" := lc_mk C.hX.toXN (by decide +kernel)
  have l6 : Lc X 6 "products" := lc_mk C.hX.toXN (by decide +kernel)
  have l7 : Lc X 7 "at" := lc_mk C.hX.toXN (by decide +kernel)
  have l8 : Lc X 8 "product" := lc_mk C.hX.toXN (by decide +kernel)
  have g_adjoint : Gn X "adjoint" := gn_mk C.hX.toXN (by decide +kernel)
  have g_coins : Gn X "coins" := gn_mk C.hX.toXN (by decide +kernel)
  have g_det : Gn X "det" := gn_mk C.hX.toXN (by decide +kernel)
  have g_enumerate : Gn X "enumerate" := gn_mk C.hX.toXN (by decide +kernel)
  have g_less : Gn X "less" := gn_mk C.hX.toXN (by decide +kernel)
  have g_look_at_lengths : Gn X "look_at_lengths" := gn_mk C.hX.toXN (by decide +kernel)
  have g_small_table : Gn X "small_table" := gn_mk C.hX.toXN (by decide +kernel)
  have g_times : Gn X "times" := gn_mk C.hX.toXN (by decide +kernel)
  have f_enumerate : X.mg "enumerate" = none := C.fc.free 48
  have d_look_at_lengths : Dn X "look_at_lengths" (spF X.K (τ := (Int × (Tu (Int × Int))) × (List Int) × (List Int) × Unit) (ρ := Unit) 3 m_look_at_lengths) 3 := (gd_look_at_lengths C.fc).dn C.rm (by omega)
  have d_coins : Dn X "coins" (spF X.K (τ := (List Int) × Unit) (ρ := Int) 1 m_coins) 1 := (gd_coins C.fc).dn C.rm (by omega)
  have d_small_table : Dn X "small_table" (spO X.K (τ := (Int × (Tu (Int × Int))) × Unit) (ρ := (List Int)) 1 m_small_table) 1 := (gd_small_table C.fc).dn C.rm (by omega)
  have d_det : Dn X "det" (spF X.K (τ := (List (List Int)) × Unit) (ρ := Int) 1 m_det) 1 := (gd_det C.fc).dn C.rm (by omega)
  have d_adjoint : Dn X "adjoint" (spO X.K (τ := (List (List Int)) × Unit) (ρ := (List Int)) 1 m_adjoint) 1 := (gd_adjoint C.fc).dn C.rm (by omega)
  have d_times : Dn X "times" (spO X.K (τ := (List (List Int)) × (List Int) × Unit) (ρ := Int) 2 m_times) 2 := (gd_times C.fc).dn C.rm (by omega)
  have d_less_m11 : Dn X "less" (spOM X.K (τ := (List Int) × (List Int) × Unit) (ρ := Int) [true, true] 2 m_less) 2 := (gd_less_m11 C.fc).dn C.rm (by omega)
  refine w_expr (α := Unit) (m1 := (m_look_at_lengths (t.1, t.2.1, t.2.2.1, ()))) fr ?_ ?_ (he := by rfl)
  · exact (Ev.flat (ma := false) (ev_call (md := false) d_look_at_lengths g_look_at_lengths (ea_cons (md := false) (ev_var (md := false) n0 rfl rfl) (ea_cons (md := false) (ev_pm n1 rfl rfl) (ea_cons (md := false) (ev_pm n2 rfl rfl) (ea_nil (md := false) rfl) rfl) rfl) rfl) rfl rfl))
  refine w_ifR (mc := (((m_coins (t.2.1, ())) : R _).bind fun x443 => (((m_coins (t.2.2.1, ())) : R _).bind fun x444 => (.ok (!pyEq x443 x444))))) fr (et_ne (α := Int) (ma := true) (mb := true) C.hu (Ev.flat (ma := false) (ev_call (md := false) d_coins g_coins (ea_cons (md := false) (ev_pm n1 rfl rfl) (ea_nil (md := false) rfl) rfl) rfl rfl)) (Ev.flat (ma := false) (ev_call (md := false) d_coins g_coins (ea_cons (md := false) (ev_pm n2 rfl rfl) (ea_nil (md := false) rfl) rfl) rfl rfl)) rfl) (fun nx' => ?_) ?_ (he := by rfl)
  · skip
    exact w_ret (m1 := (.ok (Sum.inl (T1.mk ("sums" : PySem.Str)) : ((T1 PySem.Str) ⊕ ((T3 PySem.Str Int (List Int)) ⊕ (PySem.Str × (List Int))))))) (g := fun z => z) fr hR (Ev.inl (m := (.ok (T1.mk ("sums" : PySem.Str)))) (ev_tup (md := true) tup1 (ea_cons (md := true) (ev_str (md := true) rfl) (ea_nil (md := true) rfl) rfl) rfl) rfl) (fun _ h => h) rfl
  refine w_asg (α := (List (List Int))) (Γ' := fun y445 : (List (List Int)) => [.fr (α := (Int × (Tu (Int × Int)))) t.1, .pm (α := (List Int)) H0 t.2.1, .pm (α := (List Int)) H0 t.2.2.1, .fr (α := (List (List Int))) y445, .un, .un, .un, .un, .un]) fr l3 (he := by rfl) ?_ fun y445 => ?_
  · exact (EvO.fz (ev_callO (md := true) d_small_table g_small_table (ea_cons (md := true) (ev_var (md := true) n0 rfl rfl) (ea_nil (md := true) rfl) rfl) rfl rfl))
  refine w_asg (α := Int) (Γ' := fun y446 : Int => [.fr (α := (Int × (Tu (Int × Int)))) t.1, .pm (α := (List Int)) H0 t.2.1, .pm (α := (List Int)) H0 t.2.2.1, .fr (α := (List (List Int))) y445, .fr (α := Int) y446, .un, .un, .un, .un]) fr l4 (he := by rfl) ?_ fun y446 => ?_
  · exact (ev_call (md := true) d_det g_det (ea_cons (md := true) (ev_var (md := true) n3 rfl rfl) (ea_nil (md := true) rfl) rfl) rfl rfl)
  refine w_asg (α := (List (List Int))) (Γ' := fun y447 : (List (List Int)) => [.fr (α := (Int × (Tu (Int × Int)))) t.1, .pm (α := (List Int)) H0 t.2.1, .pm (α := (List Int)) H0 t.2.2.1, .fr (α := (List (List Int))) y445, .fr (α := Int) y446, .fr (α := (List (List Int))) y447, .un, .un, .un]) fr l5 (he := by rfl) ?_ fun y447 => ?_
  · exact (EvO.fz (ev_callO (md := true) d_adjoint g_adjoint (ea_cons (md := true) (ev_var (md := true) n3 rfl rfl) (ea_nil (md := true) rfl) rfl) rfl rfl))
  refine w_asg (α := (List Int)) (Γ' := fun y461 : (List Int) => [.fr (α := (Int × (Tu (Int × Int)))) t.1, .pm (α := (List Int)) H0 t.2.1, .pm (α := (List Int)) H0 t.2.2.1, .fr (α := (List (List Int))) y445, .fr (α := Int) y446, .fr (α := (List (List Int))) y447, .fr (α := (List Int)) y461, .un, .un]) fr l6 (he := by rfl) ?_ fun y461 => ?_
  · exact (EvO.fz (ev_callO (md := true) d_times g_times (ea_cons (md := true) (ev_var (md := true) n5 rfl rfl) (ea_cons (md := true) (EvO.fz (ev_cut (md := true) (EvO.fz (ev_callOM (mk := [true, true]) (md := true) d_less_m11 g_less (eam_P (md := true) (ev_pm n1 rfl rfl) (eam_P (md := true) (ev_pm n2 rfl rfl) (eam_nil (md := true) (mk := []) rfl) rfl) rfl) rfl rfl)) (ep_of (ma := true) (ev_int (md := true) rfl) rfl) ep_no rfl)) (ea_nil (md := true) rfl) rfl) rfl) rfl rfl))
  refine w_forM (α := (Int × Int)) (S := Unit) (mx := (.ok (enumL y461))) (bd := (fun y463 s462 => (((((modR y463.2 y446) : R _).bind fun x466 => (.ok (!pyEq x466 (0 : Int)))) : R Bool).bind fun c475 => if c475 = true then (((((((((((((((((ixR y447 y463.1) : R _).bind fun x467 => (catR ([(0 : Int)] : (List Int)) x467)) : R _).bind fun x468 => (.ok (x468, (())))) : R _).bind fun x469 => (.ok (y446, x469))) : R _).bind fun x470 => (.ok (("weighed" : PySem.Str), x470))) : R _).bind fun x471 => (.ok (T3.mk x471.1 x471.2.1 x471.2.2.1))) : R _).bind fun x472 => (.ok (Sum.inl x472 : ((T3 PySem.Str Int (List Int)) ⊕ (PySem.Str × (List Int)))))) : R _).bind fun x473 => (.ok (Sum.inr x473 : ((T1 PySem.Str) ⊕ ((T3 PySem.Str Int (List Int)) ⊕ (PySem.Str × (List Int))))))) : R ((T1 PySem.Str) ⊕ ((T3 PySem.Str Int (List Int)) ⊕ (PySem.Str × (List Int))))).bind fun z474 => .ok (.rt z474)) else (.ok (.nx ()))))) (s0 := ()) (Γs := fun s462 : Unit => [.fr (α := (Int × (Tu (Int × Int)))) t.1, .pm (α := (List Int)) H0 t.2.1, .pm (α := (List Int)) H0 t.2.2.1, .fr (α := (List (List Int))) y445, .fr (α := Int) y446, .fr (α := (List (List Int))) y447, .fr (α := (List Int)) y461, .un, .un]) (Γb := fun (y463 : (Int × Int)) (s462 : Unit) => [.fr (α := (Int × (Tu (Int × Int)))) t.1, .pm (α := (List Int)) H0 t.2.1, .pm (α := (List Int)) H0 t.2.2.1, .fr (α := (List (List Int))) y445, .fr (α := Int) y446, .fr (α := (List (List Int))) y447, .fr (α := (List Int)) y461, .fr (α := Int) y463.1, .fr (α := Int) y463.2]) (is := [7, 8]) C.hX.calm fr (he := by rfl) ?_ ?_ ?_ fun s462 => ?_
  · exact (ei_enum g_enumerate f_enumerate (ev_var (md := true) n6 rfl rfl) rfl)
  · exact fun y463 s462 => (eg_two C.hX.calm (eg_name (α := Int) l7 rfl (fun _ => rfl)) (eg_name (α := Int) l8 rfl (fun _ => rfl)))
  · intro H464 sb465 N y463 s462
    replace fr := fr.up sb465
    try replace hR := hR.up sb465
    refine w_ifR (mc := (((modR y463.2 y446) : R _).bind fun x466 => (.ok (!pyEq x466 (0 : Int))))) fr (et_ne (α := Int) (ma := true) (mb := true) C.hu (ev_mod (ma := true) (mb := true) (md := true) (ev_var (md := true) n8 rfl rfl) (ev_var (md := true) n4 rfl rfl) rfl) (ev_int (md := true) rfl) rfl) (fun nx' => ?_) ?_ (he := by rfl)
    · skip
      exact w_ret (m1 := (((((((((((((((ixR y447 y463.1) : R _).bind fun x467 => (catR ([(0 : Int)] : (List Int)) x467)) : R _).bind fun x468 => (.ok (x468, (())))) : R _).bind fun x469 => (.ok (y446, x469))) : R _).bind fun x470 => (.ok (("weighed" : PySem.Str), x470))) : R _).bind fun x471 => (.ok (T3.mk x471.1 x471.2.1 x471.2.2.1))) : R _).bind fun x472 => (.ok (Sum.inl x472 : ((T3 PySem.Str Int (List Int)) ⊕ (PySem.Str × (List Int)))))) : R _).bind fun x473 => (.ok (Sum.inr x473 : ((T1 PySem.Str) ⊕ ((T3 PySem.Str Int (List Int)) ⊕ (PySem.Str × (List Int)))))))) (g := fun z => .rt z) fr hR (Ev.inr (m := (((((((((((((ixR y447 y463.1) : R _).bind fun x467 => (catR ([(0 : Int)] : (List Int)) x467)) : R _).bind fun x468 => (.ok (x468, (())))) : R _).bind fun x469 => (.ok (y446, x469))) : R _).bind fun x470 => (.ok (("weighed" : PySem.Str), x470))) : R _).bind fun x471 => (.ok (T3.mk x471.1 x471.2.1 x471.2.2.1))) : R _).bind fun x472 => (.ok (Sum.inl x472 : ((T3 PySem.Str Int (List Int)) ⊕ (PySem.Str × (List Int))))))) (Ev.inl (m := (((((((((((ixR y447 y463.1) : R _).bind fun x467 => (catR ([(0 : Int)] : (List Int)) x467)) : R _).bind fun x468 => (.ok (x468, (())))) : R _).bind fun x469 => (.ok (y446, x469))) : R _).bind fun x470 => (.ok (("weighed" : PySem.Str), x470))) : R _).bind fun x471 => (.ok (T3.mk x471.1 x471.2.1 x471.2.2.1)))) (ev_tup (md := true) tup3 (ea_cons (md := true) (ev_str (md := true) rfl) (ea_cons (md := true) (ev_var (md := true) n4 rfl rfl) (ea_cons (md := true) (EvO.fz (ev_cat (md := true) (EvO.fz (ev_lst (md := true) (el_cons (md := true) (ev_int (md := true) rfl) (el_nil (α := Int) rfl) rfl))) (ev_ixL (md := true) (mb := true) (ev_var (md := true) n5 rfl rfl) (ev_var (md := true) n7 rfl rfl) rfl) rfl)) (ea_nil (md := true) rfl) rfl) rfl) rfl) rfl) rfl) rfl) (fun _ h => h) rfl
    exact w_endM (s := ()) [7, 8] rfl rfl
  exact w_ret (m1 := (((((((((((((mapR (fun y476 => (divR y476 y446)) y461) : R _).bind fun x481 => (catR ([(0 : Int)] : (List Int)) x481)) : R _).bind fun x482 => (.ok (x482, (())))) : R _).bind fun x483 => (.ok (("lent" : PySem.Str), x483))) : R _).bind fun x484 => (.ok (x484.1, x484.2.1))) : R _).bind fun x485 => (.ok (Sum.inr x485 : ((T3 PySem.Str Int (List Int)) ⊕ (PySem.Str × (List Int)))))) : R _).bind fun x486 => (.ok (Sum.inr x486 : ((T1 PySem.Str) ⊕ ((T3 PySem.Str Int (List Int)) ⊕ (PySem.Str × (List Int)))))))) (g := fun z => z) fr hR (Ev.inr (m := (((((((((((mapR (fun y476 => (divR y476 y446)) y461) : R _).bind fun x481 => (catR ([(0 : Int)] : (List Int)) x481)) : R _).bind fun x482 => (.ok (x482, (())))) : R _).bind fun x483 => (.ok (("lent" : PySem.Str), x483))) : R _).bind fun x484 => (.ok (x484.1, x484.2.1))) : R _).bind fun x485 => (.ok (Sum.inr x485 : ((T3 PySem.Str Int (List Int)) ⊕ (PySem.Str × (List Int))))))) (Ev.inr (m := (((((((((mapR (fun y476 => (divR y476 y446)) y461) : R _).bind fun x481 => (catR ([(0 : Int)] : (List Int)) x481)) : R _).bind fun x482 => (.ok (x482, (())))) : R _).bind fun x483 => (.ok (("lent" : PySem.Str), x483))) : R _).bind fun x484 => (.ok (x484.1, x484.2.1)))) (ev_tup (md := true) tup2 (ea_cons (md := true) (ev_str (md := true) rfl) (ea_cons (md := true) (EvO.fz (ev_cat (md := true) (EvO.fz (ev_lst (md := true) (el_cons (md := true) (ev_int (md := true) rfl) (el_nil (α := Int) rfl) rfl))) (EvO.fz (ev_map (mi := true) (α := Int) (β := Int) (mx := (.ok y461)) (g := (fun y476 => (divR y476 y446))) (own := [("product", 8)]) (Γx := fun y476 : Int => [.fr (α := (Int × (Tu (Int × Int)))) t.1, .pm (α := (List Int)) H0 t.2.1, .pm (α := (List Int)) H0 t.2.2.1, .fr (α := (List (List Int))) y445, .fr (α := Int) y446, .fr (α := (List (List Int))) y447, .fr (α := (List Int)) y461, .un, .fr (α := Int) y476]) (is := [8]) C.hX (ei_list (ev_var (md := true) n6 rfl rfl)) (.inl rfl) (by decide +kernel) (no1 (fun _ => rfl)) (by decide) (fun X478 b477 y476 => have h479 := b477.ok C.hX; (eg_name (α := Int) (lc_mk (i := 8) (x := "product") h479.toXN (by decide +kernel)) rfl (fun _ => rfl))) (fun X478 b477 D480 y476 => have h479 := b477.ok C.hX; (ev_div (ma := true) (mb := true) (md := true) (ev_var (md := true) (nm_mk (i := 8) (x := "product") h479.toXN (by decide +kernel)) rfl rfl) (ev_var (md := true) (nm_mk (i := 4) (x := "many") h479.toXN (by decide +kernel)) rfl rfl) rfl)) rfl)) rfl)) (ea_nil (md := true) rfl) rfl) rfl) rfl) rfl) rfl) (fun _ h => h) rfl
theorem gd_alike_m011 {P : Program} {w : World} {K : PySem.W.Frag} {mg : PySem.Str → Option Value} {base : Heap} (fc : Fac fe fa fn K mg) : Gd P w K mg base "alike" (spFM K (τ := (Int × (Tu (Int × Int))) × (List Int) × (List Int) × Unit) (ρ := ((T1 PySem.Str) ⊕ ((T3 PySem.Str Int (List Int)) ⊕ (PySem.Str × (List Int))))) [false, true, true] 3 m_alike) 3 4 :=
  gd_FM 10 20 fc rfl rfl sc_alike_m011 rfl bn_alike_m011 fun X _ _ _ _ _ C H0 qs rt A B fr hR t => b_alike_m011 (by omega) X C H0 qs rt A B fr hR t
theorem sc_law_whole : FnScope ["found"] ["found"] dd__law_whole.scope := ⟨rfl, rfl, rfl, by decide +kernel, rfl, by decide +kernel, by decide +kernel⟩
theorem bn_law_whole : BindE dd__law_whole ["found"] := fun _ _ _ _ _ _ us hl => match us, hl with | [_], _ => rfl
theorem b_law_whole {k : Nat} (hk : 0 ≤ k) (X : Cx) (C : Cb fe fa fn X (["found"] : List PySem.Str) dd__law_whole.scope k) (H0 : Hp) (qs : List Addr) (rt : VK) (A : Bool → Prop) (B : Exc → Prop) (fr : Fr X H0 B) (hR : RtF (ρ := Bool) X H0 qs rt A) (t : Int × Unit) :
    W X H0 qs rt (fun _ H => rt .non H) A B [.fr (α := Int) t.1] dd__law_whole.body (m_law_whole t) := by
  have n0 : Nm X 0 "found" := nm_mk C.hX.toXN (by decide +kernel)
  have g_bool : Gn X "bool" := gn_mk C.hX.toXN (by decide +kernel)
  have g_int : Gn X "int" := gn_mk C.hX.toXN (by decide +kernel)
  have g_isinstance : Gn X "isinstance" := gn_mk C.hX.toXN (by decide +kernel)
  have f_bool : X.mg "bool" = none := C.fc.free 51
  have f_int : X.mg "int" = none := C.fc.free 49
  have f_isinstance : X.mg "isinstance" = none := C.fc.free 43
  exact w_ret (m1 := (if true = true then (R.ok (!false)) else R.ok false)) (g := fun z => z) fr hR (ev_and (ma := true) (mb := true) (md := true) (ev_isi (ma := true) (md := true) (n := "int") (c := true) g_isinstance f_isinstance g_int f_int (by decide +kernel) (by decide +kernel) (ev_var (md := true) n0 rfl rfl) rfl) (ev_one (md := true) (ev_not (ma := true) (md := true) (ev_isi (ma := true) (md := true) (n := "bool") (c := false) g_isinstance f_isinstance g_bool f_bool (by decide +kernel) (by decide +kernel) (ev_var (md := true) n0 rfl rfl) rfl) rfl)) rfl) (fun _ h => h) rfl
theorem gd_law_whole {P : Program} {w : World} {K : PySem.W.Frag} {mg : PySem.Str → Option Value} {base : Heap} (fc : Fac fe fa fn K mg) : Gd P w K mg base "_law_whole" (spF K (τ := Int × Unit) (ρ := Bool) 1 m_law_whole) 1 1 :=
  gd_F 18 30 fc rfl rfl sc_law_whole rfl bn_law_whole fun X _ _ _ _ _ C H0 qs rt A B fr hR t => b_law_whole (by omega) X C H0 qs rt A B fr hR t
theorem sc_law_lent_m001 : FnScope ["ties", "standing", "script", "now", "one", "other"] ["ties", "standing", "script"] dd__law_lent.scope := ⟨rfl, rfl, rfl, by decide +kernel, rfl, by decide +kernel, by decide +kernel⟩
theorem bn_law_lent_m001 : BindE dd__law_lent ["ties", "standing", "script"] := fun _ _ _ _ _ _ us hl => match us, hl with | [_, _, _], _ => rfl
theorem b_law_lent_m001 {k : Nat} (hk : 0 ≤ k) (X : Cx) (C : Cb fe fa fn X (["ties", "standing", "script", "now", "one", "other"] : List PySem.Str) dd__law_lent.scope k) (H0 : Hp) (qs : List Addr) (rt : VK) (A : (List Int) → Prop) (B : Exc → Prop) (fr : Fr X H0 B) (hR : RtO (ρ := Int) X H0 qs rt A) (t : (List (Int × Int)) × (List Int) × (List Int) × Unit) :
    W X H0 qs rt (fun _ H => rt .non H) A B [.fr (α := (List (Int × Int))) t.1, .fr (α := (List Int)) t.2.1, .pm (α := (List Int)) H0 t.2.2.1, .un, .un, .un] dd__law_lent.body (m_law_lent t) := by
  have n0 : Nm X 0 "ties" := nm_mk C.hX.toXN (by decide +kernel)
  have n1 : Nm X 1 "standing" := nm_mk C.hX.toXN (by decide +kernel)
  have n2 : Nm X 2 "script" := nm_mk C.hX.toXN (by decide +kernel)
  have n3 : Nm X 3 "now" := nm_mk C.hX.toXN (by decide +kernel)
  have n4 : Nm X 4 "one" := nm_mk C.hX.toXN (by decide +kernel)
  have n5 : Nm X 5 "other" := nm_mk C.hX.toXN (by decide +kernel)
  have l3 : Lc X 3 "now" := lc_mk C.hX.toXN (by decide +kernel)
  have l4 : Lc X 4 "one" := lc_mk C.hX.toXN (by decide +kernel)
  have l5 : Lc X 5 "other" := lc_mk C.hX.toXN (by decide +kernel)
  have g_list : Gn X "list" := gn_mk C.hX.toXN (by decide +kernel)
  have f_list : X.mg "list" = none := C.fc.free 41
  refine w_asgO (α := Int) (Γ' := fun y534 : (List Int) => [.fr (α := (List (Int × Int))) t.1, .fr (α := (List Int)) t.2.1, .pm (α := (List Int)) H0 t.2.2.1, .ow (α := Int) y534, .un, .un]) fr l3 (he := by rfl) ?_ fun y534 => ?_
  · exact (ev_listL (md := true) g_list f_list (ev_var (md := true) n1 rfl rfl) rfl)
  refine w_for (α := (Int × Int)) (S := (List Int)) (mx := (.ok t.1)) (bd := (fun y536 s535 => (((((((ixR s535 y536.1) : R _).bind fun x539 => (((ixR t.2.2.1 y536.2) : R _).bind fun x540 => (.ok (x539 + x540)))) : R _).bind fun x541 => (((ixR t.2.2.1 y536.1) : R _).bind fun x542 => (.ok (x541 - x542)))) : R _).bind fun x550 => ((setR s535 y536.1 x550).bind fun y543 => (((((((ixR y543 y536.2) : R _).bind fun x544 => (((ixR t.2.2.1 y536.1) : R _).bind fun x545 => (.ok (x544 + x545)))) : R _).bind fun x546 => (((ixR t.2.2.1 y536.2) : R _).bind fun x547 => (.ok (x546 - x547)))) : R _).bind fun x549 => ((setR y543 y536.2 x549).bind fun y548 => (.ok y548))))))) (s0 := y534) (Γs := fun s535 : (List Int) => [.fr (α := (List (Int × Int))) t.1, .fr (α := (List Int)) t.2.1, .pm (α := (List Int)) H0 t.2.2.1, .ow (α := Int) s535, .un, .un]) (Γb := fun (y536 : (Int × Int)) (s535 : (List Int)) => [.fr (α := (List (Int × Int))) t.1, .fr (α := (List Int)) t.2.1, .pm (α := (List Int)) H0 t.2.2.1, .ow (α := Int) s535, .fr (α := Int) y536.1, .fr (α := Int) y536.2]) (is := [4, 5]) C.hX.calm fr (he := by rfl) ?_ ?_ ?_ fun s535 => ?_
  · exact (ei_list (ev_var (md := true) n0 rfl rfl))
  · exact fun y536 s535 => (eg_two C.hX.calm (eg_name (α := Int) l4 rfl (fun _ => rfl)) (eg_name (α := Int) l5 rfl (fun _ => rfl)))
  · intro H537 sb538 N y536 s535
    replace fr := fr.up sb538
    try replace hR := hR.up sb538
    refine w_setix (α := Int) (m1 := (((((ixR s535 y536.1) : R _).bind fun x539 => (((ixR t.2.2.1 y536.2) : R _).bind fun x540 => (.ok (x539 + x540)))) : R _).bind fun x541 => (((ixR t.2.2.1 y536.1) : R _).bind fun x542 => (.ok (x541 - x542))))) (mj := (.ok y536.1)) (Γ' := fun y543 : (List Int) => [.fr (α := (List (Int × Int))) t.1, .fr (α := (List Int)) t.2.1, .pm (α := (List Int)) H0 t.2.2.1, .ow (α := Int) y543, .fr (α := Int) y536.1, .fr (α := Int) y536.2]) fr n3 rfl ?_ ?_ (he := by rfl) fun y543 => ?_
    · exact (ev_sub (ma := true) (mb := true) (md := true) (ev_add (ma := true) (mb := true) (md := true) (Ev.flat (ma := false) (ev_ixL (md := false) (mb := true) (ev_own n3 rfl rfl) (ev_var (md := true) n4 rfl rfl) rfl)) (Ev.flat (ma := false) (ev_ixL (md := false) (mb := true) (ev_pm n2 rfl rfl) (ev_var (md := true) n5 rfl rfl) rfl)) rfl) (Ev.flat (ma := false) (ev_ixL (md := false) (mb := true) (ev_pm n2 rfl rfl) (ev_var (md := true) n4 rfl rfl) rfl)) rfl)
    · exact (ev_var (md := true) n4 rfl rfl)
    refine w_setix (α := Int) (m1 := (((((ixR y543 y536.2) : R _).bind fun x544 => (((ixR t.2.2.1 y536.1) : R _).bind fun x545 => (.ok (x544 + x545)))) : R _).bind fun x546 => (((ixR t.2.2.1 y536.2) : R _).bind fun x547 => (.ok (x546 - x547))))) (mj := (.ok y536.2)) (Γ' := fun y548 : (List Int) => [.fr (α := (List (Int × Int))) t.1, .fr (α := (List Int)) t.2.1, .pm (α := (List Int)) H0 t.2.2.1, .ow (α := Int) y548, .fr (α := Int) y536.1, .fr (α := Int) y536.2]) fr n3 rfl ?_ ?_ (he := by rfl) fun y548 => ?_
    · exact (ev_sub (ma := true) (mb := true) (md := true) (ev_add (ma := true) (mb := true) (md := true) (Ev.flat (ma := false) (ev_ixL (md := false) (mb := true) (ev_own n3 rfl rfl) (ev_var (md := true) n5 rfl rfl) rfl)) (Ev.flat (ma := false) (ev_ixL (md := false) (mb := true) (ev_pm n2 rfl rfl) (ev_var (md := true) n4 rfl rfl) rfl)) rfl) (Ev.flat (ma := false) (ev_ixL (md := false) (mb := true) (ev_pm n2 rfl rfl) (ev_var (md := true) n5 rfl rfl) rfl)) rfl)
    · exact (ev_var (md := true) n5 rfl rfl)
    exact w_end (s := y548) [4, 5] rfl rfl
  exact w_retV (g := fun z => z) fr hR n3 rfl (fun _ h => h) rfl
theorem gd_law_lent_m001 {P : Program} {w : World} {K : PySem.W.Frag} {mg : PySem.Str → Option Value} {base : Heap} (fc : Fac fe fa fn K mg) : Gd P w K mg base "_law_lent" (spOM K (τ := (List (Int × Int)) × (List Int) × (List Int) × Unit) (ρ := Int) [false, false, true] 3 m_law_lent) 3 1 :=
  gd_OM 20 32 fc rfl rfl sc_law_lent_m001 rfl bn_law_lent_m001 fun X _ _ _ _ _ C H0 qs rt A B fr hR t => b_law_lent_m001 (by omega) X C H0 qs rt A B fr hR t
theorem sc_kinds : FnScope ["web"] ["web"] dd_kinds.scope := ⟨rfl, rfl, rfl, by decide +kernel, rfl, by decide +kernel, by decide +kernel⟩
theorem bn_kinds : BindE dd_kinds ["web"] := fun _ _ _ _ _ _ us hl => match us, hl with | [_], _ => rfl
theorem b_kinds {k : Nat} (hk : 2 ≤ k) (X : Cx) (C : Cb fe fa fn X (["web"] : List PySem.Str) dd_kinds.scope k) (H0 : Hp) (qs : List Addr) (rt : VK) (A : Int → Prop) (B : Exc → Prop) (fr : Fr X H0 B) (hR : RtF (ρ := Int) X H0 qs rt A) (t : (Int × (Tu (Int × Int))) × Unit) :
    W X H0 qs rt (fun _ H => rt .non H) A B [.fr (α := (Int × (Tu (Int × Int)))) t.1] dd_kinds.body (m_kinds t) := by
  have n0 : Nm X 0 "web" := nm_mk C.hX.toXN (by decide +kernel)
  have g_det : Gn X "det" := gn_mk C.hX.toXN (by decide +kernel)
  have g_small_table : Gn X "small_table" := gn_mk C.hX.toXN (by decide +kernel)
  have d_det : Dn X "det" (spF X.K (τ := (List (List Int)) × Unit) (ρ := Int) 1 m_det) 1 := (gd_det C.fc).dn C.rm (by omega)
  have d_small_table : Dn X "small_table" (spO X.K (τ := (Int × (Tu (Int × Int))) × Unit) (ρ := (List Int)) 1 m_small_table) 1 := (gd_small_table C.fc).dn C.rm (by omega)
  exact w_ret (m1 := (((((m_small_table (t.1, ())) : R _).bind fun x588 => (.ok (x588, (())))) : R _).bind fun x589 => (m_det x589))) (g := fun z => z) fr hR (ev_call (md := true) d_det g_det (ea_cons (md := true) (EvO.fz (ev_callO (md := true) d_small_table g_small_table (ea_cons (md := true) (ev_var (md := true) n0 rfl rfl) (ea_nil (md := true) rfl) rfl) rfl rfl)) (ea_nil (md := true) rfl) rfl) rfl rfl) (fun _ h => h) rfl
theorem gd_kinds {P : Program} {w : World} {K : PySem.W.Frag} {mg : PySem.Str → Option Value} {base : Heap} (fc : Fac fe fa fn K mg) : Gd P w K mg base "kinds" (spF K (τ := (Int × (Tu (Int × Int))) × Unit) (ρ := Int) 1 m_kinds) 1 3 :=
  gd_F 7 17 fc rfl rfl sc_kinds rfl bn_kinds fun X _ _ _ _ _ C H0 qs rt A B fr hR t => b_kinds (by omega) X C H0 qs rt A B fr hR t
theorem sc_law_numbers : FnScope ["found", "due", "k"] ["found", "due"] dd__law_numbers.scope := ⟨rfl, rfl, rfl, by decide +kernel, rfl, by decide +kernel, by decide +kernel⟩
theorem bn_law_numbers : BindE dd__law_numbers ["found", "due"] := fun _ _ _ _ _ _ us hl => match us, hl with | [_, _], _ => rfl
theorem b_law_numbers {k : Nat} (hk : 1 ≤ k) (X : Cx) (C : Cb fe fa fn X (["found", "due", "k"] : List PySem.Str) dd__law_numbers.scope k) (H0 : Hp) (qs : List Addr) (rt : VK) (A : Bool → Prop) (B : Exc → Prop) (fr : Fr X H0 B) (hR : RtF (ρ := Bool) X H0 qs rt A) (t : (List Int) × (List Int) × Unit) :
    W X H0 qs rt (fun _ H => rt .non H) A B [.fr (α := (List Int)) t.1, .fr (α := (List Int)) t.2.1, .un] dd__law_numbers.body (m_law_numbers t) := by
  have n0 : Nm X 0 "found" := nm_mk C.hX.toXN (by decide +kernel)
  have n1 : Nm X 1 "due" := nm_mk C.hX.toXN (by decide +kernel)
  have n2 : Nm X 2 "k" := nm_mk C.hX.toXN (by decide +kernel)
  have l2 : Lc X 2 "k" := lc_mk C.hX.toXN (by decide +kernel)
  have g__law_whole : Gn X "_law_whole" := gn_mk C.hX.toXN (by decide +kernel)
  have g_isinstance : Gn X "isinstance" := gn_mk C.hX.toXN (by decide +kernel)
  have g_len : Gn X "len" := gn_mk C.hX.toXN (by decide +kernel)
  have g_list : Gn X "list" := gn_mk C.hX.toXN (by decide +kernel)
  have g_range : Gn X "range" := gn_mk C.hX.toXN (by decide +kernel)
  have f_isinstance : X.mg "isinstance" = none := C.fc.free 43
  have f_len : X.mg "len" = none := C.fc.free 39
  have f_list : X.mg "list" = none := C.fc.free 41
  have f_range : X.mg "range" = none := C.fc.free 40
  have d_law_whole : Dn X "_law_whole" (spF X.K (τ := Int × Unit) (ρ := Bool) 1 m_law_whole) 1 := (gd_law_whole C.fc).dn C.rm (by omega)
  refine w_ifR (mc := (if (!true) = true then R.ok true else (R.ok (!pyEq (t.1.length : Int) (t.2.1.length : Int))))) fr (EvW.t (ew_or (et_not (et_val (md := true) (ev_isi (ma := true) (md := true) (n := "list") (c := true) g_isinstance f_isinstance g_list f_list (by decide +kernel) (by decide +kernel) (ev_var (md := true) n0 rfl rfl) rfl)) rfl) (ew_or1 (et_ne (α := Int) (ma := true) (mb := true) C.hu (ev_lenL (ma := true) (md := true) g_len f_len (ev_var (md := true) n0 rfl rfl) rfl) (ev_lenL (ma := true) (md := true) g_len f_len (ev_var (md := true) n1 rfl rfl) rfl) rfl)) rfl)) (fun nx' => ?_) ?_ (he := by rfl)
  · skip
    exact w_ret (m1 := (.ok false)) (g := fun z => z) fr hR (ev_bool (md := true) rfl) (fun _ h => h) rfl
  refine w_forM (α := Int) (S := Unit) (mx := (rngR 0 (t.2.1.length : Int))) (bd := (fun y600 s599 => (((((((((((ixR t.1 y600) : R _).bind fun x603 => (.ok (x603, (())))) : R _).bind fun x604 => (m_law_whole x604)) : R _).bind fun x605 => (.ok (!x605))) : R _).bind fun x608 => (if x608 = true then R.ok true else (((ixR t.1 y600) : R _).bind fun x606 => (((ixR t.2.1 y600) : R _).bind fun x607 => (.ok (!pyEq x606 x607)))))) : R Bool).bind fun c609 => if c609 = true then (.ok (.rt false)) else (.ok (.nx ()))))) (s0 := ()) (Γs := fun s599 : Unit => [.fr (α := (List Int)) t.1, .fr (α := (List Int)) t.2.1, .un]) (Γb := fun (y600 : Int) (s599 : Unit) => [.fr (α := (List Int)) t.1, .fr (α := (List Int)) t.2.1, .fr (α := Int) y600]) (is := [2]) C.hX.calm fr (he := by rfl) ?_ ?_ ?_ fun s599 => ?_
  · exact (ei_range1 (m1 := .ok (t.2.1.length : Int)) (ma := true) g_range f_range (ev_lenL (ma := true) (md := true) g_len f_len (ev_var (md := true) n1 rfl rfl) rfl) (rng_he _))
  · exact fun y600 s599 => (eg_name (α := Int) l2 rfl (fun _ => rfl))
  · intro H601 sb602 N y600 s599
    replace fr := fr.up sb602
    try replace hR := hR.up sb602
    refine w_ifR (mc := (((((((((ixR t.1 y600) : R _).bind fun x603 => (.ok (x603, (())))) : R _).bind fun x604 => (m_law_whole x604)) : R _).bind fun x605 => (.ok (!x605))) : R _).bind fun x608 => (if x608 = true then R.ok true else (((ixR t.1 y600) : R _).bind fun x606 => (((ixR t.2.1 y600) : R _).bind fun x607 => (.ok (!pyEq x606 x607))))))) fr (EvW.t (ew_or (et_not (et_val (md := true) (ev_call (md := true) d_law_whole g__law_whole (ea_cons (md := true) (ev_ixL (md := true) (mb := true) (ev_var (md := true) n0 rfl rfl) (ev_var (md := true) n2 rfl rfl) rfl) (ea_nil (md := true) rfl) rfl) rfl rfl)) rfl) (ew_or1 (et_ne (α := Int) (ma := true) (mb := true) C.hu (ev_ixL (md := true) (mb := true) (ev_var (md := true) n0 rfl rfl) (ev_var (md := true) n2 rfl rfl) rfl) (ev_ixL (md := true) (mb := true) (ev_var (md := true) n1 rfl rfl) (ev_var (md := true) n2 rfl rfl) rfl) rfl)) rfl)) (fun nx' => ?_) ?_ (he := by rfl)
    · skip
      exact w_ret (m1 := (.ok false)) (g := fun z => .rt z) fr hR (ev_bool (md := true) rfl) (fun _ h => h) rfl
    exact w_endM (s := ()) [2] rfl rfl
  exact w_ret (m1 := (.ok true)) (g := fun z => z) fr hR (ev_bool (md := true) rfl) (fun _ h => h) rfl
theorem gd_law_numbers {P : Program} {w : World} {K : PySem.W.Frag} {mg : PySem.Str → Option Value} {base : Heap} (fc : Fac fe fa fn K mg) : Gd P w K mg base "_law_numbers" (spF K (τ := (List Int) × (List Int) × Unit) (ρ := Bool) 2 m_law_numbers) 2 2 :=
  gd_F 19 31 fc rfl rfl sc_law_numbers rfl bn_law_numbers fun X _ _ _ _ _ C H0 qs rt A B fr hR t => b_law_numbers (by omega) X C H0 qs rt A B fr hR t
theorem sc_law_lent : FnScope ["ties", "standing", "script", "now", "one", "other"] ["ties", "standing", "script"] dd__law_lent.scope := ⟨rfl, rfl, rfl, by decide +kernel, rfl, by decide +kernel, by decide +kernel⟩
theorem bn_law_lent : BindE dd__law_lent ["ties", "standing", "script"] := fun _ _ _ _ _ _ us hl => match us, hl with | [_, _, _], _ => rfl
theorem b_law_lent {k : Nat} (hk : 0 ≤ k) (X : Cx) (C : Cb fe fa fn X (["ties", "standing", "script", "now", "one", "other"] : List PySem.Str) dd__law_lent.scope k) (H0 : Hp) (qs : List Addr) (rt : VK) (A : (List Int) → Prop) (B : Exc → Prop) (fr : Fr X H0 B) (hR : RtO (ρ := Int) X H0 qs rt A) (t : (List (Int × Int)) × (List Int) × (List Int) × Unit) :
    W X H0 qs rt (fun _ H => rt .non H) A B [.fr (α := (List (Int × Int))) t.1, .fr (α := (List Int)) t.2.1, .fr (α := (List Int)) t.2.2.1, .un, .un, .un] dd__law_lent.body (m_law_lent t) := by
  have n0 : Nm X 0 "ties" := nm_mk C.hX.toXN (by decide +kernel)
  have n1 : Nm X 1 "standing" := nm_mk C.hX.toXN (by decide +kernel)
  have n2 : Nm X 2 "script" := nm_mk C.hX.toXN (by decide +kernel)
  have n3 : Nm X 3 "now" := nm_mk C.hX.toXN (by decide +kernel)
  have n4 : Nm X 4 "one" := nm_mk C.hX.toXN (by decide +kernel)
  have n5 : Nm X 5 "other" := nm_mk C.hX.toXN (by decide +kernel)
  have l3 : Lc X 3 "now" := lc_mk C.hX.toXN (by decide +kernel)
  have l4 : Lc X 4 "one" := lc_mk C.hX.toXN (by decide +kernel)
  have l5 : Lc X 5 "other" := lc_mk C.hX.toXN (by decide +kernel)
  have g_list : Gn X "list" := gn_mk C.hX.toXN (by decide +kernel)
  have f_list : X.mg "list" = none := C.fc.free 41
  refine w_asgO (α := Int) (Γ' := fun y513 : (List Int) => [.fr (α := (List (Int × Int))) t.1, .fr (α := (List Int)) t.2.1, .fr (α := (List Int)) t.2.2.1, .ow (α := Int) y513, .un, .un]) fr l3 (he := by rfl) ?_ fun y513 => ?_
  · exact (ev_listL (md := true) g_list f_list (ev_var (md := true) n1 rfl rfl) rfl)
  refine w_for (α := (Int × Int)) (S := (List Int)) (mx := (.ok t.1)) (bd := (fun y515 s514 => (((((((ixR s514 y515.1) : R _).bind fun x518 => (((ixR t.2.2.1 y515.2) : R _).bind fun x519 => (.ok (x518 + x519)))) : R _).bind fun x520 => (((ixR t.2.2.1 y515.1) : R _).bind fun x521 => (.ok (x520 - x521)))) : R _).bind fun x529 => ((setR s514 y515.1 x529).bind fun y522 => (((((((ixR y522 y515.2) : R _).bind fun x523 => (((ixR t.2.2.1 y515.1) : R _).bind fun x524 => (.ok (x523 + x524)))) : R _).bind fun x525 => (((ixR t.2.2.1 y515.2) : R _).bind fun x526 => (.ok (x525 - x526)))) : R _).bind fun x528 => ((setR y522 y515.2 x528).bind fun y527 => (.ok y527))))))) (s0 := y513) (Γs := fun s514 : (List Int) => [.fr (α := (List (Int × Int))) t.1, .fr (α := (List Int)) t.2.1, .fr (α := (List Int)) t.2.2.1, .ow (α := Int) s514, .un, .un]) (Γb := fun (y515 : (Int × Int)) (s514 : (List Int)) => [.fr (α := (List (Int × Int))) t.1, .fr (α := (List Int)) t.2.1, .fr (α := (List Int)) t.2.2.1, .ow (α := Int) s514, .fr (α := Int) y515.1, .fr (α := Int) y515.2]) (is := [4, 5]) C.hX.calm fr (he := by rfl) ?_ ?_ ?_ fun s514 => ?_
  · exact (ei_list (ev_var (md := true) n0 rfl rfl))
  · exact fun y515 s514 => (eg_two C.hX.calm (eg_name (α := Int) l4 rfl (fun _ => rfl)) (eg_name (α := Int) l5 rfl (fun _ => rfl)))
  · intro H516 sb517 N y515 s514
    replace fr := fr.up sb517
    try replace hR := hR.up sb517
    refine w_setix (α := Int) (m1 := (((((ixR s514 y515.1) : R _).bind fun x518 => (((ixR t.2.2.1 y515.2) : R _).bind fun x519 => (.ok (x518 + x519)))) : R _).bind fun x520 => (((ixR t.2.2.1 y515.1) : R _).bind fun x521 => (.ok (x520 - x521))))) (mj := (.ok y515.1)) (Γ' := fun y522 : (List Int) => [.fr (α := (List (Int × Int))) t.1, .fr (α := (List Int)) t.2.1, .fr (α := (List Int)) t.2.2.1, .ow (α := Int) y522, .fr (α := Int) y515.1, .fr (α := Int) y515.2]) fr n3 rfl ?_ ?_ (he := by rfl) fun y522 => ?_
    · exact (ev_sub (ma := true) (mb := true) (md := true) (ev_add (ma := true) (mb := true) (md := true) (Ev.flat (ma := false) (ev_ixL (md := false) (mb := true) (ev_own n3 rfl rfl) (ev_var (md := true) n4 rfl rfl) rfl)) (ev_ixL (md := true) (mb := true) (ev_var (md := true) n2 rfl rfl) (ev_var (md := true) n5 rfl rfl) rfl) rfl) (ev_ixL (md := true) (mb := true) (ev_var (md := true) n2 rfl rfl) (ev_var (md := true) n4 rfl rfl) rfl) rfl)
    · exact (ev_var (md := true) n4 rfl rfl)
    refine w_setix (α := Int) (m1 := (((((ixR y522 y515.2) : R _).bind fun x523 => (((ixR t.2.2.1 y515.1) : R _).bind fun x524 => (.ok (x523 + x524)))) : R _).bind fun x525 => (((ixR t.2.2.1 y515.2) : R _).bind fun x526 => (.ok (x525 - x526))))) (mj := (.ok y515.2)) (Γ' := fun y527 : (List Int) => [.fr (α := (List (Int × Int))) t.1, .fr (α := (List Int)) t.2.1, .fr (α := (List Int)) t.2.2.1, .ow (α := Int) y527, .fr (α := Int) y515.1, .fr (α := Int) y515.2]) fr n3 rfl ?_ ?_ (he := by rfl) fun y527 => ?_
    · exact (ev_sub (ma := true) (mb := true) (md := true) (ev_add (ma := true) (mb := true) (md := true) (Ev.flat (ma := false) (ev_ixL (md := false) (mb := true) (ev_own n3 rfl rfl) (ev_var (md := true) n5 rfl rfl) rfl)) (ev_ixL (md := true) (mb := true) (ev_var (md := true) n2 rfl rfl) (ev_var (md := true) n4 rfl rfl) rfl) rfl) (ev_ixL (md := true) (mb := true) (ev_var (md := true) n2 rfl rfl) (ev_var (md := true) n5 rfl rfl) rfl) rfl)
    · exact (ev_var (md := true) n5 rfl rfl)
    exact w_end (s := y527) [4, 5] rfl rfl
  exact w_retV (g := fun z => z) fr hR n3 rfl (fun _ h => h) rfl
theorem gd_law_lent {P : Program} {w : World} {K : PySem.W.Frag} {mg : PySem.Str → Option Value} {base : Heap} (fc : Fac fe fa fn K mg) : Gd P w K mg base "_law_lent" (spO K (τ := (List (Int × Int)) × (List Int) × (List Int) × Unit) (ρ := Int) 3 m_law_lent) 3 1 :=
  gd_O 20 32 fc rfl rfl sc_law_lent rfl bn_law_lent fun X _ _ _ _ _ C H0 qs rt A B fr hR t => b_law_lent (by omega) X C H0 qs rt A B fr hR t
theorem sc_law_weighed : FnScope ["web", "ties", "found", "parts", "m", "back", "products", "at", "number", "row", "k", "part"] ["web", "ties", "found", "parts"] dd__law_weighed.scope := ⟨rfl, rfl, rfl, by decide +kernel, rfl, by decide +kernel, by decide +kernel⟩
theorem bn_law_weighed : BindE dd__law_weighed ["web", "ties", "found", "parts"] := fun _ _ _ _ _ _ us hl => match us, hl with | [_, _, _, _], _ => rfl
theorem b_law_weighed {k : Nat} (hk : 3 ≤ k) (X : Cx) (C : Cb fe fa fn X (["web", "ties", "found", "parts", "m", "back", "products", "at", "number", "row", "k", "part"] : List PySem.Str) dd__law_weighed.scope k) (H0 : Hp) (qs : List Addr) (rt : VK) (A : Bool → Prop) (B : Exc → Prop) (fr : Fr X H0 B) (hR : RtF (ρ := Bool) X H0 qs rt A) (t : (Int × (Tu (Int × Int))) × (List (Int × Int)) × ((T1 PySem.Str) ⊕ ((T3 PySem.Str Int (List Int)) ⊕ (PySem.Str × (List Int)))) × (List Int) × Unit) :
    W X H0 qs rt (fun _ H => rt .non H) A B [.fr (α := (Int × (Tu (Int × Int)))) t.1, .fr (α := (List (Int × Int))) t.2.1, .fr (α := ((T1 PySem.Str) ⊕ ((T3 PySem.Str Int (List Int)) ⊕ (PySem.Str × (List Int))))) t.2.2.1, .fr (α := (List Int)) t.2.2.2.1, .un, .un, .un, .un, .un, .un, .un, .un] dd__law_weighed.body (m_law_weighed t) := by
  have n0 : Nm X 0 "web" := nm_mk C.hX.toXN (by decide +kernel)
  have n1 : Nm X 1 "ties" := nm_mk C.hX.toXN (by decide +kernel)
  have n2 : Nm X 2 "found" := nm_mk C.hX.toXN (by decide +kernel)
  have n3 : Nm X 3 "parts" := nm_mk C.hX.toXN (by decide +kernel)
  have n4 : Nm X 4 "m" := nm_mk C.hX.toXN (by decide +kernel)
  have n5 : Nm X 5 "back" := nm_mk C.hX.toXN (by decide +kernel)
  have n6 : Nm X 6 "products" := nm_mk C.hX.toXN (by decide +kernel)
  have n7 : Nm X 7 "at" := nm_mk C.hX.toXN (by decide +kernel)
  have n8 : Nm X 8 "number" := nm_mk C.hX.toXN (by decide +kernel)
  have l4 : Lc X 4 "m" := lc_mk C.hX.toXN (by decide +kernel)
  have l5 : Lc X 5 "back" := lc_mk C.hX.toXN (by decide +kernel)
  have l6 : Lc X 6 "products" := lc_mk C.hX.toXN (by decide +kernel)
  have l7 : Lc X 7 "at" := lc_mk C.hX.toXN (by decide +kernel)
  have l8 : Lc X 8 "number" := lc_mk C.hX.toXN (by decide +kernel)
  have g__law_lent : Gn X "_law_lent" := gn_mk C.hX.toXN (by decide +kernel)
  have g__law_numbers : Gn X "_law_numbers" := gn_mk C.hX.toXN (by decide +kernel)
  have g__law_whole : Gn X "_law_whole" := gn_mk C.hX.toXN (by decide +kernel)
  have g_adjoint : Gn X "adjoint" := gn_mk C.hX.toXN (by decide +kernel)
  have g_isinstance : Gn X "isinstance" := gn_mk C.hX.toXN (by decide +kernel)
  have g_kinds : Gn X "kinds" := gn_mk C.hX.toXN (by decide +kernel)
  have g_len : Gn X "len" := gn_mk C.hX.toXN (by decide +kernel)
  have g_list : Gn X "list" := gn_mk C.hX.toXN (by decide +kernel)
  have g_range : Gn X "range" := gn_mk C.hX.toXN (by decide +kernel)
  have g_small_table : Gn X "small_table" := gn_mk C.hX.toXN (by decide +kernel)
  have g_sum : Gn X "sum" := gn_mk C.hX.toXN (by decide +kernel)
  have f_isinstance : X.mg "isinstance" = none := C.fc.free 43
  have f_len : X.mg "len" = none := C.fc.free 39
  have f_list : X.mg "list" = none := C.fc.free 41
  have f_range : X.mg "range" = none := C.fc.free 40
  have f_sum : X.mg "sum" = none := C.fc.free 42
  have d_adjoint : Dn X "adjoint" (spO X.K (τ := (List (List Int)) × Unit) (ρ := (List Int)) 1 m_adjoint) 1 := (gd_adjoint C.fc).dn C.rm (by omega)
  have d_small_table : Dn X "small_table" (spO X.K (τ := (Int × (Tu (Int × Int))) × Unit) (ρ := (List Int)) 1 m_small_table) 1 := (gd_small_table C.fc).dn C.rm (by omega)
  have d_law_whole : Dn X "_law_whole" (spF X.K (τ := Int × Unit) (ρ := Bool) 1 m_law_whole) 1 := (gd_law_whole C.fc).dn C.rm (by omega)
  have d_kinds : Dn X "kinds" (spF X.K (τ := (Int × (Tu (Int × Int))) × Unit) (ρ := Int) 1 m_kinds) 1 := (gd_kinds C.fc).dn C.rm (by omega)
  have d_law_numbers : Dn X "_law_numbers" (spF X.K (τ := (List Int) × (List Int) × Unit) (ρ := Bool) 2 m_law_numbers) 2 := (gd_law_numbers C.fc).dn C.rm (by omega)
  have d_law_lent : Dn X "_law_lent" (spO X.K (τ := (List (Int × Int)) × (List Int) × (List Int) × Unit) (ρ := Int) 3 m_law_lent) 3 := (gd_law_lent C.fc).dn C.rm (by omega)
  refine w_ifR (mc := (if (!pyEq (PyLn.ln t.2.2.1 : Int) (3 : Int)) = true then R.ok true else (((((R.ofO ((sumO (fun x => some x.a : (T1 PySem.Str) → Option PySem.Str) (sumO (fun x => some x.a : (T3 PySem.Str Int (List Int)) → Option PySem.Str) (fun x => some x.1 : (PySem.Str × (List Int)) → Option PySem.Str))) t.2.2.1)) : R _).bind fun x564 => (.ok (!pyEq x564 ("weighed" : PySem.Str)))) : R _).bind fun x567 => (if x567 = true then R.ok true else (((((R.ofO ((sumO (fun _ => none : (T1 PySem.Str) → Option (List Int)) (sumO (fun x => some x.c : (T3 PySem.Str Int (List Int)) → Option (List Int)) (fun _ => none : (PySem.Str × (List Int)) → Option (List Int)))) t.2.2.1)) : R _).bind fun x565 => (.ok true)) : R _).bind fun x566 => (.ok (!x566))))))) fr (EvW.t (ew_or (et_ne (α := Int) (ma := true) (mb := true) C.hu (ev_lenU (ma := true) (md := true) g_len f_len (ev_var (md := true) n2 rfl rfl) rfl) (ev_int (md := true) rfl) rfl) (ew_or (et_ne (α := PySem.Str) (ma := true) (mb := true) C.hu (ev_ixP (md := true) (f := (sumO (fun x => some x.a : (T1 PySem.Str) → Option PySem.Str) (sumO (fun x => some x.a : (T3 PySem.Str Int (List Int)) → Option PySem.Str) (fun x => some x.1 : (PySem.Str × (List Int)) → Option PySem.Str)))) (ixS ix10 (ixS ix30 ix20)) (ev_var (md := true) n2 rfl rfl) (ev_int (md := true) rfl) rfl) (ev_str (md := true) rfl) rfl) (ew_or1 (et_not (et_val (md := true) (ev_isi (ma := true) (md := true) (n := "list") (c := true) g_isinstance f_isinstance g_list f_list (by decide +kernel) (by decide +kernel) (ev_ixP (md := true) (f := (sumO (fun _ => none : (T1 PySem.Str) → Option (List Int)) (sumO (fun x => some x.c : (T3 PySem.Str Int (List Int)) → Option (List Int)) (fun _ => none : (PySem.Str × (List Int)) → Option (List Int))))) (ixS ixNo (ixS ix32 ixNo)) (ev_var (md := true) n2 rfl rfl) (ev_int (md := true) rfl) rfl) rfl)) rfl)) rfl) rfl)) (fun nx' => ?_) ?_ (he := by rfl)
  · skip
    exact w_ret (m1 := (.ok false)) (g := fun z => z) fr hR (ev_bool (md := true) rfl) (fun _ h => h) rfl
  refine w_asg (α := Int) (Γ' := fun y568 : Int => [.fr (α := (Int × (Tu (Int × Int)))) t.1, .fr (α := (List (Int × Int))) t.2.1, .fr (α := ((T1 PySem.Str) ⊕ ((T3 PySem.Str Int (List Int)) ⊕ (PySem.Str × (List Int))))) t.2.2.1, .fr (α := (List Int)) t.2.2.2.1, .fr (α := Int) y568, .un, .un, .un, .un, .un, .un, .un]) fr l4 (he := by rfl) ?_ fun y568 => ?_
  · exact (ev_ixP (md := true) (f := (sumO (fun _ => none : (T1 PySem.Str) → Option Int) (sumO (fun x => some x.b : (T3 PySem.Str Int (List Int)) → Option Int) (fun _ => none : (PySem.Str × (List Int)) → Option Int)))) (ixS ixNo (ixS ix31 ixNo)) (ev_var (md := true) n2 rfl rfl) (ev_int (md := true) rfl) rfl)
  refine w_asg (α := (List (List Int))) (Γ' := fun y571 : (List (List Int)) => [.fr (α := (Int × (Tu (Int × Int)))) t.1, .fr (α := (List (Int × Int))) t.2.1, .fr (α := ((T1 PySem.Str) ⊕ ((T3 PySem.Str Int (List Int)) ⊕ (PySem.Str × (List Int))))) t.2.2.1, .fr (α := (List Int)) t.2.2.2.1, .fr (α := Int) y568, .fr (α := (List (List Int))) y571, .un, .un, .un, .un, .un, .un]) fr l5 (he := by rfl) ?_ fun y571 => ?_
  · exact (EvO.fz (ev_callO (md := true) d_adjoint g_adjoint (ea_cons (md := true) (EvO.fz (ev_callO (md := true) d_small_table g_small_table (ea_cons (md := true) (ev_var (md := true) n0 rfl rfl) (ea_nil (md := true) rfl) rfl) rfl rfl)) (ea_nil (md := true) rfl) rfl) rfl rfl))
  refine w_asgCf (α := Int) (Γ' := fun y586 : (List Int) => [.fr (α := (Int × (Tu (Int × Int)))) t.1, .fr (α := (List (Int × Int))) t.2.1, .fr (α := ((T1 PySem.Str) ⊕ ((T3 PySem.Str Int (List Int)) ⊕ (PySem.Str × (List Int))))) t.2.2.1, .fr (α := (List Int)) t.2.2.2.1, .fr (α := Int) y568, .fr (α := (List (List Int))) y571, .fr (α := (List Int)) y586, .un, .un, .un, .un, .un]) fr l6 (by rw [C.hX.hs]; decide +kernel) C.kd (he := by rfl) ?_ fun y586 => ?_
  · exact (ec_map (mi := true) (α := (List Int)) (β := Int) (mx := (.ok y571)) (g := (fun y572 => (((((rngR 0 (y572.length : Int)) : R _).bind fun x584 => (mapR (fun y577 => (((ixR y572 y577) : R _).bind fun x582 => (((ixR t.2.2.2.1 (y577 + (1 : Int))) : R _).bind fun x583 => (mulR x582 x583)))) x584)) : R _).bind fun x585 => (.ok (List.sum x585))))) (own := [("row", 9)]) (Γx := fun y572 : (List Int) => [.fr (α := (Int × (Tu (Int × Int)))) t.1, .fr (α := (List (Int × Int))) t.2.1, .fr (α := ((T1 PySem.Str) ⊕ ((T3 PySem.Str Int (List Int)) ⊕ (PySem.Str × (List Int))))) t.2.2.1, .fr (α := (List Int)) t.2.2.2.1, .fr (α := Int) y568, .fr (α := (List (List Int))) y571, .un, .un, .un, .fr (α := (List Int)) y572, .un, .un]) (is := [9]) C.hX (ei_list (ev_var (md := true) n5 rfl rfl)) (.inl rfl) (by decide +kernel) (no1 (fun _ => rfl)) (by decide) (fun X574 b573 y572 => have h575 := b573.ok C.hX; (eg_name (α := (List Int)) (lc_blk (i := 9) (x := "row") b573 C.hX.hs h575.toXN (by decide +kernel)) rfl (fun _ => rfl))) (fun X574 b573 D576 y572 => have h575 := b573.ok C.hX; (ev_sum (ma := true) (md := true) h575.calm (gn_mk (x := "sum") h575.toXN (by decide +kernel)) (b573.none f_sum) (EvO.fz (ev_map (mi := true) (α := Int) (β := Int) (mx := (rngR 0 (y572.length : Int))) (g := (fun y577 => (((ixR y572 y577) : R _).bind fun x582 => (((ixR t.2.2.2.1 (y577 + (1 : Int))) : R _).bind fun x583 => (mulR x582 x583))))) (own := [("k", 10)]) (Γx := fun y577 : Int => [.fr (α := (Int × (Tu (Int × Int)))) t.1, .fr (α := (List (Int × Int))) t.2.1, .fr (α := ((T1 PySem.Str) ⊕ ((T3 PySem.Str Int (List Int)) ⊕ (PySem.Str × (List Int))))) t.2.2.1, .fr (α := (List Int)) t.2.2.2.1, .fr (α := Int) y568, .fr (α := (List (List Int))) y571, .un, .un, .un, .fr (α := (List Int)) y572, .fr (α := Int) y577, .un]) (is := [10]) h575 (ei_range1 (m1 := .ok (y572.length : Int)) (ma := true) (gn_mk (x := "range") h575.toXN (by decide +kernel)) (b573.none f_range) (ev_lenL (m1 := .ok y572) (ma := true) (md := true) (gn_mk (x := "len") h575.toXN (by decide +kernel)) (b573.none f_len) (ev_var (md := true) (nm_mk (i := 9) (x := "row") h575.toXN (by decide +kernel)) rfl rfl) rfl) (rng_he _)) (.inl rfl) (by decide +kernel) (no1 (fun _ => rfl)) (by decide) (fun X579 b578 y577 => have h580 := b578.ok h575; (eg_name (α := Int) (lc_mk (i := 10) (x := "k") h580.toXN (by decide +kernel)) rfl (fun _ => rfl))) (fun X579 b578 D581 y577 => have h580 := b578.ok h575; (ev_mul (ma := true) (mb := true) (md := true) (ev_ixL (md := true) (mb := true) (ev_var (md := true) (nm_mk (i := 9) (x := "row") h580.toXN (by decide +kernel)) rfl rfl) (ev_var (md := true) (nm_mk (i := 10) (x := "k") h580.toXN (by decide +kernel)) rfl rfl) rfl) (ev_ixL (md := true) (mb := true) (ev_var (md := true) (nm_mk (i := 3) (x := "parts") h580.toXN (by decide +kernel)) rfl rfl) (ev_add (ma := true) (mb := true) (md := true) (ev_var (md := true) (nm_mk (i := 10) (x := "k") h580.toXN (by decide +kernel)) rfl rfl) (ev_int (md := true) rfl) rfl) rfl) rfl)) rfl)) rfl)) rfl)
  refine w_ifR (mc := (((((m_law_whole (y568, ())) : R _).bind fun x587 => (.ok (!x587))) : R _).bind fun x592 => (if x592 = true then R.ok true else (if (decide (y568 < (2 : Int))) = true then R.ok true else (((m_kinds (t.1, ())) : R _).bind fun x591 => (.ok (!pyEq y568 x591))))))) fr (EvW.t (ew_or (et_not (et_val (md := true) (ev_call (md := true) d_law_whole g__law_whole (ea_cons (md := true) (ev_var (md := true) n4 rfl rfl) (ea_nil (md := true) rfl) rfl) rfl rfl)) rfl) (ew_or (et_lt (ma := true) (mb := true) (ev_var (md := true) n4 rfl rfl) (ev_int (md := true) rfl) rfl) (ew_or1 (et_ne (α := Int) (ma := true) (mb := true) C.hu (ev_var (md := true) n4 rfl rfl) (ev_call (md := true) d_kinds g_kinds (ea_cons (md := true) (ev_var (md := true) n0 rfl rfl) (ea_nil (md := true) rfl) rfl) rfl rfl) rfl)) rfl) rfl)) (fun nx' => ?_) ?_ (he := by rfl)
  · skip
    exact w_ret (m1 := (.ok false)) (g := fun z => z) fr hR (ev_bool (md := true) rfl) (fun _ h => h) rfl
  refine w_asg (α := Int) (Γ' := fun y593 : Int => [.fr (α := (Int × (Tu (Int × Int)))) t.1, .fr (α := (List (Int × Int))) t.2.1, .fr (α := ((T1 PySem.Str) ⊕ ((T3 PySem.Str Int (List Int)) ⊕ (PySem.Str × (List Int))))) t.2.2.1, .fr (α := (List Int)) t.2.2.2.1, .fr (α := Int) y568, .fr (α := (List (List Int))) y571, .fr (α := (List Int)) y586, .fr (α := Int) y593, .un, .un, .un, .un]) fr l7 (he := by rfl) ?_ fun y593 => ?_
  · exact (ev_int (md := true) rfl)
  refine w_while (S := Int) (tc := (fun s594 => (if (decide (s594 < (y586.length : Int))) = true then (((((ixR y586 s594) : R _).bind fun x595 => (modR x595 y568)) : R _).bind fun x596 => (.ok (pyEq x596 (0 : Int)))) else R.ok false))) (bd := (fun s594 => (((.ok (s594 + (1 : Int))) : R Int).bind fun y597 => (.ok y597)))) (n := fuel) (s0 := y593) (Γs := fun s594 : Int => [.fr (α := (Int × (Tu (Int × Int)))) t.1, .fr (α := (List (Int × Int))) t.2.1, .fr (α := ((T1 PySem.Str) ⊕ ((T3 PySem.Str Int (List Int)) ⊕ (PySem.Str × (List Int))))) t.2.2.1, .fr (α := (List Int)) t.2.2.2.1, .fr (α := Int) y568, .fr (α := (List (List Int))) y571, .fr (α := (List Int)) y586, .fr (α := Int) s594, .un, .un, .un, .un]) C.hX.calm fr (he := by rfl) ?_ ?_ fun s594 => ?_
  · exact fun s594 => (EvW.t (ew_and (et_lt (ma := true) (mb := true) (ev_var (md := true) n7 rfl rfl) (ev_lenL (m1 := .ok y586) (ma := true) (md := true) g_len f_len (ev_var (md := true) n6 rfl rfl) rfl) rfl) (ew_and1 (et_eq (α := Int) (ma := true) (mb := true) C.hu (ev_mod (ma := true) (mb := true) (md := true) (ev_ixL (md := true) (mb := true) (ev_var (md := true) n6 rfl rfl) (ev_var (md := true) n7 rfl rfl) rfl) (ev_var (md := true) n4 rfl rfl) rfl) (ev_int (md := true) rfl) rfl)) rfl))
  · intro N s594
    refine w_asg (α := Int) (Γ' := fun y597 : Int => [.fr (α := (Int × (Tu (Int × Int)))) t.1, .fr (α := (List (Int × Int))) t.2.1, .fr (α := ((T1 PySem.Str) ⊕ ((T3 PySem.Str Int (List Int)) ⊕ (PySem.Str × (List Int))))) t.2.2.1, .fr (α := (List Int)) t.2.2.2.1, .fr (α := Int) y568, .fr (α := (List (List Int))) y571, .fr (α := (List Int)) y586, .fr (α := Int) y597, .un, .un, .un, .un]) fr l7 (he := by rfl) ?_ fun y597 => ?_
    · exact (ev_add (ma := true) (mb := true) (md := true) (ev_var (md := true) n7 rfl rfl) (ev_int (md := true) rfl) rfl)
    exact w_end (s := y597) [] rfl rfl
  refine w_ifR (mc := (if (pyEq s594 (y586.length : Int)) = true then R.ok true else (((((((R.ofO ((sumO (fun _ => none : (T1 PySem.Str) → Option (List Int)) (sumO (fun x => some x.c : (T3 PySem.Str Int (List Int)) → Option (List Int)) (fun _ => none : (PySem.Str × (List Int)) → Option (List Int)))) t.2.2.1)) : R _).bind fun x613 => (((((((ixR y571 s594) : R _).bind fun x598 => (catR ([(0 : Int)] : (List Int)) x598)) : R _).bind fun x612 => (.ok (x612, (())))) : R _).bind fun x614 => (.ok (x613, x614)))) : R _).bind fun x615 => (m_law_numbers x615)) : R _).bind fun x616 => (.ok (!x616))))) fr (EvW.t (ew_or (et_eq (α := Int) (ma := true) (mb := true) C.hu (ev_var (md := true) n7 rfl rfl) (ev_lenL (m1 := .ok y586) (ma := true) (md := true) g_len f_len (ev_var (md := true) n6 rfl rfl) rfl) rfl) (ew_or1 (et_not (et_val (md := true) (ev_call (md := true) d_law_numbers g__law_numbers (ea_cons (md := true) (ev_ixP (md := true) (f := (sumO (fun _ => none : (T1 PySem.Str) → Option (List Int)) (sumO (fun x => some x.c : (T3 PySem.Str Int (List Int)) → Option (List Int)) (fun _ => none : (PySem.Str × (List Int)) → Option (List Int))))) (ixS ixNo (ixS ix32 ixNo)) (ev_var (md := true) n2 rfl rfl) (ev_int (md := true) rfl) rfl) (ea_cons (md := true) (EvO.fz (ev_cat (md := true) (EvO.fz (ev_lst (md := true) (el_cons (md := true) (ev_int (md := true) rfl) (el_nil (α := Int) rfl) rfl))) (ev_ixL (md := true) (mb := true) (ev_var (md := true) n5 rfl rfl) (ev_var (md := true) n7 rfl rfl) rfl) rfl)) (ea_nil (md := true) rfl) rfl) rfl) rfl rfl)) rfl)) rfl)) (fun nx' => ?_) ?_ (he := by rfl)
  · skip
    exact w_ret (m1 := (.ok false)) (g := fun z => z) fr hR (ev_bool (md := true) rfl) (fun _ h => h) rfl
  refine w_forM (α := Int) (S := Unit) (mx := (((((((mapR (fun y617 => (.ok (0 : Int))) t.2.2.2.1) : R _).bind fun x623 => (((((R.ofO ((sumO (fun _ => none : (T1 PySem.Str) → Option (List Int)) (sumO (fun x => some x.c : (T3 PySem.Str Int (List Int)) → Option (List Int)) (fun _ => none : (PySem.Str × (List Int)) → Option (List Int)))) t.2.2.1)) : R _).bind fun x622 => (.ok (x622, (())))) : R _).bind fun x624 => (.ok (x623, x624)))) : R _).bind fun x625 => (.ok (t.2.1, x625))) : R _).bind fun x626 => (m_law_lent x626))) (bd := (fun y628 s627 => (((((modR y628 y568) : R _).bind fun x631 => (.ok (!pyEq x631 (0 : Int)))) : R Bool).bind fun c632 => if c632 = true then (.ok (.rt false)) else (.ok (.nx ()))))) (s0 := ()) (Γs := fun s627 : Unit => [.fr (α := (Int × (Tu (Int × Int)))) t.1, .fr (α := (List (Int × Int))) t.2.1, .fr (α := ((T1 PySem.Str) ⊕ ((T3 PySem.Str Int (List Int)) ⊕ (PySem.Str × (List Int))))) t.2.2.1, .fr (α := (List Int)) t.2.2.2.1, .fr (α := Int) y568, .fr (α := (List (List Int))) y571, .fr (α := (List Int)) y586, .fr (α := Int) s594, .un, .un, .un, .un]) (Γb := fun (y628 : Int) (s627 : Unit) => [.fr (α := (Int × (Tu (Int × Int)))) t.1, .fr (α := (List (Int × Int))) t.2.1, .fr (α := ((T1 PySem.Str) ⊕ ((T3 PySem.Str Int (List Int)) ⊕ (PySem.Str × (List Int))))) t.2.2.1, .fr (α := (List Int)) t.2.2.2.1, .fr (α := Int) y568, .fr (α := (List (List Int))) y571, .fr (α := (List Int)) y586, .fr (α := Int) s594, .fr (α := Int) y628, .un, .un, .un]) (is := [8]) C.hX.calm fr (he := by rfl) ?_ ?_ ?_ fun s627 => ?_
  · exact (ei_list (EvO.fz (ev_callO (md := true) d_law_lent g__law_lent (ea_cons (md := true) (ev_var (md := true) n1 rfl rfl) (ea_cons (md := true) (EvO.fz (ev_map (mi := true) (α := Int) (β := Int) (mx := (.ok t.2.2.2.1)) (g := (fun y617 => (.ok (0 : Int)))) (own := [("part", 11)]) (Γx := fun y617 : Int => [.fr (α := (Int × (Tu (Int × Int)))) t.1, .fr (α := (List (Int × Int))) t.2.1, .fr (α := ((T1 PySem.Str) ⊕ ((T3 PySem.Str Int (List Int)) ⊕ (PySem.Str × (List Int))))) t.2.2.1, .fr (α := (List Int)) t.2.2.2.1, .fr (α := Int) y568, .fr (α := (List (List Int))) y571, .fr (α := (List Int)) y586, .fr (α := Int) s594, .un, .un, .un, .fr (α := Int) y617]) (is := [11]) C.hX (ei_list (ev_var (md := true) n3 rfl rfl)) (.inl rfl) (by decide +kernel) (no1 (fun _ => rfl)) (by decide) (fun X619 b618 y617 => have h620 := b618.ok C.hX; (eg_name (α := Int) (lc_mk (i := 11) (x := "part") h620.toXN (by decide +kernel)) rfl (fun _ => rfl))) (fun X619 b618 D621 y617 => have h620 := b618.ok C.hX; (ev_int (md := true) rfl)) rfl)) (ea_cons (md := true) (ev_ixP (md := true) (f := (sumO (fun _ => none : (T1 PySem.Str) → Option (List Int)) (sumO (fun x => some x.c : (T3 PySem.Str Int (List Int)) → Option (List Int)) (fun _ => none : (PySem.Str × (List Int)) → Option (List Int))))) (ixS ixNo (ixS ix32 ixNo)) (ev_var (md := true) n2 rfl rfl) (ev_int (md := true) rfl) rfl) (ea_nil (md := true) rfl) rfl) rfl) rfl) rfl rfl)))
  · exact fun y628 s627 => (eg_name (α := Int) l8 rfl (fun _ => rfl))
  · intro H629 sb630 N y628 s627
    replace fr := fr.up sb630
    try replace hR := hR.up sb630
    refine w_ifR (mc := (((modR y628 y568) : R _).bind fun x631 => (.ok (!pyEq x631 (0 : Int))))) fr (et_ne (α := Int) (ma := true) (mb := true) C.hu (ev_mod (ma := true) (mb := true) (md := true) (ev_var (md := true) n8 rfl rfl) (ev_var (md := true) n4 rfl rfl) rfl) (ev_int (md := true) rfl) rfl) (fun nx' => ?_) ?_ (he := by rfl)
    · skip
      exact w_ret (m1 := (.ok false)) (g := fun z => .rt z) fr hR (ev_bool (md := true) rfl) (fun _ h => h) rfl
    exact w_endM (s := ()) [8] rfl rfl
  exact w_ret (m1 := (((((((((rngR 0 (t.2.2.2.1.length : Int)) : R _).bind fun x641 => (mapR (fun y633 => (((((R.ofO ((sumO (fun _ => none : (T1 PySem.Str) → Option (List Int)) (sumO (fun x => some x.c : (T3 PySem.Str Int (List Int)) → Option (List Int)) (fun _ => none : (PySem.Str × (List Int)) → Option (List Int)))) t.2.2.1)) : R _).bind fun x638 => (ixR x638 y633)) : R _).bind fun x639 => (((ixR t.2.2.2.1 y633) : R _).bind fun x640 => (mulR x639 x640)))) x641)) : R _).bind fun x642 => (.ok (List.sum x642))) : R _).bind fun x643 => (modR x643 y568)) : R _).bind fun x644 => (.ok (!pyEq x644 (0 : Int))))) (g := fun z => z) fr hR (ev_ne (α := Int) (ma := true) (mb := true) (md := true) C.hu (ev_mod (ma := true) (mb := true) (md := true) (ev_sum (ma := true) (md := true) C.hX.calm g_sum f_sum (EvO.fz (ev_map (mi := true) (α := Int) (β := Int) (mx := (rngR 0 (t.2.2.2.1.length : Int))) (g := (fun y633 => (((((R.ofO ((sumO (fun _ => none : (T1 PySem.Str) → Option (List Int)) (sumO (fun x => some x.c : (T3 PySem.Str Int (List Int)) → Option (List Int)) (fun _ => none : (PySem.Str × (List Int)) → Option (List Int)))) t.2.2.1)) : R _).bind fun x638 => (ixR x638 y633)) : R _).bind fun x639 => (((ixR t.2.2.2.1 y633) : R _).bind fun x640 => (mulR x639 x640))))) (own := [("k", 10)]) (Γx := fun y633 : Int => [.fr (α := (Int × (Tu (Int × Int)))) t.1, .fr (α := (List (Int × Int))) t.2.1, .fr (α := ((T1 PySem.Str) ⊕ ((T3 PySem.Str Int (List Int)) ⊕ (PySem.Str × (List Int))))) t.2.2.1, .fr (α := (List Int)) t.2.2.2.1, .fr (α := Int) y568, .fr (α := (List (List Int))) y571, .fr (α := (List Int)) y586, .fr (α := Int) s594, .un, .un, .fr (α := Int) y633, .un]) (is := [10]) C.hX (ei_range1 (m1 := .ok (t.2.2.2.1.length : Int)) (ma := true) g_range f_range (ev_lenL (ma := true) (md := true) g_len f_len (ev_var (md := true) n3 rfl rfl) rfl) (rng_he _)) (.inl rfl) (by decide +kernel) (no1 (fun _ => rfl)) (by decide) (fun X635 b634 y633 => have h636 := b634.ok C.hX; (eg_name (α := Int) (lc_mk (i := 10) (x := "k") h636.toXN (by decide +kernel)) rfl (fun _ => rfl))) (fun X635 b634 D637 y633 => have h636 := b634.ok C.hX; (ev_mul (ma := true) (mb := true) (md := true) (ev_ixL (md := true) (mb := true) (ev_ixP (md := true) (f := (sumO (fun _ => none : (T1 PySem.Str) → Option (List Int)) (sumO (fun x => some x.c : (T3 PySem.Str Int (List Int)) → Option (List Int)) (fun _ => none : (PySem.Str × (List Int)) → Option (List Int))))) (ixS ixNo (ixS ix32 ixNo)) (ev_var (md := true) (nm_mk (i := 2) (x := "found") h636.toXN (by decide +kernel)) rfl rfl) (ev_int (md := true) rfl) rfl) (ev_var (md := true) (nm_mk (i := 10) (x := "k") h636.toXN (by decide +kernel)) rfl rfl) rfl) (ev_ixL (md := true) (mb := true) (ev_var (md := true) (nm_mk (i := 3) (x := "parts") h636.toXN (by decide +kernel)) rfl rfl) (ev_var (md := true) (nm_mk (i := 10) (x := "k") h636.toXN (by decide +kernel)) rfl rfl) rfl) rfl)) rfl)) rfl) (ev_var (md := true) n4 rfl rfl) rfl) (ev_int (md := true) rfl) rfl) (fun _ h => h) rfl
theorem gd_law_weighed {P : Program} {w : World} {K : PySem.W.Frag} {mg : PySem.Str → Option Value} {base : Heap} (fc : Fac fe fa fn K mg) : Gd P w K mg base "_law_weighed" (spF K (τ := (Int × (Tu (Int × Int))) × (List (Int × Int)) × ((T1 PySem.Str) ⊕ ((T3 PySem.Str Int (List Int)) ⊕ (PySem.Str × (List Int)))) × (List Int) × Unit) (ρ := Bool) 4 m_law_weighed) 4 4 :=
  gd_F 23 35 fc rfl rfl sc_law_weighed rfl bn_law_weighed fun X _ _ _ _ _ C H0 qs rt A B fr hR t => b_law_weighed (by omega) X C H0 qs rt A B fr hR t
theorem sc_law_same_again : FnScope ["web", "one", "other", "found", "kept", "part"] ["web", "one", "other", "found"] dd__law_same_again.scope := ⟨rfl, rfl, rfl, by decide +kernel, rfl, by decide +kernel, by decide +kernel⟩
theorem bn_law_same_again : BindE dd__law_same_again ["web", "one", "other", "found"] := fun _ _ _ _ _ _ us hl => match us, hl with | [_, _, _, _], _ => rfl
theorem b_law_same_again {k : Nat} (hk : 4 ≤ k) (X : Cx) (C : Cb fe fa fn X (["web", "one", "other", "found", "kept", "part"] : List PySem.Str) dd__law_same_again.scope k) (H0 : Hp) (rt : VK) (A : Bool → Prop) (B : Exc → Prop) (fr : Fr X H0 B) (hR : RtF (ρ := Bool) X H0 [] rt A) (qs0 : List Addr) (t : (Int × (Tu (Int × Int))) × (List Int) × (List Int) × ((T1 PySem.Str) ⊕ ((T3 PySem.Str Int (List Int)) ⊕ (PySem.Str × (List Int)))) × Unit) :
    W X H0 [] rt (fun _ H => rt .non H) A B [.fr (α := (Int × (Tu (Int × Int)))) t.1, .fr (α := (List Int)) t.2.1, .fr (α := (List Int)) t.2.2.1, .nw (α := ((T1 PySem.Str) ⊕ ((T3 PySem.Str Int (List Int)) ⊕ (PySem.Str × (List Int))))) qs0 t.2.2.2.1, .un, .un] dd__law_same_again.body (m_law_same_again t) := by
  have n0 : Nm X 0 "web" := nm_mk C.hX.toXN (by decide +kernel)
  have n1 : Nm X 1 "one" := nm_mk C.hX.toXN (by decide +kernel)
  have n2 : Nm X 2 "other" := nm_mk C.hX.toXN (by decide +kernel)
  have n3 : Nm X 3 "found" := nm_mk C.hX.toXN (by decide +kernel)
  have n4 : Nm X 4 "kept" := nm_mk C.hX.toXN (by decide +kernel)
  have n5 : Nm X 5 "part" := nm_mk C.hX.toXN (by decide +kernel)
  have l4 : Lc X 4 "kept" := lc_mk C.hX.toXN (by decide +kernel)
  have l5 : Lc X 5 "part" := lc_mk C.hX.toXN (by decide +kernel)
  have g_alike : Gn X "alike" := gn_mk C.hX.toXN (by decide +kernel)
  have g_isinstance : Gn X "isinstance" := gn_mk C.hX.toXN (by decide +kernel)
  have g_list : Gn X "list" := gn_mk C.hX.toXN (by decide +kernel)
  have g_tuple : Gn X "tuple" := gn_mk C.hX.toXN (by decide +kernel)
  have f_isinstance : X.mg "isinstance" = none := C.fc.free 43
  have f_list : X.mg "list" = none := C.fc.free 41
  have f_tuple : X.mg "tuple" = none := C.fc.free 46
  have d_alike : Dn X "alike" (spF X.K (τ := (Int × (Tu (Int × Int))) × (List Int) × (List Int) × Unit) (ρ := ((T1 PySem.Str) ⊕ ((T3 PySem.Str Int (List Int)) ⊕ (PySem.Str × (List Int))))) 3 m_alike) 3 := (gd_alike C.fc).dn C.rm (by omega)
  refine w_casesN (i := 3) (α := (T1 PySem.Str)) (β := ((T3 PySem.Str Int (List Int)) ⊕ (PySem.Str × (List Int)))) (Γl := fun a657 => [.fr (α := (Int × (Tu (Int × Int)))) t.1, .fr (α := (List Int)) t.2.1, .fr (α := (List Int)) t.2.2.1, .nw (α := (T1 PySem.Str)) qs0 a657, .un, .un]) (Γr := fun b658 => [.fr (α := (Int × (Tu (Int × Int)))) t.1, .fr (α := (List Int)) t.2.1, .fr (α := (List Int)) t.2.2.1, .nw (α := ((T3 PySem.Str Int (List Int)) ⊕ (PySem.Str × (List Int)))) qs0 b658, .un, .un]) rfl (fun a657 => ?_) (fun b658 => ?_) (fun _ => rfl) (fun _ => rfl) (he := by rfl)
  · skip
    refine w_asgO (α := (PySem.Str ⊕ (Int ⊕ (List Int)))) (Γ' := fun y659 : (List (PySem.Str ⊕ (Int ⊕ (List Int)))) => [.fr (α := (Int × (Tu (Int × Int)))) t.1, .fr (α := (List Int)) t.2.1, .fr (α := (List Int)) t.2.2.1, .nw (α := (T1 PySem.Str)) qs0 a657, .ow (α := (PySem.Str ⊕ (Int ⊕ (List Int)))) y659, .un]) fr l4 (he := by rfl) ?_ fun y659 => ?_
    · exact (ev_lst (md := true) (el_cons (md := true) (Ev.inl (m := (.ok a657.a)) (ev_ixP (md := true) ix10 (Ev.nl (ev_nw (md := true) n3 rfl rfl)) (ev_int (md := true) rfl) rfl) rfl) (el_nil (α := (PySem.Str ⊕ (Int ⊕ (List Int)))) rfl) rfl))
    refine w_for1 (i := 3) (y := a657) C.hX.calm fr n3 rfl ⟨_, ev_int rfl, rfl⟩ ?_
    exact w_ret (m1 := (((m_alike (t.1, t.2.1, t.2.2.1, ())) : R _).bind fun x660 => (.ok (eqD x660 (Ts.mk (Tv.mk y659).l))))) (g := fun z => z) fr hR (ev_eqX (ma := true) (mb := false) (md := true) C.hu (ev_call (md := true) d_alike g_alike (ea_cons (md := true) (ev_var (md := true) n0 rfl rfl) (ea_cons (md := true) (EvO.fz (ev_listL (md := true) g_list f_list (ev_var (md := true) n1 rfl rfl) rfl)) (ea_cons (md := true) (EvO.fz (ev_listL (md := true) g_list f_list (ev_var (md := true) n2 rfl rfl) rfl)) (ea_nil (md := true) rfl) rfl) rfl) rfl) rfl rfl) (Ev.tsV (m := (.ok (Tv.mk y659))) (ev_tupLV (md := false) g_tuple f_tuple (ev_own n4 rfl rfl) rfl) rfl) rfl) (fun _ h => h) rfl
  · skip
    refine w_casesN (i := 3) (α := (T3 PySem.Str Int (List Int))) (β := (PySem.Str × (List Int))) (Γl := fun a662 => [.fr (α := (Int × (Tu (Int × Int)))) t.1, .fr (α := (List Int)) t.2.1, .fr (α := (List Int)) t.2.2.1, .nw (α := (T3 PySem.Str Int (List Int))) qs0 a662, .un, .un]) (Γr := fun b663 => [.fr (α := (Int × (Tu (Int × Int)))) t.1, .fr (α := (List Int)) t.2.1, .fr (α := (List Int)) t.2.2.1, .nw (α := (PySem.Str × (List Int))) qs0 b663, .un, .un]) rfl (fun a662 => ?_) (fun b663 => ?_) (fun _ => rfl) (fun _ => rfl) (he := by rfl)
    · skip
      refine w_asgO (α := (PySem.Str ⊕ (Int ⊕ (List Int)))) (Γ' := fun y664 : (List (PySem.Str ⊕ (Int ⊕ (List Int)))) => [.fr (α := (Int × (Tu (Int × Int)))) t.1, .fr (α := (List Int)) t.2.1, .fr (α := (List Int)) t.2.2.1, .nw (α := (T3 PySem.Str Int (List Int))) qs0 a662, .ow (α := (PySem.Str ⊕ (Int ⊕ (List Int)))) y664, .un]) fr l4 (he := by rfl) ?_ fun y664 => ?_
      · exact (ev_lst (md := true) (el_cons (md := true) (Ev.inl (m := (.ok a662.a)) (Ev.flat (ma := false) (ev_ixP (md := false) ix30 (ev_nw (md := true) n3 rfl rfl) (ev_int (md := false) rfl) rfl)) rfl) (el_nil (α := (PySem.Str ⊕ (Int ⊕ (List Int)))) rfl) rfl))
      refine w_for3 (i := 3) (j := 5) (S := (List (PySem.Str ⊕ (Int ⊕ (List Int))))) (S2 := (List (PySem.Str ⊕ (Int ⊕ (List Int))))) (y := a662) (m1 := (((((((if false = true then (.stuck : R Int) else (.ok a662.b)) : R _).bind fun x670 => (.ok (Sum.inl x670 : (Int ⊕ (List Int))))) : R _).bind fun x671 => (.ok (Sum.inr x671 : (PySem.Str ⊕ (Int ⊕ (List Int)))))) : R _).bind fun x673 => ((appR y664 x673).bind fun y672 => (.ok y672)))) (m2 := fun s668 => (((((((if true = true then ((.ok a662.c) : R (List Int)) else .stuck) : R _).bind fun x674 => (.ok (Sum.inr x674 : (Int ⊕ (List Int))))) : R _).bind fun x675 => (.ok (Sum.inr x675 : (PySem.Str ⊕ (Int ⊕ (List Int)))))) : R _).bind fun x681 => ((appR s668 x681).bind fun y676 => (R.bind ((((((ixR a662.c (0 : Int)) : R _).bind fun x677 => (.ok (x677 + (1 : Int)))) : R _).bind fun x680 => ((setR a662.c (0 : Int) x680).bind fun y678 => ((appR y678 (7 : Int)).bind fun y679 => (.ok ())))) : R Unit) fun _ => (.ok y676))))) (Γ1 := fun p665 (s668 : (List (PySem.Str ⊕ (Int ⊕ (List Int))))) => [.fr (α := (Int × (Tu (Int × Int)))) t.1, .fr (α := (List Int)) t.2.1, .fr (α := (List Int)) t.2.2.1, .nw (α := (T3 PySem.Str Int (List Int))) [p665] a662, .ow (α := (PySem.Str ⊕ (Int ⊕ (List Int)))) s668, .un]) (Γ2 := fun p665 (s669 : (List (PySem.Str ⊕ (Int ⊕ (List Int))))) => [.fr (α := (Int × (Tu (Int × Int)))) t.1, .fr (α := (List Int)) t.2.1, .fr (α := (List Int)) t.2.2.1, .un, .ow (α := (PySem.Str ⊕ (Int ⊕ (List Int)))) s669, .un]) C.hX.calm fr n3 l5 rfl ⟨_, ev_int rfl, rfl⟩ ?_ (fun _ _ => rfl) ?_ (fun p665 s669 => ?_) (he := by rfl)
      · intro p665 H666 sb667 N
        replace fr := fr.up sb667
        try replace hR := hR.up sb667
        refine w_append (α := (PySem.Str ⊕ (Int ⊕ (List Int)))) (m1 := (((((if false = true then (.stuck : R Int) else (.ok a662.b)) : R _).bind fun x670 => (.ok (Sum.inl x670 : (Int ⊕ (List Int))))) : R _).bind fun x671 => (.ok (Sum.inr x671 : (PySem.Str ⊕ (Int ⊕ (List Int))))))) (Γ' := fun y672 : (List (PySem.Str ⊕ (Int ⊕ (List Int)))) => [.fr (α := (Int × (Tu (Int × Int)))) t.1, .fr (α := (List Int)) t.2.1, .fr (α := (List Int)) t.2.2.1, .nw (α := (T3 PySem.Str Int (List Int))) [p665] a662, .ow (α := (PySem.Str ⊕ (Int ⊕ (List Int)))) y672, .fr (α := Int) a662.b]) fr n4 rfl ?_ (he := by rfl) fun y672 => ?_
        · exact (Ev.inr (m := (((if false = true then (.stuck : R Int) else (.ok a662.b)) : R _).bind fun x670 => (.ok (Sum.inl x670 : (Int ⊕ (List Int)))))) (Ev.inl (m := (if false = true then (.stuck : R Int) else (.ok a662.b))) (ev_ifx (md := true) (et_val (md := true) (ev_isi (ma := true) (md := true) (n := "list") (c := false) g_isinstance f_isinstance g_list f_list (by decide +kernel) (by decide +kernel) (ev_var (md := true) n5 rfl rfl) rfl)) (Ev.stuck (md := true)) (ev_var (md := true) n5 rfl rfl) rfl) rfl) rfl)
        refine w_ifNo fr (et_val (md := true) (ev_isi (ma := true) (md := true) (n := "list") (c := false) g_isinstance f_isinstance g_list f_list (by decide +kernel) (by decide +kernel) (ev_var (md := true) n5 rfl rfl) rfl)) ?_
        exact w_end (s := y672) [5] rfl rfl
      · intro p665 H666 sb667 N s668
        replace fr := fr.up sb667
        try replace hR := hR.up sb667
        refine w_append (α := (PySem.Str ⊕ (Int ⊕ (List Int)))) (m1 := (((((if true = true then ((.ok a662.c) : R (List Int)) else .stuck) : R _).bind fun x674 => (.ok (Sum.inr x674 : (Int ⊕ (List Int))))) : R _).bind fun x675 => (.ok (Sum.inr x675 : (PySem.Str ⊕ (Int ⊕ (List Int))))))) (Γ' := fun y676 : (List (PySem.Str ⊕ (Int ⊕ (List Int)))) => [.fr (α := (Int × (Tu (Int × Int)))) t.1, .fr (α := (List Int)) t.2.1, .fr (α := (List Int)) t.2.2.1, .un, .ow (α := (PySem.Str ⊕ (Int ⊕ (List Int)))) y676, .ow (α := Int) a662.c]) fr n4 rfl ?_ (he := by rfl) fun y676 => ?_
        · exact (Ev.inr (m := (((if true = true then ((.ok a662.c) : R (List Int)) else .stuck) : R _).bind fun x674 => (.ok (Sum.inr x674 : (Int ⊕ (List Int)))))) (Ev.inr (m := (if true = true then ((.ok a662.c) : R (List Int)) else .stuck)) (ev_ifx (md := true) (et_val (md := true) (ev_isi (ma := false) (md := true) (n := "list") (c := true) g_isinstance f_isinstance g_list f_list (by decide +kernel) (by decide +kernel) (ev_own n5 rfl rfl) rfl)) (EvO.fz (EvO.flat (ma := false) (ev_listL (md := false) g_list f_list (ev_own n5 rfl rfl) rfl))) (Ev.stuck (md := true)) rfl) rfl) rfl)
        refine w_ifYes (S := Unit) (ma := (((((ixR a662.c (0 : Int)) : R _).bind fun x677 => (.ok (x677 + (1 : Int)))) : R _).bind fun x680 => ((setR a662.c (0 : Int) x680).bind fun y678 => ((appR y678 (7 : Int)).bind fun y679 => (.ok ()))))) (Γs := fun _ => [.fr (α := (Int × (Tu (Int × Int)))) t.1, .fr (α := (List Int)) t.2.1, .fr (α := (List Int)) t.2.2.1, .un, .ow (α := (PySem.Str ⊕ (Int ⊕ (List Int)))) y676, .un]) fr (et_val (md := true) (ev_isi (ma := false) (md := true) (n := "list") (c := true) g_isinstance f_isinstance g_list f_list (by decide +kernel) (by decide +kernel) (ev_own n5 rfl rfl) rfl)) ?_ (fun _ => ?_) (he := by rfl)
        · intro N
          refine w_setix (α := Int) (m1 := (((ixR a662.c (0 : Int)) : R _).bind fun x677 => (.ok (x677 + (1 : Int))))) (mj := (.ok (0 : Int))) (Γ' := fun y678 : (List Int) => [.fr (α := (Int × (Tu (Int × Int)))) t.1, .fr (α := (List Int)) t.2.1, .fr (α := (List Int)) t.2.2.1, .un, .ow (α := (PySem.Str ⊕ (Int ⊕ (List Int)))) y676, .ow (α := Int) y678]) fr n5 rfl ?_ ?_ (he := by rfl) fun y678 => ?_
          · exact (ev_add (ma := true) (mb := true) (md := true) (Ev.flat (ma := false) (ev_ixL (md := false) (mb := true) (ev_own n5 rfl rfl) (ev_int (md := true) rfl) rfl)) (ev_int (md := true) rfl) rfl)
          · exact (ev_int (md := true) rfl)
          refine w_append (α := Int) (m1 := (.ok (7 : Int))) (Γ' := fun y679 : (List Int) => [.fr (α := (Int × (Tu (Int × Int)))) t.1, .fr (α := (List Int)) t.2.1, .fr (α := (List Int)) t.2.2.1, .un, .ow (α := (PySem.Str ⊕ (Int ⊕ (List Int)))) y676, .ow (α := Int) y679]) fr n5 rfl ?_ (he := by rfl) fun y679 => ?_
          · exact (ev_int (md := true) rfl)
          exact w_end (s := ()) [5] rfl rfl
        exact w_end (s := y676) [] rfl rfl
      exact w_ret (m1 := (((m_alike (t.1, t.2.1, t.2.2.1, ())) : R _).bind fun x682 => (.ok (eqD x682 (Ts.mk (Tv.mk s669).l))))) (g := fun z => z) fr hR (ev_eqX (ma := true) (mb := false) (md := true) C.hu (ev_call (md := true) d_alike g_alike (ea_cons (md := true) (ev_var (md := true) n0 rfl rfl) (ea_cons (md := true) (EvO.fz (ev_listL (md := true) g_list f_list (ev_var (md := true) n1 rfl rfl) rfl)) (ea_cons (md := true) (EvO.fz (ev_listL (md := true) g_list f_list (ev_var (md := true) n2 rfl rfl) rfl)) (ea_nil (md := true) rfl) rfl) rfl) rfl) rfl rfl) (Ev.tsV (m := (.ok (Tv.mk s669))) (ev_tupLV (md := false) g_tuple f_tuple (ev_own n4 rfl rfl) rfl) rfl) rfl) (fun _ h => h) rfl
    · skip
      refine w_asgO (α := (PySem.Str ⊕ (Int ⊕ (List Int)))) (Γ' := fun y684 : (List (PySem.Str ⊕ (Int ⊕ (List Int)))) => [.fr (α := (Int × (Tu (Int × Int)))) t.1, .fr (α := (List Int)) t.2.1, .fr (α := (List Int)) t.2.2.1, .nw (α := (PySem.Str × (List Int))) qs0 b663, .ow (α := (PySem.Str ⊕ (Int ⊕ (List Int)))) y684, .un]) fr l4 (he := by rfl) ?_ fun y684 => ?_
      · exact (ev_lst (md := true) (el_cons (md := true) (Ev.inl (m := (.ok b663.1)) (Ev.flat (ma := false) (ev_ixP (md := false) ix20 (ev_nw (md := true) n3 rfl rfl) (ev_int (md := false) rfl) rfl)) rfl) (el_nil (α := (PySem.Str ⊕ (Int ⊕ (List Int)))) rfl) rfl))
      refine w_for2 (i := 3) (j := 5) (S := (List (PySem.Str ⊕ (Int ⊕ (List Int))))) (y := b663) (m1 := (((((((if true = true then ((.ok b663.2) : R (List Int)) else .stuck) : R _).bind fun x689 => (.ok (Sum.inr x689 : (Int ⊕ (List Int))))) : R _).bind fun x690 => (.ok (Sum.inr x690 : (PySem.Str ⊕ (Int ⊕ (List Int)))))) : R _).bind fun x696 => ((appR y684 x696).bind fun y691 => (R.bind ((((((ixR b663.2 (0 : Int)) : R _).bind fun x692 => (.ok (x692 + (1 : Int)))) : R _).bind fun x695 => ((setR b663.2 (0 : Int) x695).bind fun y693 => ((appR y693 (7 : Int)).bind fun y694 => (.ok ())))) : R Unit) fun _ => (.ok y691))))) (Γ1 := fun p685 (s688 : (List (PySem.Str ⊕ (Int ⊕ (List Int))))) => [.fr (α := (Int × (Tu (Int × Int)))) t.1, .fr (α := (List Int)) t.2.1, .fr (α := (List Int)) t.2.2.1, .un, .ow (α := (PySem.Str ⊕ (Int ⊕ (List Int)))) s688, .un]) C.hX.calm fr n3 l5 rfl ⟨_, ev_int rfl, rfl⟩ ?_ (fun p685 s688 => ?_) (he := by rfl)
      · intro p685 H686 sb687 N
        replace fr := fr.up sb687
        try replace hR := hR.up sb687
        refine w_append (α := (PySem.Str ⊕ (Int ⊕ (List Int)))) (m1 := (((((if true = true then ((.ok b663.2) : R (List Int)) else .stuck) : R _).bind fun x689 => (.ok (Sum.inr x689 : (Int ⊕ (List Int))))) : R _).bind fun x690 => (.ok (Sum.inr x690 : (PySem.Str ⊕ (Int ⊕ (List Int))))))) (Γ' := fun y691 : (List (PySem.Str ⊕ (Int ⊕ (List Int)))) => [.fr (α := (Int × (Tu (Int × Int)))) t.1, .fr (α := (List Int)) t.2.1, .fr (α := (List Int)) t.2.2.1, .un, .ow (α := (PySem.Str ⊕ (Int ⊕ (List Int)))) y691, .ow (α := Int) b663.2]) fr n4 rfl ?_ (he := by rfl) fun y691 => ?_
        · exact (Ev.inr (m := (((if true = true then ((.ok b663.2) : R (List Int)) else .stuck) : R _).bind fun x689 => (.ok (Sum.inr x689 : (Int ⊕ (List Int)))))) (Ev.inr (m := (if true = true then ((.ok b663.2) : R (List Int)) else .stuck)) (ev_ifx (md := true) (et_val (md := true) (ev_isi (ma := false) (md := true) (n := "list") (c := true) g_isinstance f_isinstance g_list f_list (by decide +kernel) (by decide +kernel) (ev_own n5 rfl rfl) rfl)) (EvO.fz (EvO.flat (ma := false) (ev_listL (md := false) g_list f_list (ev_own n5 rfl rfl) rfl))) (Ev.stuck (md := true)) rfl) rfl) rfl)
        refine w_ifYes (S := Unit) (ma := (((((ixR b663.2 (0 : Int)) : R _).bind fun x692 => (.ok (x692 + (1 : Int)))) : R _).bind fun x695 => ((setR b663.2 (0 : Int) x695).bind fun y693 => ((appR y693 (7 : Int)).bind fun y694 => (.ok ()))))) (Γs := fun _ => [.fr (α := (Int × (Tu (Int × Int)))) t.1, .fr (α := (List Int)) t.2.1, .fr (α := (List Int)) t.2.2.1, .un, .ow (α := (PySem.Str ⊕ (Int ⊕ (List Int)))) y691, .un]) fr (et_val (md := true) (ev_isi (ma := false) (md := true) (n := "list") (c := true) g_isinstance f_isinstance g_list f_list (by decide +kernel) (by decide +kernel) (ev_own n5 rfl rfl) rfl)) ?_ (fun _ => ?_) (he := by rfl)
        · intro N
          refine w_setix (α := Int) (m1 := (((ixR b663.2 (0 : Int)) : R _).bind fun x692 => (.ok (x692 + (1 : Int))))) (mj := (.ok (0 : Int))) (Γ' := fun y693 : (List Int) => [.fr (α := (Int × (Tu (Int × Int)))) t.1, .fr (α := (List Int)) t.2.1, .fr (α := (List Int)) t.2.2.1, .un, .ow (α := (PySem.Str ⊕ (Int ⊕ (List Int)))) y691, .ow (α := Int) y693]) fr n5 rfl ?_ ?_ (he := by rfl) fun y693 => ?_
          · exact (ev_add (ma := true) (mb := true) (md := true) (Ev.flat (ma := false) (ev_ixL (md := false) (mb := true) (ev_own n5 rfl rfl) (ev_int (md := true) rfl) rfl)) (ev_int (md := true) rfl) rfl)
          · exact (ev_int (md := true) rfl)
          refine w_append (α := Int) (m1 := (.ok (7 : Int))) (Γ' := fun y694 : (List Int) => [.fr (α := (Int × (Tu (Int × Int)))) t.1, .fr (α := (List Int)) t.2.1, .fr (α := (List Int)) t.2.2.1, .un, .ow (α := (PySem.Str ⊕ (Int ⊕ (List Int)))) y691, .ow (α := Int) y694]) fr n5 rfl ?_ (he := by rfl) fun y694 => ?_
          · exact (ev_int (md := true) rfl)
          exact w_end (s := ()) [5] rfl rfl
        exact w_end (s := y691) [] rfl rfl
      exact w_ret (m1 := (((m_alike (t.1, t.2.1, t.2.2.1, ())) : R _).bind fun x697 => (.ok (eqD x697 (Ts.mk (Tv.mk s688).l))))) (g := fun z => z) fr hR (ev_eqX (ma := true) (mb := false) (md := true) C.hu (ev_call (md := true) d_alike g_alike (ea_cons (md := true) (ev_var (md := true) n0 rfl rfl) (ea_cons (md := true) (EvO.fz (ev_listL (md := true) g_list f_list (ev_var (md := true) n1 rfl rfl) rfl)) (ea_cons (md := true) (EvO.fz (ev_listL (md := true) g_list f_list (ev_var (md := true) n2 rfl rfl) rfl)) (ea_nil (md := true) rfl) rfl) rfl) rfl) rfl rfl) (Ev.tsV (m := (.ok (Tv.mk s688))) (ev_tupLV (md := false) g_tuple f_tuple (ev_own n4 rfl rfl) rfl) rfl) rfl) (fun _ h => h) rfl
theorem gd_law_same_again {P : Program} {w : World} {K : PySem.W.Frag} {mg : PySem.Str → Option Value} {base : Heap} (fc : Fac fe fa fn K mg) : Gd P w K mg base "_law_same_again" (spFW K (ρ := Bool) m_law_same_again) 4 5 :=
  gd_FW 25 37 fc rfl rfl sc_law_same_again rfl bn_law_same_again fun X _ _ _ _ _ C H0 rt A B fr hR qs0 t => b_law_same_again (by omega) X C H0 rt A B fr hR qs0 t
theorem sc_law : FnScope ["script", "houses", "more", "ties", "web", "one", "other", "found", "number", "k"] ["script"] dd_law.scope := ⟨rfl, rfl, rfl, by decide +kernel, rfl, by decide +kernel, by decide +kernel⟩
theorem bn_law : BindE dd_law ["script"] := fun _ _ _ _ _ _ us hl => match us, hl with | [_], _ => rfl
theorem b_law {k : Nat} (hk : 5 ≤ k) (X : Cx) (C : Cb fe fa fn X (["script", "houses", "more", "ties", "web", "one", "other", "found", "number", "k"] : List PySem.Str) dd_law.scope k) (H0 : Hp) (qs : List Addr) (rt : VK) (A : Bool → Prop) (B : Exc → Prop) (fr : Fr X H0 B) (hR : RtF (ρ := Bool) X H0 qs rt A) (t : Scr × Unit) :
    W X H0 qs rt (fun _ H => rt .non H) A B [.fr (α := Scr) t.1, .un, .un, .un, .un, .un, .un, .un, .un, .un] dd_law.body (m_law t) := by
  have n0 : Nm X 0 "script" := nm_mk C.hX.toXN (by decide +kernel)
  have n1 : Nm X 1 "houses" := nm_mk C.hX.toXN (by decide +kernel)
  have n2 : Nm X 2 "more" := nm_mk C.hX.toXN (by decide +kernel)
  have n3 : Nm X 3 "ties" := nm_mk C.hX.toXN (by decide +kernel)
  have n4 : Nm X 4 "web" := nm_mk C.hX.toXN (by decide +kernel)
  have n5 : Nm X 5 "one" := nm_mk C.hX.toXN (by decide +kernel)
  have n6 : Nm X 6 "other" := nm_mk C.hX.toXN (by decide +kernel)
  have n7 : Nm X 7 "found" := nm_mk C.hX.toXN (by decide +kernel)
  have n8 : Nm X 8 "number" := nm_mk C.hX.toXN (by decide +kernel)
  have l1 : Lc X 1 "houses" := lc_mk C.hX.toXN (by decide +kernel)
  have l2 : Lc X 2 "more" := lc_mk C.hX.toXN (by decide +kernel)
  have l3 : Lc X 3 "ties" := lc_mk C.hX.toXN (by decide +kernel)
  have l4 : Lc X 4 "web" := lc_mk C.hX.toXN (by decide +kernel)
  have l5 : Lc X 5 "one" := lc_cell C.hX.toXN (C.fnt _) (by decide +kernel)
  have l6 : Lc X 6 "other" := lc_cell C.hX.toXN (C.fnt _) (by decide +kernel)
  have l7 : Lc X 7 "found" := lc_mk C.hX.toXN (by decide +kernel)
  have l8 : Lc X 8 "number" := lc_mk C.hX.toXN (by decide +kernel)
  have g__law_cell_at : Gn X "_law_cell_at" := gn_mk C.hX.toXN (by decide +kernel)
  have g__law_lent : Gn X "_law_lent" := gn_mk C.hX.toXN (by decide +kernel)
  have g__law_refused : Gn X "_law_refused" := gn_mk C.hX.toXN (by decide +kernel)
  have g__law_same_again : Gn X "_law_same_again" := gn_mk C.hX.toXN (by decide +kernel)
  have g__law_sizes : Gn X "_law_sizes" := gn_mk C.hX.toXN (by decide +kernel)
  have g__law_standings : Gn X "_law_standings" := gn_mk C.hX.toXN (by decide +kernel)
  have g__law_ties : Gn X "_law_ties" := gn_mk C.hX.toXN (by decide +kernel)
  have g__law_weighed : Gn X "_law_weighed" := gn_mk C.hX.toXN (by decide +kernel)
  have g__law_whole : Gn X "_law_whole" := gn_mk C.hX.toXN (by decide +kernel)
  have g_alike : Gn X "alike" := gn_mk C.hX.toXN (by decide +kernel)
  have g_isinstance : Gn X "isinstance" := gn_mk C.hX.toXN (by decide +kernel)
  have g_len : Gn X "len" := gn_mk C.hX.toXN (by decide +kernel)
  have g_list : Gn X "list" := gn_mk C.hX.toXN (by decide +kernel)
  have g_made : Gn X "made" := gn_mk C.hX.toXN (by decide +kernel)
  have g_range : Gn X "range" := gn_mk C.hX.toXN (by decide +kernel)
  have g_str : Gn X "str" := gn_mk C.hX.toXN (by decide +kernel)
  have g_sum : Gn X "sum" := gn_mk C.hX.toXN (by decide +kernel)
  have g_tuple : Gn X "tuple" := gn_mk C.hX.toXN (by decide +kernel)
  have f_isinstance : X.mg "isinstance" = none := C.fc.free 43
  have f_len : X.mg "len" = none := C.fc.free 39
  have f_list : X.mg "list" = none := C.fc.free 41
  have f_range : X.mg "range" = none := C.fc.free 40
  have f_str : X.mg "str" = none := C.fc.free 50
  have f_sum : X.mg "sum" = none := C.fc.free 42
  have f_tuple : X.mg "tuple" = none := C.fc.free 46
  have d_law_sizes : Dn X "_law_sizes" (spF X.K (τ := Int × Unit) (ρ := (Int × Int)) 1 m_law_sizes) 1 := (gd_law_sizes C.fc).dn C.rm (by omega)
  have d_law_cell_at : Dn X "_law_cell_at" (spF X.K (τ := Scr × Int × Unit) (ρ := Int) 2 m_law_cell_at) 2 := (gd_law_cell_at C.fc).dn C.rm (by omega)
  have d_law_ties : Dn X "_law_ties" (spO X.K (τ := Int × Int × Int × Unit) (ρ := (Int × Int)) 3 m_law_ties) 3 := (gd_law_ties C.fc).dn C.rm (by omega)
  have d_made : Dn X "made" (spF X.K (τ := Int × (List (Int × Int)) × Unit) (ρ := (Int × (Tu (Int × Int)))) 2 m_made) 2 := (gd_made C.fc).dn C.rm (by omega)
  have d_law_standings : Dn X "_law_standings" (spF X.K (τ := Scr × Int × Unit) (ρ := ((List Int) × (List Int))) 2 m_law_standings) 2 := (gd_law_standings C.fc).dn C.rm (by omega)
  have d_law_refused : Dn X "_law_refused" (spF X.K (τ := (Int × (Tu (Int × Int))) × (List Int) × (List Int) × Unit) (ρ := Bool) 3 m_law_refused) 3 := (gd_law_refused C.fc).dn C.rm (by omega)
  have d_alike_m011 : Dn X "alike" (spFM X.K (τ := (Int × (Tu (Int × Int))) × (List Int) × (List Int) × Unit) (ρ := ((T1 PySem.Str) ⊕ ((T3 PySem.Str Int (List Int)) ⊕ (PySem.Str × (List Int))))) [false, true, true] 3 m_alike) 3 := (gd_alike_m011 C.fc).dn C.rm (by omega)
  have d_law_whole : Dn X "_law_whole" (spF X.K (τ := Int × Unit) (ρ := Bool) 1 m_law_whole) 1 := (gd_law_whole C.fc).dn C.rm (by omega)
  have d_law_lent_m001 : Dn X "_law_lent" (spOM X.K (τ := (List (Int × Int)) × (List Int) × (List Int) × Unit) (ρ := Int) [false, false, true] 3 m_law_lent) 3 := (gd_law_lent_m001 C.fc).dn C.rm (by omega)
  have d_law_weighed : Dn X "_law_weighed" (spF X.K (τ := (Int × (Tu (Int × Int))) × (List (Int × Int)) × ((T1 PySem.Str) ⊕ ((T3 PySem.Str Int (List Int)) ⊕ (PySem.Str × (List Int)))) × (List Int) × Unit) (ρ := Bool) 4 m_law_weighed) 4 := (gd_law_weighed C.fc).dn C.rm (by omega)
  have d_law_same_again : Dn X "_law_same_again" (spFW X.K (ρ := Bool) m_law_same_again) 4 := (gd_law_same_again C.fc).dn C.rm (by omega)
  refine w_asgT (α := (Int × Int)) (m1 := (((((m_law_cell_at (t.1, (0 : Int), ())) : R _).bind fun x11 => (.ok (x11, (())))) : R _).bind fun x12 => (m_law_sizes x12))) (Γ' := fun y13 : (Int × Int) => [.fr (α := Scr) t.1, .fr (α := Int) y13.1, .fr (α := Int) y13.2, .un, .un, .un, .un, .un, .un, .un]) (is := [1, 2]) fr ?_ (fun y13 => ?_) (he := by rfl) fun y13 => ?_
  · exact (ev_call (md := true) d_law_sizes g__law_sizes (ea_cons (md := true) (ev_call (md := true) d_law_cell_at g__law_cell_at (ea_cons (md := true) (ev_var (md := true) n0 rfl rfl) (ea_cons (md := true) (ev_int (md := true) rfl) (ea_nil (md := true) rfl) rfl) rfl) rfl rfl) (ea_nil (md := true) rfl) rfl) rfl rfl)
  · exact (eg_two C.hX.calm (eg_name (α := Int) l1 rfl (fun _ => rfl)) (eg_name (α := Int) l2 rfl (fun _ => rfl)))
  refine w_asg (α := (List (Int × Int))) (Γ' := fun y88 : (List (Int × Int)) => [.fr (α := Scr) t.1, .fr (α := Int) y13.1, .fr (α := Int) y13.2, .fr (α := (List (Int × Int))) y88, .un, .un, .un, .un, .un, .un]) fr l3 (he := by rfl) ?_ fun y88 => ?_
  · exact (EvO.fz (ev_callO (md := true) d_law_ties g__law_ties (ea_cons (md := true) (ev_var (md := true) n1 rfl rfl) (ea_cons (md := true) (ev_var (md := true) n2 rfl rfl) (ea_cons (md := true) (ev_call (md := true) d_law_cell_at g__law_cell_at (ea_cons (md := true) (ev_var (md := true) n0 rfl rfl) (ea_cons (md := true) (ev_int (md := true) rfl) (ea_nil (md := true) rfl) rfl) rfl) rfl rfl) (ea_nil (md := true) rfl) rfl) rfl) rfl) rfl rfl))
  refine w_asg (α := (Int × (Tu (Int × Int)))) (Γ' := fun y141 : (Int × (Tu (Int × Int))) => [.fr (α := Scr) t.1, .fr (α := Int) y13.1, .fr (α := Int) y13.2, .fr (α := (List (Int × Int))) y88, .fr (α := (Int × (Tu (Int × Int)))) y141, .un, .un, .un, .un, .un]) fr l4 (he := by rfl) ?_ fun y141 => ?_
  · exact (ev_call (md := true) d_made g_made (ea_cons (md := true) (ev_var (md := true) n1 rfl rfl) (ea_cons (md := true) (ev_var (md := true) n3 rfl rfl) (ea_nil (md := true) rfl) rfl) rfl) rfl rfl)
  refine w_asgT (α := ((List Int) × (List Int))) (m1 := (m_law_standings (t.1, y13.1, ()))) (Γ' := fun y225 : ((List Int) × (List Int)) => [.fr (α := Scr) t.1, .fr (α := Int) y13.1, .fr (α := Int) y13.2, .fr (α := (List (Int × Int))) y88, .fr (α := (Int × (Tu (Int × Int)))) y141, .fr (α := (List Int)) y225.1, .fr (α := (List Int)) y225.2, .un, .un, .un]) (is := [5, 6]) fr ?_ (fun y225 => ?_) (he := by rfl) fun y225 => ?_
  · exact (ev_call (md := true) d_law_standings g__law_standings (ea_cons (md := true) (ev_var (md := true) n0 rfl rfl) (ea_cons (md := true) (ev_var (md := true) n1 rfl rfl) (ea_nil (md := true) rfl) rfl) rfl) rfl rfl)
  · exact (eg_two C.hX.calm (eg_name (α := (List Int)) l5 rfl (fun _ => rfl)) (eg_name (α := (List Int)) l6 rfl (fun _ => rfl)))
  refine w_ifR (mc := (((((((((((catR y225.1 ([(0 : Int)] : (List Int))) : R _).bind fun x428 => (.ok (x428, (y225.2, ())))) : R _).bind fun x429 => (.ok (y141, x429))) : R _).bind fun x430 => (m_law_refused x430)) : R _).bind fun x431 => (.ok (!x431))) : R _).bind fun x433 => (if x433 = true then R.ok true else (((m_law_refused (y141, y225.1, cutL y225.2 none (some (y13.1 - (1 : Int))), ())) : R _).bind fun x432 => (.ok (!x432)))))) fr (EvW.t (ew_or (et_not (et_val (md := true) (ev_call (md := true) d_law_refused g__law_refused (ea_cons (md := true) (ev_var (md := true) n4 rfl rfl) (ea_cons (md := true) (EvO.fz (ev_cat (md := true) (ev_var (md := true) n5 rfl rfl) (EvO.fz (ev_lst (md := true) (el_cons (md := true) (ev_int (md := true) rfl) (el_nil (α := Int) rfl) rfl))) rfl)) (ea_cons (md := true) (ev_var (md := true) n6 rfl rfl) (ea_nil (md := true) rfl) rfl) rfl) rfl) rfl rfl)) rfl) (ew_or1 (et_not (et_val (md := true) (ev_call (md := true) d_law_refused g__law_refused (ea_cons (md := true) (ev_var (md := true) n4 rfl rfl) (ea_cons (md := true) (ev_var (md := true) n5 rfl rfl) (ea_cons (md := true) (EvO.fz (ev_cut (md := true) (ev_var (md := true) n6 rfl rfl) ep_no (ep_of (ma := true) (ev_sub (ma := true) (mb := true) (md := true) (ev_var (md := true) n1 rfl rfl) (ev_int (md := true) rfl) rfl) rfl) rfl)) (ea_nil (md := true) rfl) rfl) rfl) rfl) rfl rfl)) rfl)) rfl)) (fun nx' => ?_) ?_ (he := by rfl)
  · skip
    exact w_ret (m1 := (.ok false)) (g := fun z => z) fr hR (ev_bool (md := true) rfl) (fun _ h => h) rfl
  refine w_ifR (mc := (((((((((((catR y225.1 ([(0 : Int)] : (List Int))) : R _).bind fun x435 => (((((catR y225.2 ([(0 : Int)] : (List Int))) : R _).bind fun x434 => (.ok (x434, (())))) : R _).bind fun x436 => (.ok (x435, x436)))) : R _).bind fun x437 => (.ok (y141, x437))) : R _).bind fun x438 => (m_law_refused x438)) : R _).bind fun x439 => (.ok (!x439))) : R _).bind fun x441 => (if x441 = true then R.ok true else (((m_law_refused (y141, cutL y225.1 (some (1 : Int)) none, cutL y225.2 (some (1 : Int)) none, ())) : R _).bind fun x440 => (.ok (!x440)))))) fr (EvW.t (ew_or (et_not (et_val (md := true) (ev_call (md := true) d_law_refused g__law_refused (ea_cons (md := true) (ev_var (md := true) n4 rfl rfl) (ea_cons (md := true) (EvO.fz (ev_cat (md := true) (ev_var (md := true) n5 rfl rfl) (EvO.fz (ev_lst (md := true) (el_cons (md := true) (ev_int (md := true) rfl) (el_nil (α := Int) rfl) rfl))) rfl)) (ea_cons (md := true) (EvO.fz (ev_cat (md := true) (ev_var (md := true) n6 rfl rfl) (EvO.fz (ev_lst (md := true) (el_cons (md := true) (ev_int (md := true) rfl) (el_nil (α := Int) rfl) rfl))) rfl)) (ea_nil (md := true) rfl) rfl) rfl) rfl) rfl rfl)) rfl) (ew_or1 (et_not (et_val (md := true) (ev_call (md := true) d_law_refused g__law_refused (ea_cons (md := true) (ev_var (md := true) n4 rfl rfl) (ea_cons (md := true) (EvO.fz (ev_cut (md := true) (ev_var (md := true) n5 rfl rfl) (ep_of (ma := true) (ev_int (md := true) rfl) rfl) ep_no rfl)) (ea_cons (md := true) (EvO.fz (ev_cut (md := true) (ev_var (md := true) n6 rfl rfl) (ep_of (ma := true) (ev_int (md := true) rfl) rfl) ep_no rfl)) (ea_nil (md := true) rfl) rfl) rfl) rfl) rfl rfl)) rfl)) rfl)) (fun nx' => ?_) ?_ (he := by rfl)
  · skip
    exact w_ret (m1 := (.ok false)) (g := fun z => z) fr hR (ev_bool (md := true) rfl) (fun _ h => h) rfl
  refine w_asgN (α := ((T1 PySem.Str) ⊕ ((T3 PySem.Str Int (List Int)) ⊕ (PySem.Str × (List Int))))) (Γ' := fun p489 (y442 : ((T1 PySem.Str) ⊕ ((T3 PySem.Str Int (List Int)) ⊕ (PySem.Str × (List Int))))) => [.fr (α := Scr) t.1, .fr (α := Int) y13.1, .fr (α := Int) y13.2, .fr (α := (List (Int × Int))) y88, .fr (α := (Int × (Tu (Int × Int)))) y141, .fr (α := (List Int)) y225.1, .fr (α := (List Int)) y225.2, .nw (α := ((T1 PySem.Str) ⊕ ((T3 PySem.Str Int (List Int)) ⊕ (PySem.Str × (List Int))))) p489 y442, .un, .un]) fr l7 ?_ (fun p489 y442 => ?_) (fun _ _ => rfl) (he := by rfl)
  · exact (ev_callN (mk := [false, true, true]) d_alike_m011 g_alike (ean_F (ev_var (md := true) n4 rfl rfl) (ean_P (EvO.fz (ev_listL (md := false) g_list f_list (ev_var (md := false) n5 rfl rfl) rfl)) (ean_P (EvO.fz (ev_listL (md := false) g_list f_list (ev_var (md := false) n6 rfl rfl) rfl)) (ean_nil (mk := []) rfl) rfl) rfl) rfl) rfl rfl)
  refine w_lend (i := 7) (y := y442) (α := ((T1 PySem.Str) ⊕ ((T3 PySem.Str Int (List Int)) ⊕ (PySem.Str × (List Int))))) (Γ' := fun G491 => [.fr (α := Scr) t.1, .fr (α := Int) y13.1, .fr (α := Int) y13.2, .fr (α := (List (Int × Int))) y88, .fr (α := (Int × (Tu (Int × Int)))) y141, .fr (α := (List Int)) y225.1, .fr (α := (List Int)) y225.2, .pm (α := ((T1 PySem.Str) ⊕ ((T3 PySem.Str Int (List Int)) ⊕ (PySem.Str × (List Int))))) G491 y442, .un, .un]) rfl (fun H490 G491 L492 => ?_) (fun _ => rfl)
  have fr493 := fr
  try have hR494 := hR
  replace fr := fr.up L492.s
  try replace hR := hR.lend L492
  refine w_ifR (mc := (if (!true) = true then R.ok true else (if (decide ((PyLn.ln y442 : Int) < (1 : Int))) = true then R.ok true else (((((R.ofO ((sumO (fun x => some x.a : (T1 PySem.Str) → Option PySem.Str) (sumO (fun x => some x.a : (T3 PySem.Str Int (List Int)) → Option PySem.Str) (fun x => some x.1 : (PySem.Str × (List Int)) → Option PySem.Str))) y442)) : R _).bind fun x495 => (.ok true)) : R _).bind fun x496 => (.ok (!x496)))))) fr (EvW.t (ew_or (et_not (et_val (md := true) (ev_isi (ma := false) (md := true) (n := "tuple") (c := true) g_isinstance f_isinstance g_tuple f_tuple (by decide +kernel) (by decide +kernel) (ev_pm n7 rfl rfl) rfl)) rfl) (ew_or (et_lt (ma := true) (mb := true) (ev_lenU (ma := false) (md := true) g_len f_len (ev_pm n7 rfl rfl) rfl) (ev_int (md := true) rfl) rfl) (ew_or1 (et_not (et_val (md := true) (ev_isi (ma := true) (md := true) (n := "str") (c := true) g_isinstance f_isinstance g_str f_str (by decide +kernel) (by decide +kernel) (Ev.flat (ma := false) (ev_ixP (md := false) (f := (sumO (fun x => some x.a : (T1 PySem.Str) → Option PySem.Str) (sumO (fun x => some x.a : (T3 PySem.Str Int (List Int)) → Option PySem.Str) (fun x => some x.1 : (PySem.Str × (List Int)) → Option PySem.Str)))) (ixS ix10 (ixS ix30 ix20)) (ev_pm n7 rfl rfl) (ev_int (md := false) rfl) rfl)) rfl)) rfl)) rfl) rfl)) (fun nx' => ?_) ?_ (he := by rfl)
  · skip
    exact w_ret (m1 := (.ok false)) (g := fun z => z) fr hR (ev_bool (md := true) rfl) (fun _ h => h) rfl
  refine w_ifR (ma := (.ok (pyEq y442 (Sum.inl (T1.mk ("sums" : PySem.Str)) : ((T1 PySem.Str) ⊕ ((T3 PySem.Str Int (List Int)) ⊕ (PySem.Str × (List Int)))))))) (mc := (.ok (!pyEq (List.sum y225.1) (List.sum y225.2)))) fr (et_ne (α := Int) (ma := true) (mb := true) C.hu (ev_sum (ma := true) (md := true) C.hX.calm g_sum f_sum (ev_var (md := true) n5 rfl rfl) rfl) (ev_sum (ma := true) (md := true) C.hX.calm g_sum f_sum (ev_var (md := true) n6 rfl rfl) rfl) rfl) (fun nx' => ?_) ?_ (he := by rfl)
  · skip
    exact w_ret (m1 := (.ok (pyEq y442 (Sum.inl (T1.mk ("sums" : PySem.Str)) : ((T1 PySem.Str) ⊕ ((T3 PySem.Str Int (List Int)) ⊕ (PySem.Str × (List Int)))))))) (g := fun z => z) fr hR (ev_eq (α := ((T1 PySem.Str) ⊕ ((T3 PySem.Str Int (List Int)) ⊕ (PySem.Str × (List Int))))) (ma := false) (mb := true) (md := true) C.hu (ev_pm n7 rfl rfl) (Ev.inl (m := (.ok (T1.mk ("sums" : PySem.Str)))) (ev_tup (md := true) tup1 (ea_cons (md := true) (ev_str (md := true) rfl) (ea_nil (md := true) rfl) rfl) rfl) rfl) rfl) (fun _ h => h) rfl
  refine w_ifM (S := Unit) (mc := (((R.ofO ((sumO (fun x => some x.a : (T1 PySem.Str) → Option PySem.Str) (sumO (fun x => some x.a : (T3 PySem.Str Int (List Int)) → Option PySem.Str) (fun x => some x.1 : (PySem.Str × (List Int)) → Option PySem.Str))) y442)) : R _).bind fun x497 => (.ok (pyEq x497 ("lent" : PySem.Str))))) (ma := (((if (!pyEq (PyLn.ln y442 : Int) (2 : Int)) = true then R.ok true else (((((((R.ofO ((sumO (fun _ => none : (T1 PySem.Str) → Option (List Int)) (sumO (fun _ => none : (T3 PySem.Str Int (List Int)) → Option (List Int)) (fun x => some x.2 : (PySem.Str × (List Int)) → Option (List Int)))) y442)) : R _).bind fun x499 => (.ok true)) : R _).bind fun x500 => (.ok (!x500))) : R _).bind fun x503 => (if x503 = true then R.ok true else (((((R.ofO ((sumO (fun _ => none : (T1 PySem.Str) → Option (List Int)) (sumO (fun _ => none : (T3 PySem.Str Int (List Int)) → Option (List Int)) (fun x => some x.2 : (PySem.Str × (List Int)) → Option (List Int)))) y442)) : R _).bind fun x501 => (.ok (x501.length : Int))) : R _).bind fun x502 => (.ok (!pyEq x502 y13.1)))))) : R Bool).bind fun c555 => if c555 = true then (.ok (.rt false)) else (((R.ofO ((sumO (fun _ => none : (T1 PySem.Str) → Option (List Int)) (sumO (fun _ => none : (T3 PySem.Str Int (List Int)) → Option (List Int)) (fun x => some x.2 : (PySem.Str × (List Int)) → Option (List Int)))) y442)) : R _).bind fun x554 => (R.ct (forM (fun y505 s504 => (((((m_law_whole (y505, ())) : R _).bind fun x509 => (.ok (!x509))) : R Bool).bind fun c510 => if c510 = true then (.ok (.rt (.rt false))) else (.ok (.nx ())))) x554 ()) fun s504 : Unit => (((((((((R.ofO ((sumO (fun _ => none : (T1 PySem.Str) → Option (List Int)) (sumO (fun _ => none : (T3 PySem.Str Int (List Int)) → Option (List Int)) (fun x => some x.2 : (PySem.Str × (List Int)) → Option (List Int)))) y442)) : R _).bind fun x511 => (ixR x511 (0 : Int))) : R _).bind fun x512 => (.ok (!pyEq x512 (0 : Int)))) : R _).bind fun x552 => (if x552 = true then R.ok true else (((((((((((R.ofO ((sumO (fun _ => none : (T1 PySem.Str) → Option (List Int)) (sumO (fun _ => none : (T3 PySem.Str Int (List Int)) → Option (List Int)) (fun x => some x.2 : (PySem.Str × (List Int)) → Option (List Int)))) y442)) : R _).bind fun x530 => (.ok (x530, (())))) : R _).bind fun x531 => (.ok (y225.1, x531))) : R _).bind fun x532 => (.ok (y88, x532))) : R _).bind fun x533 => (m_law_lent x533)) : R _).bind fun x551 => (.ok (!pyEq x551 y225.2))))) : R Bool).bind fun c553 => if c553 = true then (.ok (.rt false)) else (.ok (.nx ()))))))) (mb := (((((((((((((((((rngR 0 y13.1) : R _).bind fun x563 => (mapR (fun y556 => (((ixR y225.1 y556) : R _).bind fun x561 => (((ixR y225.2 y556) : R _).bind fun x562 => (.ok (x561 - x562))))) x563)) : R _).bind fun x650 => (.ok (x650, (())))) : R _).bind fun x651 => (.ok (y442, x651))) : R _).bind fun x652 => (.ok (y88, x652))) : R _).bind fun x653 => (.ok (y141, x653))) : R _).bind fun x654 => (m_law_weighed x654)) : R _).bind fun x655 => (.ok (!x655))) : R Bool).bind fun c656 => if c656 = true then (.ok (.rt false)) else (.ok (.nx ())))) (Γs := fun s498 : Unit => [.fr (α := Scr) t.1, .fr (α := Int) y13.1, .fr (α := Int) y13.2, .fr (α := (List (Int × Int))) y88, .fr (α := (Int × (Tu (Int × Int)))) y141, .fr (α := (List Int)) y225.1, .fr (α := (List Int)) y225.2, .pm (α := ((T1 PySem.Str) ⊕ ((T3 PySem.Str Int (List Int)) ⊕ (PySem.Str × (List Int))))) G491 y442, .un, .un]) fr (et_eq (α := PySem.Str) (ma := true) (mb := true) C.hu (Ev.flat (ma := false) (ev_ixP (md := false) (f := (sumO (fun x => some x.a : (T1 PySem.Str) → Option PySem.Str) (sumO (fun x => some x.a : (T3 PySem.Str Int (List Int)) → Option PySem.Str) (fun x => some x.1 : (PySem.Str × (List Int)) → Option PySem.Str)))) (ixS ix10 (ixS ix30 ix20)) (ev_pm n7 rfl rfl) (ev_int (md := false) rfl) rfl)) (ev_str (md := true) rfl) rfl) ?_ ?_ (he := by rfl) fun s498 => ?_
  · intro N
    refine w_ifR (mc := (if (!pyEq (PyLn.ln y442 : Int) (2 : Int)) = true then R.ok true else (((((((R.ofO ((sumO (fun _ => none : (T1 PySem.Str) → Option (List Int)) (sumO (fun _ => none : (T3 PySem.Str Int (List Int)) → Option (List Int)) (fun x => some x.2 : (PySem.Str × (List Int)) → Option (List Int)))) y442)) : R _).bind fun x499 => (.ok true)) : R _).bind fun x500 => (.ok (!x500))) : R _).bind fun x503 => (if x503 = true then R.ok true else (((((R.ofO ((sumO (fun _ => none : (T1 PySem.Str) → Option (List Int)) (sumO (fun _ => none : (T3 PySem.Str Int (List Int)) → Option (List Int)) (fun x => some x.2 : (PySem.Str × (List Int)) → Option (List Int)))) y442)) : R _).bind fun x501 => (.ok (x501.length : Int))) : R _).bind fun x502 => (.ok (!pyEq x502 y13.1))))))) fr (EvW.t (ew_or (et_ne (α := Int) (ma := true) (mb := true) C.hu (ev_lenU (ma := false) (md := true) g_len f_len (ev_pm n7 rfl rfl) rfl) (ev_int (md := true) rfl) rfl) (ew_or (et_not (et_val (md := true) (ev_isi (ma := false) (md := true) (n := "list") (c := true) g_isinstance f_isinstance g_list f_list (by decide +kernel) (by decide +kernel) (ev_ixP (md := false) (f := (sumO (fun _ => none : (T1 PySem.Str) → Option (List Int)) (sumO (fun _ => none : (T3 PySem.Str Int (List Int)) → Option (List Int)) (fun x => some x.2 : (PySem.Str × (List Int)) → Option (List Int))))) (ixS ixNo (ixS ixNo ix21)) (ev_pm n7 rfl rfl) (ev_int (md := false) rfl) rfl) rfl)) rfl) (ew_or1 (et_ne (α := Int) (ma := true) (mb := true) C.hu (ev_lenL (ma := false) (md := true) g_len f_len (ev_ixP (md := false) (f := (sumO (fun _ => none : (T1 PySem.Str) → Option (List Int)) (sumO (fun _ => none : (T3 PySem.Str Int (List Int)) → Option (List Int)) (fun x => some x.2 : (PySem.Str × (List Int)) → Option (List Int))))) (ixS ixNo (ixS ixNo ix21)) (ev_pm n7 rfl rfl) (ev_int (md := false) rfl) rfl) rfl) (ev_var (md := true) n1 rfl rfl) rfl)) rfl) rfl)) (fun nx' => ?_) ?_ (he := by rfl)
    · skip
      exact w_ret (m1 := (.ok false)) (g := fun z => .rt z) fr hR (ev_bool (md := true) rfl) (fun _ h => h) rfl
    refine w_forQM (α := Int) (S := Unit) (mx := (R.ofO ((sumO (fun _ => none : (T1 PySem.Str) → Option (List Int)) (sumO (fun _ => none : (T3 PySem.Str Int (List Int)) → Option (List Int)) (fun x => some x.2 : (PySem.Str × (List Int)) → Option (List Int)))) y442))) (bd := (fun y505 s504 => (((((m_law_whole (y505, ())) : R _).bind fun x509 => (.ok (!x509))) : R Bool).bind fun c510 => if c510 = true then (.ok (.rt (.rt false))) else (.ok (.nx ()))))) (s0 := ()) (Γs := fun s504 : Unit => [.fr (α := Scr) t.1, .fr (α := Int) y13.1, .fr (α := Int) y13.2, .fr (α := (List (Int × Int))) y88, .fr (α := (Int × (Tu (Int × Int)))) y141, .fr (α := (List Int)) y225.1, .fr (α := (List Int)) y225.2, .pm (α := ((T1 PySem.Str) ⊕ ((T3 PySem.Str Int (List Int)) ⊕ (PySem.Str × (List Int))))) G491 y442, .un, .un]) (Γb := fun (y505 : Int) (s504 : Unit) => [.fr (α := Scr) t.1, .fr (α := Int) y13.1, .fr (α := Int) y13.2, .fr (α := (List (Int × Int))) y88, .fr (α := (Int × (Tu (Int × Int)))) y141, .fr (α := (List Int)) y225.1, .fr (α := (List Int)) y225.2, .pm (α := ((T1 PySem.Str) ⊕ ((T3 PySem.Str Int (List Int)) ⊕ (PySem.Str × (List Int))))) G491 y442, .fr (α := Int) y505, .un]) (is := [8]) C.hX.calm fr (he := by rfl) ?_ ?_ ?_ fun s504 => ?_
    · exact (ei_list (ev_ixP (md := true) (f := (sumO (fun _ => none : (T1 PySem.Str) → Option (List Int)) (sumO (fun _ => none : (T3 PySem.Str Int (List Int)) → Option (List Int)) (fun x => some x.2 : (PySem.Str × (List Int)) → Option (List Int))))) (ixS ixNo (ixS ixNo ix21)) (ev_var (md := true) n7 rfl rfl) (ev_int (md := true) rfl) rfl))
    · exact fun y505 s504 => (eg_name (α := Int) l8 rfl (fun _ => rfl))
    · intro H506 sb507 N y505 s504
      replace fr := fr.up sb507
      try replace hR := hR.up sb507
      refine w_ifR (mc := (((m_law_whole (y505, ())) : R _).bind fun x509 => (.ok (!x509)))) fr (et_not (et_val (md := true) (ev_call (md := true) d_law_whole g__law_whole (ea_cons (md := true) (ev_var (md := true) n8 rfl rfl) (ea_nil (md := true) rfl) rfl) rfl rfl)) rfl) (fun nx' => ?_) ?_ (he := by rfl)
      · skip
        exact w_ret (m1 := (.ok false)) (g := fun z => .rt (.rt z)) fr hR (ev_bool (md := true) rfl) (fun _ h => h) rfl
      exact w_endM (s := ()) [8] rfl rfl
    refine w_ifR (mc := (((((((R.ofO ((sumO (fun _ => none : (T1 PySem.Str) → Option (List Int)) (sumO (fun _ => none : (T3 PySem.Str Int (List Int)) → Option (List Int)) (fun x => some x.2 : (PySem.Str × (List Int)) → Option (List Int)))) y442)) : R _).bind fun x511 => (ixR x511 (0 : Int))) : R _).bind fun x512 => (.ok (!pyEq x512 (0 : Int)))) : R _).bind fun x552 => (if x552 = true then R.ok true else (((((((((((R.ofO ((sumO (fun _ => none : (T1 PySem.Str) → Option (List Int)) (sumO (fun _ => none : (T3 PySem.Str Int (List Int)) → Option (List Int)) (fun x => some x.2 : (PySem.Str × (List Int)) → Option (List Int)))) y442)) : R _).bind fun x530 => (.ok (x530, (())))) : R _).bind fun x531 => (.ok (y225.1, x531))) : R _).bind fun x532 => (.ok (y88, x532))) : R _).bind fun x533 => (m_law_lent x533)) : R _).bind fun x551 => (.ok (!pyEq x551 y225.2)))))) fr (EvW.t (ew_or (et_ne (α := Int) (ma := true) (mb := true) C.hu (Ev.flat (ma := false) (ev_ixL (md := false) (mb := true) (ev_ixP (md := false) (f := (sumO (fun _ => none : (T1 PySem.Str) → Option (List Int)) (sumO (fun _ => none : (T3 PySem.Str Int (List Int)) → Option (List Int)) (fun x => some x.2 : (PySem.Str × (List Int)) → Option (List Int))))) (ixS ixNo (ixS ixNo ix21)) (ev_pm n7 rfl rfl) (ev_int (md := false) rfl) rfl) (ev_int (md := true) rfl) rfl)) (ev_int (md := true) rfl) rfl) (ew_or1 (et_ne (α := (List Int)) (ma := true) (mb := true) C.hu (EvO.fz (ev_callOM (mk := [false, false, true]) (md := true) d_law_lent_m001 g__law_lent (eam_F (md := true) (ev_var (md := true) n3 rfl rfl) (eam_F (md := true) (ev_var (md := true) n5 rfl rfl) (eam_P (md := true) (ev_ixP (md := false) (f := (sumO (fun _ => none : (T1 PySem.Str) → Option (List Int)) (sumO (fun _ => none : (T3 PySem.Str Int (List Int)) → Option (List Int)) (fun x => some x.2 : (PySem.Str × (List Int)) → Option (List Int))))) (ixS ixNo (ixS ixNo ix21)) (ev_pm n7 rfl rfl) (ev_int (md := false) rfl) rfl) (eam_nil (md := true) (mk := []) rfl) rfl) rfl) rfl) rfl rfl)) (ev_var (md := true) n6 rfl rfl) rfl)) rfl)) (fun nx' => ?_) ?_ (he := by rfl)
    · skip
      exact w_ret (m1 := (.ok false)) (g := fun z => .rt z) fr hR (ev_bool (md := true) rfl) (fun _ h => h) rfl
    exact w_endM (s := ()) [] rfl rfl
  · intro N
    refine w_ifR (mc := (((((((((((((((rngR 0 y13.1) : R _).bind fun x563 => (mapR (fun y556 => (((ixR y225.1 y556) : R _).bind fun x561 => (((ixR y225.2 y556) : R _).bind fun x562 => (.ok (x561 - x562))))) x563)) : R _).bind fun x650 => (.ok (x650, (())))) : R _).bind fun x651 => (.ok (y442, x651))) : R _).bind fun x652 => (.ok (y88, x652))) : R _).bind fun x653 => (.ok (y141, x653))) : R _).bind fun x654 => (m_law_weighed x654)) : R _).bind fun x655 => (.ok (!x655)))) fr (et_not (et_val (md := true) (Ev.flat (ma := false) (ev_call (md := false) d_law_weighed g__law_weighed (ea_cons (md := false) (ev_var (md := false) n4 rfl rfl) (ea_cons (md := false) (ev_var (md := false) n3 rfl rfl) (ea_cons (md := false) (ev_pm n7 rfl rfl) (ea_cons (md := false) (EvO.fz (EvO.flat (ma := true) (ev_map (mi := true) (α := Int) (β := Int) (mx := (rngR 0 y13.1)) (g := (fun y556 => (((ixR y225.1 y556) : R _).bind fun x561 => (((ixR y225.2 y556) : R _).bind fun x562 => (.ok (x561 - x562)))))) (own := [("k", 9)]) (Γx := fun y556 : Int => [.fr (α := Scr) t.1, .fr (α := Int) y13.1, .fr (α := Int) y13.2, .fr (α := (List (Int × Int))) y88, .fr (α := (Int × (Tu (Int × Int)))) y141, .fr (α := (List Int)) y225.1, .fr (α := (List Int)) y225.2, .pm (α := ((T1 PySem.Str) ⊕ ((T3 PySem.Str Int (List Int)) ⊕ (PySem.Str × (List Int))))) G491 y442, .un, .fr (α := Int) y556]) (is := [9]) C.hX (ei_range1 (ma := true) g_range f_range (ev_var (md := true) n1 rfl rfl) rfl) (.inl rfl) (by decide +kernel) (no1 (fun _ => rfl)) (by decide) (fun X558 b557 y556 => have h559 := b557.ok C.hX; (eg_name (α := Int) (lc_mk (i := 9) (x := "k") h559.toXN (by decide +kernel)) rfl (fun _ => rfl))) (fun X558 b557 D560 y556 => have h559 := b557.ok C.hX; (ev_sub (ma := true) (mb := true) (md := true) (ev_ixL (md := true) (mb := true) (ev_var (md := true) (nm_mk (i := 5) (x := "one") h559.toXN (by decide +kernel)) rfl rfl) (ev_var (md := true) (nm_mk (i := 9) (x := "k") h559.toXN (by decide +kernel)) rfl rfl) rfl) (ev_ixL (md := true) (mb := true) (ev_var (md := true) (nm_mk (i := 6) (x := "other") h559.toXN (by decide +kernel)) rfl rfl) (ev_var (md := true) (nm_mk (i := 9) (x := "k") h559.toXN (by decide +kernel)) rfl rfl) rfl) rfl)) rfl))) (ea_nil (md := false) rfl) rfl) rfl) rfl) rfl) rfl rfl))) rfl) (fun nx' => ?_) ?_ (he := by rfl)
    · skip
      exact w_ret (m1 := (.ok false)) (g := fun z => .rt z) fr hR (ev_bool (md := true) rfl) (fun _ h => h) rfl
    exact w_endM (s := ()) [] rfl rfl
  refine w_back (i := 7) (y := y442) (α := ((T1 PySem.Str) ⊕ ((T3 PySem.Str Int (List Int)) ⊕ (PySem.Str × (List Int))))) (Γ' := [.fr (α := Scr) t.1, .fr (α := Int) y13.1, .fr (α := Int) y13.2, .fr (α := (List (Int × Int))) y88, .fr (α := (Int × (Tu (Int × Int)))) y141, .fr (α := (List Int)) y225.1, .fr (α := (List Int)) y225.2, .nw (α := ((T1 PySem.Str) ⊕ ((T3 PySem.Str Int (List Int)) ⊕ (PySem.Str × (List Int))))) p489 y442, .un, .un]) rfl L492 (fun G hG => by cases hG) ?_ rfl
  replace fr := fr493
  try replace hR := hR494
  exact w_retFW (i := 7) (f := m_law_same_again) (y := y442) (gg := fun z => z) (m1 := (.ok y141)) (m2 := (.ok y225.1)) (m3 := (.ok y225.2)) d_law_same_again g__law_same_again (ev_var (md := true) n4 rfl rfl) (ev_var (md := true) n5 rfl rfl) (ev_var (md := true) n6 rfl rfl) n7 rfl fr hR (fun _ h => h) (he := by rfl)
abbrev Rw : PySem.W.OpenRow := PySem.W.OpenLaw.row PySem.Challenge.rw_owinghall_k12_told_papers
def names : List PySem.Str := (["OwingError", "BadWeb", "Parted", "BadStanding", "BadHouse", "coins", "less", "small_table", "pivot_row", "det", "without", "adjoint", "kinds", "look_at_lengths", "times"] : List PySem.Str) ++ (["alike", "MOST_HOUSES", "MOST_TIES", "tie_fits", "reached", "made", "_law_cell_at", "_law_mixed", "_law_ties", "_law_sizes", "_law_whole", "_law_numbers", "_law_lent", "_law_big", "_law_standings"] : List PySem.Str) ++ (["_law_weighed", "_law_refused", "_law_same_again"] : List PySem.Str)
abbrev hk : PySem.W.Hook := hookE 5 fe fa fn
def ob (s : PySem.W.SharedT) : AlE := obsEG 5 fe fa fn (HandSHeadRun.getT s)
theorem ob_eq (s : PySem.W.SharedT) : ob s = hk.obs s.abs := obsEG_eq (HandSHeadRun.getT_eq s)
theorem run (w : World) : HandSHeadRun.RunEq Rw (PySem.W.view Rw.prog [39]) hk ob 4000 names w := by
  intro os
  kernel_rfl
end Wk
/-! Dt: determinants of tables told by a function, by the first row. -/
namespace Dt
/-- the sum over the first n -/
def su : Nat → (Nat → Int) → Int
  | 0, _ => 0
  | n + 1, f => su n f + f n
theorem su_congr {f g : Nat → Int} : ∀ {n : Nat}, (∀ i, i < n → f i = g i) → su n f = su n g
  | 0, _ => rfl
  | n + 1, h => by
    show su n f + f n = su n g + g n
    rw [su_congr fun i hi => h i (by omega), h n (by omega)]
theorem su_add (f g : Nat → Int) : ∀ n : Nat, su n (fun i => f i + g i) = su n f + su n g
  | 0 => rfl
  | n + 1 => by
    show su n (fun i => f i + g i) + (f n + g n) = su n f + f n + (su n g + g n)
    rw [su_add f g n]; omega
theorem su_mul (c : Int) (f : Nat → Int) : ∀ n : Nat, su n (fun i => c * f i) = c * su n f
  | 0 => by show (0 : Int) = c * 0; rw [Int.mul_zero]
  | n + 1 => by
    show su n (fun i => c * f i) + c * f n = c * (su n f + f n)
    rw [su_mul c f n, Int.mul_add]
theorem su_mulr (c : Int) (f : Nat → Int) (n : Nat) : su n (fun i => f i * c) = su n f * c := by
  rw [Int.mul_comm, ← su_mul]
  exact su_congr fun i _ => Int.mul_comm _ _
theorem su_neg (f : Nat → Int) (n : Nat) : su n (fun i => - f i) = - su n f := by
  have h := su_mul (-1) f n
  rw [Int.neg_one_mul] at h
  rw [← h]
  exact su_congr fun i _ => by rw [Int.neg_one_mul]
theorem su_sub (f g : Nat → Int) (n : Nat) : su n (fun i => f i - g i) = su n f - su n g := by
  have h := su_add f (fun i => - g i) n
  rw [su_neg] at h
  rw [Int.sub_eq_add_neg, ← h]
  rfl
theorem su_zero {f : Nat → Int} {n : Nat} (h : ∀ i, i < n → f i = 0) : su n f = 0 := by
  have e : su n f = su n (fun i => 0 * f i) := su_congr fun i hi => by rw [h i hi]; rfl
  rw [e, su_mul, Int.zero_mul]
theorem su_swap (f : Nat → Nat → Int) (m : Nat) : ∀ n : Nat, su n (fun i => su m (fun j => f i j)) = su m (fun j => su n (fun i => f i j))
  | 0 => (su_zero fun i _ => rfl).symm
  | n + 1 => by
    show su n (fun i => su m (fun j => f i j)) + su m (fun j => f n j) = su m (fun j => su n (fun i => f i j) + f n j)
    rw [su_swap f m n, su_add]
theorem su_head (f : Nat → Int) : ∀ n : Nat, su (n + 1) f = f 0 + su n (fun i => f (i + 1))
  | 0 => by show (0 : Int) + f 0 = f 0 + 0; omega
  | n + 1 => by
    have h := su_head f n
    show su (n + 1) f + f (n + 1) = f 0 + (su n (fun i => f (i + 1)) + f (n + 1))
    rw [h]; omega
/-- all but one -/
def sk (c j : Nat) : Nat := if j < c then j else j + 1
theorem sk_ne (c j : Nat) : sk c j ≠ c := by unfold sk; split <;> omega
theorem sk_zero (j : Nat) : sk 0 j = j + 1 := rfl
theorem sk_lt {c j n : Nat} (h : j < n) (hc : c ≤ n) : sk c j < n + 1 := by unfold sk; split <;> omega
theorem su_skip (f : Nat → Int) : ∀ (n c : Nat), c ≤ n → su (n + 1) f = f c + su n (fun j => f (sk c j))
  | 0, c, h => by
    have e : c = 0 := by omega
    subst e
    show (0 : Int) + f 0 = f 0 + 0; omega
  | n + 1, c, h => by
    by_cases hc : c = n + 1
    · subst hc
      have e : su (n + 1) (fun j => f (sk (n + 1) j)) = su (n + 1) f := su_congr fun i hi => by unfold sk; rw [if_pos hi]
      rw [e]
      show su (n + 1) f + f (n + 1) = _; omega
    · have e := su_skip f n c (by omega)
      show su (n + 1) f + f (n + 1) = f c + (su n (fun j => f (sk c j)) + f (sk c n))
      have e2 : sk c n = n + 1 := by unfold sk; rw [if_neg (by omega)]
      rw [e, e2]; omega
/-- a sum over all unlike pairs that change their sign -/
theorem su_anti {G : Nat → Nat → Int} {n : Nat} (h : ∀ a b, a < n + 1 → b < n + 1 → a ≠ b → G a b = - G b a) : su (n + 1) (fun a => su n (fun k => G a (sk a k))) = 0 := by
  let G' : Nat → Nat → Int := fun a b => if a = b then 0 else G a b
  have e : su (n + 1) (fun a => su n (fun k => G a (sk a k))) = su (n + 1) (fun a => su (n + 1) (fun b => G' a b)) := su_congr fun a ha => by
    rw [su_skip (fun b => G' a b) n a (by omega)]
    have z : G' a a = 0 := if_pos rfl
    rw [z, Int.zero_add]
    exact su_congr fun k _ => (if_neg fun q => sk_ne a k q.symm).symm
  have e2 : su (n + 1) (fun a => su (n + 1) (fun b => G' a b)) = - su (n + 1) (fun a => su (n + 1) (fun b => G' a b)) := by
    conv => lhs; rw [su_swap]
    rw [← su_neg]
    refine su_congr fun b hb => ?_
    rw [← su_neg]
    refine su_congr fun a ha => ?_
    by_cases q : a = b
    · subst q
      show G' a a = - G' a a
      rw [show G' a a = 0 from if_pos rfl]; rfl
    · show G' a b = - G' b a
      rw [show G' a b = G a b from if_neg q, show G' b a = G b a from if_neg fun z => q z.symm]
      exact h a b ha hb q
  rw [e]; omega
/-- signs -/
def sg : Nat → Int
  | 0 => 1
  | n + 1 => - sg n
theorem sg_succ (n : Nat) : sg (n + 1) = - sg n := rfl
theorem sg_or : ∀ n : Nat, sg n = 1 ∨ sg n = -1
  | 0 => .inl rfl
  | n + 1 => by
    rw [sg_succ]
    rcases sg_or n with h | h <;> rw [h]
    · exact .inr rfl
    · exact .inl rfl
theorem sg_mod (n : Nat) : sg n = if n % 2 = 1 then -1 else 1 := by
  induction n with
  | zero => rfl
  | succ n ih =>
    rw [sg_succ, ih]
    by_cases h : n % 2 = 1
    · rw [if_pos h, if_neg (by omega)]; rfl
    · rw [if_neg h, if_pos (by omega)]
abbrev Mt := Nat → Nat → Int
/-- without a row and a column -/
def mn (M : Mt) (r c : Nat) : Mt := fun i j => M (sk r i) (sk c j)
def dt : Nat → Mt → Int
  | 0, _ => 1
  | n + 1, M => su (n + 1) (fun j => sg j * M 0 j * dt n (mn M 0 j))
theorem dt_congr : ∀ {n : Nat} {M M' : Mt}, (∀ i j, i < n → j < n → M i j = M' i j) → dt n M = dt n M'
  | 0, _, _, _ => rfl
  | n + 1, M, M', h => su_congr fun j hj => by
    rw [h 0 j (by omega) hj, dt_congr (M := mn M 0 j) (M' := mn M' 0 j) fun i k hi hk => h _ _ (sk_lt hi (by omega)) (sk_lt hk (by omega))]
/-- another row in a row's place -/
def sr (M : Mt) (r : Nat) (u : Nat → Int) : Mt := fun i j => if i = r then u j else M i j
theorem sr_at (M : Mt) (r : Nat) (u : Nat → Int) (j : Nat) : sr M r u r j = u j := if_pos rfl
theorem sr_no (M : Mt) {r i : Nat} (u : Nat → Int) (j : Nat) (h : i ≠ r) : sr M r u i j = M i j := if_neg h
theorem sr_self (M : Mt) (r : Nat) : sr M r (M r) = M := by
  funext i j
  by_cases h : i = r
  · subst h; exact sr_at ..
  · exact sr_no _ _ _ h
theorem mn_sr0 (M : Mt) (u : Nat → Int) (j : Nat) : mn (sr M 0 u) 0 j = mn M 0 j := by
  funext i k
  exact sr_no _ _ _ (by rw [sk_zero]; omega)
theorem mn_srS (M : Mt) (r : Nat) (u : Nat → Int) (j : Nat) : mn (sr M (r + 1) u) 0 j = sr (mn M 0 j) r (fun k => u (sk j k)) := by
  funext i k
  show (if sk 0 i = r + 1 then u (sk j k) else M (sk 0 i) (sk j k)) = if i = r then u (sk j k) else M (sk 0 i) (sk j k)
  rw [sk_zero]
  by_cases h : i = r
  · rw [if_pos h, if_pos (by omega)]
  · rw [if_neg h, if_neg (by omega)]
theorem mn_sr (M : Mt) (r : Nat) (u : Nat → Int) (j : Nat) : mn (sr M r u) r j = mn M r j := by
  funext i k
  exact sr_no _ _ _ (sk_ne r i)
/-- linear in each row -/
theorem dt_lin (a b : Int) : ∀ {n r : Nat} (M : Mt) (u v : Nat → Int), r < n → dt n (sr M r fun j => a * u j + b * v j) = a * dt n (sr M r u) + b * dt n (sr M r v)
  | 0, _, _, _, _, h => by omega
  | n + 1, 0, M, u, v, _ => by
    show su (n + 1) _ = a * su (n + 1) _ + b * su (n + 1) _
    rw [← su_mul, ← su_mul, ← su_add]
    refine su_congr fun j _ => ?_
    simp only [mn_sr0, sr_at]
    grind
  | n + 1, r + 1, M, u, v, h => by
    show su (n + 1) _ = a * su (n + 1) _ + b * su (n + 1) _
    rw [← su_mul, ← su_mul, ← su_add]
    refine su_congr fun j _ => ?_
    simp only [mn_srS]
    rw [dt_lin a b (mn M 0 j) (fun k => u (sk j k)) (fun k => v (sk j k)) (by omega), sr_no _ _ _ (by omega), sr_no _ _ _ (by omega), sr_no _ _ _ (by omega)]
    grind
/-- what two removed columns leave -/
def sk2 (a b l : Nat) : Nat := sk (max a b) (sk (min a b) l)
theorem sk2_comm (a b l : Nat) : sk2 a b l = sk2 b a l := by unfold sk2; rw [Nat.max_comm, Nat.min_comm]
theorem sk_sk (j k l : Nat) : sk j (sk k l) = sk2 j (sk j k) l := by
  unfold sk2 sk
  by_cases h : k < j
  · rw [if_pos h]
    have e1 : max j k = j := by omega
    have e2 : min j k = k := by omega
    rw [e1, e2]
  · rw [if_neg h]
    have e1 : max j (k + 1) = k + 1 := by omega
    have e2 : min j (k + 1) = j := by omega
    rw [e1, e2]
    repeat' split
    all_goals omega
def s2 (a b : Nat) : Int := sg a * sg (if b < a then b else b - 1)
theorem s2_sk (j k : Nat) : s2 j (sk j k) = sg j * sg k := by
  unfold s2 sk
  by_cases h : k < j
  · rw [if_pos h, if_pos h]
  · rw [if_neg h, if_neg (by omega)]; rfl
theorem s2_anti {a b : Nat} (h : a ≠ b) : s2 a b = - s2 b a := by
  unfold s2
  by_cases q : b < a
  · rw [if_pos q, if_neg (by omega)]
    obtain ⟨c, rfl⟩ : ∃ c, a = c + 1 := ⟨a - 1, by omega⟩
    rw [sg_succ, Nat.add_sub_cancel]
    grind
  · rw [if_neg q, if_pos (by omega)]
    obtain ⟨c, rfl⟩ : ∃ c, b = c + 1 := ⟨b - 1, by omega⟩
    rw [sg_succ, Nat.add_sub_cancel]
    grind
/-- by the first two rows -/
theorem dt_two (n : Nat) (M : Mt) : dt (n + 2) M = su (n + 2) (fun a => su (n + 1) (fun k => s2 a (sk a k) * M 0 a * M 1 (sk a k) * dt n (fun i l => M (i + 2) (sk2 a (sk a k) l)))) := by
  show su (n + 2) _ = _
  refine su_congr fun a _ => ?_
  show sg a * M 0 a * su (n + 1) _ = _
  rw [← su_mul]
  refine su_congr fun k _ => ?_
  rw [s2_sk]
  have e : dt n (mn (mn M 0 a) 0 k) = dt n (fun i l => M (i + 2) (sk2 a (sk a k) l)) := dt_congr fun i l _ _ => by
    show M (sk 0 (sk 0 i)) (sk a (sk k l)) = _
    rw [sk_sk a k l]; rfl
  rw [e]
  show sg a * M 0 a * (sg k * M (sk 0 0) (sk a k) * _) = _
  rw [show sk 0 0 = 1 from rfl]
  grind
/-- two neighbours change places -/
def sw (M : Mt) (r : Nat) : Mt := fun i => if i = r then M (r + 1) else if i = r + 1 then M r else M i
theorem dt_sw : ∀ {n r : Nat} (M : Mt), r + 1 < n → dt n (sw M r) = - dt n M
  | 0, _, _, h => by omega
  | 1, _, _, h => by omega
  | n + 2, 0, M, _ => by
    let G : Nat → Nat → Int := fun a b => s2 a b * (M 1 a * M 0 b + M 0 a * M 1 b) * dt n (fun i l => M (i + 2) (sk2 a b l))
    have z := su_anti (G := G) (n := n + 1) fun a b ha hb h => by
      show s2 a b * (M 1 a * M 0 b + M 0 a * M 1 b) * dt n (fun i l => M (i + 2) (sk2 a b l)) = - (s2 b a * (M 1 b * M 0 a + M 0 b * M 1 a) * dt n (fun i l => M (i + 2) (sk2 b a l)))
      rw [s2_anti h, show (fun i l => M (i + 2) (sk2 a b l)) = (fun i l => M (i + 2) (sk2 b a l)) from funext fun i => funext fun l => by rw [sk2_comm]]
      grind
    rw [dt_two, dt_two]
    have e : su (n + 2) (fun a => su (n + 1) (fun k => G a (sk a k))) = su (n + 2) (fun a => su (n + 1) (fun k => s2 a (sk a k) * sw M 0 0 a * sw M 0 1 (sk a k) * dt n (fun i l => sw M 0 (i + 2) (sk2 a (sk a k) l)))) + su (n + 2) (fun a => su (n + 1) (fun k => s2 a (sk a k) * M 0 a * M 1 (sk a k) * dt n (fun i l => M (i + 2) (sk2 a (sk a k) l)))) := by
      rw [← su_add]
      refine su_congr fun a _ => ?_
      rw [← su_add]
      refine su_congr fun k _ => ?_
      have e1 : sw M 0 0 = M 1 := rfl
      have e2 : sw M 0 1 = M 0 := rfl
      have e3 : (fun i l => sw M 0 (i + 2) (sk2 a (sk a k) l)) = (fun i l => M (i + 2) (sk2 a (sk a k) l)) := rfl
      rw [e1, e2, e3]
      show s2 a (sk a k) * (M 1 a * M 0 (sk a k) + M 0 a * M 1 (sk a k)) * _ = _
      grind
    rw [z] at e
    omega
  | n + 2, r + 1, M, h => by
    show su (n + 2) _ = - su (n + 2) _
    rw [← su_neg]
    refine su_congr fun j _ => ?_
    have e : mn (sw M (r + 1)) 0 j = sw (mn M 0 j) r := by
      funext i k
      show (if sk 0 i = r + 1 then M (r + 1 + 1) else if sk 0 i = r + 1 + 1 then M (r + 1) else M (sk 0 i)) (sk j k) = (if i = r then mn M 0 j (r + 1) else if i = r + 1 then mn M 0 j r else mn M 0 j i) k
      rw [sk_zero]
      by_cases h1 : i = r
      · rw [if_pos h1, if_pos (by omega)]; rfl
      · rw [if_neg h1, if_neg (by omega)]
        by_cases h2 : i = r + 1
        · rw [if_pos h2, if_pos (by omega)]; rfl
        · rw [if_neg h2, if_neg (by omega)]; rfl
    rw [e, dt_sw (mn M 0 j) (by omega)]
    have e2 : sw M (r + 1) 0 = M 0 := by unfold sw; rw [if_neg (by omega), if_neg (by omega)]
    rw [e2]
    grind
/-- two like rows -/
theorem dt_like : ∀ (d : Nat) {n r : Nat} (M : Mt), r + d + 1 < n → (∀ j, j < n → M r j = M (r + d + 1) j) → dt n M = 0
  | 0, n, r, M, h, e => by
    have h1 := dt_sw (r := r) M (by omega)
    have h2 : dt n (sw M r) = dt n M := dt_congr fun i j _ hj => by
      unfold sw
      by_cases q : i = r
      · rw [if_pos q, q]; exact (e j hj).symm
      · rw [if_neg q]
        by_cases q2 : i = r + 1
        · rw [if_pos q2, q2]; exact e j hj
        · rw [if_neg q2]
    omega
  | d + 1, n, r, M, h, e => by
    have h1 := dt_sw (r := r + d + 1) M (by omega)
    have h2 := dt_like d (n := n) (r := r) (sw M (r + d + 1)) (by omega) fun j hj => by
      unfold sw
      rw [if_neg (by omega), if_neg (by omega), if_pos rfl]
      exact e j hj
    omega
theorem dt_same {n r s : Nat} {M : Mt} (hr : r < n) (hs : s < n) (hn : r ≠ s) (e : ∀ j, j < n → M r j = M s j) : dt n M = 0 := by
  by_cases h : r < s
  · exact dt_like (s - r - 1) (r := r) M (by omega) fun j hj => by
      rw [show r + (s - r - 1) + 1 = s from by omega]; exact e j hj
  · exact dt_like (r - s - 1) (r := s) M (by omega) fun j hj => by
      rw [show s + (r - s - 1) + 1 = r from by omega]; exact (e j hj).symm
/-- a row of noughts -/
theorem dt_zrow {n r : Nat} {M : Mt} (hr : r < n) (h : ∀ j, j < n → M r j = 0) : dt n M = 0 := by
  have e := dt_lin 0 0 (r := r) M (M r) (M r) hr
  rw [Int.zero_mul, Int.add_zero] at e
  rw [← e]
  exact dt_congr fun i j hi hj => by
    by_cases q : i = r
    · rw [q, sr_at, h j hj]; rfl
    · rw [sr_no _ _ _ q]
/-- two rows change places -/
theorem dt_swap {n r s : Nat} (M : Mt) (hr : r < n) (hs : s < n) (hn : r ≠ s) : dt n (sr (sr M r (M s)) s (M r)) = - dt n M := by
  let Q : Mt := sr (sr M r (fun j => M r j + M s j)) s (fun j => M r j + M s j)
  have z : dt n Q = 0 := dt_same hr hs hn fun j _ => by
    show sr (sr M r _) s _ r j = sr (sr M r _) s _ s j
    rw [sr_at, sr_no _ _ _ hn, sr_at]
  have l1 := dt_lin 1 1 (r := s) (sr M r (fun j => M r j + M s j)) (M r) (M s) hs
  have l2 := dt_lin 1 1 (r := r) (sr M s (M r)) (M r) (M s) hr
  have l3 := dt_lin 1 1 (r := r) M (M r) (M s) hr
  have cm : ∀ u v : Nat → Int, sr (sr M r u) s v = sr (sr M s v) r u := fun u v => by
    funext i j
    by_cases h1 : i = s
    · subst h1
      rw [sr_at, sr_no _ _ _ (fun q => hn q.symm), sr_at]
    · rw [sr_no _ _ _ h1]
      by_cases h2 : i = r
      · subst h2; rw [sr_at, sr_at]
      · rw [sr_no _ _ _ h2, sr_no _ _ _ h2, sr_no _ _ _ h1]
  simp only [Int.one_mul] at l1 l2 l3
  have q1 : dt n (sr (sr M s (M r)) r (M r)) = 0 := dt_same hr hs hn fun j _ => by rw [sr_at, sr_no _ _ _ (fun q => hn q.symm), sr_at]
  have q2 : sr (sr M r (fun j => M r j + M s j)) s (M s) = sr M r (fun j => M r j + M s j) := by
    funext i j
    by_cases h1 : i = s
    · subst h1; rw [sr_at, sr_no _ _ _ (fun q => hn q.symm)]
    · rw [sr_no _ _ _ h1]
  have q3 : dt n (sr M r (M s)) = 0 := dt_same hr hs hn fun j _ => by rw [sr_at, sr_no _ _ _ (fun q => hn q.symm)]
  rw [q2, l3, q3, sr_self, cm _ (M r), l2, q1, ← cm] at l1
  have z2 : dt n (sr (sr M r (fun j => M r j + M s j)) s (fun j => M r j + M s j)) = 0 := z
  rw [z2] at l1
  omega
/-- by any row -/
theorem dt_row : ∀ {n r : Nat} (M : Mt), r ≤ n → dt (n + 1) M = su (n + 1) (fun j => sg (r + j) * M r j * dt n (mn M r j))
  | n, 0, M, _ => su_congr fun j _ => by rw [Nat.zero_add]
  | n, r + 1, M, h => by
    have e := dt_sw (r := r) M (n := n + 1) (by omega)
    rw [dt_row (r := r) (sw M r) (by omega)] at e
    have e2 : dt (n + 1) M = - su (n + 1) (fun j => sg (r + j) * sw M r r j * dt n (mn (sw M r) r j)) := by omega
    rw [e2, ← su_neg]
    refine su_congr fun j _ => ?_
    have e3 : mn (sw M r) r j = mn M (r + 1) j := by
      funext i k
      show (if sk r i = r then M (r + 1) else if sk r i = r + 1 then M r else M (sk r i)) (sk j k) = M (sk (r + 1) i) (sk j k)
      rw [if_neg (sk_ne r i)]
      by_cases q : i = r
      · subst q
        have q1 : sk i i = i + 1 := by unfold sk; rw [if_neg (by omega)]
        have q2 : sk (i + 1) i = i := by unfold sk; rw [if_pos (by omega)]
        rw [q1, q2, if_pos rfl]
      · have q1 : sk r i ≠ r + 1 := by unfold sk; split <;> omega
        have q2 : sk (r + 1) i = sk r i := by unfold sk; split <;> split <;> omega
        rw [if_neg q1, q2]
    rw [e3, show sw M r r = M (r + 1) from if_pos rfl, show r + 1 + j = (r + j) + 1 from by omega, sg_succ]
    grind
/-- a row against another row's parts -/
theorem dt_alien {n r s : Nat} (M : Mt) (hr : r ≤ n) (hs : s ≤ n) (hn : r ≠ s) : su (n + 1) (fun j => sg (r + j) * M s j * dt n (mn M r j)) = 0 := by
  have e := dt_row (r := r) (sr M r (M s)) hr
  rw [dt_same (r := r) (s := s) (by omega) (by omega) hn fun j _ => by rw [sr_at, sr_no _ _ _ fun q => hn q.symm]] at e
  rw [e]
  exact su_congr fun j _ => by rw [mn_sr, sr_at]
def tr (M : Mt) : Mt := fun i j => M j i
theorem mn_tr (M : Mt) (r c : Nat) : mn (tr M) r c = tr (mn M c r) := rfl
/-- by the first column; the table turned over its diagonal -/
theorem dt_col0_tr : ∀ n : Nat, (∀ M : Mt, dt (n + 1) M = su (n + 1) (fun i => sg i * M i 0 * dt n (mn M i 0))) ∧ ∀ M : Mt, dt n (tr M) = dt n M
  | 0 => ⟨fun M => rfl, fun M => rfl⟩
  | n + 1 => by
    obtain ⟨ih1, ih2⟩ := dt_col0_tr n
    have t : ∀ M : Mt, dt (n + 1) (tr M) = dt (n + 1) M := fun M => by
      rw [ih1 M]
      show su (n + 1) _ = _
      refine su_congr fun j _ => ?_
      rw [mn_tr, ih2]; rfl
    refine ⟨fun M => ?_, t⟩
    show su (n + 2) _ = _
    rw [su_head _ (n + 1), su_head _ (n + 1)]
    refine congrArg _ ?_
    have e1 : ∀ j, dt (n + 1) (mn M 0 (j + 1)) = su (n + 1) (fun i => sg i * M (i + 1) 0 * dt n (fun a b => M (sk 0 (sk i a)) (sk (j + 1) (sk 0 b)))) := fun j => by
      rw [ih1]; rfl
    have e2 : ∀ i, dt (n + 1) (mn M (i + 1) 0) = su (n + 1) (fun j => sg j * M 0 (j + 1) * dt n (fun a b => M (sk (i + 1) (sk 0 a)) (sk 0 (sk j b)))) := fun i => by
      show su (n + 1) _ = _
      rfl
    have l : su (n + 1) (fun j => sg (j + 1) * M 0 (j + 1) * dt (n + 1) (mn M 0 (j + 1))) = su (n + 1) (fun j => su (n + 1) (fun i => sg (j + 1) * M 0 (j + 1) * (sg i * M (i + 1) 0 * dt n (fun a b => M (sk 0 (sk i a)) (sk (j + 1) (sk 0 b)))))) := su_congr fun j _ => by
      rw [e1, ← su_mul]
    have r : su (n + 1) (fun i => sg (i + 1) * M (i + 1) 0 * dt (n + 1) (mn M (i + 1) 0)) = su (n + 1) (fun i => su (n + 1) (fun j => sg (i + 1) * M (i + 1) 0 * (sg j * M 0 (j + 1) * dt n (fun a b => M (sk (i + 1) (sk 0 a)) (sk 0 (sk j b)))))) := su_congr fun i _ => by
      rw [e2, ← su_mul]
    rw [l, r, su_swap]
    refine su_congr fun i _ => su_congr fun j _ => ?_
    have e3 : (fun a b => M (sk 0 (sk i a)) (sk (j + 1) (sk 0 b))) = (fun a b => M (sk (i + 1) (sk 0 a)) (sk 0 (sk j b))) := by
      funext a b
      have q1 : sk 0 (sk i a) = sk (i + 1) (sk 0 a) := by simp only [sk_zero]; unfold sk; split <;> split <;> omega
      have q2 : sk (j + 1) (sk 0 b) = sk 0 (sk j b) := by simp only [sk_zero]; unfold sk; split <;> split <;> omega
      rw [q1, q2]
    rw [e3, sg_succ, sg_succ]
    grind
theorem dt_tr (n : Nat) (M : Mt) : dt n (tr M) = dt n M := (dt_col0_tr n).2 M
theorem dt_col0 (n : Nat) (M : Mt) : dt (n + 1) M = su (n + 1) (fun i => sg i * M i 0 * dt n (mn M i 0)) := (dt_col0_tr n).1 M
/-- a column against a column's parts -/
theorem dt_col {n c : Nat} (M : Mt) (h : c ≤ n) : dt (n + 1) M = su (n + 1) (fun i => sg (c + i) * M i c * dt n (mn M i c)) := by
  rw [← dt_tr, dt_row (r := c) (tr M) h]
  exact su_congr fun i _ => by rw [mn_tr, dt_tr]; rfl
theorem dt_alienC {n c d : Nat} (M : Mt) (hr : c ≤ n) (hs : d ≤ n) (hn : c ≠ d) : su (n + 1) (fun i => sg (c + i) * M i d * dt n (mn M i c)) = 0 := by
  rw [← dt_alien (tr M) hr hs hn]
  exact su_congr fun i _ => by rw [mn_tr, dt_tr]; rfl
/-- noughts below the first place -/
theorem dt_head {n : Nat} {M : Mt} (h : ∀ i, i < n → M (i + 1) 0 = 0) : dt (n + 1) M = M 0 0 * dt n (mn M 0 0) := by
  rw [dt_col0, su_head, su_zero fun i hi => by rw [h i hi, Int.mul_zero, Int.zero_mul]]
  show (1 : Int) * M 0 0 * _ + 0 = _
  rw [Int.one_mul, Int.add_zero]
theorem dt_zcol {n c : Nat} {M : Mt} (hc : c < n) (h : ∀ i, i < n → M i c = 0) : dt n M = 0 := by
  rw [← dt_tr]
  exact dt_zrow (r := c) hc h
/-- all rows but the first lessened by the first -/
theorem dt_chio (n : Nat) (M : Mt) : M 0 0 ^ n * dt (n + 1) M = M 0 0 * dt n (fun i j => M 0 0 * M (i + 1) (j + 1) - M (i + 1) 0 * M 0 (j + 1)) := by
  let Q : Nat → Mt := fun k i j => if 1 ≤ i ∧ i ≤ k then M 0 0 * M i j - M i 0 * M 0 j else M i j
  have st : ∀ k, k ≤ n → dt (n + 1) (Q k) = M 0 0 ^ k * dt (n + 1) M := by
    intro k
    induction k with
    | zero =>
      intro _
      rw [Int.pow_zero, Int.one_mul]
      exact dt_congr fun i j _ _ => if_neg (by omega)
    | succ k ih =>
      intro hk
      have e : Q (k + 1) = sr (Q k) (k + 1) (fun j => M 0 0 * M (k + 1) j + (- M (k + 1) 0) * M 0 j) := by
        funext i j
        by_cases q : i = k + 1
        · rw [q, sr_at]
          show (if 1 ≤ k + 1 ∧ k + 1 ≤ k + 1 then _ else _) = _
          rw [if_pos (by omega)]; grind
        · rw [sr_no _ _ _ q]
          show (if _ then _ else _) = if _ then _ else _
          by_cases q2 : 1 ≤ i ∧ i ≤ k
          · rw [if_pos q2, if_pos (by omega)]
          · rw [if_neg q2, if_neg (by omega)]
      have e2 : Q k = sr (Q k) (k + 1) (M (k + 1)) := by
        funext i j
        by_cases q : i = k + 1
        · rw [q, sr_at]; exact if_neg (by omega)
        · rw [sr_no _ _ _ q]
      rw [e, dt_lin _ _ (Q k) (M (k + 1)) (M 0) (by omega), ← e2, ih (by omega), dt_same (r := 0) (s := k + 1) (M := sr (Q k) (k + 1) (M 0)) (by omega) (by omega) (by omega) fun j _ => by
        rw [sr_at, sr_no _ _ _ (by omega)]; exact if_neg (by omega)]
      rw [Int.pow_succ]
      grind
  rw [← st n (Nat.le_refl n), dt_head fun i hi => by
    show (if 1 ≤ i + 1 ∧ i + 1 ≤ n then _ else _) = _
    rw [if_pos (by omega)]; grind]
  have q0 : Q n 0 0 = M 0 0 := if_neg (by omega)
  rw [q0]
  congr 1
  refine dt_congr fun i j hi _ => ?_
  show (if 1 ≤ sk 0 i ∧ sk 0 i ≤ n then _ else _) = _
  rw [sk_zero, if_pos (by omega)]; rfl
theorem dt_smul (c : Int) (M : Mt) : ∀ n : Nat, dt n (fun i j => c * M i j) = c ^ n * dt n M := by
  intro n
  induction n generalizing M with
  | zero => show (1 : Int) = c ^ 0 * 1; rw [Int.pow_zero]; rfl
  | succ n ih =>
    show su (n + 1) _ = c ^ (n + 1) * su (n + 1) _
    rw [← su_mul]
    refine su_congr fun j _ => ?_
    have e : dt n (mn (fun i j => c * M i j) 0 j) = c ^ n * dt n (mn M 0 j) := ih (mn M 0 j)
    rw [e, Int.pow_succ]
    grind
/-- how great -/
theorem su_abs {f : Nat → Int} {B : Nat} : ∀ {n : Nat}, (∀ i, i < n → (f i).natAbs ≤ B) → (su n f).natAbs ≤ n * B
  | 0, _ => by show (0 : Int).natAbs ≤ 0 * B; rw [Nat.zero_mul]; exact Nat.le_refl 0
  | n + 1, h => by
    have h1 := su_abs (n := n) fun i hi => h i (by omega)
    have h2 := h n (by omega)
    have h3 := Int.natAbs_add_le (su n f) (f n)
    show (su n f + f n).natAbs ≤ (n + 1) * B
    rw [Nat.add_mul, Nat.one_mul]; omega
theorem dt_abs {B : Nat} : ∀ {n : Nat} {M : Mt}, (∀ i j, i < n → j < n → (M i j).natAbs ≤ B) → (dt n M).natAbs ≤ (n * B) ^ n
  | 0, _, _ => by show (1 : Int).natAbs ≤ (0 * B) ^ 0; rw [Nat.pow_zero]; exact Nat.le_refl 1
  | n + 1, M, h => by
    have st : ∀ j, j < n + 1 → (sg j * M 0 j * dt n (mn M 0 j)).natAbs ≤ B * (n * B) ^ n := fun j hj => by
      rw [Int.natAbs_mul, Int.natAbs_mul]
      have h1 : (sg j).natAbs = 1 := by rcases sg_or j with q | q <;> rw [q] <;> rfl
      rw [h1, Nat.one_mul]
      exact Nat.mul_le_mul (h 0 j (by omega) hj) (dt_abs fun i k hi hk => h _ _ (sk_lt hi (by omega)) (sk_lt hk (by omega)))
    have := su_abs st
    refine Nat.le_trans this ?_
    rw [Nat.pow_succ]
    have e : (n + 1) * (B * (n * B) ^ n) = (n * B) ^ n * ((n + 1) * B) := by
      rw [← Nat.mul_assoc, Nat.mul_comm]
    rw [e]
    exact Nat.mul_le_mul_right _ (Nat.pow_le_pow_left (Nat.mul_le_mul_right _ (by omega)) n)
end Dt
/-! Dt2: elimination without fractions; tables whose determinant is above nought. -/
namespace Dt
/-- the first k places, then these -/
def ex (k : Nat) (ρ : Nat → Nat) (i : Nat) : Nat := if i < k then i else ρ (i - k)
/-- what stands in the table behind k steps: the determinants of parts -/
def Bi (n k : Nat) (A b : Mt) (p : Int) : Prop := ∀ (m : Nat) (ρ κ : Nat → Nat), (∀ i, i < m + 1 → k ≤ ρ i ∧ ρ i < n) → (∀ j, j < m + 1 → k ≤ κ j ∧ κ j < n) →
  dt (m + 1) (fun i j => b (ρ i) (κ j)) = p ^ m * dt (k + m + 1) (fun i j => A (ex k ρ i) (ex k κ j))
theorem Bi.start (n : Nat) (A : Mt) : Bi n 0 A A 1 := fun m ρ κ _ _ => by
  rw [Int.one_pow, Int.one_mul, Nat.zero_add]
  exact dt_congr fun i j _ _ => by unfold ex; rw [if_neg (by omega), if_neg (by omega)]; rfl
theorem Bi.one {n k : Nat} {A b : Mt} {p : Int} (h : Bi n k A b p) {i j : Nat} (hi : k ≤ i) (hin : i < n) (hj : k ≤ j) (hjn : j < n) : b i j = dt (k + 1) (fun a c => A (ex k (fun _ => i) a) (ex k (fun _ => j) c)) := by
  have e := h 0 (fun _ => i) (fun _ => j) (fun _ _ => ⟨hi, hin⟩) (fun _ _ => ⟨hj, hjn⟩)
  rw [Int.pow_zero, Int.one_mul] at e
  rw [← e]
  show _ = (0 : Int) + 1 * b i j * 1
  omega
theorem dt_2 (M : Mt) : dt 2 M = M 0 0 * M 1 1 - M 0 1 * M 1 0 := by
  show (0 + sg 0 * M 0 0 * (0 + sg 0 * M (sk 0 0) (sk 0 0) * 1)) + sg 1 * M 0 1 * (0 + sg 0 * M (sk 0 0) (sk 1 0) * 1) = _
  have e1 : sk 0 0 = 1 := rfl
  have e2 : sk 1 0 = 0 := rfl
  rw [e1, e2, show sg 0 = 1 from rfl, show sg 1 = -1 from rfl]
  grind
def cs (k : Nat) (ρ : Nat → Nat) (i : Nat) : Nat := if i = 0 then k else ρ (i - 1)
theorem ex_cs (k : Nat) (ρ : Nat → Nat) (i : Nat) : ex k (cs k ρ) i = ex (k + 1) ρ i := by
  unfold ex cs
  by_cases h : i < k
  · rw [if_pos h, if_pos (by omega)]
  · rw [if_neg h]
    by_cases q : i = k
    · rw [if_pos (by omega), if_pos (by omega)]; exact q.symm
    · rw [if_neg (by omega), if_neg (by omega)]
      rw [Nat.sub_sub]
theorem Bi.div {n k : Nat} {A b : Mt} {p : Int} (h : Bi n k A b p) {i j : Nat} (hi : k < i) (hin : i < n) (hj : k < j) (hjn : j < n) : b i j * b k k - b i k * b k j = p * dt (k + 2) (fun a c => A (ex (k + 1) (fun _ => i) a) (ex (k + 1) (fun _ => j) c)) := by
  have e := h 1 (cs k fun _ => i) (cs k fun _ => j) (fun a _ => by unfold cs; split <;> (try dsimp only) <;> omega) (fun a _ => by unfold cs; split <;> (try dsimp only) <;> omega)
  rw [Int.pow_one, dt_2] at e
  have e0 : ∀ q, cs k (fun _ => q) 0 = k := fun q => if_pos rfl
  have e1 : ∀ q, cs k (fun _ => q) 1 = q := fun q => if_neg (by omega)
  rw [e0, e0, e1, e1] at e
  have e2 : (fun a c => A (ex k (cs k fun _ => i) a) (ex k (cs k fun _ => j) c)) = (fun a c => A (ex (k + 1) (fun _ => i) a) (ex (k + 1) (fun _ => j) c)) := by
    funext a c
    rw [ex_cs, ex_cs]
  rw [e2] at e
  rw [← e]
  grind
theorem pow_ne {p : Int} (h : p ≠ 0) : ∀ m : Nat, p ^ m ≠ 0
  | 0 => by rw [Int.pow_zero]; decide
  | m + 1 => by rw [Int.pow_succ]; exact Int.mul_ne_zero (pow_ne h m) h
theorem Bi.step {n k : Nat} {A b b' : Mt} {p : Int} (h : Bi n k A b p) (hk : k < n) (hp : p ≠ 0) (hq : b k k ≠ 0) (hb : ∀ i j, k < i → i < n → k < j → j < n → p * b' i j = b i j * b k k - b i k * b k j) : Bi n (k + 1) A b' (b k k) := fun m ρ κ hρ hκ => by
  have e := h (m + 1) (cs k ρ) (cs k κ) (fun i hi => by
    unfold cs
    by_cases q : i = 0
    · rw [if_pos q]; omega
    · rw [if_neg q]; have := hρ (i - 1) (by omega); omega) (fun i hi => by
    unfold cs
    by_cases q : i = 0
    · rw [if_pos q]; omega
    · rw [if_neg q]; have := hκ (i - 1) (by omega); omega)
  have c := dt_chio (m + 1) (fun i j => b (cs k ρ i) (cs k κ j))
  have e0 : ∀ q, cs k q 0 = k := fun q => if_pos rfl
  have e1 : ∀ q i, cs k q (i + 1) = q i := fun q i => by unfold cs; rw [if_neg (by omega)]; rfl
  simp only [e0, e1] at c
  have c2 : dt (m + 1) (fun i j => b k k * b (ρ i) (κ j) - b (ρ i) k * b k (κ j)) = dt (m + 1) (fun i j => p * b' (ρ i) (κ j)) := dt_congr fun i j hi hj => by
    obtain ⟨h1, h2⟩ := hρ i hi
    obtain ⟨h3, h4⟩ := hκ j hj
    rw [hb _ _ (by omega) h2 (by omega) h4]
    grind
  rw [c2, dt_smul p (fun i j => b' (ρ i) (κ j)), e] at c
  have e2 : (fun i j => A (ex k (cs k ρ) i) (ex k (cs k κ) j)) = (fun i j => A (ex (k + 1) ρ i) (ex (k + 1) κ j)) := by
    funext a d
    rw [ex_cs, ex_cs]
  rw [e2, show k + (m + 1) + 1 = k + 1 + m + 1 from by omega] at c
  generalize dt (k + 1 + m + 1) (fun i j => A (ex (k + 1) ρ i) (ex (k + 1) κ j)) = x at c ⊢
  generalize dt (m + 1) (fun i j => b' (ρ i) (κ j)) = y at c ⊢
  have q : (b k k * p ^ (m + 1)) * y = (b k k * p ^ (m + 1)) * (b k k ^ m * x) := by
    rw [Int.mul_assoc, ← c, Int.pow_succ (b k k)]
    grind
  exact Int.eq_of_mul_eq_mul_left (Int.mul_ne_zero hq (pow_ne hp _)) q
/-- two rows from the k-th on change places -/
def tw (r s i : Nat) : Nat := if i = r then s else if i = s then r else i
theorem Bi.tw {n k r s : Nat} {A b : Mt} {p : Int} (h : Bi n k A b p) (hr : k ≤ r) (hrn : r < n) (hs : k ≤ s) (hsn : s < n) : Bi n k (fun i => A (tw r s i)) (fun i => b (tw r s i)) p := fun m ρ κ hρ hκ => by
  have e := h m (fun i => Dt.tw r s (ρ i)) κ (fun i hi => by
    have := hρ i hi
    unfold Dt.tw
    split
    · exact ⟨hs, hsn⟩
    · split
      · exact ⟨hr, hrn⟩
      · exact this) hκ
  rw [e]
  congr 1
  exact dt_congr fun i j hi _ => by
    have q : ex k (fun i => Dt.tw r s (ρ i)) i = Dt.tw r s (ex k ρ i) := by
      unfold ex
      by_cases z : i < k
      · rw [if_pos z, if_pos z]
        unfold Dt.tw
        rw [if_neg (by omega), if_neg (by omega)]
      · rw [if_neg z, if_neg z]
    rw [q]
theorem dt_tw {n r s : Nat} (A : Mt) (hr : r < n) (hs : s < n) (hn : r ≠ s) : dt n (fun i => A (tw r s i)) = - dt n A := by
  rw [← dt_swap A hr hs hn]
  refine dt_congr fun i j _ _ => ?_
  unfold tw
  by_cases h : i = s
  · subst h
    rw [sr_at, if_neg (fun q => hn q.symm), if_pos rfl]
  · rw [sr_no _ _ _ h]
    by_cases q : i = r
    · subst q
      rw [sr_at, if_pos rfl]
    · rw [sr_no _ _ _ q, if_neg q, if_neg h]
theorem Bi.zero {n k : Nat} {A b : Mt} {p : Int} (h : Bi n k A b p) (hk : k < n) (hp : p ≠ 0) (hz : ∀ i, k ≤ i → i < n → b i k = 0) : dt n A = 0 := by
  have e := h (n - k - 1) (fun i => k + i) (fun i => k + i) (fun i hi => ⟨by omega, by omega⟩) (fun i hi => ⟨by omega, by omega⟩)
  rw [dt_zcol (c := 0) (by omega) fun i hi => hz _ (by omega) (by omega)] at e
  have e2 : dt (k + (n - k - 1) + 1) (fun i j => A (ex k (fun i => k + i) i) (ex k (fun i => k + i) j)) = dt n A := by
    rw [show k + (n - k - 1) + 1 = n from by omega]
    exact dt_congr fun i j _ _ => by
      have q : ∀ i, ex k (fun i => k + i) i = i := fun i => by unfold ex; split <;> (try dsimp only) <;> omega
      rw [q, q]
  rw [e2] at e
  rcases Int.mul_eq_zero.mp e.symm with q | q
  · exact absurd q (pow_ne hp _)
  · exact q
theorem Bi.abs {n k B : Nat} {A b : Mt} {p : Int} (h : Bi n k A b p) (hA : ∀ i j, i < n → j < n → (A i j).natAbs ≤ B) {i j : Nat} (hi : k ≤ i) (hin : i < n) (hj : k ≤ j) (hjn : j < n) : (b i j).natAbs ≤ ((k + 1) * B) ^ (k + 1) := by
  rw [h.one hi hin hj hjn]
  exact dt_abs fun a c ha hc => hA _ _ (by unfold ex; split <;> omega) (by unfold ex; split <;> omega)
/-! ### above nought -/
/-- what a row has over -/
def ov (n : Nat) (M : Mt) (i : Nat) : Int := su n (fun j => M i j)
structure Pd (n : Nat) (M : Mt) : Prop where
  off : ∀ i j, i < n → j < n → i ≠ j → M i j ≤ 0
  row : ∀ i, i < n → 0 ≤ ov n M i
  out : ∀ S : Nat → Prop, (∃ i, i < n ∧ S i) → ∃ i, i < n ∧ S i ∧ (0 < ov n M i ∨ ∃ j, j < n ∧ ¬ S j ∧ M i j < 0)
theorem su_le {f g : Nat → Int} : ∀ {n : Nat}, (∀ i, i < n → f i ≤ g i) → su n f ≤ su n g
  | 0, _ => Int.le_refl 0
  | n + 1, h => by
    have h1 := su_le (n := n) fun i hi => h i (by omega)
    have h2 := h n (by omega)
    show su n f + f n ≤ su n g + g n
    omega
theorem su_lt {f g : Nat → Int} {n k : Nat} (hk : k < n) (h : ∀ i, i < n → f i ≤ g i) (hs : f k < g k) : su n f < su n g := by
  induction n with
  | zero => omega
  | succ n ih =>
    show su n f + f n < su n g + g n
    have h2 := h n (by omega)
    by_cases q : k = n
    · subst q
      have h1 : su k f ≤ su k g := su_le fun i hi => h i (by omega)
      omega
    · have := ih (by omega) (fun i hi => h i (by omega))
      omega
theorem su_nonneg {f : Nat → Int} {n : Nat} (h : ∀ i, i < n → 0 ≤ f i) : 0 ≤ su n f := by
  have := su_le (f := fun _ => 0) (g := f) h
  rw [su_zero fun _ _ => rfl] at this
  exact this
theorem Pd.diag {n : Nat} {M : Mt} (h : Pd n M) {k : Nat} (hk : k < n) : 0 < M k k := by
  obtain ⟨i, hi, hs, q⟩ := h.out (fun i => i = k) ⟨k, hk, rfl⟩
  subst hs
  obtain ⟨m, rfl⟩ : ∃ m, n = m + 1 := ⟨n - 1, by omega⟩
  have e := su_skip (fun j => M i j) m i (by omega)
  have hr := h.row i hi
  unfold ov at hr q
  rw [e] at hr q
  have l : ∀ j, j < m → M i (sk i j) ≤ 0 := fun j hj => h.off _ _ hi (sk_lt hj (by omega)) fun z => sk_ne i j z.symm
  have l2 : su m (fun j => M i (sk i j)) ≤ 0 := by
    have := su_le (g := fun _ => 0) l
    rw [su_zero (f := fun _ => 0) fun _ _ => rfl] at this
    exact this
  rcases q with q | ⟨j, hj, hn, q⟩
  · omega
  · obtain ⟨a, ha, e2⟩ : ∃ a, a < m ∧ sk i a = j := by
      by_cases z : j < i
      · exact ⟨j, by omega, if_pos z⟩
      · exact ⟨j - 1, by omega, by unfold sk; rw [if_neg (by omega)]; omega⟩
    have l3 : su m (fun j => M i (sk i j)) < 0 := by
      have := su_lt (f := fun j => M i (sk i j)) (g := fun _ => 0) ha l (by rw [e2]; exact q)
      rw [su_zero (f := fun _ => 0) fun _ _ => rfl] at this
      exact this
    omega
def ch (M : Mt) : Mt := fun i j => M 0 0 * M (i + 1) (j + 1) - M (i + 1) 0 * M 0 (j + 1)
theorem ov_ch (n : Nat) (M : Mt) (i : Nat) : ov n (ch M) i = M 0 0 * ov (n + 1) M (i + 1) - M (i + 1) 0 * ov (n + 1) M 0 := by
  unfold ov ch
  rw [su_sub (fun j => M 0 0 * M (i + 1) (j + 1)) (fun j => M (i + 1) 0 * M 0 (j + 1)), su_mul, su_mul, su_head, su_head]
  grind
theorem Pd.ch {n : Nat} {M : Mt} (h : Pd (n + 1) M) : Pd n (ch M) := by
  have d := h.diag (k := 0) (by omega)
  have o := fun i (hi : i < n) => h.off (i + 1) 0 (by omega) (by omega) (by omega)
  have o2 := fun i (hi : i < n) => h.off 0 (i + 1) (by omega) (by omega) (by omega)
  have nn : ∀ {a b : Int}, a ≤ 0 → b ≤ 0 → 0 ≤ a * b := fun ha hb => Int.mul_nonneg_of_nonpos_of_nonpos ha hb
  have np : ∀ {a b : Int}, a ≤ 0 → 0 ≤ b → a * b ≤ 0 := fun ha hb => Int.mul_nonpos_of_nonpos_of_nonneg ha hb
  have pn : ∀ {a b : Int}, 0 ≤ a → b ≤ 0 → a * b ≤ 0 := fun ha hb => Int.mul_nonpos_of_nonneg_of_nonpos ha hb
  have r0 := h.row 0 (by omega)
  refine ⟨fun i j hi hj hn => ?_, fun i hi => ?_, fun S ⟨k, hk, sk⟩ => ?_⟩
  · have h1 := h.off (i + 1) (j + 1) (by omega) (by omega) (by omega)
    have h2 := pn (Int.le_of_lt d) h1
    have h3 := nn (o i hi) (o2 j hj)
    show M 0 0 * M (i + 1) (j + 1) - M (i + 1) 0 * M 0 (j + 1) ≤ 0
    omega
  · rw [ov_ch]
    have h1 := h.row (i + 1) (by omega)
    have h2 := Int.mul_nonneg (Int.le_of_lt d) h1
    have h3 := np (o i hi) r0
    omega
  · have fin : ∀ i, i < n → S i → (0 < ov (n + 1) M (i + 1) ∨ (∃ j, j < n ∧ ¬ S j ∧ M (i + 1) (j + 1) < 0)) → ∃ i, i < n ∧ S i ∧ (0 < ov n (Dt.ch M) i ∨ ∃ j, j < n ∧ ¬ S j ∧ Dt.ch M i j < 0) := fun i hi hs q => by
      refine ⟨i, hi, hs, ?_⟩
      rcases q with q | ⟨j, hj, hn, q⟩
      · left
        rw [ov_ch]
        have h2 := Int.mul_pos d q
        have h3 := np (o i hi) r0
        omega
      · right
        refine ⟨j, hj, hn, ?_⟩
        have h2 := Int.mul_neg_of_pos_of_neg d q
        have h3 := nn (o i hi) (o2 j hj)
        show M 0 0 * M (i + 1) (j + 1) - M (i + 1) 0 * M 0 (j + 1) < 0
        omega
    obtain ⟨i, hi, hs, q⟩ := h.out (fun i => 1 ≤ i ∧ S (i - 1)) ⟨k + 1, by omega, by omega, by simpa using sk⟩
    obtain ⟨a, rfl⟩ : ∃ a, i = a + 1 := ⟨i - 1, by omega⟩
    have sa : S a := by simpa using hs.2
    rcases q with q | ⟨j, hj, hn, q⟩
    · exact fin a (by omega) sa (.inl q)
    · cases j with
      | succ j => exact fin a (by omega) sa (.inr ⟨j, by omega, fun z => hn ⟨by omega, by simpa using z⟩, q⟩)
      | zero =>
        -- by the first place
        obtain ⟨i', hi', hs', q'⟩ := h.out (fun i => i = 0 ∨ (1 ≤ i ∧ S (i - 1))) ⟨0, by omega, .inl rfl⟩
        rcases hs' with rfl | hs'
        · refine ⟨a, by omega, sa, ?_⟩
          rcases q' with q' | ⟨j', hj', hn', q'⟩
          · left
            rw [ov_ch]
            have h1 := h.row (a + 1) (by omega)
            have h2 := Int.mul_nonneg (Int.le_of_lt d) h1
            have h3 := Int.mul_neg_of_neg_of_pos q q'
            omega
          · right
            obtain ⟨c, rfl⟩ : ∃ c, j' = c + 1 := ⟨j' - 1, by have : j' ≠ 0 := fun z => hn' (.inl z); omega⟩
            have hc : ¬ S c := fun z => hn' (.inr ⟨by omega, by simpa using z⟩)
            refine ⟨c, by omega, hc, ?_⟩
            have hac : a ≠ c := fun z => hc (z ▸ sa)
            have h1 := h.off (a + 1) (c + 1) (by omega) (by omega) (by omega)
            have h2 := pn (Int.le_of_lt d) h1
            have h3 := Int.mul_pos_of_neg_of_neg q q'
            show M 0 0 * M (a + 1) (c + 1) - M (a + 1) 0 * M 0 (c + 1) < 0
            omega
        · obtain ⟨b, rfl⟩ : ∃ b, i' = b + 1 := ⟨i' - 1, by omega⟩
          have sb : S b := by simpa using hs'.2
          rcases q' with q' | ⟨j', hj', hn', q'⟩
          · exact fin b (by omega) sb (.inl q')
          · obtain ⟨c, rfl⟩ : ∃ c, j' = c + 1 := ⟨j' - 1, by have : j' ≠ 0 := fun z => hn' (.inl z); omega⟩
            exact fin b (by omega) sb (.inr ⟨c, by omega, fun z => hn' (.inr ⟨by omega, by simpa using z⟩), q'⟩)
theorem Pd.pos : ∀ {n : Nat} {M : Mt}, Pd n M → 0 < dt n M
  | 0, _, _ => by show (0 : Int) < 1; decide
  | n + 1, M, h => by
    have d := h.diag (k := 0) (by omega)
    have c := dt_chio n M
    have ih := h.ch.pos
    have p : 0 < M 0 0 ^ n := Int.pow_pos d
    have q : 0 < M 0 0 * dt n (Dt.ch M) := Int.mul_pos d ih
    rw [show (fun i j => M 0 0 * M (i + 1) (j + 1) - M (i + 1) 0 * M 0 (j + 1)) = Dt.ch M from rfl] at c
    rw [← c] at q
    exact Int.pos_of_mul_pos_right q p
end Dt
/-! Ch: houses on a web; lendings, the reduced table, its adjoint, the floor. -/
namespace Ch
open Dt
structure Gr (n : Nat) (w : Nat → Nat → Int) : Prop where
  sym : ∀ i j, w i j = w j i
  nn : ∀ i j, 0 ≤ w i j
  dg : ∀ i, w i i = 0
  con : ∀ S : Nat → Prop, (∃ i, i < n ∧ S i) → (∃ j, j < n ∧ ¬ S j) → ∃ i j, i < n ∧ j < n ∧ S i ∧ ¬ S j ∧ 0 < w i j
/-- the standing behind a script -/
def ld (n : Nat) (w : Nat → Nat → Int) (D s : Nat → Int) (i : Nat) : Int := D i + su n (fun j => w i j * (s j - s i))
theorem su_one {n i : Nat} (hi : i < n) (c : Int) : su n (fun j => if i = j then c else 0) = c := by
  induction n with
  | zero => omega
  | succ n ih =>
    show su n _ + (if i = n then c else 0) = c
    by_cases h : i = n
    · rw [if_pos h, su_zero fun j hj => if_neg (by omega)]; omega
    · rw [if_neg h, ih (by omega)]; omega
/-- the table of all houses but one -/
def rd (n : Nat) (w : Nat → Nat → Int) (h : Nat) : Mt := fun i j => if i = j then su n (fun k => w (sk h i) k) else - w (sk h i) (sk h j)
theorem sk_surj {c k m : Nat} (hc : c ≤ m) (hk : k < m + 1) (hn : k ≠ c) : ∃ j, j < m ∧ sk c j = k := by
  by_cases z : k < c
  · exact ⟨k, by omega, if_pos z⟩
  · exact ⟨k - 1, by omega, by unfold sk; rw [if_neg (by omega)]; omega⟩
section
variable {m : Nat} {w : Nat → Nat → Int} {h : Nat}
theorem rd_sym (g : Gr (m + 1) w) (i j : Nat) : rd (m + 1) w h i j = rd (m + 1) w h j i := by
  unfold rd
  by_cases q : i = j
  · subst q; rfl
  · rw [if_neg q, if_neg (fun z => q z.symm), g.sym]
/-- the reduced table's row times a script -/
theorem rd_row (g : Gr (m + 1) w) (hh : h ≤ m) {z : Nat → Int} (z0 : z h = 0) {i : Nat} (hi : i < m) : su m (fun j => rd (m + 1) w h i j * z (sk h j)) = - su (m + 1) (fun k => w (sk h i) k * (z k - z (sk h i))) := by
  have e1 : su m (fun j => rd (m + 1) w h i j * z (sk h j)) = su m (fun j => (if i = j then su (m + 1) (fun k => w (sk h i) k) * z (sk h i) else 0) - w (sk h i) (sk h j) * z (sk h j)) := su_congr fun j _ => by
    unfold rd
    by_cases q : i = j
    · subst q
      rw [if_pos rfl, if_pos rfl, g.dg, Int.zero_mul, Int.sub_zero]
    · rw [if_neg q, if_neg q]; grind
  rw [e1, su_sub (fun j => if i = j then su (m + 1) (fun k => w (sk h i) k) * z (sk h i) else 0) (fun j => w (sk h i) (sk h j) * z (sk h j)), su_one hi]
  have e2 : su (m + 1) (fun k => w (sk h i) k * (z k - z (sk h i))) = su (m + 1) (fun k => w (sk h i) k * z k) - su (m + 1) (fun k => w (sk h i) k * z (sk h i)) := by
    rw [← su_sub]
    exact su_congr fun k _ => by rw [Int.mul_sub]
  rw [e2, su_skip (fun k => w (sk h i) k * z k) m h hh, z0, Int.mul_zero, Int.zero_add, su_mulr (z (sk h i)) (fun k => w (sk h i) k)]
  omega
/-- the reduced table is above nought -/
theorem rd_pd (g : Gr (m + 1) w) (hh : h ≤ m) : Pd m (rd (m + 1) w h) := by
  have ov_is : ∀ i, i < m → ov m (rd (m + 1) w h) i = w (sk h i) h := fun i hi => by
    have e := rd_row g hh (z := fun k => if k = h then 0 else 1) (if_pos rfl) hi
    have e1 : su m (fun j => rd (m + 1) w h i j * (if sk h j = h then 0 else 1)) = ov m (rd (m + 1) w h) i := su_congr fun j _ => by rw [if_neg (sk_ne h j), Int.mul_one]
    rw [e1] at e
    rw [e, su_skip _ m h hh, if_pos rfl, if_neg (sk_ne h i), su_zero fun j hj => by rw [if_neg (sk_ne h j)]; omega]
    omega
  refine ⟨fun i j _ _ hn => ?_, fun i hi => ?_, fun S ⟨i, hi, hs⟩ => ?_⟩
  · unfold rd
    rw [if_neg hn]
    have := g.nn (sk h i) (sk h j)
    omega
  · rw [ov_is i hi]; exact g.nn _ _
  · obtain ⟨a, b, ha, hb, sa, sb, hw⟩ := g.con (fun k => ∃ j, j < m ∧ sk h j = k ∧ S j) ⟨sk h i, sk_lt hi hh, i, hi, rfl, hs⟩ ⟨h, by omega, fun ⟨j, _, e, _⟩ => sk_ne h j e⟩
    obtain ⟨i', hi', rfl, hs'⟩ := sa
    refine ⟨i', hi', hs', ?_⟩
    by_cases q : b = h
    · left; rw [ov_is i' hi']; subst q; exact hw
    · right
      obtain ⟨j', hj', rfl⟩ := sk_surj hh hb q
      have nj : ¬ S j' := fun z => sb ⟨j', hj', rfl, z⟩
      refine ⟨j', hj', nj, ?_⟩
      unfold rd
      rw [if_neg (show ¬ i' = j' from fun z => nj (by rw [← z]; exact hs'))]
      omega
theorem rd_pos (g : Gr (m + 1) w) (hh : h ≤ m) : 0 < dt m (rd (m + 1) w h) := (rd_pd g hh).pos
end
/-! ### the adjoint -/
def aj (M : Mt) : Nat → Mt
  | 0 => fun _ _ => 0
  | m + 1 => fun i j => sg (i + j) * dt m (mn M j i)
theorem aj_right (M : Mt) : ∀ {m i j : Nat}, i < m → j < m → su m (fun k => M i k * aj M m k j) = if i = j then dt m M else 0
  | 0, _, _, h, _ => by omega
  | m + 1, i, j, hi, hj => by
    by_cases q : i = j
    · subst q
      rw [if_pos rfl, dt_row (r := i) M (by omega)]
      exact su_congr fun k _ => by
        show M i k * (sg (k + i) * dt m (mn M i k)) = _
        rw [Nat.add_comm k i]; grind
    · rw [if_neg q, ← dt_alien (n := m) (r := j) (s := i) M (by omega) (by omega) (fun z => q z.symm)]
      exact su_congr fun k _ => by
        show M i k * (sg (k + j) * dt m (mn M j k)) = _
        rw [Nat.add_comm k j]; grind
theorem aj_left (M : Mt) : ∀ {m i j : Nat}, i < m → j < m → su m (fun k => aj M m i k * M k j) = if i = j then dt m M else 0
  | 0, _, _, h, _ => by omega
  | m + 1, i, j, hi, hj => by
    by_cases q : i = j
    · subst q
      rw [if_pos rfl, dt_col (c := i) M (by omega)]
      exact su_congr fun k _ => by
        show sg (i + k) * dt m (mn M k i) * M k i = _
        grind
    · rw [if_neg q, ← dt_alienC (n := m) (c := i) (d := j) M (by omega) (by omega) q]
      exact su_congr fun k _ => by
        show sg (i + k) * dt m (mn M k i) * M k j = _
        grind
/-- the table times the adjoint times a column -/
theorem aj_col (M : Mt) {m i : Nat} (c : Nat → Int) (hi : i < m) : su m (fun k => M i k * su m (fun j => aj M m k j * c j)) = dt m M * c i := by
  have e : su m (fun k => M i k * su m (fun j => aj M m k j * c j)) = su m (fun k => su m (fun j => M i k * aj M m k j * c j)) := su_congr fun k _ => by
    rw [← su_mul]
    exact su_congr fun j _ => by rw [Int.mul_assoc]
  rw [e, su_swap]
  have e2 : su m (fun j => su m (fun k => M i k * aj M m k j * c j)) = su m (fun j => if i = j then dt m M * c i else 0) := su_congr fun j hj => by
    rw [su_mulr, aj_right M hi hj]
    by_cases q : i = j
    · subst q; rw [if_pos rfl, if_pos rfl]
    · rw [if_neg q, if_neg q, Int.zero_mul]
  rw [e2, su_one hi]
theorem aj_abs {B : Nat} {M : Mt} : ∀ {m : Nat}, (∀ i j, i < m → j < m → (M i j).natAbs ≤ B) → ∀ i j, i < m → j < m → (aj M m i j).natAbs ≤ (m * B) ^ (m - 1)
  | 0, _, _, _, h, _ => by omega
  | m + 1, h, i, j, hi, hj => by
    show (sg (i + j) * dt m (mn M j i)).natAbs ≤ _
    rw [Int.natAbs_mul]
    have h1 : (sg (i + j)).natAbs = 1 := by rcases sg_or (i + j) with q | q <;> rw [q] <;> rfl
    rw [h1, Nat.one_mul, Nat.add_sub_cancel]
    refine Nat.le_trans (dt_abs fun a b ha hb => h _ _ (sk_lt ha (by omega)) (sk_lt hb (by omega))) ?_
    exact Nat.pow_le_pow_left (Nat.mul_le_mul_right _ (by omega)) _
theorem aj_congr {M M' : Mt} : ∀ {m : Nat}, (∀ i j, i < m → j < m → M i j = M' i j) → ∀ {i j : Nat}, i < m → j < m → aj M m i j = aj M' m i j
  | 0, _, _, _, hi, _ => absurd hi (Nat.not_lt_zero _)
  | m + 1, h, i, j, hi, hj => by
    show sg (i + j) * dt m (mn M j i) = sg (i + j) * dt m (mn M' j i)
    have e : dt m (mn M j i) = dt m (mn M' j i) := dt_congr fun a b ha hb => h _ _ (sk_lt ha (by omega)) (sk_lt hb (by omega))
    rw [e]
/-! ### the floor -/
section
variable {m : Nat} {w : Nat → Nat → Int} {h : Nat}
/-- where nobody but a house lends, what the script leaves -/
theorem ld_rd (g : Gr (m + 1) w) (hh : h ≤ m) (D : Nat → Int) {s : Nat → Int} (s0 : s h = 0) {i : Nat} (hi : i < m) : ld (m + 1) w D s (sk h i) = D (sk h i) - su m (fun j => rd (m + 1) w h i j * s (sk h j)) := by
  unfold ld
  rw [rd_row g hh s0 hi]
  omega
end
end Ch
/-! Ch2: orders; plain standings, one for each kind; cleared or held, never both. -/
namespace Ch
open Dt
/-- ties to those that an order has ahead -/
def ah (n : Nat) (w : Nat → Nat → Int) (pos : Nat → Nat) (x : Nat) : Int := su n (fun j => if pos j < pos x then w x j else 0)
section
variable {n : Nat} {w : Nat → Nat → Int} {pos : Nat → Nat} {D E : Nat → Int}
/-- the sum stays -/
theorem ld_sum (g : Gr n w) (D t : Nat → Int) : su n (ld n w D t) = su n D := by
  have e : su n (ld n w D t) = su n D + su n (fun i => su n (fun j => w i j * (t j - t i))) := by
    rw [← su_add]
    rfl
  have z : su n (fun i => su n (fun j => w i j * (t j - t i))) = - su n (fun i => su n (fun j => w i j * (t j - t i))) := by
    conv => lhs; rw [su_swap]
    rw [← su_neg]
    refine su_congr fun i _ => ?_
    rw [← su_neg]
    refine su_congr fun j _ => ?_
    rw [g.sym j i, ← Int.mul_neg]
    congr 1; omega
  omega
end
end Ch
namespace Wk
open PySem PySem.Spec PyProof.Rows L2
/-! ### P0: what comes out, step by step -/
/-- what comes out keeps this (not unfolded when read) -/
structure Wp {α : Type} (A : α → Prop) (B : Exc → Prop) (m : R α) : Prop where
  px : PX A B m
section
variable {α β S O : Type} {A : α → Prop} {A' : β → Prop} {B B2 : Exc → Prop}
theorem Wp.mono {A2 : α → Prop} {m : R α} (h : Wp A B m) (h1 : ∀ a, A a → A2 a) (h2 : ∀ c, B c → B2 c) : Wp A2 B2 m := ⟨h.px.mono h1 h2⟩
theorem Wp.imp {A2 : α → Prop} {m : R α} (h : Wp A B m) (h1 : ∀ a, A a → A2 a) : Wp A2 B m := ⟨h.px.mono h1 fun _ z => z⟩
theorem Wp.any {m : R α} (h : Wp A (fun _ => False) m) : Wp A B m := ⟨h.px.mono (fun _ z => z) fun _ z => z.elim⟩
theorem px_ok {a : α} (h : A a) : Wp A B (.ok a) := ⟨h⟩
theorem px_exc {c : Exc} (h : B c) : Wp A B (.exc c) := ⟨h⟩
theorem px_eq {m : R α} {a : α} (e : m = .ok a) (h : A a) : Wp A B m := by rw [e]; exact ⟨h⟩
theorem px_bind {m : R α} {f : α → R β} (h : Wp (fun a => Wp A' B (f a)) B m) : Wp A' B (m.bind f) := by
  cases m with
  | ok a => exact ⟨h.px.px⟩
  | exc c => exact ⟨h.px⟩
  | stuck => exact ⟨h.px⟩
theorem px_ite {c : Bool} {a b : R α} (h1 : c = true → Wp A B a) (h2 : c = false → Wp A B b) : Wp A B (if c = true then a else b) := by
  cases c with
  | true => exact ⟨(h1 rfl).px⟩
  | false => exact ⟨(h2 rfl).px⟩
theorem px_get {m : R α} (h : Wp A (fun _ => False) m) : ∃ a, m = .ok a ∧ A a := by
  have h := h.px
  cases m with
  | ok a => exact ⟨a, rfl, h⟩
  | exc c => exact (show False from h).elim
  | stuck => exact (show False from h).elim
theorem px_is {m : R α} {a : α} (h : Wp (fun x => x = a) (fun _ => False) m) : m = .ok a := by
  obtain ⟨x, e, q⟩ := px_get h
  rw [e, q]
theorem px_isx {m : R α} {c : Exc} (h : Wp (fun _ => False) (fun x => x = c) m) : m = .exc c := by
  have h := h.px
  cases m with
  | ok a => exact (show False from h).elim
  | exc d => rw [show d = c from h]
  | stuck => exact (show False from h).elim
/-- what a loop's turn leaves -/
def CtP (A : O → Prop) (I : S → Prop) : Ct S O → Prop
  | .nx s => I s
  | .rt o => A o
theorem px_nx {A : O → Prop} {I : S → Prop} {s : S} (h : I s) : Wp (CtP A I) B (.ok (.nx s) : R (Ct S O)) := ⟨h⟩
theorem px_rt {A : O → Prop} {I : S → Prop} {o : O} (h : A o) : Wp (CtP A I) B (.ok (.rt o) : R (Ct S O)) := ⟨h⟩
theorem px_ct {m : R (Ct S O)} {f : S → R O} {A : O → Prop} (h : Wp (CtP A fun s => Wp A B (f s)) B m) : Wp A B (R.ct m f) := by
  have h := h.px
  cases m with
  | ok c => cases c with
    | nx s => exact ⟨(show Wp A B (f s) from h).px⟩
    | rt o => exact ⟨h⟩
  | exc c => exact ⟨h⟩
  | stuck => exact ⟨h⟩
theorem px_try {m : R S} {h : Exc → R S} {A : S → Prop} (q : Wp A (fun c => Wp A B (h c)) m) : Wp A B (m.tryR h) := by
  have q := q.px
  cases m with
  | ok a => exact ⟨q⟩
  | exc c => exact ⟨(show Wp A B (h c) from q).px⟩
  | stuck => exact ⟨q⟩
/-- a loop with an invariant over what was walked -/
theorem px_for {b : α → S → R S} {A : S → Prop} (I : List α → S → Prop) {xs : List α} {s : S} (h0 : I [] s) (hs : ∀ ys x zs, xs = ys ++ x :: zs → ∀ s, I ys s → Wp (I (ys ++ [x])) B (b x s)) (he : ∀ s, I xs s → A s) : Wp A B (forR b xs s) := by
  have go : ∀ (zs ys : List α) (s : S), xs = ys ++ zs → I ys s → Wp A B (forR b zs s) := by
    intro zs
    induction zs with
    | nil =>
      intro ys s e i
      rw [List.append_nil] at e
      subst e
      exact ⟨he s i⟩
    | cons x zs ih =>
      intro ys s e i
      exact ⟨(px_bind ((hs ys x zs e s i).imp fun s' i' => ih (ys ++ [x]) s' (by rw [e, List.append_assoc]; rfl) i')).px⟩
  exact go xs [] s rfl h0
/-- .. that may tell -/
theorem px_forM {b : α → S → R (Ct S O)} {A : O → Prop} {I' : S → Prop} (I : List α → S → Prop) {xs : List α} {s : S} (h0 : I [] s) (hs : ∀ ys x zs, xs = ys ++ x :: zs → ∀ s, I ys s → Wp (CtP A (I (ys ++ [x]))) B (b x s)) (he : ∀ s, I xs s → I' s) : Wp (CtP A I') B (forM b xs s) := by
  have go : ∀ (zs ys : List α) (s : S), xs = ys ++ zs → I ys s → Wp (CtP A I') B (forM b zs s) := by
    intro zs
    induction zs with
    | nil =>
      intro ys s e i
      rw [List.append_nil] at e
      subst e
      exact ⟨he s i⟩
    | cons x zs ih =>
      intro ys s e i
      have h := (hs ys x zs e s i).px
      show Wp (CtP A I') B ((b x s).bind (Ct.by (fun s' => forM b zs s') fun o => .ok (.rt o)))
      refine px_bind ⟨h.mono (fun c i' => ?_) fun _ z => z⟩
      cases c with
      | nx s' => exact ih (ys ++ [x]) s' (by rw [e, List.append_assoc]; rfl) i'
      | rt o => exact ⟨i'⟩
  exact go xs [] s rfl h0
/-- over a range -/
theorem rangeL_cons {lo hi : Int} (h : lo < hi) : rangeL lo hi = lo :: rangeL (lo + 1) hi := by
  unfold rangeL
  obtain ⟨n, hn⟩ : ∃ n : Nat, (hi - lo).toNat = n + 1 := ⟨(hi - lo).toNat - 1, by omega⟩
  rw [hn, show (hi - (lo + 1)).toNat = n from by omega, List.range_succ_eq_map, List.map_cons, List.map_map]
  refine congr (congrArg _ (by show lo + ((0 : Nat) : Int) = lo; omega)) (List.map_congr_left fun i _ => ?_)
  show lo + ((i + 1 : Nat) : Int) = lo + 1 + (i : Int)
  omega
theorem rangeL_nil {lo hi : Int} (h : hi ≤ lo) : rangeL lo hi = [] := by
  unfold rangeL
  rw [show (hi - lo).toNat = 0 from by omega]
  rfl
theorem px_rng {b : Int → S → R S} {A : S → Prop} (I : Int → S → Prop) {lo hi : Int} {s : S} (hle : lo ≤ hi) (h0 : I lo s) (hs : ∀ k, lo ≤ k → k < hi → ∀ s, I k s → Wp (I (k + 1)) B (b k s)) (he : ∀ s, I hi s → A s) : Wp A B (forR b (rangeL lo hi) s) := by
  have go : ∀ (n : Nat) (k : Int) (s : S), (hi - k).toNat = n → lo ≤ k → k ≤ hi → I k s → Wp A B (forR b (rangeL k hi) s) := by
    intro n
    induction n with
    | zero =>
      intro k s hn h1 h2 i
      have e : k = hi := by omega
      subst e
      rw [rangeL_nil (Int.le_refl _)]
      exact ⟨he s i⟩
    | succ n ih =>
      intro k s hn h1 h2 i
      rw [rangeL_cons (by omega)]
      exact ⟨(px_bind ((hs k h1 (by omega) s i).imp fun s' i' => ih (k + 1) s' (by omega) (by omega) (by omega) i')).px⟩
  exact go _ lo s rfl (Int.le_refl _) hle h0
theorem px_rngM {b : Int → S → R (Ct S O)} {A : O → Prop} {I' : S → Prop} (I : Int → S → Prop) {lo hi : Int} {s : S} (hle : lo ≤ hi) (h0 : I lo s) (hs : ∀ k, lo ≤ k → k < hi → ∀ s, I k s → Wp (CtP A (I (k + 1))) B (b k s)) (he : ∀ s, I hi s → I' s) : Wp (CtP A I') B (forM b (rangeL lo hi) s) := by
  have go : ∀ (n : Nat) (k : Int) (s : S), (hi - k).toNat = n → lo ≤ k → k ≤ hi → I k s → Wp (CtP A I') B (forM b (rangeL k hi) s) := by
    intro n
    induction n with
    | zero =>
      intro k s hn h1 h2 i
      have e : k = hi := by omega
      subst e
      rw [rangeL_nil (Int.le_refl _)]
      exact ⟨he s i⟩
    | succ n ih =>
      intro k s hn h1 h2 i
      rw [rangeL_cons (by omega)]
      have h := (hs k h1 (by omega) s i).px
      show Wp (CtP A I') B ((b k s).bind (Ct.by (fun s' => forM b (rangeL (k + 1) hi) s') fun o => .ok (.rt o)))
      refine px_bind ⟨h.mono (fun c i' => ?_) fun _ z => z⟩
      cases c with
      | nx s' => exact ih (k + 1) s' (by omega) (by omega) (by omega) i'
      | rt o => exact ⟨i'⟩
  exact go _ lo s rfl (Int.le_refl _) hle h0
/-- a while by a measure -/
theorem px_while {c : S → R Bool} {b : S → R S} {A : S → Prop} (I : S → Prop) (μ : S → Nat) {n : Nat} {s : S} (h0 : I s) (hm : μ s < n) (hs : ∀ s, I s → Wp (fun t => (t = true → Wp (fun s' => I s' ∧ μ s' < μ s) B (b s)) ∧ (t = false → A s)) B (c s)) : Wp A B (whileR c b n s) := by
  induction n generalizing s with
  | zero => omega
  | succ n ih =>
    have := px_bind (f := fun t => if t = true then (b s).bind fun s' => whileR c b n s' else .ok s) (A' := A) ((hs s h0).imp fun t q => px_ite (fun e => px_bind ((q.1 e).imp fun s' ⟨i, l⟩ => ih i (by omega))) fun e => px_ok (q.2 e))
    exact ⟨this.px⟩
theorem px_map {g : α → R β} {h : α → β} {A : List β → Prop} {xs : List α} (hl : xs.length ≤ 16777216) (hg : ∀ x ∈ xs, g x = .ok (h x)) (q : A (xs.map h)) : Wp A B (mapR g xs) := px_eq (mapR_ok hg hl) q
end
section
variable {B : Exc → Prop} {A : Int → Prop} {x y : Int}
theorem px_mul (h : bits x + bits y ≤ 134217728) (q : A (x * y)) : Wp A B (mulR x y) := px_eq (chk_ok (decide_eq_true h)) q
theorem px_div (h : y ≠ 0) (h2 : y.natAbs.log2 < 9000) (q : A (x.fdiv y)) : Wp A B (divR x y) := px_eq (divR_ok h h2) q
theorem px_mod (h : y ≠ 0) (q : A (x.fmod y)) : Wp A B (modR x y) := px_eq (modR_ok h) q
theorem px_pow (h : 0 ≤ y) (h2 : (bits x : Int) * y ≤ 134217728) (q : A (x ^ y.toNat)) : Wp A B (powR x y) := px_eq (chk_ok (decide_eq_true ⟨h, h2⟩)) q
theorem px_rg {A : List Int → Prop} (h1 : -1000000000000000000 ≤ x) (h2 : x ≤ 1000000000000000000) (h3 : -1000000000000000000 ≤ y) (h4 : y ≤ 1000000000000000000) (q : A (rangeL x y)) : Wp A B (rngR x y) := px_eq (rngR_ok h1 h2 h3 h4) q
theorem px_app {α : Type} {A : List α → Prop} {xs : List α} {v : α} (h : xs.length < 16777216) (q : A (xs ++ [v])) : Wp A B (appR xs v) := px_eq (appR_ok h) q
theorem px_cat {α : Type} {A : List α → Prop} {xs ys : List α} (h : xs.length + ys.length ≤ 16777216) (q : A (xs ++ ys)) : Wp A B (catR xs ys) := px_eq (catR_ok h) q
end
theorem bits_iff {x : Int} {m : Nat} : bits x ≤ m ↔ x.natAbs < 2 ^ m := PySem.intBits_le_iff
theorem bits_add {x y : Int} {m : Nat} (hx : bits x ≤ m) (hy : bits y ≤ m) : bits (x + y) ≤ m + 1 := by
  rw [bits_iff] at *
  rw [Nat.pow_succ]
  have := Int.natAbs_add_le x y
  omega
theorem bits_sub {x y : Int} {m : Nat} (hx : bits x ≤ m) (hy : bits y ≤ m) : bits (x - y) ≤ m + 1 := by
  rw [bits_iff] at *
  rw [Nat.pow_succ]
  omega
theorem bits_mul {x y : Int} {m n : Nat} (hx : bits x ≤ m) (hy : bits y ≤ n) : bits (x * y) ≤ m + n := by
  rw [bits_iff] at *
  rw [Int.natAbs_mul, Nat.pow_add]
  exact Nat.mul_lt_mul'' hx hy
theorem bits_fmod {x y : Int} {m : Nat} (hy : bits y ≤ m) (h : 0 < y) : bits (x.fmod y) ≤ m := by
  rw [bits_iff] at *
  have h2 := Int.fmod_nonneg_of_pos x h
  have h3 := Int.fmod_lt_of_pos x h
  omega
theorem bits_mono {x : Int} {m n : Nat} (hx : bits x ≤ m) (h : m ≤ n) : bits x ≤ n := Nat.le_trans hx h
theorem bits_nat {x : Int} (k : Nat) {M : Nat} (h0 : 0 ≤ x) (h : x ≤ (M : Int)) (hk : M < 2 ^ k) : bits x ≤ k := by
  rw [bits_iff]
  omega
/-- how many bits a number has that lies within a power -/
theorem bits_le {x : Int} {m : Nat} (h : x.natAbs < 2 ^ m) : bits x ≤ m := bits_of h
theorem log2_lt {y : Int} {m : Nat} (h : y.natAbs < 2 ^ m) (hm : m ≤ 9000) (hy : y ≠ 0) : y.natAbs.log2 < 9000 :=
  Nat.lt_of_lt_of_le ((Nat.log2_lt (by omega)).mpr h) hm
/-- the i-th of a list, whatever stands there -/
def gt {α : Type} (l : List α) (i : Int) (d : α) : α := l.getD i.toNat d
theorem ixR_gt {α : Type} {l : List α} {i : Int} (d : α) (h0 : 0 ≤ i) (h1 : i < l.length) : ixR l i = .ok (gt l i d) := by
  refine ixR_int h0 ?_
  unfold gt
  rw [List.getD_eq_getElem?_getD, List.getElem?_eq_getElem (by omega)]
  rfl
theorem ixN_int {n : Nat} {i : Int} (h0 : 0 ≤ i) (h1 : i < n) : ixN n i = some i.toNat := by
  unfold ixN
  rw [if_pos h0, if_pos h1]
theorem setR_gt {α : Type} {l : List α} {i : Int} (h0 : 0 ≤ i) (h1 : i < l.length) (v : α) : setR l i v = .ok (l.set i.toNat v) := by
  unfold setR
  rw [ixN_int h0 h1]
  rfl
theorem gt_set {α : Type} {l : List α} {i j : Int} {v d : α} (h0 : 0 ≤ i) (h1 : i < l.length) (j0 : 0 ≤ j) : gt (l.set i.toNat v) j d = if j = i then v else gt l j d := by
  unfold gt
  rw [List.getD_eq_getElem?_getD, List.getD_eq_getElem?_getD, List.getElem?_set]
  by_cases h : j = i
  · subst h
    rw [if_pos rfl, if_pos (by omega), if_pos rfl]; rfl
  · rw [if_neg (by omega), if_neg h]
theorem px_ixn {α : Type} {B : Exc → Prop} {A : α → Prop} {l : List α} {k : Int} (h0 : 0 ≤ k) (h1 : k < l.length) (h : ∀ x ∈ l, A x) : Wp A B (ixR l k) := by
  obtain ⟨j, rfl⟩ := Int.eq_ofNat_of_zero_le h0
  have hj : j < l.length := by omega
  exact px_eq (ixR_nat (List.getElem?_eq_getElem hj)) (h _ (List.getElem_mem hj))
theorem pyEq_false {α : Type} [PyQ α] {x y : α} (h : x ≠ y) : pyEq x y = false := by
  cases q : pyEq x y with
  | true => exact absurd ((pyEq_q x y).mp q) h
  | false => rfl
theorem of_pyEq {α : Type} [PyQ α] {x y : α} (h : pyEq x y = true) : x = y := (pyEq_q x y).mp h
theorem cutL_mem {α : Type} {xs : List α} {lo hi : Option Int} {x : α} (h : x ∈ cutL xs lo hi) : x ∈ xs := List.mem_of_mem_drop (List.mem_of_mem_take h)
/-! ### webs: cells, ties, made -/
def Fit (n : Int) (t : Int × Int) : Prop := t.1 ≠ t.2 ∧ 0 ≤ t.1 ∧ 0 ≤ t.2 ∧ t.1 < n ∧ t.2 < n
/-- all houses hang together -/
def Con (n : Int) (ties : List (Int × Int)) : Prop := ∀ P : Int → Prop, P 0 → (∀ t ∈ ties, P t.1 ↔ P t.2) → ∀ h, 0 ≤ h → h < n → P h
theorem setR_int {α : Type} {xs : List α} {j : Int} {y : α} (h0 : 0 ≤ j) (h : j < xs.length) : setR xs j y = .ok (xs.set j.toNat y) := by
  unfold setR ixN
  rw [if_pos h0, if_pos h] <;> rfl
theorem whileR_end {S : Type} {c : S → R Bool} {b : S → R S} (I : S → Prop) (cb : S → Bool) (μ : S → Nat) (hc : ∀ s, I s → c s = .ok (cb s)) (hb : ∀ s, I s → cb s = true → ∃ s', b s = .ok s' ∧ I s' ∧ μ s' < μ s) : ∀ (n : Nat) (s : S), I s → μ s < n → ∃ s', whileR c b n s = .ok s' ∧ I s' ∧ cb s' = false
  | 0, s, _, h => absurd h (Nat.not_lt_zero _)
  | n + 1, s, i, h => by
    show ∃ s', ((c s).bind fun t => if t = true then (b s).bind fun s' => whileR c b n s' else .ok s) = .ok s' ∧ _
    rw [hc s i, bind_ok]
    cases e : cb s with
    | false => exact ⟨s, rfl, i, e⟩
    | true =>
      obtain ⟨s1, e1, i1, m1⟩ := hb s i e
      rw [ite_t, e1, bind_ok]
      exact whileR_end I cb μ hc hb n s1 i1 (by omega)
theorem cell_ok {ns : List Int} {M : Nat} (hb : ∀ z ∈ ns, bits z ≤ M) {i : Int} (h0 : 0 ≤ i) : ∃ v, m_law_cell_at (⟨ns⟩, i, ()) = .ok v ∧ bits v ≤ M := by
  unfold m_law_cell_at
  dsimp only
  by_cases h : i < ns.length
  · have hl : i.toNat < ns.length := by omega
    refine ⟨ns[i.toNat], ?_, hb _ (List.getElem_mem hl)⟩
    rw [decide_eq_true h, ite_t, ixR_int h0 (List.getElem?_eq_getElem hl)] <;> rfl
  · refine ⟨0, ?_, Nat.zero_le _⟩
    rw [decide_eq_false h, ite_f]
/-! the reached houses -/
abbrev fls (xs : List Bool) : Nat := xs.count false
theorem set_fls {xs : List Bool} {i : Nat} (h : i < xs.length) : fls (xs.set i true) = fls xs - (if xs[i] = false then 1 else 0) := by
  unfold fls
  rw [List.count_set h]
  simp
theorem fls_pos {xs : List Bool} {i : Nat} (h : i < xs.length) (e : xs[i] = false) : 0 < fls xs := List.count_pos_iff.mpr (by rw [← e]; exact List.getElem_mem h)
theorem set_fls_le {xs : List Bool} {i : Nat} : fls (xs.set i true) ≤ fls xs := by
  by_cases h : i < xs.length
  · rw [set_fls h]; omega
  · rw [List.set_eq_of_length_le (by omega)]
    exact Nat.le_refl _
/-- one turn over the ties -/
theorem rangeL_eq (n : Nat) : rangeL 0 (n : Int) = (List.range n).map fun i : Nat => (i : Int) := rangeL_nat n
theorem compGo_all {α : Type} {g : α → R (Option α)} : ∀ {xs : List α}, (∀ x ∈ xs, g x = .ok (some x)) → compGo g xs = .ok xs
  | [], _ => rfl
  | x :: xs, h => by
    show ((g x).sure.bind fun o => (compGo g xs).bind fun ys => .ok (match o with | some y => y :: ys | none => ys)) = _
    rw [h x List.mem_cons_self, compGo_all fun y hy => h y (List.mem_cons_of_mem _ hy)] <;> rfl
theorem compR_all {α : Type} {g : α → R (Option α)} {xs : List α} (h : ∀ x ∈ xs, g x = .ok (some x)) (hl : xs.length ≤ 16777216) : compR g xs = .ok xs := by
  unfold compR
  rw [if_pos hl]
  exact compGo_all h
abbrev mm (t : Int × Int) : Int × Int := (min t.1 t.2, max t.1 t.2)
/-! the ties of a script -/
theorem rangeL_perm_mem {n : Nat} {l : List Int} (h : l.Perm (rangeL 0 (n : Int))) {i : Int} : i ∈ l ↔ 0 ≤ i ∧ i < n := by
  rw [h.mem_iff]
  refine ⟨fun q => mem_rangeL q, fun ⟨h1, h2⟩ => ?_⟩
  unfold rangeL
  exact List.mem_map.mpr ⟨i.toNat, List.mem_range.mpr (by omega), by omega⟩
theorem rangeL_nodup (lo hi : Int) : (rangeL lo hi).Nodup := by
  unfold rangeL
  refine List.Pairwise.map _ (R := (· ≠ ·)) (fun a b h e => h (by omega)) (List.nodup_range (n := (hi - lo).toNat))
abbrev oi (order : List Int) (i : Int) : Int := order.getD i.toNat 0
theorem oi_mem {n : Nat} {order : List Int} (hp : order.Perm (rangeL 0 (n : Int))) {i : Int} (h0 : 0 ≤ i) (h : i < n) : 0 ≤ oi order i ∧ oi order i < n := by
  have hn : order.length = n := by rw [hp.length_eq, rangeL_len]; omega
  have a : i.toNat < order.length := by omega
  refine (rangeL_perm_mem hp).mp ?_
  show order.getD _ _ ∈ order
  rw [List.getD_eq_getElem?_getD, List.getElem?_eq_getElem a]
  exact List.getElem_mem a
theorem oi_inj {n : Nat} {order : List Int} (hp : order.Perm (rangeL 0 (n : Int))) {i j : Int} (h0 : 0 ≤ i) (h : i < n) (k0 : 0 ≤ j) (k : j < n) (e : oi order i = oi order j) : i = j := by
  have hn : order.length = n := by rw [hp.length_eq, rangeL_len]; omega
  have a : i.toNat < order.length := by omega
  have b : j.toNat < order.length := by omega
  have nd : order.Nodup := hp.nodup_iff.mpr (rangeL_nodup _ _)
  have e2 : order[i.toNat] = order[j.toNat] := by
    have e3 : order.getD i.toNat 0 = order.getD j.toNat 0 := e
    rw [List.getD_eq_getElem?_getD, List.getD_eq_getElem?_getD, List.getElem?_eq_getElem a, List.getElem?_eq_getElem b] at e3
    exact e3
  have pw := List.pairwise_iff_getElem.mp nd
  by_cases c1 : i.toNat < j.toNat
  · exact absurd e2 (pw _ _ a b c1)
  · by_cases c2 : j.toNat < i.toNat
    · exact absurd e2.symm (pw _ _ b a c2)
    · omega
theorem oi_surj {n : Nat} {order : List Int} (hp : order.Perm (rangeL 0 (n : Int))) {h : Int} (h0 : 0 ≤ h) (h1 : h < n) : ∃ i : Int, 0 ≤ i ∧ i < n ∧ oi order i = h := by
  have hn : order.length = n := by rw [hp.length_eq, rangeL_len]; omega
  obtain ⟨k, hk, e⟩ := List.mem_iff_getElem.mp ((rangeL_perm_mem hp).mpr ⟨h0, h1⟩)
  refine ⟨k, by omega, by omega, ?_⟩
  show order.getD _ _ = _
  rw [List.getD_eq_getElem?_getD, Int.toNat_natCast, List.getElem?_eq_getElem hk]
  exact e
/-- each but the first is tied to one ahead of it -/
def Base (n : Int) (ties : List (Int × Int)) : Prop := ∀ k : Int, 1 ≤ k → k < n → ∃ t ∈ ties, t.2 = k ∧ 0 ≤ t.1 ∧ t.1 < k
theorem base_all {n : Int} {ties : List (Int × Int)} (hb : Base n ties) (Q : Int → Prop) (hq : ∀ t ∈ ties, Q t.1 ↔ Q t.2) : ∀ m : Nat, (m : Int) < n → (Q m ↔ Q 0) := by
  intro m
  induction m using Nat.strongRecOn with
  | ind m ih =>
    intro hm
    by_cases h : m = 0
    · subst h; exact Iff.rfl
    · obtain ⟨t, ht, e, t0, t1⟩ := hb m (by omega) hm
      have q := hq t ht
      rw [e] at q
      have e1 : ((t.1.toNat : Nat) : Int) = t.1 := by omega
      have := ih t.1.toNat (by omega) (by omega)
      rw [e1] at this
      exact q.symm.trans this
theorem renamed_con {n : Nat} {ties : List (Int × Int)} {order : List Int} (h1 : 1 ≤ n) (hp : order.Perm (rangeL 0 (n : Int))) (hb : Base n ties) : Con n (ties.map fun t => (oi order t.1, oi order t.2)) := by
  intro P p0 hP h h0 hh
  have A := base_all hb (fun i => P (oi order i)) fun t ht => hP _ (List.mem_map.mpr ⟨t, ht, rfl⟩)
  obtain ⟨i, i0, i1, e⟩ := oi_surj hp (show (0 : Int) ≤ 0 by omega) (show (0 : Int) < n by omega)
  obtain ⟨j, j0, j1, e2⟩ := oi_surj hp h0 hh
  have a1 := A i.toNat (by omega)
  have a2 := A j.toNat (by omega)
  rw [show ((i.toNat : Nat) : Int) = i by omega, e] at a1
  rw [show ((j.toNat : Nat) : Int) = j by omega, e2] at a2
  exact a2.mpr (a1.mp p0)
theorem renamed_fit {n : Nat} {ties : List (Int × Int)} {order : List Int} (hp : order.Perm (rangeL 0 (n : Int))) (hf : ∀ t ∈ ties, Fit n t) : ∀ t ∈ ties.map (fun t => (oi order t.1, oi order t.2)), Fit n t := by
  intro t ht
  obtain ⟨u, hu, rfl⟩ := List.mem_map.mp ht
  obtain ⟨f1, f2, f3, f4, f5⟩ := hf u hu
  have a := oi_mem hp f2 f4
  have b := oi_mem hp f3 f5
  exact ⟨fun e => f1 (oi_inj hp f2 f4 f3 f5 e), a.1, b.1, a.2, b.2⟩
/-! ### lists of a number for each house -/
/-- what a tie brings to a house -/
def gain (sc : List Int) (h : Int) (t : Int × Int) : Int := (if h = t.1 then oi sc t.2 - oi sc t.1 else 0) + if h = t.2 then oi sc t.1 - oi sc t.2 else 0
theorem sum_app (xs ys : List Int) : (xs ++ ys).sum = xs.sum + ys.sum := by
  induction xs with
  | nil => simp
  | cons x xs ih => rw [List.cons_append, List.sum_cons, List.sum_cons, ih]; omega
/-! ### P1: tables, determinants -/
structure Tq (n : Nat) (T : List (List Int)) : Prop where
  len : T.length = n
  row : ∀ r ∈ T, r.length = n
def mt (T : List (List Int)) : Dt.Mt := fun i j => gt (gt T (i : Int) []) (j : Int) 0
theorem gt_mem {α : Type} {l : List α} {i : Int} (d : α) (h0 : 0 ≤ i) (h1 : i < l.length) : gt l i d ∈ l := by
  unfold gt
  rw [List.getD_eq_getElem?_getD, List.getElem?_eq_getElem (by omega)]
  exact List.getElem_mem _
theorem Tq.rl {n : Nat} {T : List (List Int)} (h : Tq n T) {i : Int} (h0 : 0 ≤ i) (h1 : i < n) : (gt T i []).length = n := h.row _ (gt_mem _ h0 (by rw [h.len]; exact h1))
theorem mt_int {T : List (List Int)} {i j : Int} (h0 : 0 ≤ i) (j0 : 0 ≤ j) : gt (gt T i []) j 0 = mt T i.toNat j.toNat := by
  unfold mt
  rw [Int.toNat_of_nonneg h0, Int.toNat_of_nonneg j0]
theorem ix_row {n : Nat} {T : List (List Int)} (h : Tq n T) {i : Int} (h0 : 0 ≤ i) (h1 : i < n) : ixR T i = .ok (gt T i []) := ixR_gt [] h0 (by rw [h.len]; exact h1)
theorem ix_ent {n : Nat} {T : List (List Int)} (h : Tq n T) {i j : Int} (h0 : 0 ≤ i) (h1 : i < n) (j0 : 0 ≤ j) (j1 : j < n) : ixR (gt T i []) j = .ok (mt T i.toNat j.toNat) := by
  rw [ixR_gt 0 j0 (by rw [h.rl h0 h1]; exact j1), mt_int h0 j0]
theorem rowR_gt {n : Nat} {T : List (List Int)} (h : Tq n T) {i : Int} (h0 : 0 ≤ i) (h1 : i < n) : rowR T i = .ok (i.toNat, gt T i []) := by
  unfold rowR
  rw [ixN_int h0 (by rw [h.len]; exact h1), Option.bind_some]
  unfold gt
  rw [List.getD_eq_getElem?_getD, List.getElem?_eq_getElem (by rw [h.len]; omega)]
  rfl
/-- one place changed -/
def putT (T : List (List Int)) (i j : Int) (v : Int) : List (List Int) := T.set i.toNat ((gt T i []).set j.toNat v)
theorem putT_sq {n : Nat} {T : List (List Int)} (h : Tq n T) {i j v : Int} (h0 : 0 ≤ i) (h1 : i < n) : Tq n (putT T i j v) := by
  refine ⟨by unfold putT; rw [List.length_set, h.len], fun r hr => ?_⟩
  rcases List.mem_or_eq_of_mem_set hr with q | q
  · exact h.row r q
  · rw [q, List.length_set, h.rl h0 h1]
theorem putT_mt {n : Nat} {T : List (List Int)} (h : Tq n T) {i j v : Int} (h0 : 0 ≤ i) (h1 : i < n) (j0 : 0 ≤ j) (j1 : j < n) (a b : Nat) : mt (putT T i j v) a b = if (a : Int) = i ∧ (b : Int) = j then v else mt T a b := by
  unfold mt putT
  rw [gt_set h0 (by rw [h.len]; exact h1) (by omega)]
  by_cases q : (a : Int) = i
  · rw [if_pos q, gt_set j0 (by rw [h.rl h0 h1]; exact j1) (by omega)]
    by_cases q2 : (b : Int) = j
    · rw [if_pos q2, if_pos ⟨q, q2⟩]
    · rw [if_neg q2, if_neg (fun z => q2 z.2), q]
  · rw [if_neg q, if_neg (fun z => q z.1)]
theorem pivot_ok {B : Exc → Prop} {n : Nat} {T : List (List Int)} (sq : Tq n T) (h8 : n ≤ 8) {k : Nat} (hk : k < n) : Wp (fun r : Int => (∃ f : Nat, r = f ∧ k ≤ f ∧ f < n ∧ mt T f k ≠ 0) ∨ (r = -1 ∧ ∀ i, k ≤ i → i < n → mt T i k = 0)) B (m_pivot_row (T, (k : Int), ())) := by
  unfold m_pivot_row
  dsimp only
  rw [sq.len]
  refine px_bind (px_rg (by omega) (by omega) (by omega) (by omega) (px_ct ?_))
  refine px_rngM (fun k' _ => ∀ i : Nat, k ≤ i → (i : Int) < k' → mt T i k = 0) (by omega) (fun i h1 h2 => by omega) (fun r h1 h2 s hi => ?_) (fun s hi => ?_)
  · refine px_bind (px_bind (px_bind (px_eq (ix_row sq (by omega) h2) (px_eq (ix_ent sq (by omega) h2 (by omega) (by omega)) (px_ok ?_)))))
    rw [Int.toNat_natCast]
    refine px_ite (fun c => px_ok ?_) (fun c => px_ok ?_)
    · refine .inl ⟨r.toNat, by omega, by omega, by omega, fun z => ?_⟩
      rw [z] at c
      exact absurd c (by decide +kernel)
    · intro i g1 g2
      by_cases q : (i : Int) = r
      · have e : mt T r.toNat k = 0 := by
          have c2 : pyEq (mt T r.toNat k) 0 = true := by
            cases hq : pyEq (mt T r.toNat k) 0 with
            | true => rfl
            | false => rw [hq] at c; cases c
          exact (pyEq_q _ _).mp c2
        rw [← e, ← q]; rfl
      · exact hi i g1 (by omega)
  · exact px_ok (.inr ⟨rfl, fun i h1 h2 => hi i h1 (by omega)⟩)
theorem swap_sq {n : Nat} {T : List (List Int)} (sq : Tq n T) {i j : Int} (h0 : 0 ≤ i) (h1 : i < n) (j0 : 0 ≤ j) (j1 : j < n) : ∃ T', swapR T i j = .ok T' ∧ Tq n T' ∧ ∀ a b, a < n → mt T' a b = mt T (Dt.tw i.toNat j.toNat a) b := by
  refine ⟨(T.set i.toNat (gt T j [])).set j.toNat (gt T i []), ?_, ⟨by rw [List.length_set, List.length_set, sq.len], fun r hr => ?_⟩, fun a b ha => ?_⟩
  · unfold swapR swapO
    rw [ixN_int h0 (by rw [sq.len]; exact h1), ixN_int j0 (by rw [sq.len]; exact j1), Option.bind_some, Option.bind_some]
    unfold gt
    rw [List.getD_eq_getElem?_getD, List.getD_eq_getElem?_getD, List.getElem?_eq_getElem (by rw [sq.len]; omega), List.getElem?_eq_getElem (by rw [sq.len]; omega)]
    rfl
  · rcases List.mem_or_eq_of_mem_set hr with q | q
    · rcases List.mem_or_eq_of_mem_set q with q | q
      · exact sq.row r q
      · rw [q]; exact sq.rl j0 j1
    · rw [q]; exact sq.rl h0 h1
  · have e : gt ((T.set i.toNat (gt T j [])).set j.toNat (gt T i [])) (a : Int) [] = gt T ((Dt.tw i.toNat j.toNat a : Nat) : Int) [] := by
      rw [gt_set j0 (by rw [List.length_set, sq.len]; exact j1) (by omega)]
      unfold Dt.tw
      by_cases q : (a : Int) = j
      · rw [if_pos q]
        by_cases q2 : a = i.toNat
        · rw [if_pos q2, show ((j.toNat : Nat) : Int) = j from by omega, show i = j from by omega]
        · rw [if_neg q2, if_pos (by omega), show ((i.toNat : Nat) : Int) = i from by omega]
      · rw [if_neg q, gt_set h0 (by rw [sq.len]; exact h1) (by omega)]
        by_cases q2 : (a : Int) = i
        · rw [if_pos q2, if_pos (by omega), show ((j.toNat : Nat) : Int) = j from by omega]
        · rw [if_neg q2, if_neg (by omega), if_neg (by omega)]
    unfold mt
    rw [e]
theorem one_lt_pow (m : Nat) (h : 0 < m) : (1 : Int).natAbs < 2 ^ m := Nat.one_lt_two_pow (Nat.pos_iff_ne_zero.mp h)
theorem tw_lt {n r s i : Nat} (hr : r < n) (hs : s < n) (hi : i < n) : Dt.tw r s i < n := by
  unfold Dt.tw
  split
  · exact hs
  · split
    · exact hr
    · exact hi
/-- a step of the elimination, at a row -/
def elim1 (b : Dt.Mt) (k : Nat) (p : Int) (i j : Nat) : Int := (b i j * b k k - b i k * b k j).fdiv p
theorem det_ok {n B : Nat} {T : List (List Int)} (sq : Tq n T) (h8 : n ≤ 8) (h1 : 1 ≤ B) (hB : (8 * B) ^ 8 < 2 ^ 4000) (hb : ∀ i j, i < n → j < n → (mt T i j).natAbs ≤ B) : m_det (T, ()) = .ok (Dt.dt n (mt T)) := by
  refine px_is ?_
  have small : ∀ {k : Nat} {x : Int}, k < n → x.natAbs ≤ ((k + 1) * B) ^ (k + 1) → x.natAbs < 2 ^ 4000 := fun {k x} hk hx => by
    refine Nat.lt_of_le_of_lt (Nat.le_trans hx ?_) hB
    exact Nat.le_trans (Nat.pow_le_pow_left (Nat.mul_le_mul_right B (by omega)) (k + 1)) (Nat.pow_le_pow_right (by omega) (by omega))
  unfold m_det
  dsimp only
  refine px_bind (px_map (h := id) (by rw [sq.len]; omega) (fun x _ => rfl) ?_)
  rw [List.map_id]
  refine px_bind (px_ok (px_bind (px_ok (px_bind ?_))))
  rw [sq.len]
  refine px_rg (by omega) (by omega) (by omega) (by omega) (px_ct ?_)
  refine px_rngM (fun k' s => ∃ (k : Nat) (A : Dt.Mt), k' = k ∧ k ≤ n ∧ Tq n s.1 ∧ Dt.Bi n k A (mt s.1) s.2.2 ∧ s.2.2 ≠ 0 ∧ s.2.2 = Dt.dt k A ∧ (s.2.1 = 1 ∨ s.2.1 = -1) ∧ s.2.1 * Dt.dt n A = Dt.dt n (mt T) ∧ ∀ i j, i < n → j < n → (A i j).natAbs ≤ B) (by omega) ?_ (fun k' _ _ s => ?_) (fun s => ?_)
  · exact ⟨0, mt T, rfl, by omega, sq, Dt.Bi.start n _, (by show (1 : Int) ≠ 0; decide), rfl, .inl rfl, Int.one_mul _, hb⟩
  · rintro ⟨k, A, rfl, hkn, sqs, bi, hp, hd, hsg, hdet, hA⟩
    rename_i hk0 hk1
    have hk : k < n := by omega
    refine px_bind ((pivot_ok sqs h8 hk).mono (fun f hf => ?_) fun _ z => z)
    refine px_ite (fun c => ?_) (fun c => ?_)
    · -- no pivot
      refine px_ok ?_
      have c2 := of_decide_eq_true c
      rcases hf with ⟨f, rfl, _⟩ | ⟨rfl, hz⟩
      · omega
      · show (0 : Int) = _
        rw [← hdet, bi.zero hk hp hz, Int.mul_zero]
    · have c2 : ¬ f < 0 := of_decide_eq_false c
      rcases hf with ⟨f, rfl, hkf, hfn, hpv⟩ | ⟨rfl, hz⟩
      case inr => omega
      -- the rows change places
      have st : Wp (fun q : List (List Int) × Int => ∃ A' : Dt.Mt, Tq n q.1 ∧ Dt.Bi n k A' (mt q.1) s.2.2 ∧ s.2.2 = Dt.dt k A' ∧ (q.2 = 1 ∨ q.2 = -1) ∧ q.2 * Dt.dt n A' = Dt.dt n (mt T) ∧ (∀ i j, i < n → j < n → (A' i j).natAbs ≤ B) ∧ mt q.1 k k ≠ 0) (fun _ => False) (if (!pyEq (f : Int) (k : Int)) = true then ((swapR s.1 (k : Int) (f : Int)).bind fun y => (((.ok (-s.2.1)) : R Int).bind fun y2 => (.ok (y, y2)))) else (.ok (s.1, s.2.1))) := by
        refine px_ite (fun d => ?_) (fun d => ?_)
        · have hne : k ≠ f := fun z => by
            subst z
            rw [show pyEq ((k : Nat) : Int) ((k : Nat) : Int) = true from pyEq_refl (α := Int) _] at d
            cases d
          obtain ⟨T', e1, sq', hm⟩ := swap_sq sqs (i := (k : Int)) (j := (f : Int)) (by omega) (by omega) (by omega) (by omega)
          rw [Int.toNat_natCast, Int.toNat_natCast] at hm
          refine px_bind (px_eq e1 (px_bind (px_ok (px_ok ?_))))
          have t1 := bi.tw (Nat.le_refl k) hk hkf hfn
          refine ⟨fun i => A (Dt.tw k f i), sq', fun m ρ κ hρ hκ => ?_, ?_, ?_, ?_, fun i j hi hj => hA _ _ (tw_lt hk hfn hi) hj, ?_⟩
          · rw [← t1 m ρ κ hρ hκ]
            exact Dt.dt_congr fun i j hi hj => hm _ _ (hρ i hi).2
          · rw [hd]
            refine Dt.dt_congr fun i j hi hj => ?_
            unfold Dt.tw
            rw [if_neg (by omega), if_neg (by omega)]
          · show -s.2.1 = 1 ∨ -s.2.1 = -1
            omega
          · show -s.2.1 * _ = _
            rw [Dt.dt_tw A hk hfn hne, Int.neg_mul_neg, hdet]
          · rw [hm k k hk]
            unfold Dt.tw
            rw [if_pos rfl]
            exact hpv
        · have hne : f = k := by
            have : pyEq (f : Int) (k : Int) = true := by
              cases hq : pyEq (f : Int) (k : Int) with
              | true => rfl
              | false => rw [hq] at d; cases d
            have := (pyEq_q (α := Int) _ _).mp this
            omega
          subst hne
          exact px_ok ⟨A, sqs, bi, hd, hsg, hdet, hA, hpv⟩
      refine px_bind (st.mono (fun q hq => ?_) fun _ z => z)
      obtain ⟨A', sq', bi', hd', hsg', hdet', hA', hpv'⟩ := hq
      refine px_bind (px_bind (px_eq (ix_row sq' (by omega) (by omega)) (px_eq (ix_ent sq' (by omega) (by omega) (by omega) (by omega)) ?_)))
      rw [Int.toNat_natCast]
      refine px_bind ?_
      rw [sq'.len]
      refine px_rg (by omega) (by omega) (by omega) (by omega) ?_
      have big : ∀ i j, k ≤ i → i < n → k ≤ j → j < n → bits (mt q.1 i j) ≤ 4000 := fun i j h1 h2 h3 h4 => bits_le (small hk (bi'.abs hA' h1 h2 h3 h4))
      have hps : bits s.2.2 ≤ 4000 ∧ s.2.2.natAbs < 2 ^ 4000 := by
        have : s.2.2.natAbs < 2 ^ 4000 := by
          rw [hd]
          by_cases z : k = 0
          · subst z
            show (1 : Int).natAbs < _
            exact one_lt_pow 4000 (by decide)
          · obtain ⟨c, rfl⟩ : ∃ c, k = c + 1 := ⟨k - 1, by omega⟩
            exact small (k := c) (by omega) (Dt.dt_abs fun i j hi hj => hA i j (by omega) (by omega))
        exact ⟨bits_le this, this⟩
      -- all rows below
      refine px_bind (px_rng (fun r R => Tq n R ∧ ∀ i j, i < n → j < n → mt R i j = if k < i ∧ (i : Int) < r ∧ k ≤ j then elim1 (mt q.1) k s.2.2 i j else mt q.1 i j) (by omega) ⟨sq', fun i j _ _ => (if_neg (by omega)).symm⟩ (fun r hr1 hr2 R => ?_) (fun R => ?_))
      · rintro ⟨sqR, hR⟩
        obtain ⟨r, rfl⟩ := Int.eq_ofNat_of_zero_le (show 0 ≤ r by omega)
        refine px_bind (px_bind (px_eq (ix_row sqR (by omega) (by omega)) (px_eq (ix_ent sqR (by omega) (by omega) (by omega) (by omega)) ?_)))
        rw [Int.toNat_natCast, Int.toNat_natCast]
        refine px_bind ?_
        rw [sqR.len]
        refine px_rg (by omega) (by omega) (by omega) (by omega) ?_
        have hrn : r < n := by omega
        have hRr : ∀ j, j < n → mt R r j = mt q.1 r j := fun j hj => by rw [hR r j hrn hj, if_neg (by omega)]
        refine px_bind (px_rng (fun c Q => Tq n Q ∧ ∀ i j, i < n → j < n → mt Q i j = if i = r ∧ k ≤ j ∧ (j : Int) < c then elim1 (mt q.1) k s.2.2 i j else mt R i j) (by omega) ⟨sqR, fun i j _ _ => (if_neg (by omega)).symm⟩ (fun c hc1 hc2 Q => ?_) (fun Q => ?_))
        · rintro ⟨sqQ, hQ⟩
          obtain ⟨c, rfl⟩ := Int.eq_ofNat_of_zero_le (show 0 ≤ c by omega)
          have hcn : c < n := by omega
          have e1 : mt Q r c = mt q.1 r c := by rw [hQ r c hrn hcn, if_neg (by omega), hRr c hcn]
          have e2 : mt Q k c = mt q.1 k c := by rw [hQ k c hk hcn, if_neg (by omega), hR k c hk hcn, if_neg (by omega)]
          have b1 := big r c (by omega) hrn (by omega) hcn
          have b2 := big k k (Nat.le_refl k) hk (Nat.le_refl k) hk
          have b3 := big r k (by omega) hrn (Nat.le_refl k) hk
          have b4 := big k c (Nat.le_refl k) hk (by omega) hcn
          refine px_bind (px_bind (px_bind (px_bind (px_bind (px_eq (ix_row sqQ (by omega) (by omega)) (px_eq (ix_ent sqQ (by omega) (by omega) (by omega) (by omega)) ?_))))))
          rw [Int.toNat_natCast, Int.toNat_natCast, e1]
          refine px_mul (by omega) (px_bind (px_bind (px_bind (px_eq (ix_row sqQ (by omega) (by omega)) (px_eq (ix_ent sqQ (by omega) (by omega) (by omega) (by omega)) ?_)))))
          rw [Int.toNat_natCast, Int.toNat_natCast, e2, hRr k hk]
          refine px_mul (by omega) (px_ok (px_div hp (log2_lt hps.2 (by omega) hp) ?_))
          refine px_bind (px_eq (rowR_gt sqQ (by omega) (by omega)) (px_bind (px_eq (setR_gt (by omega) (by rw [sqQ.rl (by omega) (by omega)]; omega) _) ?_)))
          show Wp _ _ (.ok (putT Q (r : Int) (c : Int) _))
          refine px_ok ⟨putT_sq sqQ (by omega) (by omega), fun i j hi hj => ?_⟩
          rw [putT_mt sqQ (by omega) (by omega) (by omega) (by omega)]
          by_cases z : i = r ∧ j = c
          · obtain ⟨rfl, rfl⟩ := z
            rw [if_pos ⟨rfl, rfl⟩, if_pos (by omega)]
            rfl
          · rw [if_neg (by omega), hQ i j hi hj]
            by_cases z2 : i = r ∧ k ≤ j ∧ (j : Int) < (c : Int)
            · rw [if_pos z2, if_pos (by omega)]
            · rw [if_neg z2, if_neg (by omega)]
        · rintro ⟨sqQ, hQ⟩
          refine px_ok ⟨sqQ, fun i j hi hj => ?_⟩
          rw [hQ i j hi hj]
          by_cases z : i = r
          · subst z
            by_cases z2 : k ≤ j
            · rw [if_pos (by omega), if_pos (by omega)]
            · rw [if_neg (by omega), if_neg (by omega), hRr j hj]
          · rw [if_neg (by omega), hR i j hi hj]
            by_cases z2 : k < i ∧ (i : Int) < r ∧ k ≤ j
            · rw [if_pos z2, if_pos (by omega)]
            · rw [if_neg z2, if_neg (by omega)]
      · rintro ⟨sqR, hR⟩
        refine px_bind (px_ok (px_ok ?_))
        have key : ∀ i j, k < i → i < n → k < j → j < n → s.2.2 * mt R i j = mt q.1 i j * mt q.1 k k - mt q.1 i k * mt q.1 k j := fun i j h1 h2 h3 h4 => by
          rw [hR i j h2 h4, if_pos (by omega)]
          unfold elim1
          rw [bi'.div h1 h2 h3 h4, Int.mul_fdiv_cancel_left _ hp]
        have nb := bi'.step hk hp hpv' key
        refine ⟨k + 1, A', by omega, by omega, sqR, nb, hpv', ?_, hsg', hdet', hA'⟩
        show mt q.1 k k = _
        rw [bi'.one (Nat.le_refl k) hk (Nat.le_refl k) hk]
        refine Dt.dt_congr fun i j hi hj => ?_
        have q : ∀ i, i < k + 1 → Dt.ex k (fun _ => k) i = i := fun i hi => by unfold Dt.ex; split <;> (try dsimp only) <;> omega
        rw [q i hi, q j hj]
  · rintro ⟨k, A, hk, hkn, sqs, bi, hp, hd, hsg, hdet, hA⟩
    have e : k = n := by omega
    subst e
    have hps : bits s.2.2 ≤ 4000 := by
      refine bits_le ?_
      rw [hd]
      by_cases z : k = 0
      · subst z
        show (1 : Int).natAbs < _
        exact one_lt_pow 4000 (by decide)
      · obtain ⟨c, rfl⟩ : ∃ c, k = c + 1 := ⟨k - 1, by omega⟩
        exact small (k := c) (by omega) (Dt.dt_abs fun i j hi hj => hA i j (by omega) (by omega))
    have hs1 : bits s.2.1 ≤ 1 := by rcases hsg with q | q <;> rw [q] <;> decide +kernel
    refine px_bind (px_mul (by omega) (px_ok ?_))
    rw [hd, hdet]
/-! ### P2: the web as a graph; tie_rows, lent, queue -/
open Dt (su)
def w1 (i j : Nat) (t : Int × Int) : Int := (if t.1 = (i : Int) ∧ t.2 = (j : Int) then 1 else 0) + if t.1 = (j : Int) ∧ t.2 = (i : Int) then 1 else 0
/-- how many ties -/
def wt (T : List (Int × Int)) (i j : Nat) : Int := (T.map (w1 i j)).sum
structure Wb (n : Nat) (T : List (Int × Int)) : Prop where
  n1 : 1 ≤ n
  n8 : n ≤ 8
  tl : T.length ≤ 17
  fit : ∀ t ∈ T, Fit n t
  con : Con n T
theorem w1_sym (i j : Nat) (t : Int × Int) : w1 i j t = w1 j i t := by unfold w1; omega
theorem w1_nn (i j : Nat) (t : Int × Int) : 0 ≤ w1 i j t := by
  unfold w1
  split <;> split <;> omega
theorem sum_nn {α : Type} (f : α → Int) : ∀ l : List α, (∀ x ∈ l, 0 ≤ f x) → 0 ≤ (l.map f).sum
  | [], _ => by simp
  | x :: l, h => by
    rw [List.map_cons, List.sum_cons]
    have h1 := h x List.mem_cons_self
    have h2 := sum_nn f l fun y hy => h y (List.mem_cons_of_mem _ hy)
    omega
theorem sum_pos {α : Type} (f : α → Int) : ∀ {l : List α} {x : α}, (∀ x ∈ l, 0 ≤ f x) → x ∈ l → 0 < f x → 0 < (l.map f).sum
  | y :: l, x, h, hx, hp => by
    rw [List.map_cons, List.sum_cons]
    have h1 := h y List.mem_cons_self
    have h2 := sum_nn f l fun z hz => h z (List.mem_cons_of_mem _ hz)
    rcases List.mem_cons.mp hx with e | hx
    · subst e; omega
    · have := sum_pos f (fun z hz => h z (List.mem_cons_of_mem _ hz)) hx hp; omega
theorem Wb.gr {n : Nat} {T : List (Int × Int)} (W : Wb n T) : Ch.Gr n (wt T) := by
  refine ⟨fun i j => ?_, fun i j => sum_nn _ _ fun t _ => w1_nn i j t, fun i => ?_, fun S ⟨a, ha, sa⟩ ⟨b, hb, sb⟩ => ?_⟩
  · unfold wt
    congr 1
    exact List.map_congr_left fun t _ => w1_sym i j t
  · have : ∀ t ∈ T, w1 i i t = 0 := fun t ht => by
      have := (W.fit t ht).1
      unfold w1
      rw [if_neg (by omega)]; omega
    unfold wt
    rw [List.map_congr_left this]
    clear this
    induction T with
    | nil => simp
    | cons t T ih =>
      rw [List.map_cons, List.sum_cons]
      have h0 : ∀ l : List (Int × Int), (l.map fun _ => (0 : Int)).sum = 0 := fun l => by induction l with
        | nil => simp
        | cons x l ih => rw [List.map_cons, List.sum_cons, ih]; omega
      rw [h0]; omega
  · refine Classical.byContradiction fun no => ?_
    -- each tie joins two of one side
    have st : ∀ t ∈ T, S t.1.toNat ↔ S t.2.toNat := fun t ht => by
      obtain ⟨f1, f2, f3, f4, f5⟩ := W.fit t ht
      have key : ∀ i j : Nat, (i : Int) < n → (j : Int) < n → 0 < w1 i j t → S i → S j := fun i j hi hj hw hs => Classical.byContradiction fun nj => no ⟨i, j, by omega, by omega, hs, nj, sum_pos _ (fun t _ => w1_nn i j t) ht hw⟩
      refine ⟨key _ _ (by omega) (by omega) ?_, key _ _ (by omega) (by omega) ?_⟩
      · have e : w1 t.1.toNat t.2.toNat t = 1 := by unfold w1; rw [if_pos (by omega), if_neg (by omega)]; rfl
        omega
      · have e : w1 t.2.toNat t.1.toNat t = 1 := by unfold w1; rw [if_neg (by omega), if_pos (by omega)]; rfl
        omega
    by_cases s0 : S 0
    · exact sb (by have := W.con (fun i => S i.toNat) s0 st (b : Int) (by omega) (by omega); simpa using this)
    · have := W.con (fun i => ¬ S i.toNat) s0 (fun t ht => not_congr (st t ht)) (a : Int) (by omega) (by omega)
      exact this (by simpa using sa)
/-- sums of lists -/
theorem sum_gt : ∀ l : List Int, l.sum = su l.length (fun i => gt l (i : Int) 0) := by
  intro l
  induction l with
  | nil => rfl
  | cons x l ih =>
    rw [List.sum_cons, List.length_cons, Dt.su_head, ih]
    rfl
theorem gt_nat {α : Type} (l : List α) (i : Nat) (d : α) : gt l (i : Int) d = l.getD i d := rfl
theorem gt_map {α β : Type} {l : List α} {i : Int} {f : α → β} (d : α) (d' : β) (h0 : 0 ≤ i) (h1 : i < l.length) : gt (l.map f) i d' = f (gt l i d) := by
  unfold gt
  rw [List.getD_eq_getElem?_getD, List.getD_eq_getElem?_getD, List.getElem?_map, List.getElem?_eq_getElem (by omega)]
  rfl
theorem gt_range {n : Nat} {i : Int} (h0 : 0 ≤ i) (h1 : i < n) : gt (rangeL 0 (n : Int)) i 0 = i := by
  unfold gt
  rw [List.getD_eq_getElem?_getD, rangeL_get (by omega)]
  show 0 + ((i.toNat : Nat) : Int) = i
  omega
theorem gt_app {l : List Int} {x : Int} {i : Int} (h0 : 0 ≤ i) : gt (l ++ [x]) i 0 = if i < l.length then gt l i 0 else if i = l.length then x else 0 := by
  unfold gt
  rw [List.getD_eq_getElem?_getD, List.getD_eq_getElem?_getD]
  by_cases h : i < l.length
  · rw [if_pos h, List.getElem?_append_left (by omega)]
  · rw [if_neg h]
    by_cases q : i = l.length
    · rw [if_pos q, List.getElem?_append_right (by omega), show i.toNat - l.length = 0 from by omega]
      rfl
    · rw [if_neg q, List.getElem?_eq_none (by rw [List.length_append, List.length_singleton]; omega)]
      rfl
theorem ext_gt {l l' : List Int} (hl : l.length = l'.length) (h : ∀ i : Nat, i < l.length → gt l (i : Int) 0 = gt l' (i : Int) 0) : l = l' := by
  refine List.ext_getElem hl fun i h1 h2 => ?_
  have := h i h1
  rw [gt_nat, gt_nat, List.getD_eq_getElem?_getD, List.getD_eq_getElem?_getD, List.getElem?_eq_getElem h1, List.getElem?_eq_getElem h2] at this
  exact this
theorem rl_len (n : Nat) : (rangeL 0 (n : Int)).length = n := by rw [rangeL_len]; omega
theorem wt_app (ys : List (Int × Int)) (t : Int × Int) (i j : Nat) : wt (ys ++ [t]) i j = wt ys i j + w1 i j t := by
  unfold wt
  rw [List.map_append, List.map_singleton, sum_app]
  show _ + (w1 i j t + 0) = _
  omega
/-! ### P3: lent, queue, outside -/
open Dt (su)
abbrev fv (l : List Int) : Nat → Int := fun i => gt l (i : Int) 0
theorem gain_su {n : Nat} {sc : List Int} {h : Nat} (hh : h < n) {t : Int × Int} (ft : Fit n t) : gain sc h t = su n (fun j => w1 h j t * (fv sc j - fv sc h)) := by
  obtain ⟨f1, f2, f3, f4, f5⟩ := ft
  have e : su n (fun j => w1 h j t * (fv sc j - fv sc h)) = su n (fun j => if t.2.toNat = j then (if t.1 = (h : Int) then fv sc t.2.toNat - fv sc h else 0) else 0) + su n (fun j => if t.1.toNat = j then (if t.2 = (h : Int) then fv sc t.1.toNat - fv sc h else 0) else 0) := by
    rw [← Dt.su_add]
    refine Dt.su_congr fun j hj => ?_
    show ((if t.1 = (h : Int) ∧ t.2 = (j : Int) then (1 : Int) else 0) + if t.1 = (j : Int) ∧ t.2 = (h : Int) then 1 else 0) * _ = _
    rw [Int.add_mul]
    congr 1
    · by_cases a : t.2.toNat = j
      · rw [if_pos a, ← a]
        by_cases b : t.1 = (h : Int)
        · rw [if_pos b, if_pos ⟨b, by omega⟩, Int.one_mul]
        · rw [if_neg b, if_neg (fun z => b z.1), Int.zero_mul]
      · rw [if_neg a, if_neg (by omega), Int.zero_mul]
    · by_cases a : t.1.toNat = j
      · rw [if_pos a, ← a]
        by_cases b : t.2 = (h : Int)
        · rw [if_pos b, if_pos ⟨by omega, b⟩, Int.one_mul]
        · rw [if_neg b, if_neg (fun z => b z.2), Int.zero_mul]
      · rw [if_neg a, if_neg (by omega), Int.zero_mul]
  rw [e, Ch.su_one (by omega), Ch.su_one (by omega)]
  unfold gain
  have g1 : oi sc t.2 = fv sc t.2.toNat := by show oi sc t.2 = sc.getD _ 0; rfl
  have g2 : oi sc t.1 = fv sc t.1.toNat := by show oi sc t.1 = sc.getD _ 0; rfl
  rw [g1, g2]
  congr 1
  · by_cases b : (h : Int) = t.1
    · rw [if_pos b, if_pos b.symm, show t.1.toNat = h from by omega]
    · rw [if_neg b, if_neg fun z => b z.symm]
  · by_cases b : (h : Int) = t.2
    · rw [if_pos b, if_pos b.symm, show t.2.toNat = h from by omega]
    · rw [if_neg b, if_neg fun z => b z.symm]
/-- ties to those in a list -/
def nr (T : List (Int × Int)) (r : List Int) (x : Int) : Int := (r.map fun y => wt T y.toNat x.toNat).sum
/-- the queue of a house -/
structure Qd (n : Nat) (T : List (Int × Int)) (D : List Int) (h : Int) (r : List Int) : Prop where
  nd : r.Nodup
  rg : ∀ x ∈ r, 0 ≤ x ∧ x < n
  hd : r[0]? = some h
  st : ∀ (k : Nat) (x : Int), 0 < k → r[k]? = some x → gt D x 0 < nr T (r.take k) x ∧ ∀ y, 0 ≤ y → y < x → y ∉ r.take k → nr T (r.take k) y ≤ gt D y 0
  fin : ∀ x : Int, 0 ≤ x → x < n → x ∉ r → nr T r x ≤ gt D x 0
/-- those not in the queue -/
def outL (n : Nat) (r : List Int) : List Int := (rangeL 0 (n : Int)).filter fun x => !decide (x ∈ r)
theorem mem_outL {n : Nat} {r : List Int} {x : Int} : x ∈ outL n r ↔ 0 ≤ x ∧ x < n ∧ x ∉ r := by
  unfold outL
  rw [List.mem_filter]
  constructor
  · rintro ⟨a, b⟩
    obtain ⟨c, d⟩ := mem_rangeL a
    exact ⟨c, d, by simpa using b⟩
  · rintro ⟨a, b, c⟩
    refine ⟨?_, by simpa using c⟩
    unfold rangeL
    exact List.mem_map.mpr ⟨x.toNat, List.mem_range.mpr (by omega), by show 0 + ((x.toNat : Nat) : Int) = x; omega⟩
/-! ### P4: the table of all houses but one, the adjoint, the plain form -/
open Dt (su sk mn sg)
theorem gt_al {α : Type} {l l' : List α} {i : Nat} {d : α} (h : i < l.length) : gt (l ++ l') (i : Int) d = gt l (i : Int) d := by
  unfold gt
  rw [List.getD_eq_getElem?_getD, List.getD_eq_getElem?_getD, List.getElem?_append_left (by omega)]
theorem gt_ar {α : Type} {l : List α} {x : α} {i : Nat} {d : α} (h : l.length = i) : gt (l ++ [x]) (i : Int) d = x := by
  unfold gt
  rw [List.getD_eq_getElem?_getD, Int.toNat_natCast, List.getElem?_append_right (by omega), h, Nat.sub_self]
  rfl
/-- sums over a list without repeats -/
theorem sum_mem {n : Nat} (f : Nat → Int) : ∀ {r : List Int}, r.Nodup → (∀ x ∈ r, (0 : Int) ≤ x ∧ x < (n : Int)) → (r.map fun y => f y.toNat).sum = su n (fun y => if (y : Int) ∈ r then f y else 0)
  | [], _, _ => by
    rw [Dt.su_zero fun i _ => if_neg (by simp)]
    rfl
  | x :: r, nd, rg => by
    obtain ⟨nx, nd2⟩ := List.nodup_cons.mp nd
    have hx := rg x List.mem_cons_self
    rw [List.map_cons, List.sum_cons, sum_mem f nd2 fun y hy => rg y (List.mem_cons_of_mem _ hy), ← Ch.su_one (n := n) (i := x.toNat) (by omega) (f x.toNat), ← Dt.su_add]
    refine Dt.su_congr fun y hy => ?_
    by_cases q : x.toNat = y
    · subst q
      rw [if_pos rfl, if_neg (by rw [Int.toNat_of_nonneg hx.1]; exact nx), if_pos (by rw [Int.toNat_of_nonneg hx.1]; exact List.mem_cons_self), Int.add_zero]
    · rw [if_neg q, Int.zero_add]
      by_cases z : (y : Int) ∈ r
      · rw [if_pos z, if_pos (List.mem_cons_of_mem _ z)]
      · rw [if_neg z, if_neg fun w => (List.mem_cons.mp w).elim (fun e => q (by omega)) z]
/-- a row, a column left out -/
theorem cut_er {α : Type} (l : List α) {k : Int} (h0 : 0 ≤ k) (h1 : k < l.length) : cutL l none (some k) ++ cutL l (some (k + 1)) none = l.eraseIdx k.toNat := by
  have e1 : cutL l none (some k) = l.take k.toNat := by
    unfold cutL
    have a0 : HT.sIx l.length 0 none = 0 := rfl
    have a1 : HT.sIx l.length l.length (some k) = k.toNat := by
      show (if k < 0 then _ else _) = _
      rw [if_neg (by omega)]; omega
    rw [a0, a1, List.drop_zero, Nat.sub_zero]
  have e2 : cutL l (some (k + 1)) none = l.drop (k.toNat + 1) := by
    unfold cutL
    have a0 : HT.sIx l.length l.length none = l.length := rfl
    have a1 : HT.sIx l.length 0 (some (k + 1)) = k.toNat + 1 := by
      show (if k + 1 < 0 then _ else _) = _
      rw [if_neg (by omega)]; omega
    rw [a0, a1, List.take_of_length_le (by rw [List.length_drop]; omega)]
  rw [e1, e2, List.eraseIdx_eq_take_drop_succ]
theorem gt_er {α : Type} {l : List α} {k i : Nat} (d : α) : gt (l.eraseIdx k) (i : Int) d = gt l ((sk k i : Nat) : Int) d := by
  unfold gt
  rw [Int.toNat_natCast, Int.toNat_natCast, List.getD_eq_getElem?_getD, List.getD_eq_getElem?_getD, List.getElem?_eraseIdx]
  unfold sk
  by_cases h : i < k
  · rw [if_pos h, if_pos h]
  · rw [if_neg h, if_neg h]
theorem without_ok {B : Exc → Prop} {m a b : Nat} {T : List (List Int)} (h8 : m ≤ 8) (sq : Tq (m + 1) T) (ha : a ≤ m) (hb : b ≤ m) : Wp (fun R => Tq m R ∧ ∀ i j, mt R i j = mn (mt T) a b i j) B (m_without (T, (a : Int), (b : Int), ())) := by
  unfold m_without
  dsimp only
  have e1 : catR (cutL T none (some (a : Int))) (cutL T (some ((a : Int) + 1)) none) = .ok (T.eraseIdx a) := by
    rw [← Int.toNat_natCast a, ← cut_er T (by omega) (by rw [sq.len]; omega), Int.toNat_natCast]
    exact catR_ok (by have := cutL_len T none (some (a : Int)); have := cutL_len T (some ((a : Int) + 1)) none; have := sq.len; omega)
  refine px_bind (px_eq e1 (px_bind (px_map (h := fun y => y.eraseIdx b) (by rw [List.length_eraseIdx, sq.len]; split <;> omega) (fun y hy => ?_) (px_ok ⟨⟨?_, fun r hr => ?_⟩, fun i j => ?_⟩))))
  · have ly := sq.row y (List.mem_of_mem_eraseIdx hy)
    rw [← Int.toNat_natCast b, ← cut_er y (by omega) (by rw [ly]; omega), Int.toNat_natCast]
    exact catR_ok (by have := cutL_len y none (some (b : Int)); have := cutL_len y (some ((b : Int) + 1)) none; omega)
  · rw [List.length_map, List.length_eraseIdx, sq.len, if_pos (by omega)]; omega
  · obtain ⟨y, hy, rfl⟩ := List.mem_map.mp hr
    rw [List.length_eraseIdx, sq.row y (List.mem_of_mem_eraseIdx hy), if_pos (by omega)]; omega
  · unfold mt mn
    have e2 : gt ((T.eraseIdx a).map fun y => y.eraseIdx b) (i : Int) [] = (gt T ((sk a i : Nat) : Int) []).eraseIdx b := by
      rw [← gt_er]
      unfold gt
      rw [List.getD_eq_getElem?_getD, List.getD_eq_getElem?_getD, List.getElem?_map]
      cases (T.eraseIdx a)[(i : Int).toNat]? with
      | none => simp
      | some y => rfl
    rw [e2, gt_er]
theorem adjoint_ok {X : Exc → Prop} {m B : Nat} {T : List (List Int)} (sq : Tq m T) (h8 : m ≤ 8) (h1 : 1 ≤ B) (hB : (8 * B) ^ 8 < 2 ^ 4000) (hb : ∀ i j, i < m → j < m → (mt T i j).natAbs ≤ B) : Wp (fun R => Tq m R ∧ ∀ i j, i < m → j < m → mt R i j = Ch.aj (mt T) m i j) X (m_adjoint (T, ())) := by
  unfold m_adjoint
  dsimp only
  rw [sq.len]
  refine px_bind (px_ok (px_bind (px_ok (px_bind (px_rg (by omega) (by omega) (by omega) (by omega) (px_bind ?_))))))
  refine px_rng (fun k R => (R.length : Int) = k ∧ (∀ r ∈ R, r.length = m) ∧ ∀ i j : Nat, (i : Int) < k → j < m → mt R i j = Ch.aj (mt T) m i j) (by omega) ⟨rfl, fun r hr => (by cases hr), fun i j hi => by omega⟩ (fun a ha0 ha1 R => ?_) (fun R hR => ?_)
  · rintro ⟨l1, l2, l3⟩
    obtain ⟨a, rfl⟩ := Int.eq_ofNat_of_zero_le ha0
    have l1' : R.length = a := by omega
    refine px_bind (px_ok (px_bind (px_rg (by omega) (by omega) (by omega) (by omega) (px_bind ?_))))
    refine px_rng (fun k r => (r.length : Int) = k ∧ ∀ j : Nat, (j : Int) < k → gt r (j : Int) 0 = Ch.aj (mt T) m a j) (by omega) ⟨rfl, fun j hj => by omega⟩ (fun b hb0 hb1 r => ?_) (fun r hr => ?_)
    · rintro ⟨r1, r2⟩
      obtain ⟨b, rfl⟩ := Int.eq_ofNat_of_zero_le hb0
      obtain ⟨c, rfl⟩ : ∃ c, m = c + 1 := ⟨m - 1, by omega⟩
      refine px_bind (px_bind (px_bind ((without_ok (a := b) (b := a) (by omega) sq (by omega) (by omega)).imp fun M hM => px_ok ?_)))
      obtain ⟨sqM, hM⟩ := hM
      have ed := det_ok sqM (B := B) (by omega) h1 hB fun i j hi hj => by rw [hM]; exact hb _ _ (Dt.sk_lt hi (by omega)) (Dt.sk_lt hj (by omega))
      rw [Dt.dt_congr fun i j _ _ => hM i j] at ed
      refine px_eq ed (px_bind (px_bind (px_mod (by decide) (px_ok (px_bind ?_)))))
      have es : Ch.aj (mt T) (c + 1) a b = sg (a + b) * Dt.dt c (mn (mt T) b a) := rfl
      have fin : ∀ v : Int, v = Ch.aj (mt T) (c + 1) a b → Wp (fun r' => (r'.length : Int) = (b : Int) + 1 ∧ ∀ j : Nat, (j : Int) < (b : Int) + 1 → gt r' (j : Int) 0 = Ch.aj (mt T) (c + 1) a j) X ((appR r v).bind fun y => .ok y) := fun v hv => by
        refine px_bind (px_app (by omega) (px_ok ⟨by rw [List.length_append, List.length_singleton]; omega, fun j hj => ?_⟩))
        rw [gt_app (by omega)]
        by_cases q : (j : Int) < r.length
        · rw [if_pos q]; exact r2 j (by omega)
        · rw [if_neg q, if_pos (by omega), hv]
          congr 1; omega
      have mo : ((a : Int) + (b : Int)).fmod 2 = (((a + b) % 2 : Nat) : Int) := by
        rw [Int.fmod_eq_emod_of_nonneg _ (by decide)]; omega
      refine px_ite (fun d => px_bind (px_ok (px_ok ?_))) (fun d => px_ok ?_)
      · refine fin _ ?_
        have := (pyEq_q (α := Int) _ _).mp d
        rw [mo] at this
        rw [es, Dt.sg_mod, if_pos (by omega)]
        omega
      · refine fin _ ?_
        have : ¬ ((a : Int) + (b : Int)).fmod 2 = 1 := fun z => by rw [(pyEq_q (α := Int) _ _).mpr z] at d; cases d
        rw [mo] at this
        rw [es, Dt.sg_mod, if_neg (by omega), Int.one_mul]
    · obtain ⟨r1, r2⟩ := hr
      refine px_bind (px_app (by omega) (px_ok ⟨by rw [List.length_append, List.length_singleton]; omega, fun q hq => ?_, fun i j hi hj => ?_⟩))
      · rcases List.mem_append.mp hq with z | z
        · exact l2 q z
        · rw [List.mem_singleton.mp z]; omega
      · by_cases q : i < R.length
        · rw [← l3 i j (by omega) hj]
          unfold mt
          rw [gt_al (by omega)]
        · have e : i = a := by omega
          subst e
          rw [← r2 j (by omega)]
          unfold mt
          rw [gt_ar l1']
  · obtain ⟨l1, l2, l3⟩ := hR
    exact px_ok ⟨⟨by omega, l2⟩, fun i j hi hj => l3 i j (by omega) hj⟩
/-! ### P5: the plain form -/
open Dt (su sk mn sg)
theorem gt_some {α : Type} {l : List α} {k : Nat} {x d : α} (h : l[k]? = some x) : gt l (k : Int) d = x := by
  unfold gt
  rw [Int.toNat_natCast, List.getD_eq_getElem?_getD, h]; rfl
theorem w1_le {n : Nat} {t : Int × Int} (f : Fit n t) (i j : Nat) : w1 i j t ≤ 1 := by
  obtain ⟨f1, _⟩ := f
  unfold w1
  split <;> split <;> omega
theorem wt_le {n : Nat} : ∀ {T : List (Int × Int)}, (∀ t ∈ T, Fit n t) → ∀ i j, wt T i j ≤ T.length
  | [], _, i, j => by show (0 : Int) ≤ _; simp
  | t :: T, hf, i, j => by
    have h1 := w1_le (hf t List.mem_cons_self) i j
    have h2 := wt_le (T := T) (fun u hu => hf u (List.mem_cons_of_mem _ hu)) i j
    show ((t :: T).map (w1 i j)).sum ≤ _
    rw [List.map_cons, List.sum_cons, List.length_cons]
    have : (T.map (w1 i j)).sum = wt T i j := rfl
    omega
theorem su_le_c {f : Nat → Int} {n : Nat} {c : Int} (h : ∀ i, i < n → f i ≤ c) : su n f ≤ n * c := by
  have := Dt.su_le (f := f) (g := fun _ => c) h
  have e : su n (fun _ => c) = n * c := by
    clear this h
    induction n with
    | zero => show (0 : Int) = ((0 : Nat) : Int) * c; simp
    | succ n ih => show su n _ + c = _; rw [ih]; grind
  omega
section
variable {n : Nat} {T : List (Int × Int)}
theorem Wb.wl (W : Wb n T) (i j : Nat) : 0 ≤ wt T i j ∧ wt T i j ≤ 17 := ⟨W.gr.nn i j, Int.le_trans (wt_le W.fit i j) (by have := W.tl; omega)⟩
theorem Wb.dl (W : Wb n T) (i : Nat) : 0 ≤ su n (wt T i) ∧ su n (wt T i) ≤ 136 := by
  refine ⟨Dt.su_nonneg fun j _ => (W.wl i j).1, Int.le_trans (su_le_c (c := 17) fun j _ => (W.wl i j).2) (by have := W.n8; omega)⟩
theorem Wb.rdl (W : Wb n T) (h i j : Nat) : (Ch.rd n (wt T) h i j).natAbs ≤ 300 := by
  unfold Ch.rd
  split
  · have h1 : 0 ≤ su n (fun k => wt T (sk h i) k) ∧ su n (fun k => wt T (sk h i) k) ≤ 136 := W.dl (sk h i)
    omega
  · have := W.wl (sk h i) (sk h j); omega
end
theorem B300 : (8 * 300) ^ 8 < 2 ^ 4000 := Nat.lt_of_lt_of_le (m := 2 ^ 100) (by decide) (Nat.pow_le_pow_right (by decide) (by decide))
/-- what the floor's script is told -/
structure Fl (m : Nat) (T : List (Int × Int)) (h : Nat) (number : Int) (back : List (List Int)) : Prop where
  W : Wb (m + 1) T
  hh : h ≤ m
  num : number = Dt.dt m (Ch.rd (m + 1) (wt T) h)
  sq : Tq m back
  bk : ∀ i j, i < m → j < m → mt back i j = Ch.aj (Ch.rd (m + 1) (wt T) h) m i j
theorem small_bits {x : Int} {M : Nat} (h : x.natAbs ≤ M) (k : Nat) (hM : M < 2 ^ k) : bits x ≤ k := bits_le (by omega)
/-! ### P6: the plain form, further -/
open Dt (su sk mn sg)
/-- ties out of a group -/
def outw (n : Nat) (T : List (Int × Int)) (g : List Int) (x : Nat) : Int := su n (fun j => if (j : Int) ∈ g then 0 else wt T x j)
section
variable {n : Nat} {T : List (Int × Int)} {D r : List Int} {h : Int}
theorem nr_out (W : Wb n T) (q : Qd n T D h r) (x : Int) : nr T r x = outw n T (outL n r) x.toNat := by
  unfold nr outw
  rw [sum_mem (n := n) (fun y => wt T y x.toNat) q.nd q.rg]
  refine Dt.su_congr fun y hy => ?_
  by_cases z : (y : Int) ∈ r
  · rw [if_pos z, if_neg (fun w => (mem_outL.mp w).2.2 z), W.gr.sym]
  · rw [if_neg z, if_pos (mem_outL.mpr ⟨by omega, by omega, z⟩)]
theorem Qd.gr (q : Qd n T D h r) (W : Wb n T) {x : Int} (hx : x ∈ outL n r) : outw n T (outL n r) x.toNat ≤ gt D x 0 := by
  obtain ⟨x0, x1, xn⟩ := mem_outL.mp hx
  rw [← nr_out W q]
  exact q.fin x x0 x1 xn
end
theorem fl_of {m h : Nat} {T : List (Int × Int)} (W : Wb (m + 1) T) (hh : h ≤ m) {R : List (List Int)} (sq : Tq m R) (hR : ∀ i j, i < m → j < m → mt R i j = Ch.rd (m + 1) (wt T) h i j) : m_det (R, ()) = .ok (Dt.dt m (Ch.rd (m + 1) (wt T) h)) ∧ ∃ A, m_adjoint (R, ()) = .ok A ∧ Fl m T h (Dt.dt m (Ch.rd (m + 1) (wt T) h)) A := by
  have hb : ∀ i j, i < m → j < m → (mt R i j).natAbs ≤ 300 := fun i j hi hj => by rw [hR i j hi hj]; exact W.rdl h i j
  have h8 := W.n8
  have e1 := det_ok sq (by omega) (by decide) B300 hb
  rw [Dt.dt_congr hR] at e1
  obtain ⟨A, e2, sA, hA⟩ := px_get (adjoint_ok sq (by omega) (by decide) B300 hb)
  refine ⟨e1, A, e2, W, hh, rfl, sA, fun i j hi hj => ?_⟩
  rw [hA i j hi hj]
  exact Ch.aj_congr hR hi hj
/-! ### P7: orders, papers, clears, holds -/
open Dt (su sk mn sg)
/-- the place in an order -/
def po (r : List Int) (x : Nat) : Nat := r.idxOf (x : Int)
/-- an order of all houses -/
structure Od (n : Nat) (r : List Int) : Prop where
  nd : r.Nodup
  rg : ∀ x ∈ r, 0 ≤ x ∧ x < (n : Int)
  al : ∀ x : Int, 0 ≤ x → x < n → x ∈ r
section
variable {n : Nat} {T : List (Int × Int)}
theorem od_get {r : List Int} (o : Od n r) {x : Nat} (hx : x < n) : r[po r x]? = some (x : Int) := by
  have h := o.al (x : Int) (by omega) (by omega)
  have hl := List.idxOf_lt_length_of_mem h
  unfold po
  rw [List.getElem?_eq_getElem hl, List.getElem_idxOf hl]
end
theorem gt_all {l : List Int} {P : Int → Prop} : (∀ y ∈ l, P y) ↔ ∀ i : Nat, i < l.length → P (fv l i) := by
  constructor
  · intro h i hi
    exact h _ (gt_mem 0 (by omega) (by omega))
  · intro h y hy
    obtain ⟨i, hi, e⟩ := List.getElem_of_mem hy
    have := h i hi
    have e2 : fv l i = l[i] := gt_some (List.getElem?_eq_getElem hi)
    rw [e2, e] at this
    exact this
theorem enum_at {α : Type} {l : List α} {ys zs : List (Int × α)} {x : Int × α} (e : enumL l = ys ++ x :: zs) : x.1 = (ys.length : Int) ∧ l[ys.length]? = some x.2 := by
  have h : (enumL l)[ys.length]? = some x := by rw [e, List.getElem?_append_right (Nat.le_refl _), Nat.sub_self]; rfl
  have hl : ys.length < l.length := by
    have := congrArg List.length e
    rw [enumL_len, List.length_append, List.length_cons] at this
    omega
  have := enumL_get (List.getElem?_eq_getElem hl)
  rw [h] at this
  cases this
  exact ⟨rfl, List.getElem?_eq_getElem hl⟩
theorem cut_take {α : Type} (xs : List α) {k : Nat} : cutL xs none (some (k : Int)) = xs.take k := by
  have e : HT.sIx xs.length xs.length (some (k : Int)) = min k xs.length := by
    show (if (k : Int) < 0 then ((k : Int) + (xs.length : Int)).toNat else min (k : Int).toNat xs.length) = _
    rw [if_neg (by omega), Int.toNat_natCast]
  unfold cutL
  rw [e]
  show (xs.drop 0).take (min k xs.length - 0) = _
  rw [List.drop_zero, Nat.sub_zero]
  by_cases h : k ≤ xs.length
  · rw [Nat.min_eq_left h]
  · rw [Nat.min_eq_right (by omega), List.take_of_length_le (Nat.le_refl _), List.take_of_length_le (by omega)]
/-! ### P8: the ties ahead add up to all ties -/
open Dt (su sk)
theorem Od.inj {n : Nat} {r : List Int} (o : Od n r) {i j : Nat} (hi : i < n) (hj : j < n) (e : po r i = po r j) : i = j := by
  have a := od_get o hi
  have b := od_get o hj
  rw [e, b] at a
  have := Option.some.inj a
  omega
theorem sum_bits {l : List Int} {b : Nat} (h : ∀ x ∈ l, bits x ≤ b) (h8 : l.length ≤ 8) : bits l.sum ≤ b + 4 := by
  rw [sum_gt]
  have e := Dt.su_abs (n := l.length) (B := 2 ^ b) (f := fun i => gt l (i : Int) 0) fun k hk => Nat.le_of_lt (bits_iff.mp (h _ (gt_mem 0 (by omega) (by omega))))
  refine bits_iff.mpr (Nat.lt_of_le_of_lt e ?_)
  rw [Nat.pow_add, Nat.mul_comm]
  exact Nat.mul_lt_mul_of_pos_left (by omega) (Nat.pow_pos (by decide))
theorem px_mapI {α β : Type} [Inhabited β] {B : Exc → Prop} {P : β → Prop} {g : α → R β} {A : List β → Prop} {xs : List α} (hl : xs.length ≤ 16777216) (hg : ∀ x ∈ xs, Wp P (fun _ => False) (g x)) (q : ∀ ys : List β, ys.length = xs.length → (∀ y ∈ ys, P y) → A ys) : Wp A B (mapR g xs) := by
  let h : α → β := fun x => match g x with
    | .ok v => v
    | _ => default
  have hx : ∀ x ∈ xs, g x = .ok (h x) ∧ P (h x) := fun x m => by
    obtain ⟨v, e, p⟩ := px_get (hg x m)
    have : h x = v := by
      show (match g x with | .ok v => v | _ => default) = v
      rw [e]
    rw [this]
    exact ⟨e, p⟩
  exact px_map (h := h) hl (fun x m => (hx x m).1) (q _ (List.length_map ..) fun y hy => by
    obtain ⟨x, m, rfl⟩ := List.mem_map.mp hy
    exact (hx x m).2)
theorem gt_map_rl {n : Nat} {f : Int → Int} {i : Nat} (hi : i < n) : gt ((rangeL 0 (n : Int)).map f) (i : Int) 0 = f (i : Int) := by
  rw [gt_map 0 0 (by omega) (by rw [rl_len]; omega), gt_range (by omega) (by omega)]
theorem bits_pow4 {x : Int} {m : Nat} (h : bits x ≤ m) : bits (x ^ (4 : Int).toNat) ≤ 4 * m := by
  have e : x ^ (4 : Int).toNat = x * x * (x * x) := by
    show x ^ 4 = _
    rw [Int.pow_succ, Int.pow_succ, Int.pow_succ, Int.pow_succ, Int.pow_zero]
    grind
  rw [e]
  exact bits_mono (bits_mul (bits_mul h h) (bits_mul h h)) (by omega)
/-! ### webs made -/
theorem tie_fits_ok {n : Int} {t : Int × Int} (h : Fit n t) : m_tie_fits (n, t, ()) = .ok true := by
  obtain ⟨h1, h2, h3, h4, h5⟩ := h
  have e : pyEq t.1 t.2 = false := by
    rw [Bool.eq_false_iff]
    exact fun z => h1 ((pyEq_q _ _).mp z)
  unfold m_tie_fits
  dsimp only
  rw [e, Bool.not_false, ite_t, decide_eq_true (by omega : (0 : Int) ≤ min t.1 t.2), ite_t, decide_eq_true (by omega : max t.1 t.2 < n)] <;> rfl
theorem reach_turn {n : Nat} {ties : List (Int × Int)} (hf : ∀ t ∈ ties, Fit n t) (s0 : List Bool) (hl : s0.length = n) (h0 : s0[0]? = some true)
    {bd : (Int × Int) → List Bool × Bool → R (List Bool × Bool)}
    (hbd : ∀ t s, bd t s = ((ixR s.1 t.1).bind fun x => (ixR s.1 t.2).bind fun y => .ok (!pyEq x y)).bind fun c => R.bind (if c = true then ((setR s.1 t.1 true).bind fun y104 => ((setR y104 t.2 true).bind fun y105 => .ok (y105, true))) else (.ok (s.1, s.2))) fun s' : List Bool × Bool => (.ok (s'.1, s'.2))) :
    ∃ s, forR bd ties (s0, false) = .ok s ∧ s.1.length = n ∧ s.1[0]? = some true ∧ (s.2 = true → fls s.1 < fls s0) ∧ (s.2 = false → s.1 = s0 ∧ ∀ t ∈ ties, s0[t.1.toNat]? = s0[t.2.toNat]?) := by
  have := forR_inv (b := bd) (fun (ys : List (Int × Int)) (s : List Bool × Bool) => s.1.length = n ∧ s.1[0]? = some true ∧ fls s.1 ≤ fls s0 ∧ (s.2 = true → fls s.1 < fls s0) ∧ (s.2 = false → s.1 = s0 ∧ ∀ t ∈ ys, s0[t.1.toNat]? = s0[t.2.toNat]?)) (xs := ties) (ys := []) (s := (s0, false))
    ⟨hl, h0, Nat.le_refl _, (fun z => by cases z), fun _ => ⟨rfl, fun t ht => by cases ht⟩⟩ (fun t zs s ⟨r, hr⟩ ⟨i1, i2, i3, i4, i5⟩ => by
      have ht : t ∈ ties := by rw [hr]; exact List.mem_append_right _ List.mem_cons_self
      obtain ⟨f1, f2, f3, f4, f5⟩ := hf t ht
      have a1 : t.1.toNat < s.1.length := by omega
      have a2 : t.2.toNat < s.1.length := by omega
      rw [hbd, ixR_int f2 (List.getElem?_eq_getElem a1), bind_ok, ixR_int f3 (List.getElem?_eq_getElem a2), bind_ok, bind_ok, pyEq_dec]
      by_cases e : s.1[t.1.toNat] = s.1[t.2.toNat]
      · rw [decide_eq_true e, Bool.not_true, ite_f, bind_ok]
        refine ⟨_, rfl, i1, i2, i3, i4, fun z => ?_⟩
        obtain ⟨j1, j2⟩ := i5 z
        refine ⟨j1, fun u hu => ?_⟩
        rcases List.mem_append.mp hu with hu | hu
        · exact j2 u hu
        · rw [List.mem_singleton.mp hu, ← j1, List.getElem?_eq_getElem a1, List.getElem?_eq_getElem a2, e]
      · have b2 : t.2 < (s.1.set t.1.toNat true).length := by rw [List.length_set]; omega
        rw [decide_eq_false e, Bool.not_false, ite_t, setR_int f2 (by omega), bind_ok, setR_int f3 b2, bind_ok, bind_ok]
        have lt : fls ((s.1.set t.1.toNat true).set t.2.toNat true) < fls s.1 := by
          cases e1 : s.1[t.1.toNat] with
          | false =>
            have := fls_pos a1 e1
            have k1 := set_fls a1
            rw [if_pos e1] at k1
            have k2 := set_fls_le (xs := s.1.set t.1.toNat true) (i := t.2.toNat)
            omega
          | true =>
            have e2 : s.1[t.2.toNat] = false := by
              cases e2 : s.1[t.2.toNat] with
              | false => rfl
              | true => exact absurd (e1.trans e2.symm) e
            have ne : t.1.toNat ≠ t.2.toNat := fun z => by omega
            have a3 : t.2.toNat < (s.1.set t.1.toNat true).length := by rw [List.length_set]; exact a2
            have e3 : (s.1.set t.1.toNat true)[t.2.toNat] = false := by rw [List.getElem_set_ne ne]; exact e2
            have k1 := set_fls a3
            rw [if_pos e3] at k1
            have k0 := fls_pos a3 e3
            have k2 := set_fls_le (xs := s.1) (i := t.1.toNat)
            omega
        refine ⟨_, rfl, by rw [List.length_set, List.length_set]; exact i1, ?_, Nat.le_trans (Nat.le_of_lt lt) i3, fun _ => Nat.lt_of_lt_of_le lt i3, fun z => by cases z⟩
        have z1 : ∀ (xs : List Bool) (i : Nat), xs[0]? = some true → (xs.set i true)[0]? = some true := fun xs i h => by
          rw [List.getElem?_set]
          split
          · split
            · rfl
            · rename_i h1 h2
              subst h1
              rw [List.getElem?_eq_none (by omega)] at h
              cases h
          · exact h
        exact z1 _ _ (z1 _ _ i2))
  obtain ⟨s, e, i1, i2, i3, i4, i5⟩ := this
  exact ⟨s, e, i1, i2, i4, fun z => by simpa using i5 z⟩
theorem reached_ok {n : Nat} {ties : List (Int × Int)} (h1 : 1 ≤ n) (h8 : n ≤ 8) (hf : ∀ t ∈ ties, Fit n t) (hc : Con n ties) : m_reached ((n : Int), ties, ()) = .ok (rangeL 0 (n : Int)) := by
  unfold m_reached
  dsimp only
  have e0 : mapR (fun y89 : Int => (R.ok (pyEq y89 (0 : Int)))) (rangeL 0 (n : Int)) = .ok ((rangeL 0 (n : Int)).map fun i => pyEq i 0) := mapR_ok (fun _ _ => rfl) (by rw [rangeL_len]; omega)
  rw [rngR_ok (by omega) (by omega) (by omega) (by omega), bind_ok, e0, bind_ok, bind_ok]
  have W := whileR_end (c := fun s97 : List Bool × Bool => R.ok s97.2) (b := (fun s97 : List Bool × Bool => (((.ok false) : R Bool).bind fun y98 => (R.bind (forR (fun (y100 : Int × Int) (s99 : List Bool × Bool) => (((((ixR s99.1 y100.1) : R _).bind fun x101 => (((ixR s99.1 y100.2) : R _).bind fun x102 => (.ok (!pyEq x101 x102)))) : R Bool).bind fun c108 => R.bind (if c108 = true then ((setR s99.1 y100.1 true).bind fun y104 => ((setR y104 y100.2 true).bind fun y105 => (((.ok true) : R Bool).bind fun y106 => (.ok (y105, y106))))) else (.ok (s99.1, s99.2))) fun s103 : ((List Bool) × Bool) => (.ok (s103.1, s103.2)))) ties (s97.1, y98)) fun s99 : ((List Bool) × Bool) => (.ok (s99.1, s99.2))))))
    (fun s => s.1.length = n ∧ s.1[0]? = some true ∧ (s.2 = false → ∀ t ∈ ties, s.1[t.1.toNat]? = s.1[t.2.toNat]?)) (fun s => s.2) (fun s => 2 * fls s.1 + if s.2 = true then 1 else 0) (fun s _ => rfl) (fun s ⟨i1, i2, i3⟩ hs => by
      obtain ⟨s', e, j1, j2, j3, j4⟩ := reach_turn hf s.1 i1 i2 (fun t s => rfl)
      refine ⟨(s'.1, s'.2), ?_, ⟨j1, j2, fun z => ?_⟩, ?_⟩
      · rw [bind_ok]
        exact congrArg (fun z : R (List Bool × Bool) => z.bind fun s99 => R.ok (s99.1, s99.2)) e
      · obtain ⟨k1, k2⟩ := j4 z
        rw [k1]; exact k2
      · rw [hs, if_pos rfl]
        cases q : s'.2 with
        | true =>
          have := j3 q
          show 2 * fls s'.1 + (if true = true then 1 else 0) < _
          rw [if_pos rfl]; omega
        | false =>
          obtain ⟨k1, _⟩ := j4 q
          show 2 * fls s'.1 + (if false = true then 1 else 0) < _
          rw [k1, if_neg (by decide)]; omega) fuel
    ((rangeL 0 (n : Int)).map (fun i => pyEq i 0), true) ⟨by rw [List.length_map, rangeL_len]; omega, by
      show ((rangeL 0 (n : Int)).map (fun i => pyEq i 0))[0]? = some true
      rw [rangeL_eq, List.getElem?_map, List.getElem?_map, List.getElem?_range (by omega)]
      show some (pyEq (0 : Int) 0) = some true
      rw [pyEq_refl], fun z => by cases z⟩ (by
      refine Nat.lt_of_lt_of_le (m := 1000000) ?_ (show 1000000 ≤ fuel by decide)
      show 2 * fls ((rangeL 0 (n : Int)).map (fun i => pyEq i 0)) + (if true = true then 1 else 0) < 1000000
      have : fls ((rangeL 0 (n : Int)).map (fun i => pyEq i 0)) ≤ ((rangeL 0 (n : Int)).map (fun i => pyEq i 0)).length := List.count_le_length
      rw [List.length_map, rangeL_len] at this
      rw [if_pos rfl]
      omega)
  obtain ⟨s, e, ⟨i1, i2, i3⟩, i4⟩ := W
  rw [e, bind_ok]
  have hall : ∀ h : Int, 0 ≤ h → h < n → s.1[h.toNat]? = some true := hc (fun h => s.1[h.toNat]? = some true) i2 fun t ht => by rw [i3 i4 t ht]
  rw [bind_ok, compR_all (fun h hh => ?_) (by rw [rangeL_len]; omega)]
  · rfl
  · obtain ⟨g1, g2⟩ := mem_rangeL hh
    rw [ixR_int g1 (hall h g1 g2)] <;> rfl
theorem made_ok {n : Nat} {ties : List (Int × Int)} (h1 : 1 ≤ n) (h8 : n ≤ 8) (hl : ties.length ≤ 16) (hf : ∀ t ∈ ties, Fit n t) (hc : Con n ties) : m_made ((n : Int), ties, ()) = .ok ((n : Int), ⟨sortP (ties.map mm)⟩) := by
  unfold m_made
  dsimp only
  rw [decide_eq_false (by omega : ¬ (n : Int) < 1), ite_f, decide_eq_false (by omega : ¬ (8 : Int) < n), ite_f, decide_eq_false (by omega : ¬ (16 : Int) < ties.length), bind_ok, ite_f]
  have e1 : forR (fun (y85 : Int × Int) (s84 : Unit) => (((((m_tie_fits ((n : Int), y85, ())) : R _).bind fun x87 => (.ok (!x87))) : R Bool).bind fun c88 => if c88 = true then (.exc .badWeb) else (.ok ()))) ties () = .ok () := by
    rw [forR_ok (f := fun _ _ => ()) (fun t ht s => ?_)]
    rw [tie_fits_ok (hf t ht)] <;> rfl
  have e2 : mapR (fun y119 : Int × Int => (R.ok (min y119.1 y119.2, max y119.1 y119.2))) ties = .ok (ties.map mm) := mapR_ok (fun _ _ => rfl) (by omega)
  rw [e1, bind_ok, reached_ok h1 h8 hf hc, bind_ok, bind_ok, bind_ok, decide_eq_false (by rw [rangeL_len]; omega), ite_f, e2] <;> rfl
theorem mm_fit {n : Int} {t : Int × Int} (h : Fit n t) : Fit n (mm t) := by
  obtain ⟨f1, f2, f3, f4, f5⟩ := h
  unfold mm Fit
  dsimp only
  omega
theorem made_wb {n : Nat} {ties : List (Int × Int)} (h1 : 1 ≤ n) (h8 : n ≤ 8) (hl : ties.length ≤ 16) (hf : ∀ t ∈ ties, Fit n t) (hc : Con n ties) : Wb n (sortP (ties.map mm)) := by
  refine ⟨h1, h8, ?_, fun t ht => ?_, fun P p0 hP => hc P p0 fun t ht => ?_⟩
  · rw [(sortP_perm _).length_eq, List.length_map]; omega
  · obtain ⟨u, hu, rfl⟩ := List.mem_map.mp ((sortP_perm _).mem_iff.mp ht)
    exact mm_fit (hf u hu)
  · have q := hP (mm t) ((sortP_perm _).mem_iff.mpr (List.mem_map.mpr ⟨t, ht, rfl⟩))
    unfold mm at q
    by_cases c : t.1 ≤ t.2
    · rw [Int.min_eq_left c, Int.max_eq_right c] at q; exact q
    · rw [Int.min_eq_right (by omega), Int.max_eq_left (by omega)] at q; exact q.symm
theorem ins_perm {s : List Int} {k p : Int} (k0 : 0 ≤ k) (hs : s.Perm (rangeL 0 k)) : (s.take p.toNat ++ [k] ++ s.drop p.toNat).Perm (rangeL 0 (k + 1)) := by
  have e : rangeL 0 (k + 1) = rangeL 0 k ++ [k] := by
    unfold rangeL
    rw [show (k + 1 - 0).toNat = (k - 0).toNat + 1 from by omega, List.range_succ, List.map_append, List.map_singleton]
    congr 2
    omega
  rw [e]
  refine List.Perm.trans ?_ (hs.append_right [k])
  refine List.Perm.trans ?_ (List.Perm.append_right [k] (List.Perm.of_eq (List.take_append_drop p.toNat s)))
  rw [List.append_assoc, List.append_assoc]
  exact (List.perm_append_comm).append_left _
theorem cut_two {α : Type} {xs : List α} {k : Int} (h0 : 0 ≤ k) (h1 : k ≤ xs.length) : cutL xs (some k) none = xs.drop k.toNat ∧ cutL xs none (some k) = xs.take k.toNat := by
  have e1 : HT.sIx xs.length 0 (some k) = k.toNat := by
    show (if k < 0 then (k + (xs.length : Int)).toNat else min k.toNat xs.length) = _
    rw [if_neg (by omega)]; omega
  have e2 : HT.sIx xs.length xs.length (some k) = k.toNat := by
    show (if k < 0 then (k + (xs.length : Int)).toNat else min k.toNat xs.length) = _
    rw [if_neg (by omega)]; omega
  unfold cutL
  rw [e1, e2]
  refine ⟨?_, ?_⟩
  · show (xs.drop k.toNat).take (xs.length - k.toNat) = _
    rw [List.take_of_length_le (by rw [List.length_drop]; omega)]
  · show (xs.drop 0).take (k.toNat - 0) = _
    rw [List.drop_zero, Nat.sub_zero]
/-! ### the webs with mixed marks -/
theorem mixed_ok {X : Exc → Prop} {c k : Int} (k0 : 0 ≤ k) (k1 : k ≤ 1000) : Wp (fun v => 0 ≤ v ∧ v < 998244353) X (m_law_mixed (c, k, ())) := by
  unfold m_law_mixed
  dsimp only
  have kb : bits k ≤ 10 := bits_nat 10 (M := 1000) k0 k1 (by decide)
  have b7 : bits (7919 : Int) ≤ 13 := by decide +kernel
  have b48 : bits (48271 : Int) ≤ 16 := by decide +kernel
  have m1 := bits_mul b7 kb
  (repeat (first | with_reducible refine px_bind ?_ | with_reducible refine px_ok ?_ | with_reducible refine px_mod (by decide) ?_ | with_reducible refine px_div (by decide) (by decide +kernel) ?_ | with_reducible refine px_pow (by decide) (by decide +kernel) ?_))
  refine px_mul (by omega) (px_mul (by omega) ?_)
  (repeat (first | with_reducible refine px_bind ?_ | with_reducible refine px_ok ?_ | with_reducible refine px_mod (by decide) ?_ | with_reducible refine px_div (by decide) (by decide +kernel) ?_ | with_reducible refine px_pow (by decide) (by decide +kernel) ?_))
  have q1 := bits_fmod (x := c + 7919 * k * k + k) (show bits (2147483647 : Int) ≤ 31 by decide +kernel) (by decide)
  refine px_mul (by omega) (px_mod (by decide) ?_)
  have q2 := bits_fmod (x := (c + 7919 * k * k + k).fmod 2147483647 * (c + 7919 * k * k + k).fmod 2147483647) (show bits (1000000007 : Int) ≤ 30 by decide +kernel) (by decide)
  (repeat (first | with_reducible refine px_bind ?_ | with_reducible refine px_ok ?_ | with_reducible refine px_mod (by decide) ?_ | with_reducible refine px_div (by decide) (by decide +kernel) ?_ | with_reducible refine px_pow (by decide) (by decide +kernel) ?_))
  refine px_mul (by omega) (px_mod (by decide) (px_ok ?_))
  exact fmod_bounds _ (by decide)
/-- each house behind the first is tied to one ahead of it, either way round -/
def Base2 (n : Int) (ties : List (Int × Int)) : Prop := ∀ k : Int, 1 ≤ k → k < n → ∃ t ∈ ties, (t.2 = k ∧ 0 ≤ t.1 ∧ t.1 < k) ∨ (t.1 = k ∧ 0 ≤ t.2 ∧ t.2 < k)
theorem base2_mm {n : Int} {ties : List (Int × Int)} (h : Base2 n ties) : Base n (ties.map mm) := fun k k1 k2 => by
  obtain ⟨t, ht, q⟩ := h k k1 k2
  refine ⟨mm t, List.mem_map.mpr ⟨t, ht, rfl⟩, ?_⟩
  unfold mm
  dsimp only
  omega
theorem renamed_con2 {n : Nat} {ties : List (Int × Int)} {order : List Int} (h1 : 1 ≤ n) (hp : order.Perm (rangeL 0 (n : Int))) (hb : Base2 n ties) : Con n (ties.map fun t => (oi order t.1, oi order t.2)) := fun P p0 hP => renamed_con h1 hp (base2_mm hb) P p0 fun u hu => by
  obtain ⟨v, hv, rfl⟩ := List.mem_map.mp hu
  obtain ⟨t, ht, rfl⟩ := List.mem_map.mp hv
  have q := hP _ (List.mem_map.mpr ⟨t, ht, rfl⟩)
  unfold mm
  dsimp only at q ⊢
  by_cases c : t.1 ≤ t.2
  · rw [Int.min_eq_left c, Int.max_eq_right c]; exact q
  · rw [Int.min_eq_right (by omega), Int.max_eq_left (by omega)]; exact q.symm
theorem tiesB_ok {n more : Nat} (h1 : 1 ≤ n) (h8 : n ≤ 8) (hm : n - 1 + more ≤ 16) (hn : n = 1 → more = 0) (c : Int) :
    ∃ ties, m_law_ties ((n : Int), (more : Int), c, ()) = .ok ties ∧ ties.length = n - 1 + more ∧ (∀ t ∈ ties, Fit n t) ∧ Con n ties := by
  refine px_get ?_
  unfold m_law_ties
  dsimp only
  have g3 := fmod_bounds (c.fdiv 3) (show (0 : Int) < 2 by decide)
  refine px_bind (px_ok (px_bind (px_ok (px_bind (px_rg (by omega) (by omega) (by omega) (by omega) (px_bind ?_))))))
  refine px_rng (fun k (s : List (Int × Int) × List Int) => (s.1.length : Int) = k - 1 ∧ (∀ t ∈ s.1, Fit n t) ∧ Base2 k s.1 ∧ s.2.Perm (rangeL 0 k)) (by omega) ⟨rfl, (fun t ht => by cases ht), (fun k k1 k2 => by omega), List.Perm.of_eq (by decide +kernel)⟩ (fun k k0 k1 s hs => ?_) (fun s hs => ?_)
  · obtain ⟨s1, s2, s3, s4⟩ := hs
    refine px_bind ((mixed_ok (by omega) (by omega)).imp fun v hv => ?_)
    have g := fmod_bounds v (show 0 < k by omega)
    have g7 := fmod_bounds (v.fdiv 7) (show (0 : Int) < 2 by decide)
    (repeat (first | with_reducible refine px_bind ?_ | with_reducible refine px_ok ?_ | with_reducible refine px_mod (by decide) ?_ | with_reducible refine px_div (by decide) (by decide +kernel) ?_ | with_reducible refine px_pow (by decide) (by decide +kernel) ?_))
    refine px_mod (by omega) ?_
    (repeat (first | with_reducible refine px_bind ?_ | with_reducible refine px_ok ?_ | with_reducible refine px_mod (by decide) ?_ | with_reducible refine px_div (by decide) (by decide +kernel) ?_ | with_reducible refine px_pow (by decide) (by decide +kernel) ?_))
    refine px_mod (by omega) ?_
    (repeat (first | with_reducible refine px_bind ?_ | with_reducible refine px_ok ?_ | with_reducible refine px_mod (by decide) ?_ | with_reducible refine px_div (by decide) (by decide +kernel) ?_ | with_reducible refine px_pow (by decide) (by decide +kernel) ?_))
    refine (px_ixn (A := fun t : Int × Int => Fit n t ∧ ((t.2 = k ∧ 0 ≤ t.1 ∧ t.1 < k) ∨ (t.1 = k ∧ 0 ≤ t.2 ∧ t.2 < k))) g7.1 (by simp; omega) (fun x hx => ?_)).imp fun t ht => ?_
    · simp only [List.mem_cons, List.not_mem_nil, or_false] at hx
      rcases hx with rfl | rfl
      · exact ⟨⟨by show k ≠ v.fmod k; omega, by show 0 ≤ k; omega, g.1, k1, by show v.fmod k < n; omega⟩, .inr ⟨rfl, g.1, g.2⟩⟩
      · exact ⟨⟨by show v.fmod k ≠ k; omega, g.1, by show 0 ≤ k; omega, by show v.fmod k < n; omega, k1⟩, .inl ⟨rfl, g.1, g.2⟩⟩
    · refine px_bind (px_app (by omega) ?_)
      (repeat (first | with_reducible refine px_bind ?_ | with_reducible refine px_ok ?_ | with_reducible refine px_mod (by decide) ?_ | with_reducible refine px_div (by decide) (by decide +kernel) ?_ | with_reducible refine px_pow (by decide) (by decide +kernel) ?_))
      refine (mixed_ok (by omega) (by omega)).imp fun w hw => ?_
      refine px_mod (by omega) ?_
      have gw := fmod_bounds w (show 0 < k + 1 by omega)
      have kb : bits (w.fmod (k + 1)) ≤ 4 := bits_nat 4 (M := 8) gw.1 (by omega) (by decide)
      have cb : bits ((c.fdiv 3).fmod 2) ≤ 1 := bits_nat 1 (M := 1) g3.1 (by omega) (by decide)
      (repeat (first | with_reducible refine px_bind ?_ | with_reducible refine px_ok ?_ | with_reducible refine px_mod (by decide) ?_ | with_reducible refine px_div (by decide) (by decide +kernel) ?_ | with_reducible refine px_pow (by decide) (by decide +kernel) ?_))
      refine px_mul (by omega) (px_ok ?_)
      have pos : 0 ≤ k - w.fmod (k + 1) * (c.fdiv 3).fmod 2 ∧ k - w.fmod (k + 1) * (c.fdiv 3).fmod 2 ≤ k := by
        have : (c.fdiv 3).fmod 2 = 0 ∨ (c.fdiv 3).fmod 2 = 1 := by omega
        rcases this with e | e <;> rw [e] <;> omega
      have sl := s4.length_eq
      rw [rangeL_len] at sl
      refine px_bind (px_eq (insR_ok (by omega) pos.1 (by omega)) (px_ok ⟨by rw [List.length_append, List.length_singleton]; omega, fun u hu => ?_, fun j j1 j2 => ?_, ins_perm (by omega) s4⟩))
      · rcases List.mem_append.mp hu with q | q
        · exact s2 u q
        · rw [List.mem_singleton.mp q]; exact ht.1
      · by_cases q : j < k
        · obtain ⟨u, hu, r⟩ := s3 j j1 q
          exact ⟨u, List.mem_append_left _ hu, r⟩
        · have : j = k := by omega
          subst this
          exact ⟨t, List.mem_append_right _ (List.mem_singleton.mpr rfl), ht.2⟩
  · obtain ⟨s1, s2, s3, hp⟩ := hs
    refine px_bind (px_rg (by omega) (by omega) (by omega) (by omega) (px_bind ?_))
    refine px_rng (fun k (r : List (Int × Int)) => (r.length : Int) = (n : Int) - 1 + k ∧ (∀ t ∈ r, Fit n t) ∧ Base2 n r) (by omega) ⟨by omega, s2, s3⟩ (fun k k0 k1 r hr => ?_) (fun r hr => ?_)
    · obtain ⟨a1, a2, a3⟩ := hr
      have n2 : 2 ≤ n := Nat.lt_of_not_le fun z => by have := hn (by omega); omega
      have kb : bits k ≤ 5 := bits_nat 5 (M := 16) k0 (by omega) (by decide)
      have b2 : bits (2 : Int) ≤ 2 := by decide +kernel
      refine px_bind (px_bind (px_bind (px_bind (px_bind (px_bind (px_mul (by omega) (px_ok (px_ok (px_ok ((mixed_ok (by omega) (by omega)).imp fun v hv => px_mod (by omega) ?_))))))))))
      have b1 := fmod_bounds v (show 0 < (n : Int) by omega)
      refine px_bind (px_bind (px_bind (px_bind (px_bind (px_bind (px_bind (px_bind (px_bind (px_bind (px_bind (px_mul (by omega) (px_ok (px_ok (px_ok ((mixed_ok (by omega) (by omega)).imp fun w hw => px_mod (by omega) ?_)))))))))))))))
      have b2 := fmod_bounds w (show 0 < (n : Int) - 1 by omega)
      have b3 := fmod_bounds (v.fmod n + 1 + w.fmod ((n : Int) - 1)) (show 0 < (n : Int) by omega)
      refine px_ok (px_mod (by omega) (px_ok (px_ok (px_ok (px_bind (px_app (by omega) (px_ok ⟨by rw [List.length_append, List.length_singleton]; omega, fun t ht => ?_, fun j j1 j2 => ?_⟩)))))))
      · rcases List.mem_append.mp ht with q | q
        · exact a2 t q
        · rw [List.mem_singleton.mp q]
          refine ⟨?_, b1.1, b3.1, b1.2, b3.2⟩
          show v.fmod n ≠ (v.fmod n + 1 + w.fmod ((n : Int) - 1)).fmod n
          generalize v.fmod n = a at *
          generalize w.fmod ((n : Int) - 1) = b at *
          by_cases q : a + 1 + b < n
          · rw [Int.fmod_eq_of_lt (by omega) q]; omega
          · have e : (a + 1 + b).fmod n = a + 1 + b - n := by
              have : (a + 1 + b) = (a + 1 + b - n) + n * 1 := by omega
              rw [this, Int.add_mul_fmod_self_left, Int.fmod_eq_of_lt (by omega) (by omega)]
              omega
            rw [e]; omega
      · obtain ⟨t, ht, q⟩ := a3 j j1 j2
        exact ⟨t, List.mem_append_left _ ht, q⟩
    · obtain ⟨a1, a2, a3⟩ := hr
      have hl : s.2.length = n := by rw [hp.length_eq, rangeL_len]; omega
      refine px_bind (px_map (h := fun t => (oi s.2 t.1, oi s.2 t.2)) (by omega) (fun t ht => ?_) (px_ok ?_))
      · obtain ⟨_, f2, f3, f4, f5⟩ := a2 t ht
        rw [ixR_gt 0 f2 (by omega), bind_ok, ixR_gt 0 f3 (by omega), bind_ok, bind_ok, bind_ok]
        rfl
      · exact ⟨by rw [List.length_map]; omega, renamed_fit hp a2, renamed_con2 h1 hp a3⟩
/-! ### P9: bounds of orders, the middle, room -/
open Dt (su sk)
/-- each tie with its lesser end first -/
def Nrm (T : List (Int × Int)) : Prop := ∀ t ∈ T, t.1 < t.2
/-- the bound of an order -/
def bd (n : Nat) (T : List (Int × Int)) (pos : Nat → Nat) (x : Nat) : Int := Ch.ah n (wt T) pos x - 1
/-- the middle -/
def md (n : Nat) (T : List (Int × Int)) (x : Nat) : Int := su n (wt T x) - 2
theorem mm_nrm {n : Nat} {ties : List (Int × Int)} (hf : ∀ t ∈ ties, Fit n t) : Nrm (sortP (ties.map mm)) := fun t ht => by
  obtain ⟨u, hu, rfl⟩ := List.mem_map.mp ((sortP_perm _).mem_iff.mp ht)
  obtain ⟨f1, f2, f3, f4, f5⟩ := hf u hu
  unfold mm
  dsimp only
  omega
theorem sumf_perm {α : Type} {f : α → Int} {l l' : List α} (h : l.Perm l') : (l.map f).sum = (l'.map f).sum := by
  induction h with
  | nil => rfl
  | cons x _ ih => rw [List.map_cons, List.map_cons, List.sum_cons, List.sum_cons, ih]
  | swap x y l => rw [List.map_cons, List.map_cons, List.map_cons, List.map_cons, List.sum_cons, List.sum_cons, List.sum_cons, List.sum_cons]; omega
  | trans _ _ ih1 ih2 => rw [ih1, ih2]
theorem wt_made (ties : List (Int × Int)) (i j : Nat) : wt (sortP (ties.map mm)) i j = wt ties i j := by
  unfold wt
  rw [sumf_perm (sortP_perm _), List.map_map]
  congr 1
  refine List.map_congr_left fun t _ => ?_
  show w1 i j (mm t) = w1 i j t
  unfold mm w1
  by_cases c : t.1 ≤ t.2
  · rw [Int.min_eq_left c, Int.max_eq_right c]
  · rw [Int.min_eq_right (by omega), Int.max_eq_left (by omega)]
    dsimp only
    rw [Int.add_comm]
    congr 1 <;> (congr 1; exact propext ⟨fun z => ⟨z.2, z.1⟩, fun z => ⟨z.2, z.1⟩⟩)
/-! ### R2: the small table -/
theorem w1_row {n : Nat} {t : Int × Int} (f : Fit n t) (i : Nat) : su n (fun k => w1 i k t) = (if t.1 = (i : Int) then 1 else 0) + if t.2 = (i : Int) then 1 else 0 := by
  obtain ⟨f1, f2, f3, f4, f5⟩ := f
  rw [Dt.su_congr (g := fun k => (if t.2.toNat = k then (if t.1 = (i : Int) then 1 else 0) else 0) + if t.1.toNat = k then (if t.2 = (i : Int) then 1 else 0) else 0) fun k _ => ?_, Dt.su_add, Ch.su_one (by omega), Ch.su_one (by omega)]
  unfold w1
  (repeat' split) <;> omega
theorem small_table_ok {X : Exc → Prop} {T : List (Int × Int)} {m : Nat} (h8 : m < 8) (hf : ∀ t ∈ T, Fit ((m + 1 : Nat) : Int) t) (hn : Nrm T) : Wp (fun Q => Tq m Q ∧ ∀ i j, i < m → j < m → mt Q i j = Ch.rd (m + 1) (wt T) 0 i j) X (m_small_table ((((m + 1 : Nat) : Int), ⟨T⟩), ())) := by
  unfold m_small_table
  dsimp only
  have rl : (rangeL 1 ((m + 1 : Nat) : Int)).length = m := by rw [rangeL_len]; omega
  have z0 : mapR (fun y154 => (.ok (0 : Int))) (rangeL 1 ((m + 1 : Nat) : Int)) = .ok ((rangeL 1 ((m + 1 : Nat) : Int)).map fun _ => 0) := mapR_ok (fun _ _ => rfl) (by rw [rl]; omega)
  refine px_bind (px_ok (px_bind (px_bind (px_rg (by omega) (by omega) (by omega) (by omega) (px_map (h := fun _ => (rangeL 1 ((m + 1 : Nat) : Int)).map fun _ => 0) (by rw [rl]; omega) (fun y hy => ?_) ?_)))))
  · rw [rngR_ok (by omega) (by omega) (by omega) (by omega), bind_ok, z0]
  refine px_bind (px_for (fun ys Q => Tq m Q ∧ ∀ i j, i < m → j < m → mt Q i j = Ch.rd (m + 1) (wt ys) 0 i j) ⟨⟨by rw [List.length_map, rl], fun r hr => ?_⟩, fun i j hi hj => ?_⟩ (fun ys t zs e Q => ?_) (fun Q hR => px_ok hR))
  · obtain ⟨_, _, rfl⟩ := List.mem_map.mp hr
    rw [List.length_map, rl]
  · unfold mt
    rw [gt_map 0 [] (by omega) (by rw [rl]; omega), gt_map 0 0 (by omega) (by rw [rl]; omega)]
    unfold Ch.rd
    rw [show su (m + 1) (fun k => wt [] (sk 0 i) k) = 0 from Dt.su_zero fun _ _ => rfl]
    split <;> rfl
  · rintro ⟨sq, hR⟩
    have ft := hf t (by rw [e]; exact List.mem_append_right _ List.mem_cons_self)
    have nt := hn t (by rw [e]; exact List.mem_append_right _ List.mem_cons_self)
    have wr := w1_row ft
    obtain ⟨f1, f2, f3, f4, f5⟩ := ft
    have b0 : 0 ≤ t.2 - 1 := by omega
    have b1 : t.2 - 1 < (m : Int) := by omega
    -- what is to be
    have want : ∀ i j, Ch.rd (m + 1) (wt (ys ++ [t])) 0 i j = Ch.rd (m + 1) (wt ys) 0 i j + (if i = j then (if t.1 = ((i + 1 : Nat) : Int) then 1 else 0) + (if t.2 = ((i + 1 : Nat) : Int) then 1 else 0) else - w1 (i + 1) (j + 1) t) := fun i j => by
      unfold Ch.rd
      by_cases q : i = j
      · rw [if_pos q, if_pos q, if_pos q, Dt.su_congr (g := fun k => wt ys (sk 0 i) k + w1 (i + 1) k t) fun k _ => wt_app ys t _ k, Dt.su_add, wr]
      · rw [if_neg q, if_neg q, if_neg q, wt_app]
        show - (wt ys (i + 1) (j + 1) + w1 (i + 1) (j + 1) t) = - wt ys (i + 1) (j + 1) + - w1 (i + 1) (j + 1) t
        omega
    refine px_bind (px_bind (px_bind (px_eq (ix_row sq b0 b1) (px_eq (ix_ent sq b0 b1 b0 b1) (px_ok ?_)))))
    refine px_bind (px_eq (rowR_gt sq b0 b1) (px_bind (px_eq (setR_gt b0 (by rw [sq.rl b0 b1]; exact b1) _) ?_)))
    generalize hv : mt Q (t.2 - 1).toNat (t.2 - 1).toNat + 1 = v
    have sq2 := putT_sq sq (j := t.2 - 1) (v := v) b0 b1
    refine px_bind (px_ite (fun c => ?_) (fun c => ?_))
    · have c0 := of_decide_eq_true c
      have a0 : 0 ≤ t.1 - 1 := by omega
      have a1 : t.1 - 1 < (m : Int) := by omega
      show Wp _ _ (R.bind (R.bind (R.bind (ixR (putT Q (t.2 - 1) (t.2 - 1) v) (t.1 - 1)) _) _) _)
      refine px_bind (px_bind (px_bind (px_eq (ix_row sq2 a0 a1) (px_eq (ix_ent sq2 a0 a1 a0 a1) (px_ok ?_)))))
      refine px_bind (px_eq (rowR_gt sq2 a0 a1) (px_bind (px_eq (setR_gt a0 (by rw [sq2.rl a0 a1]; exact a1) _) ?_)))
      generalize hv3 : mt (putT Q (t.2 - 1) (t.2 - 1) v) (t.1 - 1).toNat (t.1 - 1).toNat + 1 = v3
      have sq3 := putT_sq sq2 (j := t.1 - 1) (v := v3) a0 a1
      refine px_bind (px_bind (px_bind (px_eq (ix_row sq3 a0 a1) (px_eq (ix_ent sq3 a0 a1 b0 b1) (px_ok ?_)))))
      refine px_bind (px_eq (rowR_gt sq3 a0 a1) (px_bind (px_eq (setR_gt b0 (by rw [sq3.rl a0 a1]; exact b1) _) ?_)))
      generalize hv4 : mt (putT (putT Q (t.2 - 1) (t.2 - 1) v) (t.1 - 1) (t.1 - 1) v3) (t.1 - 1).toNat (t.2 - 1).toNat - 1 = v4
      have sq4 := putT_sq sq3 (j := t.2 - 1) (v := v4) a0 a1
      refine px_bind (px_bind (px_bind (px_eq (ix_row sq4 b0 b1) (px_eq (ix_ent sq4 b0 b1 a0 a1) (px_ok ?_)))))
      refine px_bind (px_eq (rowR_gt sq4 b0 b1) (px_bind (px_eq (setR_gt a0 (by rw [sq4.rl b0 b1]; exact a1) _) ?_)))
      show Wp _ _ (.ok (putT (putT (putT (putT Q (t.2 - 1) (t.2 - 1) v) (t.1 - 1) (t.1 - 1) v3) (t.1 - 1) (t.2 - 1) v4) (t.2 - 1) (t.1 - 1) _))
      refine px_ok (px_ok ⟨putT_sq sq4 b0 b1, fun i j hi hj => ?_⟩)
      have E3 : ∀ a b, mt (putT (putT Q (t.2 - 1) (t.2 - 1) v) (t.1 - 1) (t.1 - 1) v3) a b = if (a : Int) = t.1 - 1 ∧ (b : Int) = t.1 - 1 then v3 else if (a : Int) = t.2 - 1 ∧ (b : Int) = t.2 - 1 then v else mt Q a b := fun a b => by rw [putT_mt sq2 a0 a1 a0 a1, putT_mt sq b0 b1 b0 b1]
      have E4 : ∀ a b, mt (putT (putT (putT Q (t.2 - 1) (t.2 - 1) v) (t.1 - 1) (t.1 - 1) v3) (t.1 - 1) (t.2 - 1) v4) a b = if (a : Int) = t.1 - 1 ∧ (b : Int) = t.2 - 1 then v4 else mt (putT (putT Q (t.2 - 1) (t.2 - 1) v) (t.1 - 1) (t.1 - 1) v3) a b := fun a b => by rw [putT_mt sq3 a0 a1 b0 b1]
      rw [putT_mt sq4 b0 b1 a0 a1, E4 i j, E3 i j, want]
      rw [putT_mt sq b0 b1 b0 b1] at hv3
      rw [E3] at hv4
      have hi' := hR i j hi hj
      unfold w1
      by_cases c1 : (i : Int) = t.2 - 1 ∧ (j : Int) = t.1 - 1
      · rw [if_pos c1, if_neg (show ¬ i = j by omega), show (t.2 - 1).toNat = i by omega, show (t.1 - 1).toNat = j by omega, E4 i j, E3 i j, if_neg (show ¬ ((i : Int) = t.1 - 1 ∧ (j : Int) = t.2 - 1) by omega), if_neg (show ¬ ((i : Int) = t.1 - 1 ∧ (j : Int) = t.1 - 1) by omega), if_neg (show ¬ ((i : Int) = t.2 - 1 ∧ (j : Int) = t.2 - 1) by omega), if_neg (by omega), if_pos (by omega), hi']
        omega
      · rw [if_neg c1]
        by_cases c2 : (i : Int) = t.1 - 1 ∧ (j : Int) = t.2 - 1
        · rw [if_pos c2, if_neg (show ¬ i = j by omega), if_pos (by omega), if_neg (by omega), ← hv4, if_neg (by omega), if_neg (by omega), show (t.2 - 1).toNat = j by omega, show (t.1 - 1).toNat = i by omega, hi']
          omega
        · rw [if_neg c2]
          by_cases c3 : (i : Int) = t.1 - 1 ∧ (j : Int) = t.1 - 1
          · rw [if_pos c3, if_pos (show i = j by omega), if_pos (by omega), if_neg (by omega), ← hv3, if_neg (by omega), show (t.1 - 1).toNat = i by omega, show i = j by omega]
            rw [show i = j by omega] at hi'
            rw [hi']; omega
          · rw [if_neg c3]
            by_cases c4 : (i : Int) = t.2 - 1 ∧ (j : Int) = t.2 - 1
            · rw [if_pos c4, if_pos (show i = j by omega), if_neg (by omega), if_pos (by omega), ← hv, show (t.2 - 1).toNat = i by omega, show i = j by omega]
              rw [show i = j by omega] at hi'
              rw [hi']; omega
            · rw [if_neg c4, hi']
              by_cases q : i = j
              · rw [if_pos q, if_neg (by omega), if_neg (by omega)]; omega
              · rw [if_neg q, if_neg (by omega), if_neg (by omega)]; omega
    · have c0 := of_decide_eq_false c
      show Wp _ _ (.ok (putT Q (t.2 - 1) (t.2 - 1) v))
      refine px_ok (px_ok ⟨sq2, fun i j hi hj => ?_⟩)
      rw [putT_mt sq b0 b1 b0 b1, want]
      have hi' := hR i j hi hj
      unfold w1
      by_cases c4 : (i : Int) = t.2 - 1 ∧ (j : Int) = t.2 - 1
      · rw [if_pos c4, if_pos (show i = j by omega), if_neg (by omega), if_pos (by omega), ← hv, show (t.2 - 1).toNat = i by omega, show i = j by omega]
        rw [show i = j by omega] at hi'
        rw [hi']; omega
      · rw [if_neg c4, hi']
        by_cases q : i = j
        · rw [if_pos q, if_neg (by omega), if_neg (by omega)]; omega
        · rw [if_neg q, if_neg (by omega), if_neg (by omega)]; omega
/-! ### the laws about ranks -/
theorem px_modS {B : Exc → Prop} {A : Int → Prop} {x y : Int} {m : Nat} (hy : 0 < y) (hb : bits y ≤ m) (q : ∀ v, 0 ≤ v → v < y → bits v ≤ m → A v) : Wp A B (modR x y) :=
  px_mod (by omega) (q _ (fmod_bounds x hy).1 (fmod_bounds x hy).2 (bits_fmod hb hy))
theorem px_modP {B : Exc → Prop} {A : Int → Prop} {x y : Int} (hy : 0 < y) (q : ∀ v, 0 ≤ v → v < y → A v) : Wp A B (modR x y) :=
  px_mod (by omega) (q _ (fmod_bounds x hy).1 (fmod_bounds x hy).2)
theorem px_mulS {B : Exc → Prop} {A : Int → Prop} {x y : Int} {a b : Nat} (hx : bits x ≤ a) (hy : bits y ≤ b) (h : a + b ≤ 134217728) (q : bits (x * y) ≤ a + b → A (x * y)) : Wp A B (mulR x y) := px_mul (by omega) (q (bits_mul hx hy))
theorem bitsC2 : bits (2 : Int) ≤ 2 := by decide +kernel
theorem bitsC48 : bits (48270 : Int) ≤ 16 := by decide +kernel
theorem bitsC60 : bits ((10 : Int) ^ (60 : Int).toNat) ≤ 200 := by decide +kernel
theorem bitsC58 : bits ((10 : Int) ^ (58 : Int).toNat) ≤ 200 := by decide +kernel
theorem posC60 : (0 : Int) < 10 ^ (60 : Int).toNat := by decide +kernel
theorem posC58 : (0 : Int) < 10 ^ (58 : Int).toNat := by decide +kernel
theorem cellB {ns : List Int} (hb : ∀ z ∈ ns, bits z ≤ 1048576) {X : Exc → Prop} {A : Int → Prop} {i : Int} (h : 0 ≤ i) (q : ∀ v, bits v ≤ 1048576 → A v) : Wp A X (m_law_cell_at (⟨ns⟩, i, ())) := by
  obtain ⟨v, e, b⟩ := cell_ok hb h
  exact px_eq e (q v b)
/-! ### A1: alike or not, with papers -/
abbrev Apr := T1 PySem.Str ⊕ (T3 PySem.Str Int (List Int) ⊕ (PySem.Str × List Int))
/-- what one has more than the other, weighed by a row of the adjoint -/
def prd (m : Nat) (T : List (Int × Int)) (D E : Nat → Int) (i : Nat) : Int := su m (fun j => Ch.aj (Ch.rd (m + 1) (wt T) 0) m i j * (D (j + 1) - E (j + 1)))
def kds (m : Nat) (T : List (Int × Int)) : Int := Dt.dt m (Ch.rd (m + 1) (wt T) 0)
def Lent (n : Nat) (T : List (Int × Int)) (D E s : Nat → Int) : Prop := ∀ i, i < n → Ch.ld n (wt T) D s i = E i
section
variable {m : Nat} {T : List (Int × Int)} {D E : Nat → Int}
/-- products that can be divided tell a script -/
theorem prd_lent (W : Wb (m + 1) T) (hs : su (m + 1) D = su (m + 1) E) {q : Nat → Int} (hq : ∀ i, i < m → prd m T D E i = kds m T * q i) {s : Nat → Int} (s0 : s 0 = 0) (sS : ∀ i, i < m → s (i + 1) = q i) : Lent (m + 1) T D E s := by
  have g := W.gr
  have pos := Ch.rd_pos g (h := 0) (by omega)
  have oth : ∀ i, i < m → Ch.ld (m + 1) (wt T) D s (i + 1) = E (i + 1) := fun i hi => by
    have e := Ch.ld_rd g (h := 0) (by omega) D s0 hi
    rw [show sk 0 i = i + 1 from rfl] at e
    rw [e]
    have e2 : su m (fun j => Ch.rd (m + 1) (wt T) 0 i j * s (sk 0 j)) = su m (fun j => Ch.rd (m + 1) (wt T) 0 i j * q j) := Dt.su_congr fun j hj => by rw [show sk 0 j = j + 1 from rfl, sS j hj]
    rw [e2]
    have e3 := Ch.aj_col (Ch.rd (m + 1) (wt T) 0) (fun j => D (j + 1) - E (j + 1)) hi
    have e4 : su m (fun k => Ch.rd (m + 1) (wt T) 0 i k * su m (fun j => Ch.aj (Ch.rd (m + 1) (wt T) 0) m k j * (D (j + 1) - E (j + 1)))) = kds m T * su m (fun j => Ch.rd (m + 1) (wt T) 0 i j * q j) := by
      rw [← Dt.su_mul]
      refine Dt.su_congr fun k hk => ?_
      rw [show su m (fun j => Ch.aj (Ch.rd (m + 1) (wt T) 0) m k j * (D (j + 1) - E (j + 1))) = kds m T * q k from hq k hk]
      grind
    rw [e4] at e3
    have := Int.eq_of_mul_eq_mul_left (show kds m T ≠ 0 by unfold kds; omega) e3
    omega
  intro i hi
  by_cases c : i = 0
  · subst c
    have h1 := Ch.ld_sum g D s
    rw [Dt.su_head, hs, Dt.su_head] at h1
    have h2 : su m (fun i => Ch.ld (m + 1) (wt T) D s (i + 1)) = su m (fun i => E (i + 1)) := Dt.su_congr oth
    rw [h2] at h1
    omega
  · obtain ⟨k, rfl⟩ : ∃ k, i = k + 1 := ⟨i - 1, by omega⟩
    exact oth k (by omega)
end
/-- what alike tells -/
inductive AlikeOk (m : Nat) (T : List (Int × Int)) (D E : List Int) (p : Apr) : Prop
  | sums (h : D.sum ≠ E.sum) (e : p = .inl ⟨"sums"⟩)
  | lent (h : D.sum = E.sum) (s : List Int) (e : p = .inr (.inr ("lent", s))) (sl : s.length = m + 1) (s0 : fv s 0 = 0) (hl : Lent (m + 1) T (fv D) (fv E) (fv s))
  | weighed (h : D.sum = E.sum) (at_ : Nat) (w : List Int) (e : p = .inr (.inl ⟨"weighed", kds m T, w⟩)) (ha : at_ < m) (wl : w.length = m + 1) (w0 : fv w 0 = 0) (hw : ∀ j, j < m → fv w (j + 1) = Ch.aj (Ch.rd (m + 1) (wt T) 0) m at_ j) (no : ¬ kds m T ∣ prd m T (fv D) (fv E) at_) (be : ∀ i, i < at_ → kds m T ∣ prd m T (fv D) (fv E) i)
theorem fmod_dvd {a b : Int} : a.fmod b = 0 ↔ b ∣ a := ⟨Int.dvd_of_fmod_eq_zero, Int.fmod_eq_zero_of_dvd⟩
theorem less_ok {X : Exc → Prop} {n : Nat} (n8 : n ≤ 8) {D E : List Int} (hD : D.length = n) (hE : E.length = n) : Wp (fun l => l.length = n ∧ ∀ i, i < n → fv l i = fv D i - fv E i) X (m_less (D, E, ())) := by
  unfold m_less
  dsimp only
  rw [hD, hE, pyEq_refl]
  refine px_ite (fun c => by cases c) fun _ => px_bind <| px_bind <| px_rg (by omega) (by omega) (by omega) (by omega) <| px_map (h := fun k => gt D k 0 - gt E k 0) (by rw [rl_len]; omega) (fun k hk => ?_) (px_ok ⟨by rw [List.length_map, rl_len], fun i hi => gt_map_rl hi⟩)
  obtain ⟨k0, k1⟩ := mem_rangeL hk
  rw [ixR_gt 0 k0 (by rw [hD]; exact k1), bind_ok, ixR_gt 0 k0 (by rw [hE]; exact k1), bind_ok]
/-- a table times a column -/
theorem times_ok {X : Exc → Prop} {m a b : Nat} {Q : List (List Int)} (sq : Tq m Q) (m8 : m ≤ 8) {c : List Int} (cl : c.length = m) (hQ : ∀ r ∈ Q, ∀ x ∈ r, bits x ≤ a) (hc : ∀ x ∈ c, bits x ≤ b) (hab : a + b ≤ 100000000) : Wp (fun l => l.length = m ∧ ∀ i, i < m → fv l i = su m (fun j => mt Q i j * fv c j)) X (m_times (Q, c, ())) := by
  unfold m_times
  dsimp only
  have go : ∀ r ∈ Q, Wp (fun v => v = su m (fun j => gt r (j : Int) 0 * fv c j)) X (((((rngR 0 (c.length : Int)) : R _).bind fun x343 => (mapR (fun y336 => (((ixR r y336) : R _).bind fun x341 => (((ixR c y336) : R _).bind fun x342 => (mulR x341 x342)))) x343)) : R _).bind fun x344 => (.ok (List.sum x344))) := fun r hr => by
    have rl := sq.row r hr
    rw [cl]
    refine px_bind <| px_bind <| px_rg (by omega) (by omega) (by omega) (by omega) <| px_map (h := fun k => gt r k 0 * gt c k 0) (by rw [rl_len]; omega) (fun k hk => ?_) (px_ok ?_)
    · obtain ⟨k0, k1⟩ := mem_rangeL hk
      have h1 := hQ r hr _ (gt_mem 0 k0 (by omega))
      have h2 := hc _ (gt_mem 0 k0 (by omega))
      rw [ixR_gt 0 k0 (by omega), bind_ok, ixR_gt 0 k0 (by omega), bind_ok]
      exact chk_ok (decide_eq_true (by omega))
    · have ll : ((rangeL 0 (m : Int)).map fun k => gt r k 0 * gt c k 0).length = m := by rw [List.length_map, rl_len]
      rw [sum_gt, ll]
      exact Dt.su_congr fun j hj => gt_map_rl hj
  refine px_bind <| px_ok <| px_bind <| px_for (fun ys l => l.length = ys.length ∧ ∀ i : Nat, i < ys.length → fv l i = su m (fun j => gt (gt ys (i : Int) []) (j : Int) 0 * fv c j)) ⟨rfl, fun i hi => absurd hi (Nat.not_lt_zero _)⟩ (fun ys r zs e l hl => ?_) (fun l hl => px_ok ⟨by rw [hl.1, sq.len], fun i hi => hl.2 i (by rw [sq.len]; exact hi)⟩)
  obtain ⟨l1, l2⟩ := hl
  have hr : r ∈ Q := by rw [e]; exact List.mem_append_right _ List.mem_cons_self
  have yl : ys.length < m := by rw [← sq.len, e, List.length_append, List.length_cons]; omega
  refine px_bind <| (go r hr).imp fun v hv => px_bind <| px_app (by omega) <| px_ok ⟨by rw [List.length_append, List.length_append, l1]; rfl, fun i hi => ?_⟩
  rw [List.length_append, List.length_singleton] at hi
  show gt (l ++ [v]) (i : Int) 0 = _
  rw [gt_app (by omega)]
  by_cases c1 : i < ys.length
  · rw [if_pos (by omega)]
    have := l2 i c1
    show fv l i = _
    rw [this, gt_al c1]
  · rw [if_neg (by omega), if_pos (by omega), hv]
    have : i = ys.length := by omega
    subst this
    rw [gt_ar rfl]
section
variable {m : Nat} {T : List (Int × Int)}
theorem Wb.kds_pos (W : Wb (m + 1) T) : 0 < kds m T := Ch.rd_pos W.gr (by omega)
theorem Wb.kds_le (W : Wb (m + 1) T) : (kds m T).natAbs < 2 ^ 100 := by
  have NB : (kds m T).natAbs ≤ (m * 300) ^ m := Dt.dt_abs fun i j _ _ => W.rdl 0 i j
  have h3 : (m * 300) ^ m ≤ 2400 ^ 8 := Nat.le_trans (Nat.pow_le_pow_left (show m * 300 ≤ 2400 by have := W.n8; omega) m) (Nat.pow_le_pow_right (by decide) (by have := W.n8; omega))
  have h4 : 2400 ^ 8 < 2 ^ 100 := by decide
  omega
theorem Wb.aj_le (W : Wb (m + 1) T) {i j : Nat} (hi : i < m) (hj : j < m) : (Ch.aj (Ch.rd (m + 1) (wt T) 0) m i j).natAbs < 2 ^ 100 := by
  have NB := Ch.aj_abs (B := 300) (M := Ch.rd (m + 1) (wt T) 0) (fun a c _ _ => W.rdl 0 a c) i j hi hj
  have h3 : (m * 300) ^ (m - 1) ≤ 2400 ^ 8 := by
    by_cases c : m = 0
    · omega
    · exact Nat.le_trans (Nat.pow_le_pow_left (show m * 300 ≤ 2400 by have := W.n8; omega) _) (Nat.pow_le_pow_right (by decide) (by have := W.n8; omega))
  have h4 : 2400 ^ 8 < 2 ^ 100 := by decide
  omega
theorem alike_ok {X : Exc → Prop} (W : Wb (m + 1) T) (hn : Nrm T) {D E : List Int} (hD : D.length = m + 1) (hE : E.length = m + 1) {b : Nat} (bD : ∀ x ∈ D, bits x ≤ b) (bE : ∀ x ∈ E, bits x ≤ b) (b1 : b ≤ 80000000) : Wp (AlikeOk m T D E) X (m_alike ((((m + 1 : Nat) : Int), ⟨T⟩), D, E, ())) := by
  have n8 := W.n8
  have kp := W.kds_pos
  have kl := W.kds_le
  unfold m_alike
  dsimp only
  have el : m_look_at_lengths ((((m + 1 : Nat) : Int), ⟨T⟩), D, E, ()) = .ok () := by
    unfold m_look_at_lengths
    dsimp only
    rw [hD, hE, pyEq_refl]
    rfl
  refine px_bind <| px_eq el <| px_bind <| px_bind <| px_eq (show m_coins (D, ()) = .ok D.sum from rfl) <| px_bind <| px_eq (show m_coins (E, ()) = .ok E.sum from rfl) <| px_ok ?_
  by_cases hs : D.sum ≠ E.sum
  · rw [pyEq_false hs]
    exact px_ite (fun _ => px_ok (.sums hs rfl)) (fun c => by cases c)
  have hs := Decidable.not_not.mp hs
  rw [hs, pyEq_refl]
  refine px_ite (fun c => by cases c) fun _ => px_bind <| (small_table_ok (by omega) W.fit hn).imp fun Q hQ => ?_
  obtain ⟨e1, A, e2, F⟩ := fl_of W (by omega) hQ.1 hQ.2
  have Ab : ∀ r ∈ A, ∀ x ∈ r, bits x ≤ 100 := fun r hr x hx => by
    obtain ⟨i, hi, rfl⟩ := List.mem_iff_getElem.mp hr
    obtain ⟨j, hj, rfl⟩ := List.mem_iff_getElem.mp hx
    have hi' : i < m := by have := F.sq.len; omega
    have hj' : j < m := by have := F.sq.row _ (List.getElem_mem hi); omega
    have e := F.bk i j hi' hj'
    have e2 : mt A i j = A[i][j] := by
      unfold mt
      rw [gt_some (List.getElem?_eq_getElem hi), gt_some (List.getElem?_eq_getElem hj)]
    rw [← e2, e]
    exact bits_le (W.aj_le hi' hj')
  refine px_bind <| px_eq e1 <| px_bind <| px_eq e2 <| px_bind <| px_bind <| px_bind <| px_bind <| px_bind <| (less_ok n8 hD hE).imp fun df hdf => px_ok <| px_ok <| px_ok ?_
  have ec : cutL df (some 1) none = df.drop 1 := (cut_two (xs := df) (k := (1 : Int)) (by decide) (by omega)).1
  rw [ec]
  have cl : (df.drop 1).length = m := by rw [List.length_drop]; omega
  have cv : ∀ j, j < m → fv (df.drop 1) j = fv D (j + 1) - fv E (j + 1) := fun j hj => by
    rw [← hdf.2 (j + 1) (by omega)]
    show (df.drop 1).getD _ 0 = df.getD _ 0
    rw [Int.toNat_natCast, Int.toNat_natCast, List.getD_eq_getElem?_getD, List.getD_eq_getElem?_getD, List.getElem?_drop, Nat.add_comm]
  have cb : ∀ x ∈ df.drop 1, bits x ≤ b + 1 := gt_all.mpr fun j hj => by
    have hj : j < m := by omega
    rw [cv j hj]
    exact bits_sub (bD _ (gt_mem 0 (by omega) (by omega))) (bE _ (gt_mem 0 (by omega) (by omega)))
  refine (times_ok (a := 100) (b := b + 1) F.sq (by omega) cl Ab cb (by omega)).imp fun P hP => ?_
  have Pv : ∀ i, i < m → fv P i = prd m T (fv D) (fv E) i := fun i hi => by
    rw [hP.2 i hi]
    exact Dt.su_congr fun j hj => by rw [F.bk i j hi hj, cv j hj]
  refine px_ct <| px_forM (fun ys _ => ∀ i : Nat, i < ys.length → kds m T ∣ fv P i) (fun i hi => absurd hi (Nat.not_lt_zero _)) (fun ys x zs e s hs' => ?_) (fun s hs' => ?_)
  · obtain ⟨x1, x2⟩ := enum_at e
    obtain ⟨xa, xp⟩ := x
    dsimp only at x1 x2 ⊢
    subst x1
    have hlt : ys.length < m := by have := (List.getElem?_eq_some_iff.mp x2).1; omega
    have ep : fv P ys.length = xp := gt_some x2
    refine px_bind <| px_bind <| px_mod (by show kds m T ≠ 0; omega) <| px_ok ?_
    by_cases c : xp.fmod (kds m T) = 0
    · rw [show Dt.dt m (Ch.rd (m + 1) (wt T) 0) = kds m T from rfl, c, pyEq_refl]
      refine px_ite (fun c => by cases c) fun _ => px_nx fun i hi => ?_
      rw [List.length_append, List.length_singleton] at hi
      by_cases c2 : i < ys.length
      · exact hs' i c2
      · rw [show i = ys.length by omega, ep]; exact fmod_dvd.mp c
    · rw [show Dt.dt m (Ch.rd (m + 1) (wt T) 0) = kds m T from rfl, pyEq_false c]
      have hrow := F.sq.rl (i := (ys.length : Int)) (by omega) (by omega)
      refine px_ite (fun _ => ?_) fun c => by cases c
      refine px_bind <| px_bind <| px_bind <| px_bind <| px_bind <| px_bind <| px_bind <| px_bind <| px_eq (ix_row F.sq (by omega) (by omega)) <| px_cat (by rw [hrow]; simp; omega) <| px_ok <| px_ok <| px_ok <| px_ok <| px_ok <| px_ok <| px_rt ?_
      refine .weighed hs ys.length _ rfl hlt (by rw [List.length_append, hrow]; simp; omega) rfl (fun j hj => ?_) (by rw [← Pv _ hlt, ep]; exact fun z => c (fmod_dvd.mpr z)) (fun i hi => by rw [← Pv i (by omega)]; exact hs' i hi)
      rw [← F.bk _ j hlt hj]
      show ([0] ++ gt A (ys.length : Int) []).getD _ 0 = _
      rw [Int.toNat_natCast]
      show (0 :: gt A (ys.length : Int) []).getD (j + 1) 0 = _
      rw [List.getD_cons_succ]
      rfl
  · have hall : ∀ i, i < m → kds m T ∣ fv P i := fun i hi => hs' i (by
      have : (enumL P).length = P.length := by simp [enumL]
      omega)
    have Pl := hP.1
    have em : ∀ x ∈ P, (divR x (Dt.dt m (Ch.rd (m + 1) (wt T) 0))) = .ok (x.fdiv (kds m T)) := fun x _ => divR_ok (by show kds m T ≠ 0; omega) (log2_lt kl (by decide) (by show kds m T ≠ 0; omega))
    refine px_bind <| px_bind <| px_bind <| px_bind <| px_bind <| px_bind <| px_bind <| px_map (h := fun x : Int => x.fdiv (kds m T)) (by omega) em <| px_cat (by rw [List.length_map, List.length_singleton]; omega) <| px_ok <| px_ok <| px_ok <| px_ok <| px_ok <| px_ok ?_
    have sv : ∀ j, j < m → fv ([0] ++ P.map fun x : Int => x.fdiv (kds m T)) (j + 1) = (fv P j).fdiv (kds m T) := fun j hj => by
      show ([0] ++ P.map fun x : Int => x.fdiv (kds m T)).getD _ 0 = _
      rw [Int.toNat_natCast]
      show ((0 : Int) :: P.map fun x : Int => x.fdiv (kds m T)).getD (j + 1) 0 = _
      rw [List.getD_cons_succ, ← gt_nat, gt_map 0 0 (by omega) (by omega)]
    refine .lent hs _ rfl (by rw [List.length_append, List.length_map, List.length_singleton]; omega) rfl (prd_lent W (q := fun i => (fv P i).fdiv (kds m T)) ?_ (fun i hi => ?_) rfl sv)
    · have h1 := sum_gt D
      have h2 := sum_gt E
      rw [hD] at h1
      rw [hE] at h2
      show su (m + 1) (fun i => gt D (i : Int) 0) = su (m + 1) (fun i => gt E (i : Int) 0)
      rw [← h1, ← h2, hs]
    · rw [← Pv i hi]
      exact (Int.mul_fdiv_cancel' (hall i hi)).symm
end
/-! ### A2: papers looked at -/
/-- what a paper shows -/
def ShowsQ (n : Nat) (T : List (Int × Int)) (D E : List Int) : Apr → Prop
  | .inl _ => D.sum ≠ E.sum
  | .inr (.inr p) => p.2.length = n ∧ Lent n T (fv D) (fv E) (fv p.2)
  | .inr (.inl p) => 2 ≤ p.b ∧ p.c.length = n ∧ (∀ i, i < n → p.b ∣ Ch.ld n (wt T) (fun _ => 0) (fv p.c) i) ∧ ¬ p.b ∣ su n (fun k => fv p.c k * fv D k) - su n (fun k => fv p.c k * fv E k)
section
variable {n m : Nat} {T : List (Int × Int)} {D E : List Int}
theorem dvd_su {d : Int} {f : Nat → Int} : ∀ {m : Nat}, (∀ j, j < m → d ∣ f j) → d ∣ su m f
  | 0, _ => Int.dvd_zero _
  | m + 1, h => Int.dvd_add (dvd_su fun j hj => h j (by omega)) (h m (by omega))
/-- the told paper shows what it says -/
theorem AlikeOk.shows (W : Wb (m + 1) T) {p : Apr} (h : AlikeOk m T D E p) : ShowsQ (m + 1) T D E p := by
  have g := W.gr
  rcases h with ⟨h, rfl⟩ | ⟨h, s, rfl, sl, s0, hl⟩ | ⟨h, at_, w, rfl, ha, wl, w0, hw, no, be⟩
  · exact h
  · exact ⟨sl, hl⟩
  · have kp := W.kds_pos
    refine ⟨?_, wl, ?_, ?_⟩
    · show 2 ≤ kds m T
      by_cases c : kds m T = 1
      · rw [c] at no
        exact absurd (Int.one_dvd _) no
      · omega
    · have oth : ∀ i, i < m → kds m T ∣ Ch.ld (m + 1) (wt T) (fun _ => 0) (fv w) (i + 1) := fun i hi => by
        have e := Ch.ld_rd g (h := 0) (by omega) (fun _ => 0) (s := fv w) w0 hi
        rw [show sk 0 i = i + 1 from rfl] at e
        rw [e]
        have e2 : su m (fun j => Ch.rd (m + 1) (wt T) 0 i j * fv w (sk 0 j)) = su m (fun j => Ch.aj (Ch.rd (m + 1) (wt T) 0) m at_ j * Ch.rd (m + 1) (wt T) 0 j i) := Dt.su_congr fun j hj => by
          rw [show sk 0 j = j + 1 from rfl, hw j hj, Ch.rd_sym g i j, Int.mul_comm]
        rw [e2, Ch.aj_left _ ha hi]
        split
        · exact ⟨-1, by unfold kds; omega⟩
        · exact ⟨0, by omega⟩
      intro i hi
      by_cases c : i = 0
      · subst c
        have h1 := Ch.ld_sum g (fun _ => 0) (fv w)
        rw [Dt.su_head, Dt.su_zero (f := fun _ => 0) fun _ _ => rfl] at h1
        have h2 := dvd_su (m := m) oth
        rw [show Ch.ld (m + 1) (wt T) (fun _ => 0) (fv w) 0 = - su m (fun i => Ch.ld (m + 1) (wt T) (fun _ => 0) (fv w) (i + 1)) by omega]
        exact (Int.dvd_neg).mpr h2
      · obtain ⟨k, rfl⟩ : ∃ k, i = k + 1 := ⟨i - 1, by omega⟩
        exact oth k (by omega)
    · have e : su (m + 1) (fun k => fv w k * fv D k) - su (m + 1) (fun k => fv w k * fv E k) = prd m T (fv D) (fv E) at_ := by
        rw [← Dt.su_sub, Dt.su_head]
        unfold prd
        rw [show fv w 0 = 0 from w0, Int.zero_mul, Int.zero_mul, Int.sub_zero, Int.zero_add]
        refine Dt.su_congr fun j hj => ?_
        rw [hw j hj]; grind
      show ¬ kds m T ∣ _
      rw [e]
      exact no
end
/-! ### lendings, as k43 reckons them -/
theorem lentU_ok {n : Nat} {ties : List (Int × Int)} (hf : ∀ t ∈ ties, Fit n t) {D s : List Int} (hD : D.length = n) (hs : s.length = n) : ∃ l, m_law_lent (ties, D, s, ()) = .ok l ∧ l.length = n ∧ ∀ i, i < n → fv l i = Ch.ld n (wt ties) (fv D) (fv s) i := by
  refine px_get ?_
  unfold m_law_lent
  dsimp only
  refine px_bind (px_ok (px_bind ?_))
  refine px_for (fun ys (l : List Int) => l.length = n ∧ ∀ i, i < n → fv l i = Ch.ld n (wt ys) (fv D) (fv s) i) ⟨hD, fun i hi => ?_⟩ (fun ys t zs e l hl => ?_) (fun l hl => px_ok hl)
  · unfold Ch.ld
    rw [Dt.su_zero fun j _ => by show (0 : Int) * _ = 0; rw [Int.zero_mul]]
    omega
  · obtain ⟨l1, l2⟩ := hl
    have ft := hf t (by rw [e]; exact List.mem_append_right _ List.mem_cons_self)
    obtain ⟨f1, f2, f3, f4, f5⟩ := id ft
    refine px_bind <| px_bind <| px_bind <| px_eq (ixR_gt 0 f2 (by omega)) <| px_bind <| px_eq (ixR_gt 0 f3 (by omega)) <| px_ok <| px_bind <| px_eq (ixR_gt 0 f2 (by omega)) <| px_ok <| px_bind <| px_eq (setR_gt f2 (by omega) _) ?_
    refine px_bind <| px_bind <| px_bind <| px_eq (ixR_gt 0 f3 (by rw [List.length_set]; omega)) <| px_bind <| px_eq (ixR_gt 0 f2 (by omega)) <| px_ok <| px_bind <| px_eq (ixR_gt 0 f3 (by omega)) <| px_ok <| px_bind <| px_eq (setR_gt f3 (by rw [List.length_set]; omega) _) <| px_ok ⟨by rw [List.length_set, List.length_set]; exact l1, fun i hi => ?_⟩
    show gt _ _ 0 = _
    rw [gt_set f3 (by rw [List.length_set]; omega) (by omega), gt_set f2 (by omega) (by omega), gt_set f2 (by omega) (by omega), if_neg (show ¬ t.2 = t.1 by omega)]
    have e1 : Ch.ld n (wt (ys ++ [t])) (fv D) (fv s) i = Ch.ld n (wt ys) (fv D) (fv s) i + gain s i t := by
      unfold Ch.ld
      rw [Int.add_assoc, gain_su hi ft, ← Dt.su_add]
      congr 1
      exact Dt.su_congr fun j _ => by rw [wt_app, Int.add_mul]
    rw [e1, ← l2 i hi]
    unfold gain
    have o1 : oi s t.1 = gt s t.1 0 := rfl
    have o2 : oi s t.2 = gt s t.2 0 := rfl
    rw [o1, o2]
    show _ = gt l (i : Int) 0 + _
    by_cases q : (i : Int) = t.2
    · rw [if_pos q, if_neg (show ¬ (i : Int) = t.1 by omega), if_pos q, q]; omega
    · rw [if_neg q]
      by_cases q2 : (i : Int) = t.1
      · rw [if_pos q2, if_pos q2, if_neg q, q2]; omega
      · rw [if_neg q2, if_neg q2, if_neg q]; omega
theorem px_sure {α : Type} {A : α → Prop} {B : Exc → Prop} {m : R α} (h : Wp A (fun _ => False) m) : Wp A B (R.sure m) := by
  obtain ⟨a, e, ha⟩ := px_get h
  rw [e]
  exact px_ok ha
/-! ### k12: papers told -/
theorem big_ok (c : Int) : Wp (fun r => bits r ≤ 210) (fun _ => False) (m_law_big (c, ())) := by
  unfold m_law_big
  dsimp only
  refine px_bind <| px_bind <| px_modP (by decide) fun u _ _ => px_ok <| px_ite (fun _ => ?_) (fun _ => ?_)
  · refine px_bind <| px_bind <| px_bind <| px_div (by decide) (by decide +kernel) <| px_modP (by decide) fun u u0 u1 => px_ok <| px_ok ?_
    exact small_bits (M := 20) (by omega) 210 (by decide)
  · refine px_bind <| px_bind <| px_div (by decide) (by decide +kernel) <| px_bind <| px_pow (by decide) (by decide +kernel) <| px_modS posC60 bitsC60 fun y _ _ yb => ?_
    refine px_bind <| px_bind <| px_bind <| px_bind <| px_bind <| px_pow (by decide) (by omega) <| px_mulS (bits_pow4 yb) bitsC48 (by decide) fun h => px_ok ?_
    refine px_bind <| px_bind <| px_pow (by decide) (by decide +kernel) <| px_mulS bitsC2 bitsC58 (by decide) fun h3 => px_modS (Int.mul_pos (by decide) posC58) h3 fun v v0 v1 vb => px_bind <| px_pow (by decide) (by decide +kernel) <| px_ok <| px_ok ?_
    exact bits_mono (bits_sub (m := 202) vb (bits_mono bitsC58 (by decide))) (by decide)
theorem numbers12_ok {l : List Int} (c : (l.length : Int) ≤ 1000000000000000000) : m_law_numbers (l, l, ()) = .ok true := by
  refine px_is ?_
  unfold m_law_numbers
  dsimp only
  rw [pyEq_refl]
  refine px_bind (px_ite (fun c => by cases c) (fun _ => px_ok (px_ite (fun c => by cases c) (fun _ => px_bind <| px_rg (by omega) (by omega) (by omega) c <| px_ct ?_))))
  refine px_rngM (fun _ _ => True) (by omega) trivial (fun k k0 k1 _ _ => ?_) (fun _ _ => px_ok rfl)
  refine px_bind <| px_bind <| px_bind <| px_bind <| px_bind <| px_eq (ixR_gt 0 k0 k1) <| px_ok <| px_eq (show m_law_whole (gt l k 0, ()) = .ok true from rfl) <| px_ok <| px_ite (fun c => by cases c) fun _ => px_bind <| px_eq (ixR_gt 0 k0 k1) <| px_bind <| px_eq (ixR_gt 0 k0 k1) <| px_ok ?_
  rw [pyEq_refl]
  exact px_ite (fun c => by cases c) fun _ => px_nx trivial
theorem cut_to12 {α : Type} (l : List α) (k : Nat) : cutL l none (some (k : Int)) = l.take k := cut_take l
theorem cut_from12 {α : Type} (l : List α) (k : Nat) : cutL l (some (k : Int)) none = l.drop k := by
  unfold cutL
  have a1 : HT.sIx l.length l.length none = l.length := rfl
  have a2 : HT.sIx l.length 0 (some (k : Int)) = min k l.length := by
    show (if (k : Int) < 0 then ((k : Int) + (l.length : Int)).toNat else min (k : Int).toNat l.length) = _
    rw [if_neg (by omega), Int.toNat_natCast]
  rw [a1, a2]
  by_cases h : k ≤ l.length
  · rw [Nat.min_eq_left h, List.take_of_length_le (by rw [List.length_drop]; omega)]
  · rw [Nat.min_eq_right (by omega), List.drop_of_length_le (Nat.le_refl _), List.drop_of_length_le (by omega), List.take_nil]
theorem set_bits {l : List Int} {b : Nat} {i : Nat} {y : Int} (hl : ∀ x ∈ l, bits x ≤ b) (hy : bits y ≤ b) : ∀ x ∈ l.set i y, bits x ≤ b := fun x hx => by
  rcases List.mem_or_eq_of_mem_set hx with z | z
  · exact hl x z
  · rw [z]; exact hy
section
variable {n : Nat} {T ties : List (Int × Int)}
theorem lens_bad (D E : List Int) (h : D.length ≠ n ∨ E.length ≠ n) : m_look_at_lengths (((n : Int), ⟨T⟩), D, E, ()) = .exc .badStanding := by
  refine px_isx ?_
  unfold m_look_at_lengths
  dsimp only
  refine px_bind <| px_ite (fun _ => px_ok <| px_ite (fun _ => px_exc rfl) fun z => by cases z) fun z => px_ok <| px_ite (fun _ => px_exc rfl) fun y => ?_
  have a : (D.length : Int) = (n : Int) := by
    refine of_pyEq ?_
    cases e : pyEq (D.length : Int) (n : Int) with
    | true => rfl
    | false => rw [e] at z; cases z
  have b : (E.length : Int) = (n : Int) := by
    refine of_pyEq ?_
    cases e : pyEq (E.length : Int) (n : Int) with
    | true => rfl
    | false => rw [e] at y; cases y
  omega
theorem refused12 (D E : List Int) (h : D.length ≠ n ∨ E.length ≠ n) : m_law_refused (((n : Int), ⟨T⟩), D, E, ()) = .ok true := by
  have e : m_alike (((n : Int), ⟨T⟩), D, E, ()) = .exc .badStanding := by
    refine px_isx ?_
    unfold m_alike
    dsimp only
    refine px_bind ?_
    rw [lens_bad D E h]
    exact px_exc rfl
  refine px_is ?_
  unfold m_law_refused
  dsimp only
  refine px_bind <| px_ok <| px_bind <| px_try <| px_bind ?_
  rw [e]
  exact px_exc (px_sure <| px_bind <| px_ite (fun _ => px_ite (fun _ => px_ok <| px_ok <| px_ok rfl) fun z => by cases z) fun z => by cases z)
end
theorem standings12 {ns : List Int} (hl : ns.length ≤ 63) (hb : ∀ z ∈ ns, bits z ≤ 1048576) {n : Nat} (n1 : 1 ≤ n) (n8 : n ≤ 8) : Wp (fun s => (s.1.length = n ∧ ∀ x ∈ s.1, bits x ≤ 400) ∧ s.2.length = n ∧ ∀ x ∈ s.2, bits x ≤ 400) (fun _ => False) (m_law_standings (⟨ns⟩, (n : Int), ())) := by
  have n8b : bits (n : Int) ≤ 4 := bits_le (by omega)
  have e2 : (2 : Int) * (n : Int) = ((2 * n : Nat) : Int) := by push_cast; rfl
  have b2 : bits (2 : Int) ≤ 2 := bitsC2
  unfold m_law_standings
  dsimp only
  refine px_bind <| px_bind <| px_bind <| px_mulS b2 n8b (by decide) fun _ => ?_
  rw [e2]
  refine px_rg (by omega) (by omega) (by omega) (by omega) <| px_map (h := fun _ => (0 : Int)) (by rw [rl_len]; omega) (fun _ _ => rfl) <| px_bind ?_
  have zl : ((rangeL 0 ((2 * n : Nat) : Int)).map fun _ => (0 : Int)).length = 2 * n := by rw [List.length_map, rl_len]
  have zb : ∀ x ∈ (rangeL 0 ((2 * n : Nat) : Int)).map fun _ => (0 : Int), bits x ≤ 250 := fun x hx => by
    obtain ⟨_, _, rfl⟩ := List.mem_map.mp hx
    exact Nat.le_trans (show bits 0 ≤ 0 by decide +kernel) (by decide)
  generalize ((rangeL 0 ((2 * n : Nat) : Int)).map fun _ => (0 : Int)) = z0 at zl zb
  have mn : min (ns.length : Int) 64 = (ns.length : Int) := by omega
  rw [mn]
  refine px_rg (by omega) (by omega) (by omega) (by omega) <| px_bind ?_
  refine px_for (fun ys (s : List Int) => s.length = 2 * n ∧ ∀ x ∈ s, bits x ≤ 250 + 30 * ys.length) ⟨zl, zb⟩ (fun ys k zs e s hs => ?_) fun s hs => ?_
  · obtain ⟨s1, s2⟩ := hs
    have hk := mem_rangeL (lo := 2) (hi := (ns.length : Int)) (i := k) (by rw [e]; exact List.mem_append_right _ List.mem_cons_self)
    have yl := congrArg List.length e
    rw [rangeL_len, List.length_append, List.length_cons] at yl
    refine px_bind <| px_bind <| px_mulS b2 n8b (by decide) fun _ => ?_
    rw [e2]
    refine px_modP (by omega) fun a a0 a1 => ?_
    have ab := s2 _ (gt_mem 0 a0 (show a < s.length by omega))
    refine px_bind <| px_bind <| px_bind <| px_eq (ixR_gt 0 a0 (by omega)) <| px_mulS ab (show bits 1000003 ≤ 20 by decide +kernel) (by omega) fun mb => px_bind <| px_bind <| px_bind <| px_eq (ixR_gt 0 (by omega) (by omega)) <| px_ok <| ((big_ok _).any).imp fun v vb => px_ok <| px_bind <| px_eq (setR_gt a0 (by omega) _) <| px_ok ⟨by rw [List.length_set]; exact s1, ?_⟩
    rw [List.length_append, List.length_singleton]
    refine set_bits (fun x hx => bits_mono (s2 x hx) (by omega)) ?_
    exact bits_mono (bits_add (m := 250 + 30 * ys.length + 20) mb (bits_mono vb (by omega))) (by omega)
  · obtain ⟨s1, s2⟩ := hs
    have rl : (rangeL 2 (ns.length : Int)).length ≤ 63 := by rw [rangeL_len]; omega
    have s2 : ∀ x ∈ s, bits x ≤ 2200 := fun x hx => bits_mono (s2 x hx) (by omega)
    refine px_bind <| px_bind <| px_bind <| px_bind <| cellB hb (by decide) fun c0 _ => px_div (by decide) (by decide +kernel) <| px_mod (by decide) <| px_ok <| px_bind ?_
    refine Wp.imp (A := fun s : List Int => s.length = 2 * n) (px_ite (fun _ => ?_) fun _ => px_ok s1) fun s3 l3 => ?_
    · refine px_bind <| px_mapI (P := fun _ => True) (by omega) (fun y hy => ?_) fun ys yl _ => px_ok (by omega)
      have yb := s2 y hy
      exact px_bind <| px_bind <| px_pow (by decide) (by omega) <| px_mulS (bits_pow4 yb) bitsC48 (by decide) fun _ => px_ok trivial
    · refine px_bind <| px_mapI (P := fun x => bits x ≤ 210) (by omega) (fun y _ => ?_) fun s4 l4 b4 => ?_
      · refine px_bind <| px_bind <| px_bind <| px_pow (by decide) (by decide +kernel) <| px_mulS bitsC2 bitsC58 (by decide) fun h3 => px_modS (Int.mul_pos (by decide) posC58) h3 fun v v0 v1 vb => px_bind <| px_pow (by decide) (by decide +kernel) <| px_ok ?_
        exact bits_mono (bits_sub (m := 202) vb (bits_mono bitsC58 (by decide))) (by decide)
      refine px_bind <| px_bind <| px_bind <| px_bind <| cellB hb (by decide) fun c0 _ => px_div (by decide) (by decide +kernel) <| px_mod (by decide) <| px_ok <| px_bind ?_
      refine Wp.imp (A := fun s : List Int => s.length = 2 * n ∧ ∀ x ∈ s, bits x ≤ 210) (px_ite (fun _ => ?_) fun _ => px_ok ⟨by omega, b4⟩) fun s5 hs5 => ?_
      · refine px_bind <| px_mapI (P := fun x => bits x ≤ 210) (by omega) (fun y _ => ?_) fun ys yl yb => px_ok ⟨by omega, yb⟩
        refine px_bind <| px_modP (by decide) fun u u0 u1 => px_ok ?_
        exact bits_mono (small_bits (M := 20) (by omega) 10 (by decide)) (by decide)
      obtain ⟨l5, b5⟩ := hs5
      have c1 : cutL s5 none (some (n : Int)) = s5.take n := cut_to12 s5 n
      have c2 : cutL s5 (some (n : Int)) none = s5.drop n := cut_from12 s5 n
      have o1 : (s5.take n).length = n := by rw [List.length_take]; omega
      have o2 : (s5.drop n).length = n := by rw [List.length_drop]; omega
      have p1 : ∀ x ∈ s5.take n, bits x ≤ 210 := fun x hx => b5 x (List.mem_of_mem_take hx)
      have p2 : ∀ x ∈ s5.drop n, bits x ≤ 210 := fun x hx => b5 x (List.mem_of_mem_drop hx)
      rw [c1, c2]
      generalize s5.take n = one at o1 p1
      generalize s5.drop n = other at o2 p2
      refine px_bind <| px_ok <| px_bind <| px_ok <| px_bind <| px_bind <| px_bind <| cellB hb (by decide) fun c1 _ => px_mod (by decide) <| px_ok <| px_bind ?_
      refine Wp.imp (A := fun s : List Int => s.length = n ∧ ∀ x ∈ s, bits x ≤ 400) (px_ite (fun _ => ?_) fun _ => px_ok ⟨o2, fun x hx => bits_mono (p2 x hx) (by decide)⟩) fun s6 hs6 => px_ok ⟨⟨o1, fun x hx => bits_mono (p1 x hx) (by decide)⟩, hs6⟩
      refine px_bind <| px_eq (setR_gt (by omega) (by omega) _) <| px_ok ⟨by rw [List.length_set]; exact o2, ?_⟩
      have h1 := sum_bits (l := one) (b := 210) p1 (by omega)
      have h2 := sum_bits (l := cutL other none (some ((n : Int) - 1))) (b := 210) (fun x hx => p2 x (cutL_mem hx)) (by
        have := cutL_len other none (some ((n : Int) - 1))
        omega)
      exact set_bits (fun x hx => bits_mono (p2 x hx) (by decide)) (bits_mono (bits_sub (m := 214) h1 h2) (by decide))
/-! ### the papers -/
section
variable {m : Nat} {T ties : List (Int × Int)} {D E : List Int}
theorem same_again_ok {p : Apr} (A : AlikeOk m T D E p) (ea : m_alike ((((m + 1 : Nat) : Int), ⟨T⟩), D, E, ()) = .ok p) (m8 : m + 1 ≤ 8) : m_law_same_again ((((m + 1 : Nat) : Int), ⟨T⟩), D, E, p, ()) = .ok true := by
  rcases A with ⟨_, rfl⟩ | ⟨_, s, rfl, sl, _, _⟩ | ⟨_, at_, w, rfl, _, wl, _, _, _, _⟩
  · refine px_is ?_
    unfold m_law_same_again
    dsimp only [Sum.elim]
    refine px_bind <| px_ok <| px_bind <| px_bind <| px_eq ea <| px_ok <| px_ok ?_
    exact (PyQ.eq (α := T1 Str) ⟨"sums"⟩ ⟨"sums"⟩).mpr rfl
  · refine px_is ?_
    unfold m_law_same_again
    dsimp only [Sum.elim]
    refine px_bind <| px_ok <| px_bind <| px_bind <| px_bind <| px_bind <| px_ite (fun _ => px_ok <| px_ok <| px_ok <| px_bind <| px_app (by show 1 < _; decide) <| px_bind <| px_bind <| px_bind <| px_eq (ixR_gt (l := s) 0 (by decide) (by omega)) <| px_ok <| px_bind <| px_eq (setR_gt (by decide) (by omega) _) <| px_bind <| px_app (by rw [List.length_set]; omega) <| px_ok <| px_ok <| px_bind <| px_bind <| px_eq ea <| px_ok <| px_ok ?_) fun z => by cases z
    exact (PyQ.eq (α := Str × List Int) ("lent", s) ("lent", s)).mpr rfl
  · refine px_is ?_
    unfold m_law_same_again
    dsimp only [Sum.elim]
    refine px_bind <| px_ok <| px_bind <| px_bind <| px_bind <| px_bind <| px_ite (fun z => by cases z) fun _ => px_ok <| px_ok <| px_ok <| px_bind <| px_app (by show 1 < _; decide) <| px_ok <| px_bind <| px_bind <| px_bind <| px_bind <| px_ite (fun _ => px_ok <| px_ok <| px_ok <| px_bind <| px_app (by show 2 < _; decide) <| px_bind <| px_bind <| px_bind <| px_eq (ixR_gt (l := w) 0 (by decide) (by omega)) <| px_ok <| px_bind <| px_eq (setR_gt (by decide) (by omega) _) <| px_bind <| px_app (by rw [List.length_set]; omega) <| px_ok <| px_ok <| px_bind <| px_bind <| px_eq ea <| px_ok <| px_ok ?_) fun z => by cases z
    exact (PyQ.eq (α := T3 Str Int (List Int)) ⟨"weighed", kds m T, w⟩ ⟨"weighed", kds m T, w⟩).mpr rfl
theorem fv_zero (P : List Int) (i : Nat) : fv (P.map fun _ => (0 : Int)) i = 0 := by
  by_cases h : i < P.length
  · show gt (P.map fun _ => (0 : Int)) (i : Int) 0 = 0
    rw [gt_map (l := P) 0 0 (by omega) (by omega)]
  · show gt (P.map fun _ => (0 : Int)) (i : Int) 0 = 0
    rw [gt_nat, List.getD_eq_getElem?_getD, List.getElem?_eq_none (by rw [List.length_map]; omega)]; rfl
theorem dot12 {X : Exc → Prop} {a P : List Int} {n b c : Nat} {sh : Int} (al : a.length = n) (n8 : n ≤ 8) (s0 : 0 ≤ sh) (pl : n + sh ≤ P.length) (ab : ∀ x ∈ a, bits x ≤ b) (pb : ∀ x ∈ P, bits x ≤ c) (hbc : b + c ≤ 100000000) {k : Int → R Int} (hk : ∀ j : Int, 0 ≤ j → j < n → k j = ixR P (j + sh)) : Wp (fun v => v = Dt.su n (fun j => fv a j * gt P ((j : Int) + sh) 0)) X ((((rngR 0 (n : Int)) : R _).bind fun x => (mapR (fun y => (((ixR a y) : R _).bind fun x1 => ((k y) : R _).bind fun x2 => (mulR x1 x2))) x)).bind fun x => .ok (List.sum x)) := by
  refine px_bind <| px_bind <| px_rg (by omega) (by omega) (by omega) (by omega) <| px_map (h := fun j => gt a j 0 * gt P (j + sh) 0) (by rw [rl_len]; omega) (fun j hj => ?_) (px_ok ?_)
  · obtain ⟨j0, j1⟩ := mem_rangeL hj
    have h1 := ab _ (gt_mem 0 j0 (show j < a.length by omega))
    have h2 := pb _ (gt_mem 0 (show 0 ≤ j + sh by omega) (show j + sh < P.length by omega))
    rw [ixR_gt 0 j0 (by omega), bind_ok, hk j j0 j1, ixR_gt 0 (by omega) (by omega), bind_ok]
    exact chk_ok (decide_eq_true (by omega))
  · have ll : ((rangeL 0 (n : Int)).map fun j => gt a j 0 * gt P (j + sh) 0).length = n := by rw [List.length_map, rl_len]
    rw [sum_gt, ll]
    exact Dt.su_congr fun j hj => gt_map_rl hj
theorem weighed12 (W : Wb (m + 1) T) (hn : Nrm T) (tf : ∀ t ∈ ties, Fit (m + 1 : Nat) t) (we : wt T = wt ties) (hD : D.length = m + 1) (hE : E.length = m + 1) {w : List Int} (A : AlikeOk m T D E (.inr (.inl ⟨"weighed", kds m T, w⟩))) {P : List Int} (pl : P.length = m + 1) (pv : ∀ i, i < m + 1 → fv P i = fv D i - fv E i) (pb : ∀ x ∈ P, bits x ≤ 401) :
    m_law_weighed ((((m + 1 : Nat) : Int), ⟨T⟩), ties, .inr (.inl ⟨"weighed", kds m T, w⟩), P, ()) = .ok true := by
  have n8 := W.n8
  obtain ⟨k2, wl, q1, q2⟩ : 2 ≤ kds m T ∧ w.length = m + 1 ∧ (∀ i, i < m + 1 → kds m T ∣ Ch.ld (m + 1) (wt T) (fun _ => 0) (fv w) i) ∧ ¬ kds m T ∣ Dt.su (m + 1) (fun k => fv w k * fv D k) - Dt.su (m + 1) (fun k => fv w k * fv E k) := A.shows W
  rcases A with ⟨_, e⟩ | ⟨_, _, e, _⟩ | ⟨_, at_, w', e, ha, _, w0, hw, no, be⟩
  · cases e
  · cases e
  obtain rfl : w = w' := by cases e; rfl
  have kl : bits (kds m T) ≤ 100 := bits_le W.kds_le
  have e3 : pyEq (PyLn.ln (Sum.inr (Sum.inl ⟨"weighed", kds m T, w⟩) : Apr) : Int) (3 : Int) = true := by show pyEq (3 : Int) 3 = true; exact pyEq_refl _
  refine px_is ?_
  unfold m_law_weighed
  dsimp only
  rw [e3]
  refine px_bind <| px_ite (fun z => by cases z) fun _ => px_bind <| px_bind <| px_eq (a := ("weighed" : PySem.Str)) rfl <| px_ok ?_
  rw [pyEq_refl]
  refine px_ite (fun z => by cases z) fun _ => px_bind <| px_bind <| px_eq (a := w) rfl <| px_ok <| px_ok <| px_ite (fun z => by cases z) fun _ => px_bind <| px_eq (a := kds m T) rfl <| px_bind <| px_bind <| px_bind <| (small_table_ok (X := fun _ => False) (by omega) W.fit hn).imp fun Q hQ => px_ok ?_
  obtain ⟨e1, back, e2, F⟩ := fl_of W (Nat.zero_le m) hQ.1 hQ.2
  have bb : ∀ i j, i < m → j < m → bits (mt back i j) ≤ 100 := fun i j hi hj => by rw [F.bk i j hi hj]; exact bits_le (W.aj_le hi hj)
  have rb : ∀ r ∈ back, ∀ x ∈ r, bits x ≤ 100 := fun r hr => by
    obtain ⟨i, hi, rfl⟩ := List.mem_iff_getElem.mp hr
    have hi2 : i < m := by rw [F.sq.len] at hi; exact hi
    have rl := F.sq.row _ hr
    refine (gt_all (P := fun x => bits x ≤ 100)).mpr fun j hj => ?_
    have := bb i j hi2 (by omega)
    unfold mt at this
    rw [show gt back (i : Int) [] = back[i] by rw [gt_nat, List.getD_eq_getElem?_getD, List.getElem?_eq_getElem hi]; rfl] at this
    exact this
  have prod : mapR (fun y572 : List Int => (((((rngR 0 (y572.length : Int)) : R _).bind fun x584 => (mapR (fun y577 => (((ixR y572 y577) : R _).bind fun x582 => (((ixR P (y577 + (1 : Int))) : R _).bind fun x583 => (mulR x582 x583)))) x584)) : R _).bind fun x585 => (.ok (List.sum x585)))) back = .ok (back.map fun r => Dt.su m (fun j => fv r j * gt P ((j : Int) + 1) 0)) := mapR_ok (fun r hr => by
    have rl := F.sq.row r hr
    refine px_is ?_
    rw [rl]
    exact dot12 (X := fun _ => False) (k := fun y => ixR P (y + 1)) rl (by omega) (by decide) (by rw [pl]; omega) (rb r hr) pb (by decide) fun _ _ _ => rfl) (by rw [F.sq.len]; omega)
  refine px_eq e2 <| px_bind <| px_eq prod ?_
  have prl : (back.map fun r => Dt.su m (fun j => fv r j * gt P ((j : Int) + 1) 0)).length = m := by rw [List.length_map, F.sq.len]
  have prv : ∀ i, i < m → gt (back.map fun r => Dt.su m (fun j => fv r j * gt P ((j : Int) + 1) 0)) (i : Int) 0 = prd m T (fv D) (fv E) i := fun i hi => by
    rw [gt_map (l := back) [] 0 (by omega) (by rw [F.sq.len]; omega)]
    refine Dt.su_congr fun j hj => ?_
    show mt back i j * fv P (j + 1) = _
    rw [F.bk i j hi hj, pv (j + 1) (by omega)]
  generalize (back.map fun r => Dt.su m (fun j => fv r j * gt P ((j : Int) + 1) 0)) = pr at prl prv
  have ek : m_kinds ((((m + 1 : Nat) : Int), ⟨T⟩), ()) = .ok (kds m T) := by
    refine px_is ?_
    unfold m_kinds
    dsimp only
    refine px_bind <| px_bind <| px_bind <| (small_table_ok (X := fun _ => False) (by omega) W.fit hn).imp fun Q2 hQ2 => px_ok ?_
    obtain ⟨e1', _⟩ := fl_of W (Nat.zero_le m) hQ2.1 hQ2.2
    exact px_eq e1' (px_ok rfl)
  refine px_bind <| px_bind <| px_bind <| px_eq (show m_law_whole (kds m T, ()) = .ok true from rfl) <| px_ok <| px_ite (fun z => by cases z) fun _ => px_ite (fun z => absurd (of_decide_eq_true z) (by omega)) fun _ => px_bind <| px_eq ek <| px_ok ?_
  rw [pyEq_refl]
  refine px_ite (fun z => by cases z) fun _ => px_bind <| px_ok <| px_bind ?_
  refine Wp.imp (A := fun a : Int => a = (at_ : Int)) (px_while (fun a => ∃ k : Nat, a = (k : Int) ∧ k ≤ at_) (fun a => at_ - a.toNat) ⟨0, rfl, Nat.zero_le _⟩ (Nat.lt_of_lt_of_le (show at_ - 0 < 1000000 by omega) (show 1000000 ≤ fuel by decide)) (fun a ha2 => ?_)) fun a ea => ?_
  · obtain ⟨k, rfl, hk⟩ := ha2
    refine px_ite (fun _ => px_bind <| px_bind <| px_eq (ixR_gt 0 (by omega) (by omega)) <| px_mod (by omega) <| px_ok ⟨fun t => ?_, fun t => ?_⟩) fun z => absurd (of_decide_eq_false z) (by rw [prl]; omega)
    · rw [prv k (by omega)] at t
      have d := fmod_dvd.mp (of_pyEq t)
      have : k ≠ at_ := fun e => no (by rw [← e]; exact d)
      exact px_bind <| px_ok <| px_ok ⟨⟨k + 1, rfl, by omega⟩, by show at_ - ((k : Int) + 1).toNat < at_ - (k : Int).toNat; omega⟩
    · rw [prv k (by omega)] at t
      by_cases c : k = at_
      · rw [c]
      · have := fmod_dvd.mpr (be k (by omega))
        rw [this, pyEq_refl] at t
        cases t
  · subst ea
    have rowl : (gt back (at_ : Int) []).length = m := F.sq.row _ (gt_mem [] (by omega) (by rw [F.sq.len]; omega))
    have w1 : w = [0] ++ gt back (at_ : Int) [] := ext_gt (by rw [wl, List.length_append, rowl, List.length_singleton]; omega) fun i hi => by
      cases i with
      | zero => exact w0
      | succ i =>
        show fv w (i + 1) = _
        rw [hw i (by omega), gt_nat]
        show _ = (gt back (at_ : Int) []).getD i 0
        rw [← gt_nat]
        exact (F.bk at_ i ha (by omega)).symm
    rw [prl, pyEq_false (show (at_ : Int) ≠ (m : Int) by omega)]
    refine px_bind <| px_ite (fun z => by cases z) fun _ => px_bind <| px_bind <| px_bind <| px_eq (a := w) rfl <| px_bind <| px_bind <| px_bind <| px_eq (ixR_gt [] (by omega) (by rw [F.sq.len]; omega)) <| px_cat (by rw [List.length_singleton, rowl]; omega) ?_
    rw [← w1]
    refine px_ok <| px_ok <| px_eq (numbers12_ok (by omega)) <| px_ok <| px_ite (fun z => by cases z) fun _ => px_bind <| px_bind <| px_bind <| px_bind <| px_map (h := fun _ => (0 : Int)) (by omega) (fun _ _ => rfl) <| px_bind <| px_bind <| px_eq (a := w) rfl <| px_ok <| px_ok <| px_ok ?_
    obtain ⟨l, el, ll, lv⟩ := lentU_ok tf (D := P.map fun _ => (0 : Int)) (s := w) (by rw [List.length_map]; exact pl) wl
    refine px_eq el <| px_ct <| px_forM (fun _ _ => True) trivial (fun ys x zs ex _ _ => ?_) fun _ _ => ?_
    · have hx : x ∈ l := by rw [ex]; exact List.mem_append_right _ List.mem_cons_self
      have dx : kds m T ∣ x := by
        obtain ⟨i, hi, rfl⟩ := List.mem_iff_getElem.mp hx
        have h1 := lv i (by omega)
        rw [show fv l i = l[i] by show gt l (i : Int) 0 = _; rw [gt_nat, List.getD_eq_getElem?_getD, List.getElem?_eq_getElem hi]; rfl] at h1
        have h2 := q1 i (by omega)
        rw [h1, ← we]
        have e : Ch.ld (m + 1) (wt T) (fv (P.map fun _ => (0 : Int))) (fv w) i = Ch.ld (m + 1) (wt T) (fun _ => 0) (fv w) i := by
          unfold Ch.ld
          rw [fv_zero]
        rw [e]
        exact h2
      refine px_bind <| px_bind <| px_mod (by omega) <| px_ok ?_
      rw [fmod_dvd.mpr dx, pyEq_refl]
      exact px_ite (fun z => by cases z) fun _ => px_nx trivial
    · rw [pl]
      refine px_bind <| px_bind <| px_bind <| (dot12 (X := fun _ => False) (a := w) (P := P) (sh := 0) (b := 101) (c := 401) wl n8 (Int.le_refl _) (by rw [pl]; omega) ?_ pb (by decide) (k := fun y => ixR P y) fun j _ _ => by rw [Int.add_zero]).imp fun v hv => ?_
      · rw [w1]
        intro x hx
        rcases List.mem_append.mp hx with h | h
        · rw [List.mem_singleton.mp h]; exact Nat.le_trans (show bits 0 ≤ 0 by decide +kernel) (by decide)
        · exact bits_mono (rb _ (gt_mem [] (by omega) (by rw [F.sq.len]; omega)) x h) (by decide)
      · refine px_mod (by omega) <| px_ok <| px_ok ?_
        have e : v = Dt.su (m + 1) (fun k => fv w k * fv D k) - Dt.su (m + 1) (fun k => fv w k * fv E k) := by
          rw [hv, ← Dt.su_sub]
          refine Dt.su_congr fun j hj => ?_
          rw [Int.add_zero, show gt P (j : Int) 0 = fv D j - fv E j from pv j hj, Int.mul_sub]
        rw [e, pyEq_false fun z => q2 (fmod_dvd.mp z)]
        rfl
end
theorem plain (ns : List Int) (hl : ns.length ≤ 63) (hb : ∀ z ∈ ns, Builtin.Int.intBits z ≤ 1048576) : m_law (⟨ns⟩, ()) = .ok true := by
  have hb' : ∀ z ∈ ns, bits z ≤ 1048576 := hb
  refine px_is ?_
  unfold m_law
  dsimp only
  refine px_bind <| px_bind <| px_bind <| cellB hb' (by decide) fun c0 _ => px_ok ?_
  refine Wp.imp (A := fun v : Int × Int => 1 ≤ v.1 ∧ v.1 ≤ 8 ∧ 0 ≤ v.2 ∧ v.2 + v.1 ≤ 17 ∧ (v.1 = 1 → v.2 = 0)) ?_ fun v hv => ?_
  · unfold m_law_sizes
    dsimp only
    refine px_bind <| px_bind <| px_modP (by decide) fun q q0 q1 => ?_
    refine px_ixn (A := _) q0 (by simp; omega) fun z hz => ?_
    have hz2 : 1 ≤ z ∧ z ≤ 8 := by
      simp only [List.mem_cons, List.not_mem_nil, or_false] at hz
      omega
    by_cases c : z = 1
    · rw [c, pyEq_refl]
      exact px_ite (fun _ => px_ok ⟨by decide, by decide, by decide, by decide, fun _ => rfl⟩) fun c => by cases c
    · rw [pyEq_false c]
      have e : (16 : Int).fdiv z + 1 ≤ 17 - z + 1 ∧ 0 < (16 : Int).fdiv z + 1 := by
        have hz3 : z = 2 ∨ z = 3 ∨ z = 4 ∨ z = 5 := by
          simp only [List.mem_cons, List.not_mem_nil, or_false] at hz
          omega
        rcases hz3 with rfl | rfl | rfl | rfl <;> decide
      refine px_ite (fun c => by cases c) fun _ => px_bind <| px_bind <| px_bind <| px_bind <| px_bind <| px_div (by decide) (by decide +kernel) <| px_bind <| px_bind <| px_div (by omega) (Nat.lt_of_le_of_lt (Nat.log2_le_self _) (by omega)) <| px_ok <| px_modP e.2 fun u u0 u1 => px_ok <| px_ok <| px_ok <| px_ok ⟨hz2.1, hz2.2, u0, by show u + z ≤ 17; omega, fun e => absurd e c⟩
  obtain ⟨n, more⟩ := v
  obtain ⟨h1, h2, h3, h4, h5⟩ := hv
  dsimp only at h1 h2 h3 h4 h5 ⊢
  obtain ⟨m, rfl⟩ : ∃ m : Nat, n = ((m + 1 : Nat) : Int) := ⟨(n - 1).toNat, by omega⟩
  obtain ⟨more, rfl⟩ := Int.eq_ofNat_of_zero_le h3
  have n8 : m + 1 ≤ 8 := by omega
  refine px_bind <| px_bind <| px_bind <| px_bind <| px_bind <| cellB hb' (by decide) fun c1 _ => px_ok <| px_ok <| px_ok ?_
  obtain ⟨ties, et, tl, tf, tc⟩ := tiesB_ok (n := m + 1) (by omega) n8 (show m + 1 - 1 + more ≤ 16 by omega) (fun z => by have := h5 (by omega); omega) c1
  have em := made_ok (n := m + 1) (by omega) n8 (by omega) tf tc
  have W := made_wb (by omega) n8 (by omega) tf tc
  have Nr := mm_nrm tf
  have we : wt (sortP (ties.map mm)) = wt ties := funext fun i => funext fun j => wt_made ties i j
  generalize sortP (ties.map mm) = T at em W Nr we
  refine px_eq et <| px_bind <| px_eq em <| px_bind <| (standings12 hl hb' (n := m + 1) (by omega) n8).imp fun s hs => ?_
  obtain ⟨D, E⟩ := s
  obtain ⟨⟨Dl, Db⟩, El, Eb⟩ := hs
  dsimp only at Dl Db El Eb ⊢
  have eE : cutL E none (some (((m + 1 : Nat) : Int) - 1)) = E.take m := by
    rw [show ((m + 1 : Nat) : Int) - 1 = (m : Int) by omega]; exact cut_to12 E m
  have tD : cutL D (some (1 : Int)) none = D.drop 1 := cut_from12 D 1
  have tE : cutL E (some (1 : Int)) none = E.drop 1 := cut_from12 E 1
  rw [eE, tD, tE]
  refine px_bind <| px_bind <| px_bind <| px_bind <| px_bind <| px_bind <| px_cat (by rw [List.length_singleton]; omega) <| px_ok <| px_ok <| px_eq (refused12 _ _ (.inl (by rw [List.length_append, List.length_singleton]; omega))) <| px_ok <| px_ite (fun z => by cases z) fun _ => px_bind <| px_eq (refused12 _ _ (.inr (by rw [List.length_take]; omega))) <| px_ok <| px_ite (fun z => by cases z) fun _ => ?_
  refine px_bind <| px_bind <| px_bind <| px_bind <| px_bind <| px_bind <| px_cat (by rw [List.length_singleton]; omega) <| px_bind <| px_bind <| px_cat (by rw [List.length_singleton]; omega) <| px_ok <| px_ok <| px_ok <| px_eq (refused12 _ _ (.inl (by rw [List.length_append, List.length_singleton]; omega))) <| px_ok <| px_ite (fun z => by cases z) fun _ => px_bind <| px_eq (refused12 _ _ (.inl (by rw [List.length_drop]; omega))) <| px_ok <| px_ite (fun z => by cases z) fun _ => ?_
  obtain ⟨p, ea, A⟩ := px_get (alike_ok (X := fun _ => False) W Nr Dl El Db Eb (by decide))
  have sa := same_again_ok A ea n8
  have wl := pyEq_false (show ("weighed" : PySem.Str) ≠ ("lent" : PySem.Str) by decide +kernel)
  have A0 := A
  refine px_bind <| px_eq ea ?_
  rcases A with ⟨h, rfl⟩ | ⟨h, s, rfl, sl, s0, hl2⟩ | ⟨h, at_, w, rfl, _⟩
  · refine px_bind <| px_ite (fun z => by cases z) fun _ => px_ite (fun z => absurd z (by decide)) fun _ => px_bind <| px_bind <| px_eq (a := ("sums" : PySem.Str)) rfl <| px_ok <| px_ok <| px_ite (fun z => by cases z) fun _ => ?_
    rw [pyEq_false h]
    exact px_ite (fun _ => px_ok ((PyQ.eq (α := T1 Str) ⟨"sums"⟩ ⟨"sums"⟩).mpr rfl)) fun z => by cases z
  · refine px_bind <| px_ite (fun z => by cases z) fun _ => px_ite (fun z => absurd (show decide ((2 : Int) < 1) = true from z) (by decide)) fun _ => px_bind <| px_bind <| px_eq (a := ("lent" : PySem.Str)) rfl <| px_ok <| px_ok <| px_ite (fun z => by cases z) fun _ => ?_
    rw [h, pyEq_refl]
    refine px_ite (fun z => by cases z) fun _ => px_bind <| px_bind <| px_eq (a := ("lent" : PySem.Str)) rfl <| px_ok ?_
    rw [pyEq_refl]
    have e2 : pyEq (PyLn.ln (Sum.inr (Sum.inr (("lent" : PySem.Str), s)) : Apr) : Int) (2 : Int) = true := by show pyEq (2 : Int) 2 = true; exact pyEq_refl _
    rw [e2]
    refine px_ct <| px_ite (fun _ => px_bind <| px_ite (fun z => by cases z) fun _ => px_bind <| px_bind <| px_bind <| px_eq (a := s) rfl <| px_ok <| px_ok <| px_ite (fun z => by cases z) fun _ => px_bind <| px_bind <| px_eq (a := s) rfl <| px_ok <| px_ok ?_) fun z => by cases z
    rw [sl, pyEq_refl]
    refine px_ite (fun z => by cases z) fun _ => px_bind <| px_eq (a := s) rfl <| px_ct <| px_forM (fun _ _ => True) trivial (fun ys y zs _ _ _ => px_bind <| px_bind <| px_eq (show m_law_whole (y, ()) = .ok true from rfl) <| px_ok <| px_ite (fun z => by cases z) fun _ => px_nx trivial) fun _ _ => ?_
    refine px_bind <| px_bind <| px_bind <| px_bind <| px_eq (a := s) rfl <| px_eq (ixR_gt 0 (by decide) (by omega)) <| px_ok ?_
    rw [show gt s 0 0 = 0 from s0, pyEq_refl]
    obtain ⟨l, el, ll, lv⟩ := lentU_ok tf Dl sl
    have e : l = E := ext_gt (by omega) fun i hi => by
      have h1 := lv i (by omega)
      rw [← we, hl2 i (by omega)] at h1
      exact h1
    refine px_ite (fun z => by cases z) fun _ => px_bind <| px_bind <| px_bind <| px_bind <| px_bind <| px_eq (a := s) rfl <| px_ok <| px_ok <| px_ok <| px_eq el <| px_ok ?_
    rw [e, pyEq_refl]
    exact px_ite (fun z => by cases z) fun _ => px_nx <| px_bind <| px_ok <| px_bind <| px_ok <| px_bind <| px_ok <| px_bind <| px_eq sa <| px_ok rfl
  · refine px_bind <| px_ite (fun z => by cases z) fun _ => px_ite (fun z => absurd (show decide ((3 : Int) < 1) = true from z) (by decide)) fun _ => px_bind <| px_bind <| px_eq (a := ("weighed" : PySem.Str)) rfl <| px_ok <| px_ok <| px_ite (fun z => by cases z) fun _ => ?_
    rw [h, pyEq_refl]
    refine px_ite (fun z => by cases z) fun _ => px_bind <| px_bind <| px_eq (a := ("weighed" : PySem.Str)) rfl <| px_ok ?_
    rw [wl]
    have pvl : ((rangeL 0 ((m + 1 : Nat) : Int)).map fun k => gt D k 0 - gt E k 0).length = m + 1 := by rw [List.length_map, rl_len]
    refine px_ct <| px_ite (fun z => by cases z) fun _ => px_bind <| px_bind <| px_bind <| px_bind <| px_bind <| px_bind <| px_bind <| px_bind <| px_rg (by omega) (by omega) (by omega) (by omega) <| px_map (h := fun k => gt D k 0 - gt E k 0) (by rw [rl_len]; omega) (fun k hk => ?_) <| px_ok <| px_ok <| px_ok <| px_ok <| px_eq (weighed12 W Nr tf we Dl El A0 pvl (fun i hi => gt_map_rl hi) fun x hx => ?_) <| px_ok <| px_ite (fun z => by cases z) fun _ => px_nx <| px_bind <| px_ok <| px_bind <| px_ok <| px_bind <| px_ok <| px_bind <| px_eq sa <| px_ok rfl
    · obtain ⟨k0, k1⟩ := mem_rangeL hk
      rw [ixR_gt 0 k0 (by omega), bind_ok, ixR_gt 0 k0 (by omega), bind_ok]
    · obtain ⟨k, hk, rfl⟩ := List.mem_map.mp hx
      obtain ⟨k0, k1⟩ := mem_rangeL hk
      exact bits_sub (Db _ (gt_mem 0 k0 (by omega))) (Eb _ (gt_mem 0 k0 (by omega)))
end Wk
open PySem PySem.W PySem.Calls PyProof.Rows
theorem PySem.Challenge.cw_owinghall_k12_told_papers_holds : PySem.Challenge.rw_owinghall_k12_told_papers.Holds := by
  w_on; o_law
  refine HandSHeadRun.head_any (r := OpenLaw.row PySem.Challenge.rw_owinghall_k12_told_papers) (q := view (OpenLaw.row PySem.Challenge.rw_owinghall_k12_told_papers).prog [39]) (H := Wk.hk) (ob := Wk.ob) (M := 4000) (loose := Wk.names) (d := HandSHeadRun.topDef (OpenLaw.row PySem.Challenge.rw_owinghall_k12_told_papers).prog 39) (kwd := []) Wk.ob_eq
    (by kernel_rfl) (fun s => by kernel_rfl) Wk.run (by kernel_rfl) (by kernel_rfl) (by kernel_rfl) (by rfl) (by first | assumption | decide +kernel) (by decide +kernel) ⟨rfl, rfl, rfl, rfl, rfl, by decide +kernel⟩ ?hw ?hc
  case hw => w_witness2
  case hc =>
    exact Wk.end_of (fe := Wk.fe) (fa := Wk.fa) (fn := Wk.fn) (dd := Wk.dd_law) (hd := 0) (m := Wk.m_law) (k := 5) rfl (by kernel_rfl) (by kernel_rfl) ⟨rfl, by decide, by decide⟩ 26 38 rfl rfl Wk.sc_law Wk.bn_law
      (fun w X _ _ C H0 qs rt A B fr hR t => Wk.b_law (by omega) X C H0 qs rt A B fr hR t) Wk.plain
